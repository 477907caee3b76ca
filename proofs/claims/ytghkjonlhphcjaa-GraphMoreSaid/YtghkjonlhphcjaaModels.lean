/- What each Go function of this seat computes, in plain terms. -/
import Derived.Test.YtghkjonlhphcjaaSx
namespace Go.Proofs.Ytghkjonlhphcjaa
open Go SX
/-! lampwright graph.Check -/
def M_graph_Check_j23 (_F : Nat) (x798 : Int) : Option Int :=
  (if (decide (600 < x798)) then some 2 else some 0)
def M_graph_Check_j42 (_F : Nat) (rec38 : (Int × Int) → Option Int) (x1065 : Int) (x1461 : Int) : Option Int :=
  rec38 (x1461, iadd .i64 x1065 1)
def M_graph_Check_j44 (F : Nat) (rec38 : (Int × Int) → Option Int) (x1064 : Int) (x1065 : Int) (x1462 : List Int) : Option Int :=
  M_graph_Check_j42 F rec38 x1065 (iadd .i64 x1064 (x1462.length : Int))
def M_graph_Check_b45 (F : Nat) (rec38 : (Int × Int) → Option Int) (x1 : List (List Int)) (x1064 : Int) (x1065 : Int) (x1462 : List Int) (rec45 : (Int × Int) → Option Int) (x1549 : Int) (x1550 : Int) : Option Int :=
  (if (decide (x1550 < (x1462.length : Int))) then ((idx x1462 x1550).bind fun x1582 => (if ((decide (x1582 < 0)) || (decide ((x1.length : Int) ≤ x1582))) then some 3 else (if (decide (x1582 ≤ x1549)) then some 4 else rec45 (x1582, iadd .i64 x1550 1)))) else M_graph_Check_j44 F rec38 x1064 x1065 x1462)
def M_graph_Check_l45 (F : Nat) (rec38 : (Int × Int) → Option Int) (x1 : List (List Int)) (x1064 : Int) (x1065 : Int) (x1462 : List Int) : Nat → (Int × Int) → Option Int
  | 0 => fun _ => none
  | k + 1 => fun s => M_graph_Check_b45 F rec38 x1 x1064 x1065 x1462 (M_graph_Check_l45 F rec38 x1 x1064 x1065 x1462 k) s.1 s.2
def M_graph_Check_b38 (F : Nat) (x1 : List (List Int)) (rec38 : (Int × Int) → Option Int) (x1064 : Int) (x1065 : Int) : Option Int :=
  (if (decide (x1065 < (x1.length : Int))) then ((idx x1 x1065).bind fun x1462 => M_graph_Check_l45 F rec38 x1 x1064 x1065 x1462 F (-1, 0)) else M_graph_Check_j23 F x1064)
def M_graph_Check_l38 (F : Nat) (x1 : List (List Int)) : Nat → (Int × Int) → Option Int
  | 0 => fun _ => none
  | k + 1 => fun s => M_graph_Check_b38 F x1 (M_graph_Check_l38 F x1 k) s.1 s.2
def M_graph_Check (F : Nat) (x1 : List (List Int)) : Option Int :=
  (if (decide (100 < (x1.length : Int))) then some 2 else M_graph_Check_l38 F x1 F (0, 0))
/-! lampwright graph.All -/
def M_graph_All (_F : Nat) (_x1 : List (List Int)) : Option Unit :=
  some ()
/-! lampwright graph.All$1 -/
def M_graph_All_1_j9 {σ τ : Type} (_F : Nat) (_yy : σ → (Int × Int) → Option (σ ⊕ τ)) (rec7 : (Int × σ) → Option (σ ⊕ τ)) (x121 : Int) (x298 : σ) : Option (σ ⊕ τ) :=
  rec7 (iadd .i64 x121 1, x298)
def M_graph_All_1_b10 {σ τ : Type} (F : Nat) (yy : σ → (Int × Int) → Option (σ ⊕ τ)) (rec7 : (Int × σ) → Option (σ ⊕ τ)) (x121 : Int) (x300 : List Int) (rec10 : (Int × σ) → Option (σ ⊕ τ)) (x320 : Int) (x321 : σ) : Option (σ ⊕ τ) :=
  (if (decide (x320 < (x300.length : Int))) then ((idx x300 x320).bind fun x348 => ((yy x321 (x121, x348)).bind (Sum.elim (fun x351 => rec10 (iadd .i64 x320 1, x351)) (fun x352 => some (.inr x352))))) else M_graph_All_1_j9 F yy rec7 x121 x321)
def M_graph_All_1_l10 {σ τ : Type} (F : Nat) (yy : σ → (Int × Int) → Option (σ ⊕ τ)) (rec7 : (Int × σ) → Option (σ ⊕ τ)) (x121 : Int) (x300 : List Int) : Nat → (Int × σ) → Option (σ ⊕ τ)
  | 0 => fun _ => none
  | k + 1 => fun s => M_graph_All_1_b10 F yy rec7 x121 x300 (M_graph_All_1_l10 F yy rec7 x121 x300 k) s.1 s.2
def M_graph_All_1_b7 {σ τ : Type} (F : Nat) (yy : σ → (Int × Int) → Option (σ ⊕ τ)) (x2 : List (List Int)) (rec7 : (Int × σ) → Option (σ ⊕ τ)) (x121 : Int) (x122 : σ) : Option (σ ⊕ τ) :=
  (if (decide (x121 < (x2.length : Int))) then ((idx x2 x121).bind fun x300 => M_graph_All_1_l10 F yy rec7 x121 x300 F (0, x122)) else some (.inl x122))
def M_graph_All_1_l7 {σ τ : Type} (F : Nat) (yy : σ → (Int × Int) → Option (σ ⊕ τ)) (x2 : List (List Int)) : Nat → (Int × σ) → Option (σ ⊕ τ)
  | 0 => fun _ => none
  | k + 1 => fun s => M_graph_All_1_b7 F yy x2 (M_graph_All_1_l7 F yy x2 k) s.1 s.2
def M_graph_All_1 {σ τ : Type} (F : Nat) (yy : σ → (Int × Int) → Option (σ ⊕ τ)) (x2 : List (List Int)) (s0 : σ) : Option (σ ⊕ τ) :=
  M_graph_All_1_l7 F yy x2 F (0, s0)
/-! slices.AppendSeq[[]lampwright api.Arc,lampwright api.Arc] -/
def M_slices_AppendSeq_api_Arc_api_Arc_graph_All_1_r2 (_F : Nat) (x46 : List (Int × Int)) (x55 : Int) (x56 : Int) : Option (List (Int × Int) ⊕ Empty) :=
  ((app 4398046511104 x46 ([(x55, x56)] : List (Int × Int))).bind fun x60 => some (.inl x60))
def M_slices_AppendSeq_api_Arc_api_Arc_graph_All_1 (F : Nat) (x1 : List (Int × Int)) (x5 : List (List Int)) : Option (List (Int × Int)) :=
  ((M_graph_All_1 F (fun (x46 : List (Int × Int)) ((x55, x56) : (Int × Int)) => M_slices_AppendSeq_api_Arc_api_Arc_graph_All_1_r2 F x46 x55 x56) x5 x1).bind (Sum.elim (fun (x46 : List (Int × Int)) => some x46) (fun t => t.elim)))
/-! slices.Collect[lampwright api.Arc] -/
def M_slices_Collect_api_Arc_graph_All_1 (F : Nat) (x2 : List (List Int)) : Option (List (Int × Int)) :=
  ((M_slices_AppendSeq_api_Arc_api_Arc_graph_All_1 F ([] : List (Int × Int)) x2).bind fun x5 => some x5)
/-! lampwright graph.Arcs -/
def M_graph_Arcs (F : Nat) (x1 : List (List Int)) : Option (List (Int × Int) × Int) :=
  ((M_graph_Check F x1).bind fun x7 => (if ((x7 : Int) != 0) then some (([] : List (Int × Int)), x7) else ((M_graph_All F x1).bind fun _x8 => ((M_slices_Collect_api_Arc_graph_All_1 F x1).bind fun x10 => some (x10, 0)))))
/-! lampwright graph.Built -/
def M_graph_Built_j2 (_F : Nat) (x171 : List (List Int)) : Option (List (List Int)) :=
  some x171
def M_graph_Built_b3 (F : Nat) (x2 : List (Int × Int)) (rec3 : (Int × List (List Int)) → Option (List (List Int))) (x224 : Int) (x226 : List (List Int)) : Option (List (List Int)) :=
  (if (decide (x224 < (x2.length : Int))) then ((idx x2 x224).bind fun x306 => ((idx x226 x306.1).bind fun x310 => ((idx x226 x306.1).bind fun _x316 => ((app 8796093022208 x310 ([x306.2] : List Int)).bind fun x324 => (lett (x226.set x306.1.toNat x324) fun x327 => rec3 (iadd .i64 x224 1, x327)))))) else M_graph_Built_j2 F x226)
def M_graph_Built_l3 (F : Nat) (x2 : List (Int × Int)) : Nat → (Int × List (List Int)) → Option (List (List Int))
  | 0 => fun _ => none
  | k + 1 => fun s => M_graph_Built_b3 F x2 (M_graph_Built_l3 F x2 k) s.1 s.2
def M_graph_Built (F : Nat) (x1 : Int) (x2 : List (Int × Int)) : Option (List (List Int)) :=
  ((mk 4398046511104 (([] : List Int) : List Int) x1).bind fun x6 => M_graph_Built_l3 F x2 F (0, x6))
/-! slices.Values[[]lampwright api.Arc,lampwright api.Arc] -/
def M_slices_Values_api_Arc_api_Arc (_F : Nat) (_x1 : List (Int × Int)) : Option Unit :=
  some ()
/-! cmp.Or[int] -/
def M_cmp_Or_int_j2 (_F : Nat) : Option Int :=
  some 0
def M_cmp_Or_int_b3 (F : Nat) (x1 : List Int) (rec3 : Int → Option Int) (x46 : Int) : Option Int :=
  (if (decide (x46 < (x1.length : Int))) then ((idx x1 x46).bind fun x63 => (if ((x63 : Int) != 0) then some x63 else rec3 (iadd .i64 x46 1))) else M_cmp_Or_int_j2 F)
def M_cmp_Or_int_l3 (F : Nat) (x1 : List Int) : Nat → Int → Option Int
  | 0 => fun _ => none
  | k + 1 => fun s => M_cmp_Or_int_b3 F x1 (M_cmp_Or_int_l3 F x1 k) s
def M_cmp_Or_int (F : Nat) (x1 : List Int) : Option Int :=
  M_cmp_Or_int_l3 F x1 F 0
/-! cmp.isNaN[int] -/
def M_cmp_isNaN_int (_F : Nat) (x1 : Int) : Option Bool :=
  some ((x1 : Int) != x1)
/-! cmp.Compare[int] -/
def M_cmp_Compare_int (F : Nat) (x1 : Int) (x2 : Int) : Option Int :=
  ((M_cmp_isNaN_int F x1).bind fun x3 => ((M_cmp_isNaN_int F x2).bind fun x4 => (if x3 then (if x4 then some 0 else some (-1)) else (if x4 then some 1 else (if (decide (x1 < x2)) then some (-1) else (if (decide (x2 < x1)) then some 1 else some 0))))))
/-! lampwright graph.order -/
def M_graph_order (F : Nat) (x1 : Int) (x2 : Int) (x3 : Int) (x4 : Int) : Option Int :=
  ((M_cmp_Compare_int F x1 x3).bind fun x12 => ((M_cmp_Compare_int F x2 x4).bind fun x13 => ((M_cmp_Or_int F ([x12, x13] : List Int)).bind fun x16 => some x16)))
/-! slices.Values[[]lampwright api.Arc,lampwright api.Arc]$1 -/
def M_slices_Values_api_Arc_api_Arc_1_b1 {σ τ : Type} (_F : Nat) (yy : σ → (Int × Int) → Option (σ ⊕ τ)) (x2 : List (Int × Int)) (rec1 : (Int × σ) → Option (σ ⊕ τ)) (x23 : Int) (x24 : σ) : Option (σ ⊕ τ) :=
  (if (decide (x23 < (x2.length : Int))) then ((idx x2 x23).bind fun x54 => ((yy x24 (x54.1, x54.2)).bind (Sum.elim (fun x58 => rec1 (iadd .i64 x23 1, x58)) (fun x59 => some (.inr x59))))) else some (.inl x24))
def M_slices_Values_api_Arc_api_Arc_1_l1 {σ τ : Type} (F : Nat) (yy : σ → (Int × Int) → Option (σ ⊕ τ)) (x2 : List (Int × Int)) : Nat → (Int × σ) → Option (σ ⊕ τ)
  | 0 => fun _ => none
  | k + 1 => fun s => M_slices_Values_api_Arc_api_Arc_1_b1 F yy x2 (M_slices_Values_api_Arc_api_Arc_1_l1 F yy x2 k) s.1 s.2
def M_slices_Values_api_Arc_api_Arc_1 {σ τ : Type} (F : Nat) (yy : σ → (Int × Int) → Option (σ ⊕ τ)) (x2 : List (Int × Int)) (s0 : σ) : Option (σ ⊕ τ) :=
  M_slices_Values_api_Arc_api_Arc_1_l1 F yy x2 F (0, s0)
/-! slices.AppendSeq[[]lampwright api.Arc,lampwright api.Arc] -/
def M_slices_AppendSeq_api_Arc_api_Arc_slices_Values_api_Arc_api_Arc_1_r2 (_F : Nat) (x46 : List (Int × Int)) (x55 : Int) (x56 : Int) : Option (List (Int × Int) ⊕ Empty) :=
  ((app 4398046511104 x46 ([(x55, x56)] : List (Int × Int))).bind fun x60 => some (.inl x60))
def M_slices_AppendSeq_api_Arc_api_Arc_slices_Values_api_Arc_api_Arc_1 (F : Nat) (x1 : List (Int × Int)) (x5 : List (Int × Int)) : Option (List (Int × Int)) :=
  ((M_slices_Values_api_Arc_api_Arc_1 F (fun (x46 : List (Int × Int)) ((x55, x56) : (Int × Int)) => M_slices_AppendSeq_api_Arc_api_Arc_slices_Values_api_Arc_api_Arc_1_r2 F x46 x55 x56) x5 x1).bind (Sum.elim (fun (x46 : List (Int × Int)) => some x46) (fun t => t.elim)))
/-! slices.Collect[lampwright api.Arc] -/
def M_slices_Collect_api_Arc_slices_Values_api_Arc_api_Arc_1 (F : Nat) (x2 : List (Int × Int)) : Option (List (Int × Int)) :=
  ((M_slices_AppendSeq_api_Arc_api_Arc_slices_Values_api_Arc_api_Arc_1 F ([] : List (Int × Int)) x2).bind fun x5 => some x5)
/-! slices.SortFunc[[]lampwright api.Arc,lampwright api.Arc] -/
def M_slices_SortFunc_api_Arc_api_Arc_graph_order (F : Nat) (x1 : List (Int × Int)) : Option (List (Int × Int)) :=
  sortF (fun a b => M_graph_order F a.1 a.2 b.1 b.2) x1
/-! slices.SortedFunc[lampwright api.Arc] -/
def M_slices_SortedFunc_api_Arc_slices_Values_api_Arc_api_Arc_1_graph_order (F : Nat) (x2 : List (Int × Int)) : Option (List (Int × Int)) :=
  ((M_slices_Collect_api_Arc_slices_Values_api_Arc_api_Arc_1 F x2).bind fun x5 => ((M_slices_SortFunc_api_Arc_api_Arc_graph_order F x5).bind fun x8 => (chk (decide (x8.length = x5.length)) (some x8))))
/-! lampwright graph.Of -/
def M_graph_Of_j2 (F : Nat) (x1 : Int) (x2 : List (Int × Int)) : Option (List (List Int) × Int) :=
  ((M_slices_Values_api_Arc_api_Arc F x2).bind fun _x122 => ((M_slices_SortedFunc_api_Arc_slices_Values_api_Arc_api_Arc_1_graph_order F x2).bind fun x124 => ((M_graph_Built F x1 x124).bind fun x127 => some (x127, 0))))
def M_graph_Of_b3 (F : Nat) (x1 : Int) (x2 : List (Int × Int)) (rec3 : (Int × List (Int × Int)) → Option (List (List Int) × Int)) (x166 : Int) (x167 : List (Int × Int)) : Option (List (List Int) × Int) :=
  (if (decide (x166 < (x2.length : Int))) then ((idx x2 x166).bind fun x223 => (if ((((decide (x223.1 < 0)) || (decide (x1 ≤ x223.1))) || (decide (x223.2 < 0))) || (decide (x1 ≤ x223.2))) then some (([] : List (List Int)), 3) else (if (decide (((x223.1, x223.2) : Int × Int) ∈ x167)) then some (([] : List (List Int)), 6) else ((sins x167 (x223.1, x223.2)).bind fun x237 => rec3 (iadd .i64 x166 1, x237))))) else M_graph_Of_j2 F x1 x2)
def M_graph_Of_l3 (F : Nat) (x1 : Int) (x2 : List (Int × Int)) : Nat → (Int × List (Int × Int)) → Option (List (List Int) × Int)
  | 0 => fun _ => none
  | k + 1 => fun s => M_graph_Of_b3 F x1 x2 (M_graph_Of_l3 F x1 x2 k) s.1 s.2
def M_graph_Of (F : Nat) (x1 : Int) (x2 : List (Int × Int)) : Option (List (List Int) × Int) :=
  (if ((decide (x1 < 0)) || (decide (100 < x1))) then some (([] : List (List Int)), 3) else (if (decide (600 < (x2.length : Int))) then some (([] : List (List Int)), 2) else M_graph_Of_l3 F x1 x2 F (0, ([] : List (Int × Int)))))
/-! lampwright graph.turned -/
def M_graph_turned_r2 (_F : Nat) (x47 : List (Int × Int)) (x56 : Int) (x57 : Int) : Option (List (Int × Int) ⊕ Empty) :=
  ((app 4398046511104 x47 ([(x57, x56)] : List (Int × Int))).bind fun x61 => some (.inl x61))
def M_graph_turned (F : Nat) (x1 : List (List Int)) : Option (List (Int × Int)) :=
  ((M_graph_All F x1).bind fun _x35 => ((M_graph_All_1 F (fun (x47 : List (Int × Int)) ((x56, x57) : (Int × Int)) => M_graph_turned_r2 F x47 x56 x57) x1 ([] : List (Int × Int))).bind (Sum.elim (fun (x47 : List (Int × Int)) => some x47) (fun t => t.elim))))
/-! lampwright graph.Turn -/
def M_graph_Turn (F : Nat) (x1 : List (List Int)) : Option (List (List Int) × Int) :=
  ((M_graph_Check F x1).bind fun x8 => (if ((x8 : Int) != 0) then some (([] : List (List Int)), x8) else ((M_graph_turned F x1).bind fun x20 => ((M_slices_Values_api_Arc_api_Arc F x20).bind fun _x23 => ((M_slices_SortedFunc_api_Arc_slices_Values_api_Arc_api_Arc_1_graph_order F x20).bind fun x25 => ((M_graph_Built F (x1.length : Int) x25).bind fun x28 => some (x28, 0)))))))
/-! slices.Compact[[]lampwright api.Arc,lampwright api.Arc] -/
def M_slices_Compact_api_Arc_api_Arc_j59 (_F : Nat) (x1 : List (Int × Int)) : Option (List (Int × Int)) :=
  some x1
def M_slices_Compact_api_Arc_api_Arc_j108 (_F : Nat) (rec98 : Int → Option (List (Int × Int))) (x1975 : Int) : Option (List (Int × Int)) :=
  rec98 (iadd .i64 x1975 1)
def M_slices_Compact_api_Arc_api_Arc_j113 (_F : Nat) (x2842 : List (Int × Int)) (x2843 : Int) : Option (List (Int × Int)) :=
  (chk (decide (0 ≤ x2843 ∧ x2843 < (x2842.length : Int))) ((lett (x2842.take x2843.toNat ++ List.replicate (x2842.length - x2843.toNat) ((0 : Int), (0 : Int))) fun x2847 => ((sub x2847 0 x2843).bind fun x2850 => some x2850))))
def M_slices_Compact_api_Arc_api_Arc_j117 (_F : Nat) (rec116 : (List (Int × Int) × Int × Int) → Option (List (Int × Int))) (x2881 : Int) (x2939 : List (Int × Int)) (x2940 : Int) : Option (List (Int × Int)) :=
  rec116 (x2939, x2940, iadd .i64 x2881 1)
def M_slices_Compact_api_Arc_api_Arc_b116 (F : Nat) (x1 : List (Int × Int)) (x1975 : Int) (rec116 : (List (Int × Int) × Int × Int) → Option (List (Int × Int))) (x2879 : List (Int × Int)) (x2880 : Int) (x2881 : Int) : Option (List (Int × Int)) :=
  (if (decide (x2881 < ((x1.length - x1975.toNat : Nat) : Int))) then (chk (decide (x2879.length = x1.length)) (((idx (x2879.drop x1975.toNat) x2881).bind fun x2946 => (chk (decide (x2879.length = x1.length)) (((idx (x2879.drop x1975.toNat) (isub .i64 x2881 1)).bind fun x2948 => (if (!(((x2946.1 : Int) == x2948.1) && ((x2946.2 : Int) == x2948.2))) then (chk (decide (x2879.length = x1.length)) (((idx (x2879.drop x1975.toNat) x2881).bind fun x2950 => ((idx x2879 x2880).bind fun _x2951 => (lett (x2879.set x2880.toNat (x2950.1, x2950.2)) fun x2954 => M_slices_Compact_api_Arc_api_Arc_j117 F rec116 x2881 x2954 (iadd .i64 x2880 1)))))) else M_slices_Compact_api_Arc_api_Arc_j117 F rec116 x2881 x2879 x2880))))))) else M_slices_Compact_api_Arc_api_Arc_j113 F x2879 x2880)
def M_slices_Compact_api_Arc_api_Arc_l116 (F : Nat) (x1 : List (Int × Int)) (x1975 : Int) : Nat → (List (Int × Int) × Int × Int) → Option (List (Int × Int))
  | 0 => fun _ => none
  | k + 1 => fun s => M_slices_Compact_api_Arc_api_Arc_b116 F x1 x1975 (M_slices_Compact_api_Arc_api_Arc_l116 F x1 x1975 k) s.1 s.2.1 s.2.2
def M_slices_Compact_api_Arc_api_Arc_b98 (F : Nat) (x1 : List (Int × Int)) (rec98 : Int → Option (List (Int × Int))) (x1975 : Int) : Option (List (Int × Int)) :=
  (if (decide (x1975 < (x1.length : Int))) then ((idx x1 x1975).bind fun x2723 => ((idx x1 (isub .i64 x1975 1)).bind fun x2727 => (if (((x2723.1 : Int) == x2727.1) && ((x2723.2 : Int) == x2727.2)) then (chk (decide (0 ≤ x1975 ∧ x1975 < (x1.length : Int))) (M_slices_Compact_api_Arc_api_Arc_l116 F x1 x1975 F (x1, x1975, 1))) else M_slices_Compact_api_Arc_api_Arc_j108 F rec98 x1975))) else M_slices_Compact_api_Arc_api_Arc_j59 F x1)
def M_slices_Compact_api_Arc_api_Arc_l98 (F : Nat) (x1 : List (Int × Int)) : Nat → Int → Option (List (Int × Int))
  | 0 => fun _ => none
  | k + 1 => fun s => M_slices_Compact_api_Arc_api_Arc_b98 F x1 (M_slices_Compact_api_Arc_api_Arc_l98 F x1 k) s
def M_slices_Compact_api_Arc_api_Arc (F : Nat) (x1 : List (Int × Int)) : Option (List (Int × Int)) :=
  (if (decide ((x1.length : Int) < 2)) then some x1 else M_slices_Compact_api_Arc_api_Arc_l98 F x1 F 1)
/-! lampwright graph.Both -/
def M_graph_Both (F : Nat) (x1 : List (List Int)) : Option (List (List Int) × Int) :=
  ((M_graph_Check F x1).bind fun x8 => (if ((x8 : Int) != 0) then some (([] : List (List Int)), x8) else ((M_graph_All F x1).bind fun _x20 => ((M_slices_Collect_api_Arc_graph_All_1 F x1).bind fun x22 => ((M_graph_turned F x1).bind fun x25 => ((app 4398046511104 x22 x25).bind fun x28 => ((M_slices_SortFunc_api_Arc_api_Arc_graph_order F x28).bind fun x31 => (chk (decide (x31.length = x28.length)) (((M_slices_Compact_api_Arc_api_Arc F x31).bind fun x33 => (if (decide (600 < (x33.length : Int))) then some (([] : List (List Int)), 2) else ((M_graph_Built F (x1.length : Int) x33).bind fun x37 => some (x37, 0)))))))))))))
/-! lampwright graph.Degrees -/
def M_graph_Degrees_r3 (_F : Nat) (x121 : List Int) (x122 : List Int) (x144 : Int) (x145 : Int) : Option ((List Int × List Int) ⊕ Empty) :=
  ((idx x122 x144).bind fun x147 => ((idx x122 x144).bind fun _x150 => (lett (x122.set x144.toNat (iadd .i64 x147 1)) fun x153 => ((idx x121 x145).bind fun x156 => ((idx x121 x145).bind fun _x159 => (lett (x121.set x145.toNat (iadd .i64 x156 1)) fun x162 => some (.inl (x162, x153))))))))
def M_graph_Degrees_j1 (F : Nat) (x1 : List (List Int)) (x27 : List Int) (x30 : List Int) : Option (List Int × List Int × Int) :=
  ((M_graph_All F x1).bind fun _x98 => ((M_graph_All_1 F (fun ((x121, x122) : (List Int × List Int)) ((x144, x145) : (Int × Int)) => M_graph_Degrees_r3 F x121 x122 x144 x145) x1 (x27, x30)).bind (Sum.elim (fun ((x121, x122) : (List Int × List Int)) => some (x122, x121, 0)) (fun t => t.elim))))
def M_graph_Degrees (F : Nat) (x1 : List (List Int)) : Option (List Int × List Int × Int) :=
  ((M_graph_Check F x1).bind fun x9 => (if ((x9 : Int) != 0) then some (([] : List Int), ([] : List Int), x9) else ((mk 17592186044416 (0 : Int) (x1.length : Int)).bind fun x165 => ((mk 17592186044416 (0 : Int) (x1.length : Int)).bind fun x168 => M_graph_Degrees_j1 F x1 x168 x165))))
/-! lampwright lampwrightref.between -/
def M_R_between (_F : Nat) (x1 : Int) (x2 : Int) (x3 : Int) : Option Bool :=
  some ((decide (x2 ≤ x1)) && (decide (x1 ≤ x3)))
/-! lampwright lampwrightref.GraphCheck -/
def M_R_GraphCheck_j83 (_F : Nat) (x3744 : Int) : Option Int :=
  (if (decide (600 < x3744)) then some 2 else some 0)
def M_R_GraphCheck_j152 (_F : Nat) (rec138 : (Int × Int) → Option Int) (x4993 : Int) (x6862 : Int) : Option Int :=
  rec138 (x6862, iadd .i64 x4993 1)
def M_R_GraphCheck_j165 (_F : Nat) (rec161 : (Int × Int) → Option Int) (x7069 : Int) (x7070 : Int) (x7461 : Bool) : Option Int :=
  (if x7461 then some 4 else rec161 (iadd .i64 x7069 1, iadd .i64 x7070 1))
def M_R_GraphCheck_b161 (F : Nat) (rec138 : (Int × Int) → Option Int) (x1 : List (List Int)) (x4993 : Int) (rec161 : (Int × Int) → Option Int) (x7069 : Int) (x7070 : Int) : Option Int :=
  ((idx x1 x4993).bind fun x7283 => (if (decide (x7070 < (x7283.length : Int))) then ((idx x1 x4993).bind fun x7394 => ((idx x7394 x7070).bind fun x7398 => ((M_R_between F x7398 0 (isub .i64 (x1.length : Int) 1)).bind fun x7401 => (if (!x7401) then some 3 else (if (decide (0 < x7070)) then ((idx x1 x4993).bind fun x7464 => ((idx x7464 x7070).bind fun x7469 => ((idx x1 x4993).bind fun x7473 => ((idx x7473 (isub .i64 x7070 1)).bind fun x7478 => M_R_GraphCheck_j165 F rec161 x7069 x7070 (decide (x7469 ≤ x7478)))))) else M_R_GraphCheck_j165 F rec161 x7069 x7070 false))))) else M_R_GraphCheck_j152 F rec138 x4993 x7069))
def M_R_GraphCheck_l161 (F : Nat) (rec138 : (Int × Int) → Option Int) (x1 : List (List Int)) (x4993 : Int) : Nat → (Int × Int) → Option Int
  | 0 => fun _ => none
  | k + 1 => fun s => M_R_GraphCheck_b161 F rec138 x1 x4993 (M_R_GraphCheck_l161 F rec138 x1 x4993 k) s.1 s.2
def M_R_GraphCheck_b138 (F : Nat) (x1 : List (List Int)) (rec138 : (Int × Int) → Option Int) (x4992 : Int) (x4993 : Int) : Option Int :=
  (if (decide (x4993 < (x1.length : Int))) then M_R_GraphCheck_l161 F rec138 x1 x4993 F (x4992, 0) else M_R_GraphCheck_j83 F x4992)
def M_R_GraphCheck_l138 (F : Nat) (x1 : List (List Int)) : Nat → (Int × Int) → Option Int
  | 0 => fun _ => none
  | k + 1 => fun s => M_R_GraphCheck_b138 F x1 (M_R_GraphCheck_l138 F x1 k) s.1 s.2
def M_R_GraphCheck (F : Nat) (x1 : List (List Int)) : Option Int :=
  (if (decide (100 < (x1.length : Int))) then some 2 else M_R_GraphCheck_l138 F x1 F (0, 0))
/-! lampwright lampwrightref.HasArc -/
def M_R_HasArc_j2 (_F : Nat) : Option Bool :=
  some false
def M_R_HasArc_b3 (F : Nat) (x1 : List (Int × Int)) (x4 : Int) (x5 : Int) (rec3 : Int → Option Bool) (x89 : Int) : Option Bool :=
  (if (decide (x89 < (x1.length : Int))) then ((idx x1 x89).bind fun x125 => (if (((x125.1 : Int) == x4) && ((x125.2 : Int) == x5)) then some true else rec3 (iadd .i64 x89 1))) else M_R_HasArc_j2 F)
def M_R_HasArc_l3 (F : Nat) (x1 : List (Int × Int)) (x4 : Int) (x5 : Int) : Nat → Int → Option Bool
  | 0 => fun _ => none
  | k + 1 => fun s => M_R_HasArc_b3 F x1 x4 x5 (M_R_HasArc_l3 F x1 x4 x5 k) s
def M_R_HasArc (F : Nat) (x1 : List (Int × Int)) (x4 : Int) (x5 : Int) : Option Bool :=
  M_R_HasArc_l3 F x1 x4 x5 F 0
/-! lampwright lampwrightref.GraphOf -/
def M_R_GraphOf_j43 (_F : Nat) (x1269 : List (List Int)) : Option (List (List Int) × Int) :=
  some (x1269, 0)
def M_R_GraphOf_j67 (_F : Nat) (rec62 : (Int × List (List Int)) → Option (List (List Int) × Int)) (x1582 : Int) (x2054 : List (List Int)) : Option (List (List Int) × Int) :=
  rec62 (iadd .i64 x1582 1, x2054)
def M_R_GraphOf_j71 (_F : Nat) (rec70 : (Int × List (List Int)) → Option (List (List Int) × Int)) (x2105 : Int) (x2184 : List (List Int)) : Option (List (List Int) × Int) :=
  rec70 (iadd .i64 x2105 1, x2184)
def M_R_GraphOf_b70 (F : Nat) (rec62 : (Int × List (List Int)) → Option (List (List Int) × Int)) (x1 : Int) (x2 : List (Int × Int)) (x1582 : Int) (rec70 : (Int × List (List Int)) → Option (List (List Int) × Int)) (x2105 : Int) (x2107 : List (List Int)) : Option (List (List Int) × Int) :=
  (if (decide (x2105 < x1)) then ((M_R_HasArc F x2 x1582 x2105).bind fun x2185 => (if x2185 then ((idx x2107 x1582).bind fun x2186 => ((idx x2107 x1582).bind fun _x2192 => ((app 8796093022208 x2186 ([x2105] : List Int)).bind fun x2200 => (lett (x2107.set x1582.toNat x2200) fun x2203 => M_R_GraphOf_j71 F rec70 x2105 x2203)))) else M_R_GraphOf_j71 F rec70 x2105 x2107)) else M_R_GraphOf_j67 F rec62 x1582 x2107)
def M_R_GraphOf_l70 (F : Nat) (rec62 : (Int × List (List Int)) → Option (List (List Int) × Int)) (x1 : Int) (x2 : List (Int × Int)) (x1582 : Int) : Nat → (Int × List (List Int)) → Option (List (List Int) × Int)
  | 0 => fun _ => none
  | k + 1 => fun s => M_R_GraphOf_b70 F rec62 x1 x2 x1582 (M_R_GraphOf_l70 F rec62 x1 x2 x1582 k) s.1 s.2
def M_R_GraphOf_b62 (F : Nat) (x1 : Int) (x2 : List (Int × Int)) (rec62 : (Int × List (List Int)) → Option (List (List Int) × Int)) (x1582 : Int) (x1584 : List (List Int)) : Option (List (List Int) × Int) :=
  (if (decide (x1582 < x1)) then M_R_GraphOf_l70 F rec62 x1 x2 x1582 F (0, x1584) else M_R_GraphOf_j43 F x1584)
def M_R_GraphOf_l62 (F : Nat) (x1 : Int) (x2 : List (Int × Int)) : Nat → (Int × List (List Int)) → Option (List (List Int) × Int)
  | 0 => fun _ => none
  | k + 1 => fun s => M_R_GraphOf_b62 F x1 x2 (M_R_GraphOf_l62 F x1 x2 k) s.1 s.2
def M_R_GraphOf_j14 (F : Nat) (x1 : Int) (x2 : List (Int × Int)) : Option (List (List Int) × Int) :=
  ((mk 4398046511104 (([] : List Int) : List Int) x1).bind fun x324 => M_R_GraphOf_l62 F x1 x2 F (0, x324))
def M_R_GraphOf_j84 (F : Nat) (rec80 : Int → Option (List (List Int) × Int)) (x2 : List (Int × Int)) (x2314 : Int) (x2496 : Bool) : Option (List (List Int) × Int) :=
  (if x2496 then some (([] : List (List Int)), 3) else ((sub x2 0 x2314).bind fun x2507 => ((idx x2 x2314).bind fun x2512 => ((M_R_HasArc F x2507 x2512.1 x2512.2).bind fun x2516 => (if x2516 then some (([] : List (List Int)), 6) else rec80 (iadd .i64 x2314 1))))))
def M_R_GraphOf_b80 (F : Nat) (x1 : Int) (x2 : List (Int × Int)) (rec80 : Int → Option (List (List Int) × Int)) (x2314 : Int) : Option (List (List Int) × Int) :=
  (if (decide (x2314 < (x2.length : Int))) then ((idx x2 x2314).bind fun x2487 => ((M_R_between F x2487.1 0 (isub .i64 x1 1)).bind fun x2490 => (if (!x2490) then M_R_GraphOf_j84 F rec80 x2 x2314 true else ((idx x2 x2314).bind fun x2519 => ((M_R_between F x2519.2 0 (isub .i64 x1 1)).bind fun x2522 => M_R_GraphOf_j84 F rec80 x2 x2314 (!x2522)))))) else M_R_GraphOf_j14 F x1 x2)
def M_R_GraphOf_l80 (F : Nat) (x1 : Int) (x2 : List (Int × Int)) : Nat → Int → Option (List (List Int) × Int)
  | 0 => fun _ => none
  | k + 1 => fun s => M_R_GraphOf_b80 F x1 x2 (M_R_GraphOf_l80 F x1 x2 k) s
def M_R_GraphOf (F : Nat) (x1 : Int) (x2 : List (Int × Int)) : Option (List (List Int) × Int) :=
  ((M_R_between F x1 0 100).bind fun x8 => (if (!x8) then some (([] : List (List Int)), 3) else (if (decide (600 < (x2.length : Int))) then some (([] : List (List Int)), 2) else M_R_GraphOf_l80 F x1 x2 F 0)))
/-! lampwright lampwrightref.GraphArcs -/
def M_R_GraphArcs_j11 (_F : Nat) (x669 : List (Int × Int)) : Option (List (Int × Int)) :=
  some x669
def M_R_GraphArcs_j20 (_F : Nat) (rec18 : (List (Int × Int) × Int) → Option (List (Int × Int))) (x892 : Int) (x1223 : List (Int × Int)) : Option (List (Int × Int)) :=
  rec18 (x1223, iadd .i64 x892 1)
def M_R_GraphArcs_b21 (F : Nat) (rec18 : (List (Int × Int) × Int) → Option (List (Int × Int))) (x1 : List (List Int)) (x892 : Int) (rec21 : (List (Int × Int) × Int) → Option (List (Int × Int))) (x1260 : List (Int × Int)) (x1261 : Int) : Option (List (Int × Int)) :=
  ((idx x1 x892).bind fun x1302 => (if (decide (x1261 < (x1302.length : Int))) then ((idx x1 x892).bind fun x1318 => ((idx x1318 x1261).bind fun x1322 => ((app 4398046511104 x1260 ([(x892, x1322)] : List (Int × Int))).bind fun x1327 => rec21 (x1327, iadd .i64 x1261 1)))) else M_R_GraphArcs_j20 F rec18 x892 x1260))
def M_R_GraphArcs_l21 (F : Nat) (rec18 : (List (Int × Int) × Int) → Option (List (Int × Int))) (x1 : List (List Int)) (x892 : Int) : Nat → (List (Int × Int) × Int) → Option (List (Int × Int))
  | 0 => fun _ => none
  | k + 1 => fun s => M_R_GraphArcs_b21 F rec18 x1 x892 (M_R_GraphArcs_l21 F rec18 x1 x892 k) s.1 s.2
def M_R_GraphArcs_b18 (F : Nat) (x1 : List (List Int)) (rec18 : (List (Int × Int) × Int) → Option (List (Int × Int))) (x891 : List (Int × Int)) (x892 : Int) : Option (List (Int × Int)) :=
  (if (decide (x892 < (x1.length : Int))) then M_R_GraphArcs_l21 F rec18 x1 x892 F (x891, 0) else M_R_GraphArcs_j11 F x891)
def M_R_GraphArcs_l18 (F : Nat) (x1 : List (List Int)) : Nat → (List (Int × Int) × Int) → Option (List (Int × Int))
  | 0 => fun _ => none
  | k + 1 => fun s => M_R_GraphArcs_b18 F x1 (M_R_GraphArcs_l18 F x1 k) s.1 s.2
def M_R_GraphArcs (F : Nat) (x1 : List (List Int)) : Option (List (Int × Int)) :=
  M_R_GraphArcs_l18 F x1 F (([] : List (Int × Int)), 0)
/-! lampwright lampwrightref.GraphTurn -/
def M_R_GraphTurn_j11 (_F : Nat) (x1239 : List (List Int)) : Option (List (List Int)) :=
  some x1239
def M_R_GraphTurn_j20 (_F : Nat) (rec18 : (Int × List (List Int)) → Option (List (List Int))) (x1648 : Int) (x2264 : List (List Int)) : Option (List (List Int)) :=
  rec18 (iadd .i64 x1648 1, x2264)
def M_R_GraphTurn_b21 (F : Nat) (rec18 : (Int × List (List Int)) → Option (List (List Int))) (x1 : List (List Int)) (x1648 : Int) (rec21 : (Int × List (List Int)) → Option (List (List Int))) (x2331 : Int) (x2333 : List (List Int)) : Option (List (List Int)) :=
  ((idx x1 x1648).bind fun x2406 => (if (decide (x2331 < (x2406.length : Int))) then ((idx x1 x1648).bind fun x2438 => ((idx x2438 x2331).bind fun x2442 => ((idx x2333 x2442).bind fun x2445 => ((idx x2333 x2442).bind fun _x2451 => ((app 8796093022208 x2445 ([x1648] : List Int)).bind fun x2459 => (lett (x2333.set x2442.toNat x2459) fun x2462 => rec21 (iadd .i64 x2331 1, x2462))))))) else M_R_GraphTurn_j20 F rec18 x1648 x2333))
def M_R_GraphTurn_l21 (F : Nat) (rec18 : (Int × List (List Int)) → Option (List (List Int))) (x1 : List (List Int)) (x1648 : Int) : Nat → (Int × List (List Int)) → Option (List (List Int))
  | 0 => fun _ => none
  | k + 1 => fun s => M_R_GraphTurn_b21 F rec18 x1 x1648 (M_R_GraphTurn_l21 F rec18 x1 x1648 k) s.1 s.2
def M_R_GraphTurn_b18 (F : Nat) (x1 : List (List Int)) (rec18 : (Int × List (List Int)) → Option (List (List Int))) (x1648 : Int) (x1650 : List (List Int)) : Option (List (List Int)) :=
  (if (decide (x1648 < (x1.length : Int))) then M_R_GraphTurn_l21 F rec18 x1 x1648 F (0, x1650) else M_R_GraphTurn_j11 F x1650)
def M_R_GraphTurn_l18 (F : Nat) (x1 : List (List Int)) : Nat → (Int × List (List Int)) → Option (List (List Int))
  | 0 => fun _ => none
  | k + 1 => fun s => M_R_GraphTurn_b18 F x1 (M_R_GraphTurn_l18 F x1 k) s.1 s.2
def M_R_GraphTurn (F : Nat) (x1 : List (List Int)) : Option (List (List Int)) :=
  ((mk 4398046511104 (([] : List Int) : List Int) (x1.length : Int)).bind fun x6 => M_R_GraphTurn_l18 F x1 F (0, x6))
/-! lampwright lampwrightref.HasInt -/
def M_R_HasInt_j2 (_F : Nat) : Option Bool :=
  some false
def M_R_HasInt_b3 (F : Nat) (x1 : List Int) (x4 : Int) (rec3 : Int → Option Bool) (x47 : Int) : Option Bool :=
  (if (decide (x47 < (x1.length : Int))) then ((idx x1 x47).bind fun x64 => (if ((x64 : Int) == x4) then some true else rec3 (iadd .i64 x47 1))) else M_R_HasInt_j2 F)
def M_R_HasInt_l3 (F : Nat) (x1 : List Int) (x4 : Int) : Nat → Int → Option Bool
  | 0 => fun _ => none
  | k + 1 => fun s => M_R_HasInt_b3 F x1 x4 (M_R_HasInt_l3 F x1 x4 k) s
def M_R_HasInt (F : Nat) (x1 : List Int) (x4 : Int) : Option Bool :=
  M_R_HasInt_l3 F x1 x4 F 0
/-! lampwright lampwrightref.Leads -/
def M_R_Leads (F : Nat) (x1 : List (List Int)) (x4 : Int) (x5 : Int) : Option Bool :=
  ((idx x1 x4).bind fun x7 => ((M_R_HasInt F x7 x5).bind fun x11 => some x11))
/-! lampwright lampwrightref.GraphBoth -/
def M_R_GraphBoth_j65 (_F : Nat) (x1878 : Int) (x1880 : List (List Int)) : Option (List (List Int) × Int) :=
  (if (decide (600 < x1878)) then some (([] : List (List Int)), 2) else some (x1880, 0))
def M_R_GraphBoth_j119 (_F : Nat) (rec108 : (Int × Int × List (List Int)) → Option (List (List Int) × Int)) (x2505 : Int) (x3439 : Int) (x3441 : List (List Int)) : Option (List (List Int) × Int) :=
  rec108 (x3439, iadd .i64 x2505 1, x3441)
def M_R_GraphBoth_j128 (_F : Nat) (rec126 : (Int × Int × List (List Int)) → Option (List (List Int) × Int)) (x3544 : Int) (x3698 : Int) (x3700 : List (List Int)) : Option (List (List Int) × Int) :=
  rec126 (x3698, iadd .i64 x3544 1, x3700)
def M_R_GraphBoth_j129 (F : Nat) (rec126 : (Int × Int × List (List Int)) → Option (List (List Int) × Int)) (x2505 : Int) (x3543 : Int) (x3544 : Int) (x3546 : List (List Int)) (x3704 : Bool) : Option (List (List Int) × Int) :=
  (if x3704 then ((idx x3546 x2505).bind fun x3726 => ((idx x3546 x2505).bind fun _x3732 => ((app 8796093022208 x3726 ([x3544] : List Int)).bind fun x3740 => (lett (x3546.set x2505.toNat x3740) fun x3743 => M_R_GraphBoth_j128 F rec126 x3544 (iadd .i64 x3543 1) x3743)))) else M_R_GraphBoth_j128 F rec126 x3544 x3543 x3546)
def M_R_GraphBoth_b126 (F : Nat) (rec108 : (Int × Int × List (List Int)) → Option (List (List Int) × Int)) (x1 : List (List Int)) (x2505 : Int) (rec126 : (Int × Int × List (List Int)) → Option (List (List Int) × Int)) (x3543 : Int) (x3544 : Int) (x3546 : List (List Int)) : Option (List (List Int) × Int) :=
  (if (decide (x3544 < (x1.length : Int))) then ((M_R_Leads F x1 x2505 x3544).bind fun x3701 => (if x3701 then M_R_GraphBoth_j129 F rec126 x2505 x3543 x3544 x3546 true else ((M_R_Leads F x1 x3544 x2505).bind fun x3748 => M_R_GraphBoth_j129 F rec126 x2505 x3543 x3544 x3546 x3748))) else M_R_GraphBoth_j119 F rec108 x2505 x3543 x3546)
def M_R_GraphBoth_l126 (F : Nat) (rec108 : (Int × Int × List (List Int)) → Option (List (List Int) × Int)) (x1 : List (List Int)) (x2505 : Int) : Nat → (Int × Int × List (List Int)) → Option (List (List Int) × Int)
  | 0 => fun _ => none
  | k + 1 => fun s => M_R_GraphBoth_b126 F rec108 x1 x2505 (M_R_GraphBoth_l126 F rec108 x1 x2505 k) s.1 s.2.1 s.2.2
def M_R_GraphBoth_b108 (F : Nat) (x1 : List (List Int)) (rec108 : (Int × Int × List (List Int)) → Option (List (List Int) × Int)) (x2504 : Int) (x2505 : Int) (x2507 : List (List Int)) : Option (List (List Int) × Int) :=
  (if (decide (x2505 < (x1.length : Int))) then M_R_GraphBoth_l126 F rec108 x1 x2505 F (x2504, 0, x2507) else M_R_GraphBoth_j65 F x2504 x2507)
def M_R_GraphBoth_l108 (F : Nat) (x1 : List (List Int)) : Nat → (Int × Int × List (List Int)) → Option (List (List Int) × Int)
  | 0 => fun _ => none
  | k + 1 => fun s => M_R_GraphBoth_b108 F x1 (M_R_GraphBoth_l108 F x1 k) s.1 s.2.1 s.2.2
def M_R_GraphBoth (F : Nat) (x1 : List (List Int)) : Option (List (List Int) × Int) :=
  ((mk 4398046511104 (([] : List Int) : List Int) (x1.length : Int)).bind fun x6 => M_R_GraphBoth_l108 F x1 F (0, 0, x6))
/-! lampwright lampwrightref.SameArcs -/
def M_R_SameArcs_j2 (_F : Nat) : Option Bool :=
  some true
def M_R_SameArcs_b3 (F : Nat) (x1 : List (Int × Int)) (x4 : List (Int × Int)) (rec3 : Int → Option Bool) (x154 : Int) : Option Bool :=
  (if (decide (x154 < (x1.length : Int))) then ((idx x1 x154).bind fun x218 => ((idx x4 x154).bind fun x222 => (if (!(((x218.1 : Int) == x222.1) && ((x218.2 : Int) == x222.2))) then some false else rec3 (iadd .i64 x154 1)))) else M_R_SameArcs_j2 F)
def M_R_SameArcs_l3 (F : Nat) (x1 : List (Int × Int)) (x4 : List (Int × Int)) : Nat → Int → Option Bool
  | 0 => fun _ => none
  | k + 1 => fun s => M_R_SameArcs_b3 F x1 x4 (M_R_SameArcs_l3 F x1 x4 k) s
def M_R_SameArcs (F : Nat) (x1 : List (Int × Int)) (x4 : List (Int × Int)) : Option Bool :=
  (if (((x1.length : Int) : Int) != (x4.length : Int)) then some false else M_R_SameArcs_l3 F x1 x4 F 0)
/-! lampwright lampwrightref.SameInts -/
def M_R_SameInts_j2 (_F : Nat) : Option Bool :=
  some true
def M_R_SameInts_b3 (F : Nat) (x1 : List Int) (x4 : List Int) (rec3 : Int → Option Bool) (x154 : Int) : Option Bool :=
  (if (decide (x154 < (x1.length : Int))) then ((idx x1 x154).bind fun x218 => ((idx x4 x154).bind fun x222 => (if ((x218 : Int) != x222) then some false else rec3 (iadd .i64 x154 1)))) else M_R_SameInts_j2 F)
def M_R_SameInts_l3 (F : Nat) (x1 : List Int) (x4 : List Int) : Nat → Int → Option Bool
  | 0 => fun _ => none
  | k + 1 => fun s => M_R_SameInts_b3 F x1 x4 (M_R_SameInts_l3 F x1 x4 k) s
def M_R_SameInts (F : Nat) (x1 : List Int) (x4 : List Int) : Option Bool :=
  (if (((x1.length : Int) : Int) != (x4.length : Int)) then some false else M_R_SameInts_l3 F x1 x4 F 0)
/-! lampwright lampwrightref.SameLists -/
def M_R_SameLists_j2 (_F : Nat) : Option Bool :=
  some true
def M_R_SameLists_b3 (F : Nat) (x1 : List (List Int)) (x4 : List (List Int)) (rec3 : Int → Option Bool) (x202 : Int) : Option Bool :=
  (if (decide (x202 < (x1.length : Int))) then ((idx x1 x202).bind fun x287 => ((idx x4 x202).bind fun x292 => ((M_R_SameInts F x287 x292).bind fun x297 => (if (!x297) then some false else rec3 (iadd .i64 x202 1))))) else M_R_SameLists_j2 F)
def M_R_SameLists_l3 (F : Nat) (x1 : List (List Int)) (x4 : List (List Int)) : Nat → Int → Option Bool
  | 0 => fun _ => none
  | k + 1 => fun s => M_R_SameLists_b3 F x1 x4 (M_R_SameLists_l3 F x1 x4 k) s
def M_R_SameLists (F : Nat) (x1 : List (List Int)) (x4 : List (List Int)) : Option Bool :=
  (if (((x1.length : Int) : Int) != (x4.length : Int)) then some false else M_R_SameLists_l3 F x1 x4 F 0)
/-! lampwright lampwrightlaw.graphBegun -/
def M_L_graphBegun_j6 (_F : Nat) (x83 : Bool) : Option Bool :=
  some x83
def M_L_graphBegun_j5 (F : Nat) (x18 : (List Int × List Int × Int)) (x25 : (List (List Int) × Int)) (x74 : Bool) : Option Bool :=
  (if ((x74 && ((x18.2.2 : Int) == 0)) && ((x25.2 : Int) == 6)) then ((M_graph_Check F ([([1] : List Int)] : List (List Int))).bind fun x88 => M_L_graphBegun_j6 F ((x88 : Int) == 3)) else M_L_graphBegun_j6 F false)
def M_L_graphBegun_j4 (F : Nat) (x18 : (List Int × List Int × Int)) (x25 : (List (List Int) × Int)) (x69 : Bool) : Option Bool :=
  (if x69 then ((M_R_SameInts F x18.2.1 ([2, 1, 0] : List Int)).bind fun x91 => M_L_graphBegun_j5 F x18 x25 x91) else M_L_graphBegun_j5 F x18 x25 false)
def M_L_graphBegun_j3 (F : Nat) (x14 : (List (List Int) × Int)) (x18 : (List Int × List Int × Int)) (x25 : (List (List Int) × Int)) (x63 : Bool) : Option Bool :=
  (if (x63 && ((x14.2 : Int) == 0)) then ((M_R_SameInts F x18.1 ([2, 0, 1] : List Int)).bind fun x94 => M_L_graphBegun_j4 F x18 x25 x94) else M_L_graphBegun_j4 F x18 x25 false)
def M_L_graphBegun_j2 (F : Nat) (x10 : (List (List Int) × Int)) (x14 : (List (List Int) × Int)) (x18 : (List Int × List Int × Int)) (x25 : (List (List Int) × Int)) (x51 : Bool) : Option Bool :=
  (if (x51 && ((x10.2 : Int) == 0)) then ((M_R_SameLists F x14.1 ([([0, 1, 2] : List Int), ([0] : List Int), ([0] : List Int)] : List (List Int))).bind fun x103 => M_L_graphBegun_j3 F x14 x18 x25 x103) else M_L_graphBegun_j3 F x14 x18 x25 false)
def M_L_graphBegun_j1 (F : Nat) (x7 : (List (Int × Int) × Int)) (x10 : (List (List Int) × Int)) (x14 : (List (List Int) × Int)) (x18 : (List Int × List Int × Int)) (x25 : (List (List Int) × Int)) (x41 : Bool) : Option Bool :=
  (if (x41 && ((x7.2 : Int) == 0)) then ((M_R_SameLists F x10.1 ([([0, 2] : List Int), ([0] : List Int), ([] : List Int)] : List (List Int))).bind fun x110 => M_L_graphBegun_j2 F x10 x14 x18 x25 x110) else M_L_graphBegun_j2 F x10 x14 x18 x25 false)
def M_L_graphBegun (F : Nat)  : Option Bool :=
  ((M_graph_Of F 3 ([(2, 0), (0, 1), (0, 0)] : List (Int × Int))).bind fun x3 => ((M_graph_Arcs F x3.1).bind fun x7 => ((M_graph_Turn F x3.1).bind fun x10 => ((M_graph_Both F x3.1).bind fun x14 => ((M_graph_Degrees F x3.1).bind fun x18 => ((M_graph_Of F 1 ([(0, 0), (0, 0)] : List (Int × Int))).bind fun x25 => ((M_R_SameLists F x3.1 ([([0, 1] : List Int), ([] : List Int), ([0] : List Int)] : List (List Int))).bind fun x35 => (if (x35 && ((x3.2 : Int) == 0)) then ((M_R_SameArcs F x7.1 ([(0, 0), (0, 1), (2, 0)] : List (Int × Int))).bind fun x113 => M_L_graphBegun_j1 F x7 x10 x14 x18 x25 x113) else M_L_graphBegun_j1 F x7 x10 x14 x18 x25 false))))))))
/-! lampwright lampwrightref.SameGraph -/
def M_R_SameGraph (F : Nat) (x1 : List (List Int)) (x4 : List (List Int)) : Option Bool :=
  ((M_R_SameLists F x1 x4).bind fun x9 => some x9)
/-! lampwright lampwrightlaw.GraphTells -/
def M_L_GraphTells_j12 (_F : Nat) (x24 : (List Int × List Int × Int)) (x29 : Int) (x394 : Bool) : Option Bool :=
  some (x394 && ((x24.2.2 : Int) == x29))
def M_L_GraphTells_j11 (F : Nat) (x24 : (List Int × List Int × Int)) (x29 : Int) (x361 : List Int) (x391 : Bool) : Option Bool :=
  (if x391 then ((M_R_SameInts F x24.2.1 x361).bind fun x396 => M_L_GraphTells_j12 F x24 x29 x396) else M_L_GraphTells_j12 F x24 x29 false)
def M_L_GraphTells_j10 (F : Nat) (x20 : (List (List Int) × Int)) (x24 : (List Int × List Int × Int)) (x29 : Int) (x358 : List Int) (x361 : List Int) (x362 : Int) (x387 : Bool) : Option Bool :=
  (if (x387 && ((x20.2 : Int) == x362)) then ((M_R_SameInts F x24.1 x358).bind fun x397 => M_L_GraphTells_j11 F x24 x29 x361 x397) else M_L_GraphTells_j11 F x24 x29 x361 false)
def M_L_GraphTells_j9 (F : Nat) (x16 : (List (List Int) × Int)) (x20 : (List (List Int) × Int)) (x24 : (List Int × List Int × Int)) (x29 : Int) (x358 : List Int) (x361 : List Int) (x362 : Int) (x365 : List (List Int)) (x383 : Bool) : Option Bool :=
  (if (x383 && ((x16.2 : Int) == x29)) then ((M_R_SameGraph F x20.1 x365).bind fun x398 => M_L_GraphTells_j10 F x20 x24 x29 x358 x361 x362 x398) else M_L_GraphTells_j10 F x20 x24 x29 x358 x361 x362 false)
def M_L_GraphTells_j8 (F : Nat) (x12 : (List (List Int) × Int)) (x16 : (List (List Int) × Int)) (x20 : (List (List Int) × Int)) (x24 : (List Int × List Int × Int)) (x29 : Int) (x30 : (List (List Int) × Int)) (x358 : List Int) (x361 : List Int) (x362 : Int) (x365 : List (List Int)) (x368 : List (List Int)) (x379 : Bool) : Option Bool :=
  (if (x379 && ((x12.2 : Int) == x30.2)) then ((M_R_SameGraph F x16.1 x368).bind fun x399 => M_L_GraphTells_j9 F x16 x20 x24 x29 x358 x361 x362 x365 x399) else M_L_GraphTells_j9 F x16 x20 x24 x29 x358 x361 x362 x365 false)
def M_L_GraphTells_j7 (F : Nat) (x9 : (List (Int × Int) × Int)) (x12 : (List (List Int) × Int)) (x16 : (List (List Int) × Int)) (x20 : (List (List Int) × Int)) (x24 : (List Int × List Int × Int)) (x29 : Int) (x30 : (List (List Int) × Int)) (x358 : List Int) (x361 : List Int) (x362 : Int) (x365 : List (List Int)) (x368 : List (List Int)) (x375 : Bool) : Option Bool :=
  (if (x375 && ((x9.2 : Int) == x29)) then ((M_R_SameGraph F x12.1 x30.1).bind fun x400 => M_L_GraphTells_j8 F x12 x16 x20 x24 x29 x30 x358 x361 x362 x365 x368 x400) else M_L_GraphTells_j8 F x12 x16 x20 x24 x29 x30 x358 x361 x362 x365 x368 false)
def M_L_GraphTells_j6 (F : Nat) (x9 : (List (Int × Int) × Int)) (x12 : (List (List Int) × Int)) (x16 : (List (List Int) × Int)) (x20 : (List (List Int) × Int)) (x24 : (List Int × List Int × Int)) (x29 : Int) (x30 : (List (List Int) × Int)) (x355 : List (Int × Int)) (x358 : List Int) (x361 : List Int) (x362 : Int) (x365 : List (List Int)) (x368 : List (List Int)) (x372 : Bool) : Option Bool :=
  (if x372 then ((M_R_SameArcs F x9.1 x355).bind fun x401 => M_L_GraphTells_j7 F x9 x12 x16 x20 x24 x29 x30 x358 x361 x362 x365 x368 x401) else M_L_GraphTells_j7 F x9 x12 x16 x20 x24 x29 x30 x358 x361 x362 x365 x368 false)
def M_L_GraphTells_j5 (F : Nat) (x1 : List (List Int)) (x9 : (List (Int × Int) × Int)) (x12 : (List (List Int) × Int)) (x16 : (List (List Int) × Int)) (x20 : (List (List Int) × Int)) (x24 : (List Int × List Int × Int)) (x29 : Int) (x30 : (List (List Int) × Int)) (x355 : List (Int × Int)) (x358 : List Int) (x361 : List Int) (x362 : Int) (x365 : List (List Int)) (x368 : List (List Int)) : Option Bool :=
  ((M_L_graphBegun F).bind fun x369 => (if x369 then ((M_graph_Check F x1).bind fun x402 => M_L_GraphTells_j6 F x9 x12 x16 x20 x24 x29 x30 x355 x358 x361 x362 x365 x368 ((x402 : Int) == x29)) else M_L_GraphTells_j6 F x9 x12 x16 x20 x24 x29 x30 x355 x358 x361 x362 x365 x368 false))
def M_L_GraphTells_j16 (_F : Nat) (rec15 : (List Int × List Int × Int) → Option Bool) (x513 : Int) (x643 : List Int) (x646 : List Int) : Option Bool :=
  rec15 (x643, x646, iadd .i64 x513 1)
def M_L_GraphTells_b15 (F : Nat) (x1 : List (List Int)) (x9 : (List (Int × Int) × Int)) (x12 : (List (List Int) × Int)) (x16 : (List (List Int) × Int)) (x20 : (List (List Int) × Int)) (x24 : (List Int × List Int × Int)) (x29 : Int) (x30 : (List (List Int) × Int)) (x409 : List (Int × Int)) (x412 : List (List Int)) (x415 : (List (List Int) × Int)) (rec15 : (List Int × List Int × Int) → Option Bool) (x509 : List Int) (x512 : List Int) (x513 : Int) : Option Bool :=
  (if (decide (x513 < (x1.length : Int))) then ((idx x1 x513).bind fun x647 => ((idx x412 x513).bind fun x652 => ((app 8796093022208 x509 ([(x647.length : Int)] : List Int)).bind fun x660 => ((app 8796093022208 x512 ([(x652.length : Int)] : List Int)).bind fun x665 => M_L_GraphTells_j16 F rec15 x513 x660 x665)))) else M_L_GraphTells_j5 F x1 x9 x12 x16 x20 x24 x29 x30 x409 x509 x512 x415.2 x415.1 x412)
def M_L_GraphTells_l15 (F : Nat) (x1 : List (List Int)) (x9 : (List (Int × Int) × Int)) (x12 : (List (List Int) × Int)) (x16 : (List (List Int) × Int)) (x20 : (List (List Int) × Int)) (x24 : (List Int × List Int × Int)) (x29 : Int) (x30 : (List (List Int) × Int)) (x409 : List (Int × Int)) (x412 : List (List Int)) (x415 : (List (List Int) × Int)) : Nat → (List Int × List Int × Int) → Option Bool
  | 0 => fun _ => none
  | k + 1 => fun s => M_L_GraphTells_b15 F x1 x9 x12 x16 x20 x24 x29 x30 x409 x412 x415 (M_L_GraphTells_l15 F x1 x9 x12 x16 x20 x24 x29 x30 x409 x412 x415 k) s.1 s.2.1 s.2.2
def M_L_GraphTells (F : Nat) (x1 : List (List Int)) (x4 : Int) (x5 : List (Int × Int)) : Option Bool :=
  ((M_graph_Arcs F x1).bind fun x9 => ((M_graph_Of F x4 x5).bind fun x12 => ((M_graph_Turn F x1).bind fun x16 => ((M_graph_Both F x1).bind fun x20 => ((M_graph_Degrees F x1).bind fun x24 => ((M_R_GraphCheck F x1).bind fun x29 => ((M_R_GraphOf F x4 x5).bind fun x30 => (if ((x29 : Int) == 0) then ((M_R_GraphArcs F x1).bind fun x409 => ((M_R_GraphTurn F x1).bind fun x412 => ((M_R_GraphBoth F x1).bind fun x415 => M_L_GraphTells_l15 F x1 x9 x12 x16 x20 x24 x29 x30 x409 x412 x415 F (([] : List Int), ([] : List Int), 0)))) else M_L_GraphTells_j5 F x1 x9 x12 x16 x20 x24 x29 x30 ([] : List (Int × Int)) ([] : List Int) ([] : List Int) x29 ([] : List (List Int)) ([] : List (List Int))))))))))
/-! lampwright lampwrightlaw.GraphBack -/
def M_L_GraphBack_j3 (_F : Nat) (x93 : Bool) : Option Bool :=
  some x93
def M_L_GraphBack_j2 (F : Nat) (x1 : List (List Int)) (x86 : List (Int × Int)) : Option Bool :=
  ((M_graph_Of F (x1.length : Int) x86).bind fun x87 => (if ((x87.2 : Int) == 0) then ((M_R_SameGraph F x87.1 x1).bind fun x94 => M_L_GraphBack_j3 F x94) else M_L_GraphBack_j3 F false))
def M_L_GraphBack_b4 (F : Nat) (x1 : List (List Int)) (x4 : Int) (x6 : (List (Int × Int) × Int)) (rec4 : (List (Int × Int) × Int) → Option Bool) (x119 : List (Int × Int)) (x120 : Int) : Option Bool :=
  (if (decide (x120 < (x6.1.length : Int))) then (chk (((x6.1.length : Int) : Int) != 0) ((lett (irem (iadd .i64 x120 (irem (iadd .i64 (irem x4 1000) 1000) 1000)) (x6.1.length : Int)) fun x156 => ((idx x6.1 (isub .i64 (isub .i64 (x6.1.length : Int) 1) x156)).bind fun x157 => ((app 4398046511104 x119 ([(x157.1, x157.2)] : List (Int × Int))).bind fun x162 => rec4 (x162, iadd .i64 x120 1)))))) else M_L_GraphBack_j2 F x1 x119)
def M_L_GraphBack_l4 (F : Nat) (x1 : List (List Int)) (x4 : Int) (x6 : (List (Int × Int) × Int)) : Nat → (List (Int × Int) × Int) → Option Bool
  | 0 => fun _ => none
  | k + 1 => fun s => M_L_GraphBack_b4 F x1 x4 x6 (M_L_GraphBack_l4 F x1 x4 x6 k) s.1 s.2
def M_L_GraphBack (F : Nat) (x1 : List (List Int)) (x4 : Int) : Option Bool :=
  ((M_graph_Arcs F x1).bind fun x6 => ((M_L_graphBegun F).bind fun x11 => (if (!x11) then some false else (if ((x6.2 : Int) != 0) then some (((x6.1.length : Int) : Int) == 0) else M_L_GraphBack_l4 F x1 x4 x6 F (([] : List (Int × Int)), 0)))))
/-! lampwright lampwrightlaw.GraphTurn -/
def M_L_GraphTurn_j6 (_F : Nat) (x97 : Bool) : Option Bool :=
  some x97
def M_L_GraphTurn_j5 (F : Nat) (x5 : (List (List Int) × Int)) (x81 : Int) (x82 : Int) (x93 : Bool) : Option Bool :=
  (if (x93 && ((x81 : Int) == x82)) then ((M_graph_Check F x5.1).bind fun x98 => M_L_GraphTurn_j6 F ((x98 : Int) == 0)) else M_L_GraphTurn_j6 F false)
def M_L_GraphTurn_j4 (F : Nat) (x5 : (List (List Int) × Int)) (x19 : (List Int × List Int × Int)) (x24 : (List Int × List Int × Int)) (x81 : Int) (x82 : Int) (x90 : Bool) : Option Bool :=
  (if x90 then ((M_R_SameInts F x19.2.1 x24.1).bind fun x99 => M_L_GraphTurn_j5 F x5 x81 x82 x99) else M_L_GraphTurn_j5 F x5 x81 x82 false)
def M_L_GraphTurn_j3 (F : Nat) (x5 : (List (List Int) × Int)) (x19 : (List Int × List Int × Int)) (x24 : (List Int × List Int × Int)) (x81 : Int) (x82 : Int) (x85 : Bool) : Option Bool :=
  (if ((x85 && ((x19.2.2 : Int) == 0)) && ((x24.2.2 : Int) == 0)) then ((M_R_SameInts F x19.1 x24.2.1).bind fun x100 => M_L_GraphTurn_j4 F x5 x19 x24 x81 x82 x100) else M_L_GraphTurn_j4 F x5 x19 x24 x81 x82 false)
def M_L_GraphTurn_j2 (F : Nat) (x1 : List (List Int)) (x5 : (List (List Int) × Int)) (x15 : (List (List Int) × Int)) (x19 : (List Int × List Int × Int)) (x24 : (List Int × List Int × Int)) (x81 : Int) (x82 : Int) : Option Bool :=
  (if ((x15.2 : Int) == 0) then ((M_R_SameGraph F x15.1 x1).bind fun x101 => M_L_GraphTurn_j3 F x5 x19 x24 x81 x82 x101) else M_L_GraphTurn_j3 F x5 x19 x24 x81 x82 false)
def M_L_GraphTurn_b7 (F : Nat) (x1 : List (List Int)) (x5 : (List (List Int) × Int)) (x15 : (List (List Int) × Int)) (x19 : (List Int × List Int × Int)) (x24 : (List Int × List Int × Int)) (rec7 : (Int × Int × Int) → Option Bool) (x118 : Int) (x119 : Int) (x120 : Int) : Option Bool :=
  (if ((decide (x120 < (x19.1.length : Int))) && (decide (x120 < (x19.2.1.length : Int)))) then ((idx x19.1 x120).bind fun x147 => ((idx x19.2.1 x120).bind fun x150 => rec7 (iadd .i64 x118 x147, iadd .i64 x119 x150, iadd .i64 x120 1))) else M_L_GraphTurn_j2 F x1 x5 x15 x19 x24 x118 x119)
def M_L_GraphTurn_l7 (F : Nat) (x1 : List (List Int)) (x5 : (List (List Int) × Int)) (x15 : (List (List Int) × Int)) (x19 : (List Int × List Int × Int)) (x24 : (List Int × List Int × Int)) : Nat → (Int × Int × Int) → Option Bool
  | 0 => fun _ => none
  | k + 1 => fun s => M_L_GraphTurn_b7 F x1 x5 x15 x19 x24 (M_L_GraphTurn_l7 F x1 x5 x15 x19 x24 k) s.1 s.2.1 s.2.2
def M_L_GraphTurn (F : Nat) (x1 : List (List Int)) : Option Bool :=
  ((M_graph_Turn F x1).bind fun x5 => ((M_L_graphBegun F).bind fun x11 => (if (!x11) then some false else (if ((x5.2 : Int) != 0) then ((M_R_SameGraph F x5.1 ([] : List (List Int))).bind fun x14 => some x14) else ((M_graph_Turn F x5.1).bind fun x15 => ((M_graph_Degrees F x1).bind fun x19 => ((M_graph_Degrees F x5.1).bind fun x24 => M_L_GraphTurn_l7 F x1 x5 x15 x19 x24 F (0, 0, 0))))))))
/-! lampwright lampwrightlaw.GraphBoth -/
def M_L_GraphBoth_j5 (_F : Nat) (x54 : Bool) : Option Bool :=
  some x54
def M_L_GraphBoth_j4 (F : Nat) (x1 : List (List Int)) (x4 : Int) (x5 : Int) (x8 : (List (List Int) × Int)) (x42 : Bool) : Option Bool :=
  (if x42 then some false else (if ((((decide (x4 < 0)) || (decide ((x1.length : Int) ≤ x4))) || (decide (x5 < 0))) || (decide ((x1.length : Int) ≤ x5))) then some true else ((M_R_Leads F x8.1 x4 x5).bind fun x55 => ((M_R_Leads F x1 x4 x5).bind fun x56 => (if x56 then M_L_GraphBoth_j5 F (x55 == true) else ((M_R_Leads F x1 x5 x4).bind fun x58 => M_L_GraphBoth_j5 F (x55 == x58)))))))
def M_L_GraphBoth_j3 (F : Nat) (x1 : List (List Int)) (x4 : Int) (x5 : Int) (x8 : (List (List Int) × Int)) (x22 : (List (List Int) × Int)) (x39 : Bool) : Option Bool :=
  (if x39 then M_L_GraphBoth_j4 F x1 x4 x5 x8 true else ((M_R_SameGraph F x22.1 x8.1).bind fun x61 => M_L_GraphBoth_j4 F x1 x4 x5 x8 (!x61)))
def M_L_GraphBoth (F : Nat) (x1 : List (List Int)) (x4 : Int) (x5 : Int) : Option Bool :=
  ((M_graph_Both F x1).bind fun x8 => ((M_L_graphBegun F).bind fun x14 => (if (!x14) then some false else (if ((x8.2 : Int) != 0) then ((M_R_SameGraph F x8.1 ([] : List (List Int))).bind fun x17 => some x17) else ((M_graph_Turn F x8.1).bind fun x18 => ((M_graph_Both F x8.1).bind fun x22 => (if (((x18.2 : Int) != 0) || ((x22.2 : Int) != 0)) then M_L_GraphBoth_j3 F x1 x4 x5 x8 x22 true else ((M_R_SameGraph F x18.1 x8.1).bind fun x62 => M_L_GraphBoth_j3 F x1 x4 x5 x8 x22 (!x62)))))))))
/-! lampwright lampwrightlaw.GraphLess -/
def M_L_GraphLess_j1 (_F : Nat) (x75 : Bool) : Option Bool :=
  some x75
def M_L_GraphLess (F : Nat) (x1 : List (List Int)) (x4 : Int) : Option Bool :=
  ((M_graph_Arcs F x1).bind fun x6 => ((M_L_graphBegun F).bind fun x11 => (if (!x11) then some false else (if ((((x6.2 : Int) != 0) || (decide (x4 < 0))) || (decide ((x6.1.length : Int) ≤ x4))) then some (((x6.2 : Int) == 0) || (((x6.1.length : Int) : Int) == 0)) else ((sub x6.1 0 x4).bind fun x37 => ((sub x6.1 (iadd .i64 x4 1) (x6.1.length : Int)).bind fun x42 => ((app 4398046511104 ([] : List (Int × Int)) x37).bind fun x49 => ((app 4398046511104 x49 x42).bind fun x52 => ((M_graph_Of F (x1.length : Int) x52).bind fun x55 => ((M_graph_Arcs F x55.1).bind fun x59 => (if ((x55.2 : Int) == 0) then (if ((x59.2 : Int) == 0) then ((idx x6.1 x4).bind fun x78 => ((idx x6.1 x4).bind fun x82 => ((M_R_SameArcs F x59.1 x52).bind fun x86 => (if x86 then ((M_R_Leads F x55.1 x78.1 x82.2).bind fun x88 => M_L_GraphLess_j1 F (!x88)) else M_L_GraphLess_j1 F false)))) else M_L_GraphLess_j1 F false) else M_L_GraphLess_j1 F false)))))))))))
/-! lampwright lampwrightlaw.GraphMore -/
def M_L_GraphMore_j6 (_F : Nat) (x213 : Bool) : Option Bool :=
  some x213
def M_L_GraphMore_j7 (F : Nat) (x216 : Bool) : Option Bool :=
  M_L_GraphMore_j6 F x216
def M_L_GraphMore_j27 (_F : Nat) : Option Bool :=
  some true
def M_L_GraphMore_j46 (_F : Nat) (rec40 : Int → Option Bool) (x581 : Int) (x733 : Bool) : Option Bool :=
  (if x733 then some false else rec40 (iadd .i64 x581 1))
def M_L_GraphMore_j45 (F : Nat) (rec40 : Int → Option Bool) (x218 : (List Int × List Int × Int)) (x223 : (List Int × List Int × Int)) (x581 : Int) (x713 : Int) (x715 : Int) : Option Bool :=
  ((idx x223.1 x581).bind fun x735 => ((idx x218.1 x581).bind fun x739 => ((idx x223.2.1 x581).bind fun x743 => ((idx x218.2.1 x581).bind fun x747 => (if ((x735 : Int) != (iadd .i64 x739 x713)) then M_L_GraphMore_j46 F rec40 x581 true else M_L_GraphMore_j46 F rec40 x581 ((x743 : Int) != (iadd .i64 x747 x715)))))))
def M_L_GraphMore_j44 (F : Nat) (rec40 : Int → Option Bool) (x5 : Int) (x218 : (List Int × List Int × Int)) (x223 : (List Int × List Int × Int)) (x581 : Int) (x713 : Int) : Option Bool :=
  (if ((x581 : Int) == x5) then M_L_GraphMore_j45 F rec40 x218 x223 x581 x713 1 else M_L_GraphMore_j45 F rec40 x218 x223 x581 x713 0)
def M_L_GraphMore_b40 (F : Nat) (x4 : Int) (x5 : Int) (x218 : (List Int × List Int × Int)) (x223 : (List Int × List Int × Int)) (rec40 : Int → Option Bool) (x581 : Int) : Option Bool :=
  (if (decide (x581 < (x218.1.length : Int))) then (if ((x581 : Int) == x4) then M_L_GraphMore_j44 F rec40 x5 x218 x223 x581 1 else M_L_GraphMore_j44 F rec40 x5 x218 x223 x581 0) else M_L_GraphMore_j27 F)
def M_L_GraphMore_l40 (F : Nat) (x4 : Int) (x5 : Int) (x218 : (List Int × List Int × Int)) (x223 : (List Int × List Int × Int)) : Nat → Int → Option Bool
  | 0 => fun _ => none
  | k + 1 => fun s => M_L_GraphMore_b40 F x4 x5 x218 x223 (M_L_GraphMore_l40 F x4 x5 x218 x223 k) s
def M_L_GraphMore_j1 (F : Nat) (x1 : List (List Int)) (x4 : Int) (x5 : Int) (x8 : (List (Int × Int) × Int)) (x191 : Int) (x194 : List (List Int)) : Option Bool :=
  (if ((x191 : Int) != 0) then (if (((x191 : Int) == 3) || ((x191 : Int) == 2)) then M_L_GraphMore_j6 F true else (if ((x191 : Int) == 6) then ((M_R_HasArc F x8.1 x4 x5).bind fun x217 => M_L_GraphMore_j7 F x217) else M_L_GraphMore_j7 F false)) else ((M_graph_Degrees F x1).bind fun x218 => ((M_graph_Degrees F x194).bind fun x223 => (if (((((x218.2.2 : Int) != 0) || ((x223.2.2 : Int) != 0)) || (((x223.1.length : Int) : Int) != (x218.1.length : Int))) || (((x223.2.1.length : Int) : Int) != (x218.2.1.length : Int))) then some false else M_L_GraphMore_l40 F x4 x5 x218 x223 F 0))))
def M_L_GraphMore (F : Nat) (x1 : List (List Int)) (x4 : Int) (x5 : Int) : Option Bool :=
  ((M_graph_Arcs F x1).bind fun x8 => ((M_L_graphBegun F).bind fun x13 => (if (!x13) then some false else (if ((x8.2 : Int) != 0) then some true else ((app 4398046511104 ([] : List (Int × Int)) x8.1).bind fun x759 => ((app 4398046511104 x759 ([(x4, x5)] : List (Int × Int))).bind fun x764 => ((M_graph_Of F (x1.length : Int) x764).bind fun x767 => M_L_GraphMore_j1 F x1 x4 x5 x8 x767.2 x767.1)))))))
end Go.Proofs.Ytghkjonlhphcjaa
