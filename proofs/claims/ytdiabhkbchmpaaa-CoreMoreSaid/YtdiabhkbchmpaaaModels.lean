/- What each Go function of this seat computes, in plain terms. -/
import Derived.Test.YtdiabhkbchmpaaaSx
namespace Go.Proofs.Ytdiabhkbchmpaaa
open Go SX
/-! lampwright graph.Check -/
def M_graph_Check_j23 (_F : Nat) (x798 : Int) : Option Int :=
  (if (decide (600 < x798)) then some 2 else some 0)
def M_graph_Check_j42 (_F : Nat) (rec38 : (Int × Int) → Option Int) (x1065 : Int) (x1461 : Int) : Option Int :=
  rec38 (x1461, iadd .i64 x1065 1)
def M_graph_Check_j44 (F : Nat) (rec38 : (Int × Int) → Option Int) (x1064 : Int) (x1065 : Int) (x1462 : List Int) : Option Int :=
  M_graph_Check_j42 F rec38 x1065 (iadd .i64 x1064 (x1462.length : Int))
def M_graph_Check_b45 (F : Nat) (rec38 : (Int × Int) → Option Int) (x1 : List (List Int)) (x1064 : Int) (x1065 : Int) (x1462 : List Int) (rec45 : (Int × Int) → Option Int) (x1549 : Int) (x1550 : Int) : Option Int :=
  (if (decide (x1550 < (x1462.length : Int))) then ((idx x1462 x1550).bind fun x1582 => (if ((decide (x1582 < 0)) || (decide ((x1.length : Int) ≤ x1582))) then some 3 else (if (decide (x1582 ≤ x1549)) then some 4 else rec45 (x1582, iadd .i64 x1550 1)))) else M_graph_Check_j44 F rec38 x1064 x1065 x1462)
def M_graph_Check_l45 (F : Nat) (rec38 : (Int × Int) → Option Int) (x1 : List (List Int)) (x1064 : Int) (x1065 : Int) (x1462 : List Int) : Nat → (Int × Int) → Option Int
  | 0 => fun _ => none
  | k + 1 => fun s => M_graph_Check_b45 F rec38 x1 x1064 x1065 x1462 (M_graph_Check_l45 F rec38 x1 x1064 x1065 x1462 k) s.1 s.2
def M_graph_Check_b38 (F : Nat) (x1 : List (List Int)) (rec38 : (Int × Int) → Option Int) (x1064 : Int) (x1065 : Int) : Option Int :=
  (if (decide (x1065 < (x1.length : Int))) then ((idx x1 x1065).bind fun x1462 => M_graph_Check_l45 F rec38 x1 x1064 x1065 x1462 F (-1, 0)) else M_graph_Check_j23 F x1064)
def M_graph_Check_l38 (F : Nat) (x1 : List (List Int)) : Nat → (Int × Int) → Option Int
  | 0 => fun _ => none
  | k + 1 => fun s => M_graph_Check_b38 F x1 (M_graph_Check_l38 F x1 k) s.1 s.2
def M_graph_Check (F : Nat) (x1 : List (List Int)) : Option Int :=
  (if (decide (100 < (x1.length : Int))) then some 2 else M_graph_Check_l38 F x1 F (0, 0))
/-! lampwright graph.All -/
def M_graph_All (_F : Nat) (_x1 : List (List Int)) : Option Unit :=
  some ()
/-! slices.Sort[[]int,int] -/
def M_slices_Sort_int_int (_F : Nat) (x1 : List Int) : Option (List Int) :=
  if x1.length < 4611686018427387904 then some (srt x1) else none
/-! slices.Compact[[]int,int] -/
def M_slices_Compact_int_int (_F : Nat) (x1 : List Int) : Option (List Int) :=
  if (Go.Lib.compact x1).length ≤ x1.length then some (Go.Lib.compact x1) else none
/-! lampwright graph.All$1 -/
def M_graph_All_1_j9 {σ τ : Type} (_F : Nat) (_yy : σ → (Int × Int) → Option (σ ⊕ τ)) (rec7 : (Int × σ) → Option (σ ⊕ τ)) (x121 : Int) (x298 : σ) : Option (σ ⊕ τ) :=
  rec7 (iadd .i64 x121 1, x298)
def M_graph_All_1_b10 {σ τ : Type} (F : Nat) (yy : σ → (Int × Int) → Option (σ ⊕ τ)) (rec7 : (Int × σ) → Option (σ ⊕ τ)) (x121 : Int) (x300 : List Int) (rec10 : (Int × σ) → Option (σ ⊕ τ)) (x320 : Int) (x321 : σ) : Option (σ ⊕ τ) :=
  (if (decide (x320 < (x300.length : Int))) then ((idx x300 x320).bind fun x348 => ((yy x321 (x121, x348)).bind (Sum.elim (fun x351 => rec10 (iadd .i64 x320 1, x351)) (fun x352 => some (.inr x352))))) else M_graph_All_1_j9 F yy rec7 x121 x321)
def M_graph_All_1_l10 {σ τ : Type} (F : Nat) (yy : σ → (Int × Int) → Option (σ ⊕ τ)) (rec7 : (Int × σ) → Option (σ ⊕ τ)) (x121 : Int) (x300 : List Int) : Nat → (Int × σ) → Option (σ ⊕ τ)
  | 0 => fun _ => none
  | k + 1 => fun s => M_graph_All_1_b10 F yy rec7 x121 x300 (M_graph_All_1_l10 F yy rec7 x121 x300 k) s.1 s.2
def M_graph_All_1_b7 {σ τ : Type} (F : Nat) (yy : σ → (Int × Int) → Option (σ ⊕ τ)) (x2 : List (List Int)) (rec7 : (Int × σ) → Option (σ ⊕ τ)) (x121 : Int) (x122 : σ) : Option (σ ⊕ τ) :=
  (if (decide (x121 < (x2.length : Int))) then ((idx x2 x121).bind fun x300 => M_graph_All_1_l10 F yy rec7 x121 x300 F (0, x122)) else some (.inl x122))
def M_graph_All_1_l7 {σ τ : Type} (F : Nat) (yy : σ → (Int × Int) → Option (σ ⊕ τ)) (x2 : List (List Int)) : Nat → (Int × σ) → Option (σ ⊕ τ)
  | 0 => fun _ => none
  | k + 1 => fun s => M_graph_All_1_b7 F yy x2 (M_graph_All_1_l7 F yy x2 k) s.1 s.2
def M_graph_All_1 {σ τ : Type} (F : Nat) (yy : σ → (Int × Int) → Option (σ ⊕ τ)) (x2 : List (List Int)) (s0 : σ) : Option (σ ⊕ τ) :=
  M_graph_All_1_l7 F yy x2 F (0, s0)
/-! lampwright core.near -/
def M_core_near_r2 (_F : Nat) (x340 : List (List Int)) (x422 : Int) (x423 : Int) : Option (List (List Int) ⊕ Empty) :=
  (if ((x422 : Int) != x423) then ((idx x340 x422).bind fun x425 => ((idx x340 x423).bind fun x431 => (chk (decide (x423.toNat ≠ x422.toNat)) (((idx x340 x422).bind fun _x438 => ((idx x340 x423).bind fun _x444 => ((app 8796093022208 x425 ([x423] : List Int)).bind fun x452 => ((app 8796093022208 x431 ([x422] : List Int)).bind fun x457 => (lett (x340.set x422.toNat x452) fun x460 => (lett (x460.set x423.toNat x457) fun x464 => some (.inl x464))))))))))) else some (.inl x340))
def M_core_near_j4 (_F : Nat) (x694 : List (List Int)) : Option (List (List Int)) :=
  some x694
def M_core_near_b5 (F : Nat) (x340 : List (List Int)) (rec5 : (Int × List (List Int)) → Option (List (List Int))) (x757 : Int) (x759 : List (List Int)) : Option (List (List Int)) :=
  (if (decide (x757 < (x340.length : Int))) then ((idx x759 x757).bind fun x854 => ((M_slices_Sort_int_int F x854).bind fun x859 => (chk (decide (x859.length = x854.length)) ((lett (x759.set x757.toNat x859) fun x861 => ((idx x861 x757).bind fun x865 => ((idx x861 x757).bind fun _x871 => ((M_slices_Compact_int_int F x865).bind fun x877 => (lett (x861.set x757.toNat x877) fun x880 => rec5 (iadd .i64 x757 1, x880)))))))))) else M_core_near_j4 F x759)
def M_core_near_l5 (F : Nat) (x340 : List (List Int)) : Nat → (Int × List (List Int)) → Option (List (List Int))
  | 0 => fun _ => none
  | k + 1 => fun s => M_core_near_b5 F x340 (M_core_near_l5 F x340 k) s.1 s.2
def M_core_near (F : Nat) (x1 : List (List Int)) : Option (List (List Int)) :=
  ((mk 4398046511104 (([] : List Int) : List Int) (x1.length : Int)).bind fun x5 => ((M_graph_All F x1).bind fun _x256 => ((M_graph_All_1 F (fun (x340 : List (List Int)) ((x422, x423) : (Int × Int)) => M_core_near_r2 F x340 x422 x423) x1 x5).bind (Sum.elim (fun (x340 : List (List Int)) => M_core_near_l5 F x340 F (0, x340)) (fun t => t.elim)))))
/-! (*lampwright core.peeler).least -/
def M_core_peeler_least_j23 (_F : Nat) (x2 : List (List Int)) (x5 : List Int) (x164 : Int) : Option (Int × List (List Int) × List Int) :=
  some (x164, x2, x5)
def M_core_peeler_least_j42 (_F : Nat) (rec38 : (Int × Int) → Option (Int × List (List Int) × List Int)) (x217 : Int) (x295 : Int) : Option (Int × List (List Int) × List Int) :=
  rec38 (x295, iadd .i64 x217 1)
def M_core_peeler_least_j44 (F : Nat) (rec38 : (Int × Int) → Option (Int × List (List Int) × List Int)) (x216 : Int) (x217 : Int) (x309 : Bool) : Option (Int × List (List Int) × List Int) :=
  (if x309 then M_core_peeler_least_j42 F rec38 x217 x217 else M_core_peeler_least_j42 F rec38 x217 x216)
def M_core_peeler_least_j45 (F : Nat) (rec38 : (Int × Int) → Option (Int × List (List Int) × List Int)) (x216 : Int) (x217 : Int) (_x315 : Bool) (x316 : Bool) : Option (Int × List (List Int) × List Int) :=
  M_core_peeler_least_j44 F rec38 x216 x217 x316
def M_core_peeler_least_b38 (F : Nat) (x2 : List (List Int)) (x5 : List Int) (rec38 : (Int × Int) → Option (Int × List (List Int) × List Int)) (x216 : Int) (x217 : Int) : Option (Int × List (List Int) × List Int) :=
  (if (decide (x217 < (x5.length : Int))) then ((idx x5 x217).bind fun x296 => (if (decide (0 ≤ x296)) then (if (decide (x216 < 0)) then M_core_peeler_least_j45 F rec38 x216 x217 true true else ((idx x5 x216).bind fun x317 => M_core_peeler_least_j45 F rec38 x216 x217 false (decide (x296 < x317)))) else M_core_peeler_least_j44 F rec38 x216 x217 false)) else M_core_peeler_least_j23 F x2 x5 x216)
def M_core_peeler_least_l38 (F : Nat) (x2 : List (List Int)) (x5 : List Int) : Nat → (Int × Int) → Option (Int × List (List Int) × List Int)
  | 0 => fun _ => none
  | k + 1 => fun s => M_core_peeler_least_b38 F x2 x5 (M_core_peeler_least_l38 F x2 x5 k) s.1 s.2
def M_core_peeler_least (F : Nat) (x2 : List (List Int)) (x5 : List Int) : Option (Int × List (List Int) × List Int) :=
  M_core_peeler_least_l38 F x2 x5 F (-1, 0)
/-! (*lampwright core.peeler).drop -/
def M_core_peeler_drop_j4 (_F : Nat) (rec3 : (Int × List Int) → Option (List (List Int) × List Int)) (x55 : Int) (x110 : List Int) : Option (List (List Int) × List Int) :=
  rec3 (iadd .i64 x55 1, x110)
def M_core_peeler_drop_b3 (F : Nat) (x2 : List (List Int)) (x15 : List Int) (rec3 : (Int × List Int) → Option (List (List Int) × List Int)) (x55 : Int) (x56 : List Int) : Option (List (List Int) × List Int) :=
  (if (decide (x55 < (x15.length : Int))) then ((idx x15 x55).bind fun x111 => ((idx x56 x111).bind fun x114 => (if (decide (0 ≤ x114)) then ((idx x56 x111).bind fun x117 => ((idx x56 x111).bind fun _x120 => (lett (x56.set x111.toNat (isub .i64 x117 1)) fun x123 => M_core_peeler_drop_j4 F rec3 x55 x123))) else M_core_peeler_drop_j4 F rec3 x55 x56))) else some (x2, x56))
def M_core_peeler_drop_l3 (F : Nat) (x2 : List (List Int)) (x15 : List Int) : Nat → (Int × List Int) → Option (List (List Int) × List Int)
  | 0 => fun _ => none
  | k + 1 => fun s => M_core_peeler_drop_b3 F x2 x15 (M_core_peeler_drop_l3 F x2 x15 k) s.1 s.2
def M_core_peeler_drop (F : Nat) (x2 : List (List Int)) (x5 : List Int) (x8 : Int) : Option (List (List Int) × List Int) :=
  ((idx x5 x8).bind fun _x9 => (lett (x5.set x8.toNat (-1)) fun x12 => ((idx x2 x8).bind fun x15 => M_core_peeler_drop_l3 F x2 x15 F (0, x12))))
/-! lampwright core.Numbers -/
def M_core_Numbers_j4 (_F : Nat) (x210 : List Int) : Option (List Int × Int) :=
  some (x210, 0)
def M_core_Numbers_b5 (F : Nat) (rec5 : (List Int × Int × Int × List (List Int) × List Int) → Option (List Int × Int)) (x251 : List Int) (x252 : Int) (x253 : Int) (x256 : List (List Int)) (x259 : List Int) : Option (List Int × Int) :=
  (if (decide (0 ≤ x253)) then ((idx x259 x253).bind fun x311 => ((idx x251 x253).bind fun _x314 => (lett (x251.set x253.toNat (imax x252 x311)) fun x317 => ((M_core_peeler_drop F x256 x259 x253).bind fun x320 => ((M_core_peeler_least F x320.1 x320.2).bind fun x325 => rec5 (x317, imax x252 x311, x325.1, x325.2.1, x325.2.2)))))) else M_core_Numbers_j4 F x251)
def M_core_Numbers_l5 (F : Nat) : Nat → (List Int × Int × Int × List (List Int) × List Int) → Option (List Int × Int)
  | 0 => fun _ => none
  | k + 1 => fun s => M_core_Numbers_b5 F (M_core_Numbers_l5 F k) s.1 s.2.1 s.2.2.1 s.2.2.2.1 s.2.2.2.2
def M_core_Numbers_j2 (F : Nat) (x8 : List (List Int)) (x86 : List Int) : Option (List Int × Int) :=
  ((mk 17592186044416 (0 : Int) (x8.length : Int)).bind fun x87 => ((M_core_peeler_least F x8 x86).bind fun x211 => M_core_Numbers_l5 F F (x87, 0, x211.1, x211.2.1, x211.2.2)))
def M_core_Numbers_b6 (F : Nat) (x8 : List (List Int)) (rec6 : (Int × List Int) → Option (List Int × Int)) (x354 : Int) (x357 : List Int) : Option (List Int × Int) :=
  (if (decide (x354 < (x8.length : Int))) then ((idx x8 x354).bind fun x392 => ((app 8796093022208 x357 ([(x392.length : Int)] : List Int)).bind fun x399 => rec6 (iadd .i64 x354 1, x399))) else M_core_Numbers_j2 F x8 x357)
def M_core_Numbers_l6 (F : Nat) (x8 : List (List Int)) : Nat → (Int × List Int) → Option (List Int × Int)
  | 0 => fun _ => none
  | k + 1 => fun s => M_core_Numbers_b6 F x8 (M_core_Numbers_l6 F x8 k) s.1 s.2
def M_core_Numbers (F : Nat) (x1 : List (List Int)) : Option (List Int × Int) :=
  ((M_graph_Check F x1).bind fun x7 => (if ((x7 : Int) != 0) then some (([] : List Int), x7) else ((M_core_near F x1).bind fun x8 => M_core_Numbers_l6 F x8 F (0, ([] : List Int)))))
/-! lampwright core.threes -/
def M_core_threes (_F : Nat) (_x1 : List (List Int)) : Option Unit :=
  some ()
/-! cmp.isNaN[int] -/
def M_cmp_isNaN_int (_F : Nat) (x1 : Int) : Option Bool :=
  some ((x1 : Int) != x1)
/-! cmp.Less[int] -/
def M_cmp_Less_int_j1 (_F : Nat) (x1 : Int) (x2 : Int) (x6 : Bool) : Option Bool :=
  some (x6 || (decide (x1 < x2)))
def M_cmp_Less_int (F : Nat) (x1 : Int) (x2 : Int) : Option Bool :=
  ((M_cmp_isNaN_int F x1).bind fun x3 => (if x3 then ((M_cmp_isNaN_int F x2).bind fun x8 => M_cmp_Less_int_j1 F x1 x2 (!x8)) else M_cmp_Less_int_j1 F x1 x2 false))
/-! slices.isNaN[int] -/
def M_slices_isNaN_int (_F : Nat) (x1 : Int) : Option Bool :=
  some ((x1 : Int) != x1)
/-! slices.BinarySearch[[]int,int] -/
def M_slices_BinarySearch_int_int_j6 (_F : Nat) (x32 : Int) (x55 : Bool) : Option (Int × Bool) :=
  some (x32, x55)
def M_slices_BinarySearch_int_int_j8 (F : Nat) (x32 : Int) (x68 : Bool) : Option (Int × Bool) :=
  M_slices_BinarySearch_int_int_j6 F x32 x68
def M_slices_BinarySearch_int_int_j9 (F : Nat) (x32 : Int) (x75 : Bool) : Option (Int × Bool) :=
  M_slices_BinarySearch_int_int_j8 F x32 x75
def M_slices_BinarySearch_int_int_j2 (F : Nat) (x1 : List Int) (x4 : Int) (x32 : Int) : Option (Int × Bool) :=
  (if (decide (x32 < (x1.length : Int))) then ((idx x1 x32).bind fun x56 => (if ((x56 : Int) == x4) then M_slices_BinarySearch_int_int_j8 F x32 true else ((idx x1 x32).bind fun x69 => ((M_slices_isNaN_int F x69).bind fun x72 => (if x72 then ((M_slices_isNaN_int F x4).bind fun x76 => M_slices_BinarySearch_int_int_j9 F x32 x76) else M_slices_BinarySearch_int_int_j9 F x32 false))))) else M_slices_BinarySearch_int_int_j6 F x32 false)
def M_slices_BinarySearch_int_int_b10 (F : Nat) (x1 : List Int) (x4 : Int) (rec10 : (Int × Int) → Option (Int × Bool)) (x85 : Int) (x86 : Int) : Option (Int × Bool) :=
  (if (decide (x85 < x86)) then (lett (iconv .i64 (ishr .u64 (iconv .u64 (iadd .i64 x85 x86)) 1)) fun x97 => ((idx x1 x97).bind fun x98 => ((M_cmp_Less_int F x98 x4).bind fun x101 => (if x101 then rec10 (iadd .i64 x97 1, x86) else rec10 (x85, x97))))) else M_slices_BinarySearch_int_int_j2 F x1 x4 x85)
def M_slices_BinarySearch_int_int_l10 (F : Nat) (x1 : List Int) (x4 : Int) : Nat → (Int × Int) → Option (Int × Bool)
  | 0 => fun _ => none
  | k + 1 => fun s => M_slices_BinarySearch_int_int_b10 F x1 x4 (M_slices_BinarySearch_int_int_l10 F x1 x4 k) s.1 s.2
def M_slices_BinarySearch_int_int (F : Nat) (x1 : List Int) (x4 : Int) : Option (Int × Bool) :=
  M_slices_BinarySearch_int_int_l10 F x1 x4 F (0, (x1.length : Int))
/-! lampwright core.threes$1 -/
def M_core_threes_1_j144 {σ τ : Type} (_F : Nat) (_yy : σ → List Int → Option (σ ⊕ τ)) (rec115 : (Int × σ) → Option (σ ⊕ τ)) (x1609 : Int) (x4018 : σ) : Option (σ ⊕ τ) :=
  rec115 (iadd .i64 x1609 1, x4018)
def M_core_threes_1_j168 {σ τ : Type} (_F : Nat) (_yy : σ → List Int → Option (σ ⊕ τ)) (rec163 : (Int × σ) → Option (σ ⊕ τ)) (x4288 : Int) (x4687 : σ) : Option (σ ⊕ τ) :=
  rec163 (iadd .i64 x4288 1, x4687)
def M_core_threes_1_j172 {σ τ : Type} (_F : Nat) (_yy : σ → List Int → Option (σ ⊕ τ)) (rec171 : (Int × σ) → Option (σ ⊕ τ)) (x4735 : Int) (x4798 : σ) : Option (σ ⊕ τ) :=
  rec171 (iadd .i64 x4735 1, x4798)
def M_core_threes_1_b171 {σ τ : Type} (F : Nat) (yy : σ → List Int → Option (σ ⊕ τ)) (rec163 : (Int × σ) → Option (σ ⊕ τ)) (x2 : List (List Int)) (x1609 : Int) (x4288 : Int) (x4689 : Int) (x4692 : List Int) (rec171 : (Int × σ) → Option (σ ⊕ τ)) (x4735 : Int) (x4736 : σ) : Option (σ ⊕ τ) :=
  (if (decide (x4735 < (x4692.length : Int))) then ((idx x4692 x4735).bind fun x4800 => ((idx x2 x4689).bind fun x4803 => ((M_slices_BinarySearch_int_int F x4803 x4800).bind fun x4807 => (if (x4807.2 && (decide (x1609 < x4689))) then ((yy x4736 ([x1609, x4689, x4800] : List Int)).bind (Sum.elim (fun x4814 => M_core_threes_1_j172 F yy rec171 x4735 x4814) (fun x4815 => some (.inr x4815)))) else M_core_threes_1_j172 F yy rec171 x4735 x4736)))) else M_core_threes_1_j168 F yy rec163 x4288 x4736)
def M_core_threes_1_l171 {σ τ : Type} (F : Nat) (yy : σ → List Int → Option (σ ⊕ τ)) (rec163 : (Int × σ) → Option (σ ⊕ τ)) (x2 : List (List Int)) (x1609 : Int) (x4288 : Int) (x4689 : Int) (x4692 : List Int) : Nat → (Int × σ) → Option (σ ⊕ τ)
  | 0 => fun _ => none
  | k + 1 => fun s => M_core_threes_1_b171 F yy rec163 x2 x1609 x4288 x4689 x4692 (M_core_threes_1_l171 F yy rec163 x2 x1609 x4288 x4689 x4692 k) s.1 s.2
def M_core_threes_1_b163 {σ τ : Type} (F : Nat) (yy : σ → List Int → Option (σ ⊕ τ)) (rec115 : (Int × σ) → Option (σ ⊕ τ)) (x2 : List (List Int)) (x1609 : Int) (x4020 : List Int) (rec163 : (Int × σ) → Option (σ ⊕ τ)) (x4288 : Int) (x4289 : σ) : Option (σ ⊕ τ) :=
  (if (decide (x4288 < (x4020.length : Int))) then ((idx x4020 x4288).bind fun x4689 => ((sub x4020 (iadd .i64 x4288 1) (x4020.length : Int)).bind fun x4692 => M_core_threes_1_l171 F yy rec163 x2 x1609 x4288 x4689 x4692 F (0, x4289))) else M_core_threes_1_j144 F yy rec115 x1609 x4289)
def M_core_threes_1_l163 {σ τ : Type} (F : Nat) (yy : σ → List Int → Option (σ ⊕ τ)) (rec115 : (Int × σ) → Option (σ ⊕ τ)) (x2 : List (List Int)) (x1609 : Int) (x4020 : List Int) : Nat → (Int × σ) → Option (σ ⊕ τ)
  | 0 => fun _ => none
  | k + 1 => fun s => M_core_threes_1_b163 F yy rec115 x2 x1609 x4020 (M_core_threes_1_l163 F yy rec115 x2 x1609 x4020 k) s.1 s.2
def M_core_threes_1_b115 {σ τ : Type} (F : Nat) (yy : σ → List Int → Option (σ ⊕ τ)) (x2 : List (List Int)) (rec115 : (Int × σ) → Option (σ ⊕ τ)) (x1609 : Int) (x1610 : σ) : Option (σ ⊕ τ) :=
  (if (decide (x1609 < (x2.length : Int))) then ((idx x2 x1609).bind fun x4020 => M_core_threes_1_l163 F yy rec115 x2 x1609 x4020 F (0, x1610)) else some (.inl x1610))
def M_core_threes_1_l115 {σ τ : Type} (F : Nat) (yy : σ → List Int → Option (σ ⊕ τ)) (x2 : List (List Int)) : Nat → (Int × σ) → Option (σ ⊕ τ)
  | 0 => fun _ => none
  | k + 1 => fun s => M_core_threes_1_b115 F yy x2 (M_core_threes_1_l115 F yy x2 k) s.1 s.2
def M_core_threes_1 {σ τ : Type} (F : Nat) (yy : σ → List Int → Option (σ ⊕ τ)) (x2 : List (List Int)) (s0 : σ) : Option (σ ⊕ τ) :=
  M_core_threes_1_l115 F yy x2 F (0, s0)
/-! lampwright core.Threes -/
def M_core_Threes_b8 (_F : Nat) (x341 : Int) (x422 : List Int) (rec8 : (Int × List Int) → Option ((Int × List Int) ⊕ Empty)) (x450 : Int) (x451 : List Int) : Option ((Int × List Int) ⊕ Empty) :=
  (if (decide (x450 < 3)) then (chk (decide (x422.length = 3)) (((idx x422 x450).bind fun x490 => ((idx x451 x490).bind fun x491 => ((idx x451 x490).bind fun _x494 => (lett (x451.set x490.toNat (iadd .i64 x491 1)) fun x497 => rec8 (iadd .i64 x450 1, x497))))))) else some (.inl (iadd .i64 x341 1, x451)))
def M_core_Threes_l8 (F : Nat) (x341 : Int) (x422 : List Int) : Nat → (Int × List Int) → Option ((Int × List Int) ⊕ Empty)
  | 0 => fun _ => none
  | k + 1 => fun s => M_core_Threes_b8 F x341 x422 (M_core_Threes_l8 F x341 x422 k) s.1 s.2
def M_core_Threes_r5 (F : Nat) (x341 : Int) (x342 : List Int) (x422 : List Int) : Option ((Int × List Int) ⊕ Empty) :=
  (chk (decide (x422.length = 3)) ((chk (decide (x422.length = 3)) (M_core_Threes_l8 F x341 x422 F (0, x342)))))
def M_core_Threes (F : Nat) (x1 : List (List Int)) : Option (List Int × Int × Int) :=
  ((M_graph_Check F x1).bind fun x9 => (if ((x9 : Int) != 0) then some (([] : List Int), 0, x9) else ((mk 17592186044416 (0 : Int) (x1.length : Int)).bind fun x10 => ((M_core_near F x1).bind fun x257 => ((M_core_threes F x257).bind fun _x260 => ((M_core_threes_1 F (fun ((x341, x342) : (Int × List Int)) (x422 : List Int) => M_core_Threes_r5 F x341 x342 x422) x257 (0, x10)).bind (Sum.elim (fun ((x341, x342) : (Int × List Int)) => some (x342, x341, 0)) (fun t => t.elim))))))))
/-! math bits.Mul32 -/
def M_math_bits_Mul32 (_F : Nat) (x1 : Int) (x2 : Int) : Option (Int × Int) :=
  (lett (imul .u64 (iconv .u64 x1) (iconv .u64 x2)) fun x3 => some (iconv .u32 (ishr .u64 x3 32), iconv .u32 x3))
/-! math bits.Mul64 -/
def M_math_bits_Mul64 (_F : Nat) (x1 : Int) (x2 : Int) : Option (Int × Int) :=
  (lett (imul .u64 (iand .u64 x1 4294967295) (iand .u64 x2 4294967295)) fun x3 => (lett (iadd .u64 (imul .u64 (ishr .u64 x1 32) (iand .u64 x2 4294967295)) (ishr .u64 x3 32)) fun x4 => (lett (iadd .u64 (iand .u64 x4 4294967295) (imul .u64 (iand .u64 x1 4294967295) (ishr .u64 x2 32))) fun x5 => (lett (iadd .u64 (iadd .u64 (imul .u64 (ishr .u64 x1 32) (ishr .u64 x2 32)) (ishr .u64 x4 32)) (ishr .u64 x5 32)) fun x6 => some (x6, imul .u64 x1 x2)))))
/-! math bits.Mul -/
def M_math_bits_Mul (F : Nat) (x1 : Int) (x2 : Int) : Option (Int × Int) :=
  ((M_math_bits_Mul64 F x1 x2).bind fun x3 => some (x3.1, x3.2))
/-! slices.Repeat[[]int,int] -/
def M_slices_Repeat_int_int_j2 (_F : Nat) (x64 : List Int) : Option (List Int) :=
  some x64
def M_slices_Repeat_int_int_b3 (F : Nat) (rec3 : (List Int × Int) → Option (List Int)) (x80 : List Int) (x81 : Int) : Option (List Int) :=
  (if (decide (x81 < (x80.length : Int))) then ((sub x80 x81 (x80.length : Int)).bind fun x99 => ((sub x80 0 x81).bind fun x104 => (lett (overlay x81.toNat x80 x104) fun x109 => rec3 (x109, iadd .i64 x81 ((min x104.length x99.length : Nat) : Int))))) else M_slices_Repeat_int_int_j2 F x80)
def M_slices_Repeat_int_int_l3 (F : Nat) : Nat → (List Int × Int) → Option (List Int)
  | 0 => fun _ => none
  | k + 1 => fun s => M_slices_Repeat_int_int_b3 F (M_slices_Repeat_int_int_l3 F k) s.1 s.2
def M_slices_Repeat_int_int (F : Nat) (x1 : List Int) (x4 : Int) : Option (List Int) :=
  (if (decide (x4 < 0)) then none else ((M_math_bits_Mul F (iconv .u64 (x1.length : Int)) (iconv .u64 x4)).bind fun x6 => (if ((decide (0 < x6.1)) || (decide (9223372036854775807 < x6.2))) then none else ((mk 17592186044416 (0 : Int) (iconv .i64 x6.2)).bind fun x10 => (lett (overlay 0 x10 x1) fun x13 => M_slices_Repeat_int_int_l3 F F (x13, ((min x1.length x10.length : Nat) : Int)))))))
/-! lampwright core.Pairs$1 -/
def M_core_Pairs_1_j1 (_F : Nat) (x12 : Bool) : Option Bool :=
  some x12
def M_core_Pairs_1 (F : Nat) (x1 : Int) (x3 : Int) (x5 : List Int) : Option Bool :=
  (if (decide (x3 < x1)) then ((idx x5 x1).bind fun x13 => M_core_Pairs_1_j1 F (decide (x13 < 0))) else M_core_Pairs_1_j1 F false)
/-! slices.IndexFunc[[]int,int] -/
def M_slices_IndexFunc_int_int_core_Pairs_1_j2 (_F : Nat) : Option Int :=
  some (-1)
def M_slices_IndexFunc_int_int_core_Pairs_1_b3 (F : Nat) (x1 : List Int) (x5 : Int) (x7 : List Int) (rec3 : Int → Option Int) (x60 : Int) : Option Int :=
  (if (decide (x60 < (x1.length : Int))) then ((idx x1 x60).bind fun x80 => ((M_core_Pairs_1 F x80 x5 x7).bind fun x83 => (if x83 then some x60 else rec3 (iadd .i64 x60 1)))) else M_slices_IndexFunc_int_int_core_Pairs_1_j2 F)
def M_slices_IndexFunc_int_int_core_Pairs_1_l3 (F : Nat) (x1 : List Int) (x5 : Int) (x7 : List Int) : Nat → Int → Option Int
  | 0 => fun _ => none
  | k + 1 => fun s => M_slices_IndexFunc_int_int_core_Pairs_1_b3 F x1 x5 x7 (M_slices_IndexFunc_int_int_core_Pairs_1_l3 F x1 x5 x7 k) s
def M_slices_IndexFunc_int_int_core_Pairs_1 (F : Nat) (x1 : List Int) (x5 : Int) (x7 : List Int) : Option Int :=
  M_slices_IndexFunc_int_int_core_Pairs_1_l3 F x1 x5 x7 F 0
/-! lampwright core.Pairs -/
def M_core_Pairs_j5 (_F : Nat) (x233 : List Int) : Option (List Int × Int) :=
  some (x233, 0)
def M_core_Pairs_j9 (_F : Nat) (rec8 : (Int × List Int) → Option (List Int × Int)) (x308 : Int) (x417 : List Int) : Option (List Int × Int) :=
  rec8 (iadd .i64 x308 1, x417)
def M_core_Pairs_b8 (F : Nat) (x234 : List (List Int)) (rec8 : (Int × List Int) → Option (List Int × Int)) (x308 : Int) (x309 : List Int) : Option (List Int × Int) :=
  (if (decide (x308 < (x234.length : Int))) then ((idx x234 x308).bind fun x418 => ((M_slices_IndexFunc_int_int_core_Pairs_1 F x418 x308 x309).bind fun x424 => ((idx x309 x308).bind fun x425 => (if ((decide (x425 < 0)) && (decide (0 ≤ x424))) then ((idx x418 x424).bind fun x429 => ((idx x418 x424).bind fun x433 => ((idx x309 x308).bind fun _x437 => ((idx x309 x429).bind fun _x441 => (lett (x309.set x308.toNat x433) fun x445 => (lett (x445.set x429.toNat x308) fun x448 => M_core_Pairs_j9 F rec8 x308 x448)))))) else M_core_Pairs_j9 F rec8 x308 x309)))) else M_core_Pairs_j5 F x309)
def M_core_Pairs_l8 (F : Nat) (x234 : List (List Int)) : Nat → (Int × List Int) → Option (List Int × Int)
  | 0 => fun _ => none
  | k + 1 => fun s => M_core_Pairs_b8 F x234 (M_core_Pairs_l8 F x234 k) s.1 s.2
def M_core_Pairs (F : Nat) (x1 : List (List Int)) : Option (List Int × Int) :=
  ((M_graph_Check F x1).bind fun x7 => (if ((x7 : Int) != 0) then some (([] : List Int), x7) else ((M_slices_Repeat_int_int F ([-1] : List Int) (x1.length : Int)).bind fun x10 => ((M_core_near F x1).bind fun x234 => M_core_Pairs_l8 F x234 F (0, x10)))))
/-! lampwright lampwrightref.SameInts -/
def M_R_SameInts_j2 (_F : Nat) : Option Bool :=
  some true
def M_R_SameInts_b3 (F : Nat) (x1 : List Int) (x4 : List Int) (rec3 : Int → Option Bool) (x154 : Int) : Option Bool :=
  (if (decide (x154 < (x1.length : Int))) then ((idx x1 x154).bind fun x218 => ((idx x4 x154).bind fun x222 => (if ((x218 : Int) != x222) then some false else rec3 (iadd .i64 x154 1)))) else M_R_SameInts_j2 F)
def M_R_SameInts_l3 (F : Nat) (x1 : List Int) (x4 : List Int) : Nat → Int → Option Bool
  | 0 => fun _ => none
  | k + 1 => fun s => M_R_SameInts_b3 F x1 x4 (M_R_SameInts_l3 F x1 x4 k) s
def M_R_SameInts (F : Nat) (x1 : List Int) (x4 : List Int) : Option Bool :=
  (if (((x1.length : Int) : Int) != (x4.length : Int)) then some false else M_R_SameInts_l3 F x1 x4 F 0)
/-! lampwright lampwrightlaw.coreBegun -/
def M_L_coreBegun_j2 (_F : Nat) (x18 : (List Int × Int)) (x36 : Bool) : Option Bool :=
  some (x36 && ((x18.2 : Int) == 0))
def M_L_coreBegun_j1 (F : Nat) (x15 : (List Int × Int × Int)) (x18 : (List Int × Int)) (x29 : Bool) : Option Bool :=
  (if ((x29 && ((x15.2.1 : Int) == 1)) && ((x15.2.2 : Int) == 0)) then ((M_R_SameInts F x18.1 ([1, 0, 3, 2, -1] : List Int)).bind fun x40 => M_L_coreBegun_j2 F x18 x40) else M_L_coreBegun_j2 F x18 false)
def M_L_coreBegun (F : Nat)  : Option Bool :=
  ((M_core_Numbers F ([([0, 1, 2] : List Int), ([2] : List Int), ([0] : List Int), ([2] : List Int), ([] : List Int)] : List (List Int))).bind fun x12 => ((M_core_Threes F ([([0, 1, 2] : List Int), ([2] : List Int), ([0] : List Int), ([2] : List Int), ([] : List Int)] : List (List Int))).bind fun x15 => ((M_core_Pairs F ([([0, 1, 2] : List Int), ([2] : List Int), ([0] : List Int), ([2] : List Int), ([] : List Int)] : List (List Int))).bind fun x18 => ((M_R_SameInts F x12.1 ([2, 2, 2, 1, 0] : List Int)).bind fun x23 => (if (x23 && ((x12.2 : Int) == 0)) then ((M_R_SameInts F x15.1 ([1, 1, 1, 0, 0] : List Int)).bind fun x43 => M_L_coreBegun_j1 F x15 x18 x43) else M_L_coreBegun_j1 F x15 x18 false)))))
/-! slices.AppendSeq[[]lampwright api.Arc,lampwright api.Arc] -/
def M_slices_AppendSeq_api_Arc_api_Arc_graph_All_1_r2 (_F : Nat) (x46 : List (Int × Int)) (x55 : Int) (x56 : Int) : Option (List (Int × Int) ⊕ Empty) :=
  ((app 4398046511104 x46 ([(x55, x56)] : List (Int × Int))).bind fun x60 => some (.inl x60))
def M_slices_AppendSeq_api_Arc_api_Arc_graph_All_1 (F : Nat) (x1 : List (Int × Int)) (x5 : List (List Int)) : Option (List (Int × Int)) :=
  ((M_graph_All_1 F (fun (x46 : List (Int × Int)) ((x55, x56) : (Int × Int)) => M_slices_AppendSeq_api_Arc_api_Arc_graph_All_1_r2 F x46 x55 x56) x5 x1).bind (Sum.elim (fun (x46 : List (Int × Int)) => some x46) (fun t => t.elim)))
/-! slices.Collect[lampwright api.Arc] -/
def M_slices_Collect_api_Arc_graph_All_1 (F : Nat) (x2 : List (List Int)) : Option (List (Int × Int)) :=
  ((M_slices_AppendSeq_api_Arc_api_Arc_graph_All_1 F ([] : List (Int × Int)) x2).bind fun x5 => some x5)
/-! lampwright graph.Arcs -/
def M_graph_Arcs (F : Nat) (x1 : List (List Int)) : Option (List (Int × Int) × Int) :=
  ((M_graph_Check F x1).bind fun x7 => (if ((x7 : Int) != 0) then some (([] : List (Int × Int)), x7) else ((M_graph_All F x1).bind fun _x8 => ((M_slices_Collect_api_Arc_graph_All_1 F x1).bind fun x10 => some (x10, 0)))))
/-! lampwright graph.Built -/
def M_graph_Built_j2 (_F : Nat) (x171 : List (List Int)) : Option (List (List Int)) :=
  some x171
def M_graph_Built_b3 (F : Nat) (x2 : List (Int × Int)) (rec3 : (Int × List (List Int)) → Option (List (List Int))) (x224 : Int) (x226 : List (List Int)) : Option (List (List Int)) :=
  (if (decide (x224 < (x2.length : Int))) then ((idx x2 x224).bind fun x306 => ((idx x226 x306.1).bind fun x310 => ((idx x226 x306.1).bind fun _x316 => ((app 8796093022208 x310 ([x306.2] : List Int)).bind fun x324 => (lett (x226.set x306.1.toNat x324) fun x327 => rec3 (iadd .i64 x224 1, x327)))))) else M_graph_Built_j2 F x226)
def M_graph_Built_l3 (F : Nat) (x2 : List (Int × Int)) : Nat → (Int × List (List Int)) → Option (List (List Int))
  | 0 => fun _ => none
  | k + 1 => fun s => M_graph_Built_b3 F x2 (M_graph_Built_l3 F x2 k) s.1 s.2
def M_graph_Built (F : Nat) (x1 : Int) (x2 : List (Int × Int)) : Option (List (List Int)) :=
  ((mk 4398046511104 (([] : List Int) : List Int) x1).bind fun x6 => M_graph_Built_l3 F x2 F (0, x6))
/-! slices.Values[[]lampwright api.Arc,lampwright api.Arc] -/
def M_slices_Values_api_Arc_api_Arc (_F : Nat) (_x1 : List (Int × Int)) : Option Unit :=
  some ()
/-! cmp.Or[int] -/
def M_cmp_Or_int_j2 (_F : Nat) : Option Int :=
  some 0
def M_cmp_Or_int_b3 (F : Nat) (x1 : List Int) (rec3 : Int → Option Int) (x46 : Int) : Option Int :=
  (if (decide (x46 < (x1.length : Int))) then ((idx x1 x46).bind fun x63 => (if ((x63 : Int) != 0) then some x63 else rec3 (iadd .i64 x46 1))) else M_cmp_Or_int_j2 F)
def M_cmp_Or_int_l3 (F : Nat) (x1 : List Int) : Nat → Int → Option Int
  | 0 => fun _ => none
  | k + 1 => fun s => M_cmp_Or_int_b3 F x1 (M_cmp_Or_int_l3 F x1 k) s
def M_cmp_Or_int (F : Nat) (x1 : List Int) : Option Int :=
  M_cmp_Or_int_l3 F x1 F 0
/-! cmp.Compare[int] -/
def M_cmp_Compare_int (F : Nat) (x1 : Int) (x2 : Int) : Option Int :=
  ((M_cmp_isNaN_int F x1).bind fun x3 => ((M_cmp_isNaN_int F x2).bind fun x4 => (if x3 then (if x4 then some 0 else some (-1)) else (if x4 then some 1 else (if (decide (x1 < x2)) then some (-1) else (if (decide (x2 < x1)) then some 1 else some 0))))))
/-! lampwright graph.order -/
def M_graph_order (F : Nat) (x1 : Int) (x2 : Int) (x3 : Int) (x4 : Int) : Option Int :=
  ((M_cmp_Compare_int F x1 x3).bind fun x12 => ((M_cmp_Compare_int F x2 x4).bind fun x13 => ((M_cmp_Or_int F ([x12, x13] : List Int)).bind fun x16 => some x16)))
/-! slices.Values[[]lampwright api.Arc,lampwright api.Arc]$1 -/
def M_slices_Values_api_Arc_api_Arc_1_b1 {σ τ : Type} (_F : Nat) (yy : σ → (Int × Int) → Option (σ ⊕ τ)) (x2 : List (Int × Int)) (rec1 : (Int × σ) → Option (σ ⊕ τ)) (x23 : Int) (x24 : σ) : Option (σ ⊕ τ) :=
  (if (decide (x23 < (x2.length : Int))) then ((idx x2 x23).bind fun x54 => ((yy x24 (x54.1, x54.2)).bind (Sum.elim (fun x58 => rec1 (iadd .i64 x23 1, x58)) (fun x59 => some (.inr x59))))) else some (.inl x24))
def M_slices_Values_api_Arc_api_Arc_1_l1 {σ τ : Type} (F : Nat) (yy : σ → (Int × Int) → Option (σ ⊕ τ)) (x2 : List (Int × Int)) : Nat → (Int × σ) → Option (σ ⊕ τ)
  | 0 => fun _ => none
  | k + 1 => fun s => M_slices_Values_api_Arc_api_Arc_1_b1 F yy x2 (M_slices_Values_api_Arc_api_Arc_1_l1 F yy x2 k) s.1 s.2
def M_slices_Values_api_Arc_api_Arc_1 {σ τ : Type} (F : Nat) (yy : σ → (Int × Int) → Option (σ ⊕ τ)) (x2 : List (Int × Int)) (s0 : σ) : Option (σ ⊕ τ) :=
  M_slices_Values_api_Arc_api_Arc_1_l1 F yy x2 F (0, s0)
/-! slices.AppendSeq[[]lampwright api.Arc,lampwright api.Arc] -/
def M_slices_AppendSeq_api_Arc_api_Arc_slices_Values_api_Arc_api_Arc_1_r2 (_F : Nat) (x46 : List (Int × Int)) (x55 : Int) (x56 : Int) : Option (List (Int × Int) ⊕ Empty) :=
  ((app 4398046511104 x46 ([(x55, x56)] : List (Int × Int))).bind fun x60 => some (.inl x60))
def M_slices_AppendSeq_api_Arc_api_Arc_slices_Values_api_Arc_api_Arc_1 (F : Nat) (x1 : List (Int × Int)) (x5 : List (Int × Int)) : Option (List (Int × Int)) :=
  ((M_slices_Values_api_Arc_api_Arc_1 F (fun (x46 : List (Int × Int)) ((x55, x56) : (Int × Int)) => M_slices_AppendSeq_api_Arc_api_Arc_slices_Values_api_Arc_api_Arc_1_r2 F x46 x55 x56) x5 x1).bind (Sum.elim (fun (x46 : List (Int × Int)) => some x46) (fun t => t.elim)))
/-! slices.Collect[lampwright api.Arc] -/
def M_slices_Collect_api_Arc_slices_Values_api_Arc_api_Arc_1 (F : Nat) (x2 : List (Int × Int)) : Option (List (Int × Int)) :=
  ((M_slices_AppendSeq_api_Arc_api_Arc_slices_Values_api_Arc_api_Arc_1 F ([] : List (Int × Int)) x2).bind fun x5 => some x5)
/-! slices.SortFunc[[]lampwright api.Arc,lampwright api.Arc] -/
def M_slices_SortFunc_api_Arc_api_Arc_graph_order (F : Nat) (x1 : List (Int × Int)) : Option (List (Int × Int)) :=
  sortF (fun a b => M_graph_order F a.1 a.2 b.1 b.2) x1
/-! slices.SortedFunc[lampwright api.Arc] -/
def M_slices_SortedFunc_api_Arc_slices_Values_api_Arc_api_Arc_1_graph_order (F : Nat) (x2 : List (Int × Int)) : Option (List (Int × Int)) :=
  ((M_slices_Collect_api_Arc_slices_Values_api_Arc_api_Arc_1 F x2).bind fun x5 => ((M_slices_SortFunc_api_Arc_api_Arc_graph_order F x5).bind fun x8 => (chk (decide (x8.length = x5.length)) (some x8))))
/-! lampwright graph.Of -/
def M_graph_Of_j2 (F : Nat) (x1 : Int) (x2 : List (Int × Int)) : Option (List (List Int) × Int) :=
  ((M_slices_Values_api_Arc_api_Arc F x2).bind fun _x122 => ((M_slices_SortedFunc_api_Arc_slices_Values_api_Arc_api_Arc_1_graph_order F x2).bind fun x124 => ((M_graph_Built F x1 x124).bind fun x127 => some (x127, 0))))
def M_graph_Of_b3 (F : Nat) (x1 : Int) (x2 : List (Int × Int)) (rec3 : (Int × List (Int × Int)) → Option (List (List Int) × Int)) (x166 : Int) (x167 : List (Int × Int)) : Option (List (List Int) × Int) :=
  (if (decide (x166 < (x2.length : Int))) then ((idx x2 x166).bind fun x223 => (if ((((decide (x223.1 < 0)) || (decide (x1 ≤ x223.1))) || (decide (x223.2 < 0))) || (decide (x1 ≤ x223.2))) then some (([] : List (List Int)), 3) else (if (decide (((x223.1, x223.2) : Int × Int) ∈ x167)) then some (([] : List (List Int)), 6) else ((sins x167 (x223.1, x223.2)).bind fun x237 => rec3 (iadd .i64 x166 1, x237))))) else M_graph_Of_j2 F x1 x2)
def M_graph_Of_l3 (F : Nat) (x1 : Int) (x2 : List (Int × Int)) : Nat → (Int × List (Int × Int)) → Option (List (List Int) × Int)
  | 0 => fun _ => none
  | k + 1 => fun s => M_graph_Of_b3 F x1 x2 (M_graph_Of_l3 F x1 x2 k) s.1 s.2
def M_graph_Of (F : Nat) (x1 : Int) (x2 : List (Int × Int)) : Option (List (List Int) × Int) :=
  (if ((decide (x1 < 0)) || (decide (100 < x1))) then some (([] : List (List Int)), 3) else (if (decide (600 < (x2.length : Int))) then some (([] : List (List Int)), 2) else M_graph_Of_l3 F x1 x2 F (0, ([] : List (Int × Int)))))
/-! lampwright graph.turned -/
def M_graph_turned_r2 (_F : Nat) (x47 : List (Int × Int)) (x56 : Int) (x57 : Int) : Option (List (Int × Int) ⊕ Empty) :=
  ((app 4398046511104 x47 ([(x57, x56)] : List (Int × Int))).bind fun x61 => some (.inl x61))
def M_graph_turned (F : Nat) (x1 : List (List Int)) : Option (List (Int × Int)) :=
  ((M_graph_All F x1).bind fun _x35 => ((M_graph_All_1 F (fun (x47 : List (Int × Int)) ((x56, x57) : (Int × Int)) => M_graph_turned_r2 F x47 x56 x57) x1 ([] : List (Int × Int))).bind (Sum.elim (fun (x47 : List (Int × Int)) => some x47) (fun t => t.elim))))
/-! slices.Compact[[]lampwright api.Arc,lampwright api.Arc] -/
def M_slices_Compact_api_Arc_api_Arc_j59 (_F : Nat) (x1 : List (Int × Int)) : Option (List (Int × Int)) :=
  some x1
def M_slices_Compact_api_Arc_api_Arc_j108 (_F : Nat) (rec98 : Int → Option (List (Int × Int))) (x1975 : Int) : Option (List (Int × Int)) :=
  rec98 (iadd .i64 x1975 1)
def M_slices_Compact_api_Arc_api_Arc_j113 (_F : Nat) (x2842 : List (Int × Int)) (x2843 : Int) : Option (List (Int × Int)) :=
  (chk (decide (0 ≤ x2843 ∧ x2843 < (x2842.length : Int))) ((lett (x2842.take x2843.toNat ++ List.replicate (x2842.length - x2843.toNat) ((0 : Int), (0 : Int))) fun x2847 => ((sub x2847 0 x2843).bind fun x2850 => some x2850))))
def M_slices_Compact_api_Arc_api_Arc_j117 (_F : Nat) (rec116 : (List (Int × Int) × Int × Int) → Option (List (Int × Int))) (x2881 : Int) (x2939 : List (Int × Int)) (x2940 : Int) : Option (List (Int × Int)) :=
  rec116 (x2939, x2940, iadd .i64 x2881 1)
def M_slices_Compact_api_Arc_api_Arc_b116 (F : Nat) (x1 : List (Int × Int)) (x1975 : Int) (rec116 : (List (Int × Int) × Int × Int) → Option (List (Int × Int))) (x2879 : List (Int × Int)) (x2880 : Int) (x2881 : Int) : Option (List (Int × Int)) :=
  (if (decide (x2881 < ((x1.length - x1975.toNat : Nat) : Int))) then (chk (decide (x2879.length = x1.length)) (((idx (x2879.drop x1975.toNat) x2881).bind fun x2946 => (chk (decide (x2879.length = x1.length)) (((idx (x2879.drop x1975.toNat) (isub .i64 x2881 1)).bind fun x2948 => (if (!(((x2946.1 : Int) == x2948.1) && ((x2946.2 : Int) == x2948.2))) then (chk (decide (x2879.length = x1.length)) (((idx (x2879.drop x1975.toNat) x2881).bind fun x2950 => ((idx x2879 x2880).bind fun _x2951 => (lett (x2879.set x2880.toNat (x2950.1, x2950.2)) fun x2954 => M_slices_Compact_api_Arc_api_Arc_j117 F rec116 x2881 x2954 (iadd .i64 x2880 1)))))) else M_slices_Compact_api_Arc_api_Arc_j117 F rec116 x2881 x2879 x2880))))))) else M_slices_Compact_api_Arc_api_Arc_j113 F x2879 x2880)
def M_slices_Compact_api_Arc_api_Arc_l116 (F : Nat) (x1 : List (Int × Int)) (x1975 : Int) : Nat → (List (Int × Int) × Int × Int) → Option (List (Int × Int))
  | 0 => fun _ => none
  | k + 1 => fun s => M_slices_Compact_api_Arc_api_Arc_b116 F x1 x1975 (M_slices_Compact_api_Arc_api_Arc_l116 F x1 x1975 k) s.1 s.2.1 s.2.2
def M_slices_Compact_api_Arc_api_Arc_b98 (F : Nat) (x1 : List (Int × Int)) (rec98 : Int → Option (List (Int × Int))) (x1975 : Int) : Option (List (Int × Int)) :=
  (if (decide (x1975 < (x1.length : Int))) then ((idx x1 x1975).bind fun x2723 => ((idx x1 (isub .i64 x1975 1)).bind fun x2727 => (if (((x2723.1 : Int) == x2727.1) && ((x2723.2 : Int) == x2727.2)) then (chk (decide (0 ≤ x1975 ∧ x1975 < (x1.length : Int))) (M_slices_Compact_api_Arc_api_Arc_l116 F x1 x1975 F (x1, x1975, 1))) else M_slices_Compact_api_Arc_api_Arc_j108 F rec98 x1975))) else M_slices_Compact_api_Arc_api_Arc_j59 F x1)
def M_slices_Compact_api_Arc_api_Arc_l98 (F : Nat) (x1 : List (Int × Int)) : Nat → Int → Option (List (Int × Int))
  | 0 => fun _ => none
  | k + 1 => fun s => M_slices_Compact_api_Arc_api_Arc_b98 F x1 (M_slices_Compact_api_Arc_api_Arc_l98 F x1 k) s
def M_slices_Compact_api_Arc_api_Arc (F : Nat) (x1 : List (Int × Int)) : Option (List (Int × Int)) :=
  (if (decide ((x1.length : Int) < 2)) then some x1 else M_slices_Compact_api_Arc_api_Arc_l98 F x1 F 1)
/-! lampwright graph.Both -/
def M_graph_Both (F : Nat) (x1 : List (List Int)) : Option (List (List Int) × Int) :=
  ((M_graph_Check F x1).bind fun x8 => (if ((x8 : Int) != 0) then some (([] : List (List Int)), x8) else ((M_graph_All F x1).bind fun _x20 => ((M_slices_Collect_api_Arc_graph_All_1 F x1).bind fun x22 => ((M_graph_turned F x1).bind fun x25 => ((app 4398046511104 x22 x25).bind fun x28 => ((M_slices_SortFunc_api_Arc_api_Arc_graph_order F x28).bind fun x31 => (chk (decide (x31.length = x28.length)) (((M_slices_Compact_api_Arc_api_Arc F x31).bind fun x33 => (if (decide (600 < (x33.length : Int))) then some (([] : List (List Int)), 2) else ((M_graph_Built F (x1.length : Int) x33).bind fun x37 => some (x37, 0)))))))))))))
/-! lampwright graph.Turn -/
def M_graph_Turn (F : Nat) (x1 : List (List Int)) : Option (List (List Int) × Int) :=
  ((M_graph_Check F x1).bind fun x8 => (if ((x8 : Int) != 0) then some (([] : List (List Int)), x8) else ((M_graph_turned F x1).bind fun x20 => ((M_slices_Values_api_Arc_api_Arc F x20).bind fun _x23 => ((M_slices_SortedFunc_api_Arc_slices_Values_api_Arc_api_Arc_1_graph_order F x20).bind fun x25 => ((M_graph_Built F (x1.length : Int) x25).bind fun x28 => some (x28, 0)))))))
/-! lampwright graph.Degrees -/
def M_graph_Degrees_r3 (_F : Nat) (x121 : List Int) (x122 : List Int) (x144 : Int) (x145 : Int) : Option ((List Int × List Int) ⊕ Empty) :=
  ((idx x122 x144).bind fun x147 => ((idx x122 x144).bind fun _x150 => (lett (x122.set x144.toNat (iadd .i64 x147 1)) fun x153 => ((idx x121 x145).bind fun x156 => ((idx x121 x145).bind fun _x159 => (lett (x121.set x145.toNat (iadd .i64 x156 1)) fun x162 => some (.inl (x162, x153))))))))
def M_graph_Degrees_j1 (F : Nat) (x1 : List (List Int)) (x27 : List Int) (x30 : List Int) : Option (List Int × List Int × Int) :=
  ((M_graph_All F x1).bind fun _x98 => ((M_graph_All_1 F (fun ((x121, x122) : (List Int × List Int)) ((x144, x145) : (Int × Int)) => M_graph_Degrees_r3 F x121 x122 x144 x145) x1 (x27, x30)).bind (Sum.elim (fun ((x121, x122) : (List Int × List Int)) => some (x122, x121, 0)) (fun t => t.elim))))
def M_graph_Degrees (F : Nat) (x1 : List (List Int)) : Option (List Int × List Int × Int) :=
  ((M_graph_Check F x1).bind fun x9 => (if ((x9 : Int) != 0) then some (([] : List Int), ([] : List Int), x9) else ((mk 17592186044416 (0 : Int) (x1.length : Int)).bind fun x165 => ((mk 17592186044416 (0 : Int) (x1.length : Int)).bind fun x168 => M_graph_Degrees_j1 F x1 x168 x165))))
/-! lampwright lampwrightref.SameLists -/
def M_R_SameLists_j2 (_F : Nat) : Option Bool :=
  some true
def M_R_SameLists_b3 (F : Nat) (x1 : List (List Int)) (x4 : List (List Int)) (rec3 : Int → Option Bool) (x202 : Int) : Option Bool :=
  (if (decide (x202 < (x1.length : Int))) then ((idx x1 x202).bind fun x287 => ((idx x4 x202).bind fun x292 => ((M_R_SameInts F x287 x292).bind fun x297 => (if (!x297) then some false else rec3 (iadd .i64 x202 1))))) else M_R_SameLists_j2 F)
def M_R_SameLists_l3 (F : Nat) (x1 : List (List Int)) (x4 : List (List Int)) : Nat → Int → Option Bool
  | 0 => fun _ => none
  | k + 1 => fun s => M_R_SameLists_b3 F x1 x4 (M_R_SameLists_l3 F x1 x4 k) s
def M_R_SameLists (F : Nat) (x1 : List (List Int)) (x4 : List (List Int)) : Option Bool :=
  (if (((x1.length : Int) : Int) != (x4.length : Int)) then some false else M_R_SameLists_l3 F x1 x4 F 0)
/-! lampwright lampwrightref.SameArcs -/
def M_R_SameArcs_j2 (_F : Nat) : Option Bool :=
  some true
def M_R_SameArcs_b3 (F : Nat) (x1 : List (Int × Int)) (x4 : List (Int × Int)) (rec3 : Int → Option Bool) (x154 : Int) : Option Bool :=
  (if (decide (x154 < (x1.length : Int))) then ((idx x1 x154).bind fun x218 => ((idx x4 x154).bind fun x222 => (if (!(((x218.1 : Int) == x222.1) && ((x218.2 : Int) == x222.2))) then some false else rec3 (iadd .i64 x154 1)))) else M_R_SameArcs_j2 F)
def M_R_SameArcs_l3 (F : Nat) (x1 : List (Int × Int)) (x4 : List (Int × Int)) : Nat → Int → Option Bool
  | 0 => fun _ => none
  | k + 1 => fun s => M_R_SameArcs_b3 F x1 x4 (M_R_SameArcs_l3 F x1 x4 k) s
def M_R_SameArcs (F : Nat) (x1 : List (Int × Int)) (x4 : List (Int × Int)) : Option Bool :=
  (if (((x1.length : Int) : Int) != (x4.length : Int)) then some false else M_R_SameArcs_l3 F x1 x4 F 0)
/-! lampwright lampwrightlaw.graphBegun -/
def M_L_graphBegun_j6 (_F : Nat) (x83 : Bool) : Option Bool :=
  some x83
def M_L_graphBegun_j5 (F : Nat) (x18 : (List Int × List Int × Int)) (x25 : (List (List Int) × Int)) (x74 : Bool) : Option Bool :=
  (if ((x74 && ((x18.2.2 : Int) == 0)) && ((x25.2 : Int) == 6)) then ((M_graph_Check F ([([1] : List Int)] : List (List Int))).bind fun x88 => M_L_graphBegun_j6 F ((x88 : Int) == 3)) else M_L_graphBegun_j6 F false)
def M_L_graphBegun_j4 (F : Nat) (x18 : (List Int × List Int × Int)) (x25 : (List (List Int) × Int)) (x69 : Bool) : Option Bool :=
  (if x69 then ((M_R_SameInts F x18.2.1 ([2, 1, 0] : List Int)).bind fun x91 => M_L_graphBegun_j5 F x18 x25 x91) else M_L_graphBegun_j5 F x18 x25 false)
def M_L_graphBegun_j3 (F : Nat) (x14 : (List (List Int) × Int)) (x18 : (List Int × List Int × Int)) (x25 : (List (List Int) × Int)) (x63 : Bool) : Option Bool :=
  (if (x63 && ((x14.2 : Int) == 0)) then ((M_R_SameInts F x18.1 ([2, 0, 1] : List Int)).bind fun x94 => M_L_graphBegun_j4 F x18 x25 x94) else M_L_graphBegun_j4 F x18 x25 false)
def M_L_graphBegun_j2 (F : Nat) (x10 : (List (List Int) × Int)) (x14 : (List (List Int) × Int)) (x18 : (List Int × List Int × Int)) (x25 : (List (List Int) × Int)) (x51 : Bool) : Option Bool :=
  (if (x51 && ((x10.2 : Int) == 0)) then ((M_R_SameLists F x14.1 ([([0, 1, 2] : List Int), ([0] : List Int), ([0] : List Int)] : List (List Int))).bind fun x103 => M_L_graphBegun_j3 F x14 x18 x25 x103) else M_L_graphBegun_j3 F x14 x18 x25 false)
def M_L_graphBegun_j1 (F : Nat) (x7 : (List (Int × Int) × Int)) (x10 : (List (List Int) × Int)) (x14 : (List (List Int) × Int)) (x18 : (List Int × List Int × Int)) (x25 : (List (List Int) × Int)) (x41 : Bool) : Option Bool :=
  (if (x41 && ((x7.2 : Int) == 0)) then ((M_R_SameLists F x10.1 ([([0, 2] : List Int), ([0] : List Int), ([] : List Int)] : List (List Int))).bind fun x110 => M_L_graphBegun_j2 F x10 x14 x18 x25 x110) else M_L_graphBegun_j2 F x10 x14 x18 x25 false)
def M_L_graphBegun (F : Nat)  : Option Bool :=
  ((M_graph_Of F 3 ([(2, 0), (0, 1), (0, 0)] : List (Int × Int))).bind fun x3 => ((M_graph_Arcs F x3.1).bind fun x7 => ((M_graph_Turn F x3.1).bind fun x10 => ((M_graph_Both F x3.1).bind fun x14 => ((M_graph_Degrees F x3.1).bind fun x18 => ((M_graph_Of F 1 ([(0, 0), (0, 0)] : List (Int × Int))).bind fun x25 => ((M_R_SameLists F x3.1 ([([0, 1] : List Int), ([] : List Int), ([0] : List Int)] : List (List Int))).bind fun x35 => (if (x35 && ((x3.2 : Int) == 0)) then ((M_R_SameArcs F x7.1 ([(0, 0), (0, 1), (2, 0)] : List (Int × Int))).bind fun x113 => M_L_graphBegun_j1 F x7 x10 x14 x18 x25 x113) else M_L_graphBegun_j1 F x7 x10 x14 x18 x25 false))))))))
/-! lampwright lampwrightlaw.CoreMore -/
def M_L_CoreMore_j11 (_F : Nat) : Option Bool :=
  some true
def M_L_CoreMore_j18 (_F : Nat) (rec16 : Int → Option Bool) (x524 : Int) (x654 : Bool) : Option Bool :=
  (if x654 then some false else rec16 (iadd .i64 x524 1))
def M_L_CoreMore_b16 (F : Nat) (x8 : (List Int × Int)) (x213 : (List Int × Int)) (rec16 : Int → Option Bool) (x524 : Int) : Option Bool :=
  (if (decide (x524 < (x8.1.length : Int))) then ((idx x213.1 x524).bind fun x656 => ((idx x8.1 x524).bind fun x660 => (if (decide (x656 < x660)) then M_L_CoreMore_j18 F rec16 x524 true else ((idx x213.1 x524).bind fun x665 => ((idx x8.1 x524).bind fun x669 => M_L_CoreMore_j18 F rec16 x524 (decide ((iadd .i64 x669 1) < x665))))))) else M_L_CoreMore_j11 F)
def M_L_CoreMore_l16 (F : Nat) (x8 : (List Int × Int)) (x213 : (List Int × Int)) : Nat → Int → Option Bool
  | 0 => fun _ => none
  | k + 1 => fun s => M_L_CoreMore_b16 F x8 x213 (M_L_CoreMore_l16 F x8 x213 k) s
def M_L_CoreMore_j3 (F : Nat) (x8 : (List Int × Int)) (x11 : (List Int × Int × Int)) (x208 : Int) (x211 : List (List Int)) : Option Bool :=
  (if ((x208 : Int) != 0) then some true else ((M_core_Numbers F x211).bind fun x213 => ((M_core_Threes F x211).bind fun x216 => (if (((((x213.2 : Int) != 0) || ((x216.2.2 : Int) != 0)) || (((x213.1.length : Int) : Int) != (x8.1.length : Int))) || (decide (x216.2.1 < x11.2.1))) then some false else M_L_CoreMore_l16 F x8 x213 F 0))))
def M_L_CoreMore_j2 (F : Nat) (x1 : List (List Int)) (x4 : Int) (x5 : Int) (x8 : (List Int × Int)) (x11 : (List Int × Int × Int)) (x14 : (List (Int × Int) × Int)) (x26 : Bool) : Option Bool :=
  (if x26 then some false else (if ((((x8.2 : Int) != 0) || ((x11.2.2 : Int) != 0)) || ((x14.2 : Int) != 0)) then some ((x8.2 : Int) == x11.2.2) else ((app 4398046511104 ([] : List (Int × Int)) x14.1).bind fun x678 => ((app 4398046511104 x678 ([(x4, x5)] : List (Int × Int))).bind fun x683 => ((M_graph_Of F (x1.length : Int) x683).bind fun x686 => M_L_CoreMore_j3 F x8 x11 x686.2 x686.1)))))
def M_L_CoreMore (F : Nat) (x1 : List (List Int)) (x4 : Int) (x5 : Int) : Option Bool :=
  ((M_core_Numbers F x1).bind fun x8 => ((M_core_Threes F x1).bind fun x11 => ((M_graph_Arcs F x1).bind fun x14 => ((M_L_coreBegun F).bind fun x23 => (if (!x23) then M_L_CoreMore_j2 F x1 x4 x5 x8 x11 x14 true else ((M_L_graphBegun F).bind fun x853 => M_L_CoreMore_j2 F x1 x4 x5 x8 x11 x14 (!x853)))))))
/-! lampwright lampwrightlaw.CoreBoth -/
def M_L_CoreBoth_j5 (_F : Nat) (x52 : Bool) : Option Bool :=
  some x52
def M_L_CoreBoth_j4 (F : Nat) (x26 : (List Int × Int × Int)) (x29 : (List Int × Int × Int)) (x32 : (List Int × Int)) (x35 : (List Int × Int)) (x48 : Bool) : Option Bool :=
  (if (x48 && ((x26.2.1 : Int) == x29.2.1)) then ((M_R_SameInts F x32.1 x35.1).bind fun x53 => M_L_CoreBoth_j5 F x53) else M_L_CoreBoth_j5 F false)
def M_L_CoreBoth_j3 (F : Nat) (x26 : (List Int × Int × Int)) (x29 : (List Int × Int × Int)) (x32 : (List Int × Int)) (x35 : (List Int × Int)) (x45 : Bool) : Option Bool :=
  (if x45 then ((M_R_SameInts F x26.1 x29.1).bind fun x54 => M_L_CoreBoth_j4 F x26 x29 x32 x35 x54) else M_L_CoreBoth_j4 F x26 x29 x32 x35 false)
def M_L_CoreBoth_j2 (F : Nat) (x1 : List (List Int)) (x5 : (List (List Int) × Int)) (x18 : Bool) : Option Bool :=
  (if x18 then some false else (if ((x5.2 : Int) != 0) then some true else ((M_core_Numbers F x1).bind fun x20 => ((M_core_Numbers F x5.1).bind fun x23 => ((M_core_Threes F x1).bind fun x26 => ((M_core_Threes F x5.1).bind fun x29 => ((M_core_Pairs F x1).bind fun x32 => ((M_core_Pairs F x5.1).bind fun x35 => (if (((((((x20.2 : Int) == 0) && ((x23.2 : Int) == 0)) && ((x26.2.2 : Int) == 0)) && ((x29.2.2 : Int) == 0)) && ((x32.2 : Int) == 0)) && ((x35.2 : Int) == 0)) then ((M_R_SameInts F x20.1 x23.1).bind fun x55 => M_L_CoreBoth_j3 F x26 x29 x32 x35 x55) else M_L_CoreBoth_j3 F x26 x29 x32 x35 false)))))))))
def M_L_CoreBoth (F : Nat) (x1 : List (List Int)) : Option Bool :=
  ((M_graph_Both F x1).bind fun x5 => ((M_L_coreBegun F).bind fun x15 => (if (!x15) then M_L_CoreBoth_j2 F x1 x5 true else ((M_L_graphBegun F).bind fun x58 => M_L_CoreBoth_j2 F x1 x5 (!x58)))))
end Go.Proofs.Ytdiabhkbchmpaaa
