/- What each Go function of this seat computes, in plain terms. -/
import Derived.Test.YtdiabhkbchmpaaaSx
namespace Go.Proofs.Ytdiabhkbchmpaaa
open Go SX
/-! lampwright graph.Check -/
def M_graph_Check_j23 (_F : Nat) (x798 : Int) : Option Int :=
  (if (decide (600 < x798)) then some 2 else some 0)
def M_graph_Check_j42 (_F : Nat) (rec38 : (Int × Int) → Option Int) (x1065 : Int) (x1461 : Int) : Option Int :=
  rec38 (x1461, iadd .i64 x1065 1)
def M_graph_Check_j44 (F : Nat) (rec38 : (Int × Int) → Option Int) (x1064 : Int) (x1065 : Int) (x1462 : List Int) : Option Int :=
  M_graph_Check_j42 F rec38 x1065 (iadd .i64 x1064 (x1462.length : Int))
def M_graph_Check_b45 (F : Nat) (rec38 : (Int × Int) → Option Int) (x1 : List (List Int)) (x1064 : Int) (x1065 : Int) (x1462 : List Int) (rec45 : (Int × Int) → Option Int) (x1549 : Int) (x1550 : Int) : Option Int :=
  (if (decide (x1550 < (x1462.length : Int))) then ((idx x1462 x1550).bind fun x1582 => (if ((decide (x1582 < 0)) || (decide ((x1.length : Int) ≤ x1582))) then some 3 else (if (decide (x1582 ≤ x1549)) then some 4 else rec45 (x1582, iadd .i64 x1550 1)))) else M_graph_Check_j44 F rec38 x1064 x1065 x1462)
def M_graph_Check_l45 (F : Nat) (rec38 : (Int × Int) → Option Int) (x1 : List (List Int)) (x1064 : Int) (x1065 : Int) (x1462 : List Int) : Nat → (Int × Int) → Option Int
  | 0 => fun _ => none
  | k + 1 => fun s => M_graph_Check_b45 F rec38 x1 x1064 x1065 x1462 (M_graph_Check_l45 F rec38 x1 x1064 x1065 x1462 k) s.1 s.2
def M_graph_Check_b38 (F : Nat) (x1 : List (List Int)) (rec38 : (Int × Int) → Option Int) (x1064 : Int) (x1065 : Int) : Option Int :=
  (if (decide (x1065 < (x1.length : Int))) then ((idx x1 x1065).bind fun x1462 => M_graph_Check_l45 F rec38 x1 x1064 x1065 x1462 F (-1, 0)) else M_graph_Check_j23 F x1064)
def M_graph_Check_l38 (F : Nat) (x1 : List (List Int)) : Nat → (Int × Int) → Option Int
  | 0 => fun _ => none
  | k + 1 => fun s => M_graph_Check_b38 F x1 (M_graph_Check_l38 F x1 k) s.1 s.2
def M_graph_Check (F : Nat) (x1 : List (List Int)) : Option Int :=
  (if (decide (100 < (x1.length : Int))) then some 2 else M_graph_Check_l38 F x1 F (0, 0))
/-! lampwright graph.All -/
def M_graph_All (_F : Nat) (_x1 : List (List Int)) : Option Unit :=
  some ()
/-! slices.Sort[[]int,int] -/
def M_slices_Sort_int_int (_F : Nat) (x1 : List Int) : Option (List Int) :=
  if x1.length < 4611686018427387904 then some (srt x1) else none
/-! slices.Compact[[]int,int] -/
def M_slices_Compact_int_int (_F : Nat) (x1 : List Int) : Option (List Int) :=
  if (Go.Lib.compact x1).length ≤ x1.length then some (Go.Lib.compact x1) else none
/-! lampwright graph.All$1 -/
def M_graph_All_1_j9 {σ τ : Type} (_F : Nat) (_yy : σ → (Int × Int) → Option (σ ⊕ τ)) (rec7 : (Int × σ) → Option (σ ⊕ τ)) (x121 : Int) (x298 : σ) : Option (σ ⊕ τ) :=
  rec7 (iadd .i64 x121 1, x298)
def M_graph_All_1_b10 {σ τ : Type} (F : Nat) (yy : σ → (Int × Int) → Option (σ ⊕ τ)) (rec7 : (Int × σ) → Option (σ ⊕ τ)) (x121 : Int) (x300 : List Int) (rec10 : (Int × σ) → Option (σ ⊕ τ)) (x320 : Int) (x321 : σ) : Option (σ ⊕ τ) :=
  (if (decide (x320 < (x300.length : Int))) then ((idx x300 x320).bind fun x348 => ((yy x321 (x121, x348)).bind (Sum.elim (fun x351 => rec10 (iadd .i64 x320 1, x351)) (fun x352 => some (.inr x352))))) else M_graph_All_1_j9 F yy rec7 x121 x321)
def M_graph_All_1_l10 {σ τ : Type} (F : Nat) (yy : σ → (Int × Int) → Option (σ ⊕ τ)) (rec7 : (Int × σ) → Option (σ ⊕ τ)) (x121 : Int) (x300 : List Int) : Nat → (Int × σ) → Option (σ ⊕ τ)
  | 0 => fun _ => none
  | k + 1 => fun s => M_graph_All_1_b10 F yy rec7 x121 x300 (M_graph_All_1_l10 F yy rec7 x121 x300 k) s.1 s.2
def M_graph_All_1_b7 {σ τ : Type} (F : Nat) (yy : σ → (Int × Int) → Option (σ ⊕ τ)) (x2 : List (List Int)) (rec7 : (Int × σ) → Option (σ ⊕ τ)) (x121 : Int) (x122 : σ) : Option (σ ⊕ τ) :=
  (if (decide (x121 < (x2.length : Int))) then ((idx x2 x121).bind fun x300 => M_graph_All_1_l10 F yy rec7 x121 x300 F (0, x122)) else some (.inl x122))
def M_graph_All_1_l7 {σ τ : Type} (F : Nat) (yy : σ → (Int × Int) → Option (σ ⊕ τ)) (x2 : List (List Int)) : Nat → (Int × σ) → Option (σ ⊕ τ)
  | 0 => fun _ => none
  | k + 1 => fun s => M_graph_All_1_b7 F yy x2 (M_graph_All_1_l7 F yy x2 k) s.1 s.2
def M_graph_All_1 {σ τ : Type} (F : Nat) (yy : σ → (Int × Int) → Option (σ ⊕ τ)) (x2 : List (List Int)) (s0 : σ) : Option (σ ⊕ τ) :=
  M_graph_All_1_l7 F yy x2 F (0, s0)
/-! lampwright core.near -/
def M_core_near_r2 (_F : Nat) (x340 : List (List Int)) (x422 : Int) (x423 : Int) : Option (List (List Int) ⊕ Empty) :=
  (if ((x422 : Int) != x423) then ((idx x340 x422).bind fun x425 => ((idx x340 x423).bind fun x431 => (chk (decide (x423.toNat ≠ x422.toNat)) (((idx x340 x422).bind fun _x438 => ((idx x340 x423).bind fun _x444 => ((app 8796093022208 x425 ([x423] : List Int)).bind fun x452 => ((app 8796093022208 x431 ([x422] : List Int)).bind fun x457 => (lett (x340.set x422.toNat x452) fun x460 => (lett (x460.set x423.toNat x457) fun x464 => some (.inl x464))))))))))) else some (.inl x340))
def M_core_near_j4 (_F : Nat) (x694 : List (List Int)) : Option (List (List Int)) :=
  some x694
def M_core_near_b5 (F : Nat) (x340 : List (List Int)) (rec5 : (Int × List (List Int)) → Option (List (List Int))) (x757 : Int) (x759 : List (List Int)) : Option (List (List Int)) :=
  (if (decide (x757 < (x340.length : Int))) then ((idx x759 x757).bind fun x854 => ((M_slices_Sort_int_int F x854).bind fun x859 => (chk (decide (x859.length = x854.length)) ((lett (x759.set x757.toNat x859) fun x861 => ((idx x861 x757).bind fun x865 => ((idx x861 x757).bind fun _x871 => ((M_slices_Compact_int_int F x865).bind fun x877 => (lett (x861.set x757.toNat x877) fun x880 => rec5 (iadd .i64 x757 1, x880)))))))))) else M_core_near_j4 F x759)
def M_core_near_l5 (F : Nat) (x340 : List (List Int)) : Nat → (Int × List (List Int)) → Option (List (List Int))
  | 0 => fun _ => none
  | k + 1 => fun s => M_core_near_b5 F x340 (M_core_near_l5 F x340 k) s.1 s.2
def M_core_near (F : Nat) (x1 : List (List Int)) : Option (List (List Int)) :=
  ((mk 4398046511104 (([] : List Int) : List Int) (x1.length : Int)).bind fun x5 => ((M_graph_All F x1).bind fun _x256 => ((M_graph_All_1 F (fun (x340 : List (List Int)) ((x422, x423) : (Int × Int)) => M_core_near_r2 F x340 x422 x423) x1 x5).bind (Sum.elim (fun (x340 : List (List Int)) => M_core_near_l5 F x340 F (0, x340)) (fun t => t.elim)))))
/-! (*lampwright core.peeler).least -/
def M_core_peeler_least_j23 (_F : Nat) (x2 : List (List Int)) (x5 : List Int) (x164 : Int) : Option (Int × List (List Int) × List Int) :=
  some (x164, x2, x5)
def M_core_peeler_least_j42 (_F : Nat) (rec38 : (Int × Int) → Option (Int × List (List Int) × List Int)) (x217 : Int) (x295 : Int) : Option (Int × List (List Int) × List Int) :=
  rec38 (x295, iadd .i64 x217 1)
def M_core_peeler_least_j44 (F : Nat) (rec38 : (Int × Int) → Option (Int × List (List Int) × List Int)) (x216 : Int) (x217 : Int) (x309 : Bool) : Option (Int × List (List Int) × List Int) :=
  (if x309 then M_core_peeler_least_j42 F rec38 x217 x217 else M_core_peeler_least_j42 F rec38 x217 x216)
def M_core_peeler_least_j45 (F : Nat) (rec38 : (Int × Int) → Option (Int × List (List Int) × List Int)) (x216 : Int) (x217 : Int) (_x315 : Bool) (x316 : Bool) : Option (Int × List (List Int) × List Int) :=
  M_core_peeler_least_j44 F rec38 x216 x217 x316
def M_core_peeler_least_b38 (F : Nat) (x2 : List (List Int)) (x5 : List Int) (rec38 : (Int × Int) → Option (Int × List (List Int) × List Int)) (x216 : Int) (x217 : Int) : Option (Int × List (List Int) × List Int) :=
  (if (decide (x217 < (x5.length : Int))) then ((idx x5 x217).bind fun x296 => (if (decide (0 ≤ x296)) then (if (decide (x216 < 0)) then M_core_peeler_least_j45 F rec38 x216 x217 true true else ((idx x5 x216).bind fun x317 => M_core_peeler_least_j45 F rec38 x216 x217 false (decide (x296 < x317)))) else M_core_peeler_least_j44 F rec38 x216 x217 false)) else M_core_peeler_least_j23 F x2 x5 x216)
def M_core_peeler_least_l38 (F : Nat) (x2 : List (List Int)) (x5 : List Int) : Nat → (Int × Int) → Option (Int × List (List Int) × List Int)
  | 0 => fun _ => none
  | k + 1 => fun s => M_core_peeler_least_b38 F x2 x5 (M_core_peeler_least_l38 F x2 x5 k) s.1 s.2
def M_core_peeler_least (F : Nat) (x2 : List (List Int)) (x5 : List Int) : Option (Int × List (List Int) × List Int) :=
  M_core_peeler_least_l38 F x2 x5 F (-1, 0)
/-! (*lampwright core.peeler).drop -/
def M_core_peeler_drop_j4 (_F : Nat) (rec3 : (Int × List Int) → Option (List (List Int) × List Int)) (x55 : Int) (x110 : List Int) : Option (List (List Int) × List Int) :=
  rec3 (iadd .i64 x55 1, x110)
def M_core_peeler_drop_b3 (F : Nat) (x2 : List (List Int)) (x15 : List Int) (rec3 : (Int × List Int) → Option (List (List Int) × List Int)) (x55 : Int) (x56 : List Int) : Option (List (List Int) × List Int) :=
  (if (decide (x55 < (x15.length : Int))) then ((idx x15 x55).bind fun x111 => ((idx x56 x111).bind fun x114 => (if (decide (0 ≤ x114)) then ((idx x56 x111).bind fun x117 => ((idx x56 x111).bind fun _x120 => (lett (x56.set x111.toNat (isub .i64 x117 1)) fun x123 => M_core_peeler_drop_j4 F rec3 x55 x123))) else M_core_peeler_drop_j4 F rec3 x55 x56))) else some (x2, x56))
def M_core_peeler_drop_l3 (F : Nat) (x2 : List (List Int)) (x15 : List Int) : Nat → (Int × List Int) → Option (List (List Int) × List Int)
  | 0 => fun _ => none
  | k + 1 => fun s => M_core_peeler_drop_b3 F x2 x15 (M_core_peeler_drop_l3 F x2 x15 k) s.1 s.2
def M_core_peeler_drop (F : Nat) (x2 : List (List Int)) (x5 : List Int) (x8 : Int) : Option (List (List Int) × List Int) :=
  ((idx x5 x8).bind fun _x9 => (lett (x5.set x8.toNat (-1)) fun x12 => ((idx x2 x8).bind fun x15 => M_core_peeler_drop_l3 F x2 x15 F (0, x12))))
/-! lampwright core.Numbers -/
def M_core_Numbers_j4 (_F : Nat) (x210 : List Int) : Option (List Int × Int) :=
  some (x210, 0)
def M_core_Numbers_b5 (F : Nat) (rec5 : (List Int × Int × Int × List (List Int) × List Int) → Option (List Int × Int)) (x251 : List Int) (x252 : Int) (x253 : Int) (x256 : List (List Int)) (x259 : List Int) : Option (List Int × Int) :=
  (if (decide (0 ≤ x253)) then ((idx x259 x253).bind fun x311 => ((idx x251 x253).bind fun _x314 => (lett (x251.set x253.toNat (imax x252 x311)) fun x317 => ((M_core_peeler_drop F x256 x259 x253).bind fun x320 => ((M_core_peeler_least F x320.1 x320.2).bind fun x325 => rec5 (x317, imax x252 x311, x325.1, x325.2.1, x325.2.2)))))) else M_core_Numbers_j4 F x251)
def M_core_Numbers_l5 (F : Nat) : Nat → (List Int × Int × Int × List (List Int) × List Int) → Option (List Int × Int)
  | 0 => fun _ => none
  | k + 1 => fun s => M_core_Numbers_b5 F (M_core_Numbers_l5 F k) s.1 s.2.1 s.2.2.1 s.2.2.2.1 s.2.2.2.2
def M_core_Numbers_j2 (F : Nat) (x8 : List (List Int)) (x86 : List Int) : Option (List Int × Int) :=
  ((mk 17592186044416 (0 : Int) (x8.length : Int)).bind fun x87 => ((M_core_peeler_least F x8 x86).bind fun x211 => M_core_Numbers_l5 F F (x87, 0, x211.1, x211.2.1, x211.2.2)))
def M_core_Numbers_b6 (F : Nat) (x8 : List (List Int)) (rec6 : (Int × List Int) → Option (List Int × Int)) (x354 : Int) (x357 : List Int) : Option (List Int × Int) :=
  (if (decide (x354 < (x8.length : Int))) then ((idx x8 x354).bind fun x392 => ((app 8796093022208 x357 ([(x392.length : Int)] : List Int)).bind fun x399 => rec6 (iadd .i64 x354 1, x399))) else M_core_Numbers_j2 F x8 x357)
def M_core_Numbers_l6 (F : Nat) (x8 : List (List Int)) : Nat → (Int × List Int) → Option (List Int × Int)
  | 0 => fun _ => none
  | k + 1 => fun s => M_core_Numbers_b6 F x8 (M_core_Numbers_l6 F x8 k) s.1 s.2
def M_core_Numbers (F : Nat) (x1 : List (List Int)) : Option (List Int × Int) :=
  ((M_graph_Check F x1).bind fun x7 => (if ((x7 : Int) != 0) then some (([] : List Int), x7) else ((M_core_near F x1).bind fun x8 => M_core_Numbers_l6 F x8 F (0, ([] : List Int)))))
/-! lampwright core.threes -/
def M_core_threes (_F : Nat) (_x1 : List (List Int)) : Option Unit :=
  some ()
/-! cmp.isNaN[int] -/
def M_cmp_isNaN_int (_F : Nat) (x1 : Int) : Option Bool :=
  some ((x1 : Int) != x1)
/-! cmp.Less[int] -/
def M_cmp_Less_int_j1 (_F : Nat) (x1 : Int) (x2 : Int) (x6 : Bool) : Option Bool :=
  some (x6 || (decide (x1 < x2)))
def M_cmp_Less_int (F : Nat) (x1 : Int) (x2 : Int) : Option Bool :=
  ((M_cmp_isNaN_int F x1).bind fun x3 => (if x3 then ((M_cmp_isNaN_int F x2).bind fun x8 => M_cmp_Less_int_j1 F x1 x2 (!x8)) else M_cmp_Less_int_j1 F x1 x2 false))
/-! slices.isNaN[int] -/
def M_slices_isNaN_int (_F : Nat) (x1 : Int) : Option Bool :=
  some ((x1 : Int) != x1)
/-! slices.BinarySearch[[]int,int] -/
def M_slices_BinarySearch_int_int_j6 (_F : Nat) (x32 : Int) (x55 : Bool) : Option (Int × Bool) :=
  some (x32, x55)
def M_slices_BinarySearch_int_int_j8 (F : Nat) (x32 : Int) (x68 : Bool) : Option (Int × Bool) :=
  M_slices_BinarySearch_int_int_j6 F x32 x68
def M_slices_BinarySearch_int_int_j9 (F : Nat) (x32 : Int) (x75 : Bool) : Option (Int × Bool) :=
  M_slices_BinarySearch_int_int_j8 F x32 x75
def M_slices_BinarySearch_int_int_j2 (F : Nat) (x1 : List Int) (x4 : Int) (x32 : Int) : Option (Int × Bool) :=
  (if (decide (x32 < (x1.length : Int))) then ((idx x1 x32).bind fun x56 => (if ((x56 : Int) == x4) then M_slices_BinarySearch_int_int_j8 F x32 true else ((idx x1 x32).bind fun x69 => ((M_slices_isNaN_int F x69).bind fun x72 => (if x72 then ((M_slices_isNaN_int F x4).bind fun x76 => M_slices_BinarySearch_int_int_j9 F x32 x76) else M_slices_BinarySearch_int_int_j9 F x32 false))))) else M_slices_BinarySearch_int_int_j6 F x32 false)
def M_slices_BinarySearch_int_int_b10 (F : Nat) (x1 : List Int) (x4 : Int) (rec10 : (Int × Int) → Option (Int × Bool)) (x85 : Int) (x86 : Int) : Option (Int × Bool) :=
  (if (decide (x85 < x86)) then (lett (iconv .i64 (ishr .u64 (iconv .u64 (iadd .i64 x85 x86)) 1)) fun x97 => ((idx x1 x97).bind fun x98 => ((M_cmp_Less_int F x98 x4).bind fun x101 => (if x101 then rec10 (iadd .i64 x97 1, x86) else rec10 (x85, x97))))) else M_slices_BinarySearch_int_int_j2 F x1 x4 x85)
def M_slices_BinarySearch_int_int_l10 (F : Nat) (x1 : List Int) (x4 : Int) : Nat → (Int × Int) → Option (Int × Bool)
  | 0 => fun _ => none
  | k + 1 => fun s => M_slices_BinarySearch_int_int_b10 F x1 x4 (M_slices_BinarySearch_int_int_l10 F x1 x4 k) s.1 s.2
def M_slices_BinarySearch_int_int (F : Nat) (x1 : List Int) (x4 : Int) : Option (Int × Bool) :=
  M_slices_BinarySearch_int_int_l10 F x1 x4 F (0, (x1.length : Int))
/-! lampwright core.threes$1 -/
def M_core_threes_1_j144 {σ τ : Type} (_F : Nat) (_yy : σ → List Int → Option (σ ⊕ τ)) (rec115 : (Int × σ) → Option (σ ⊕ τ)) (x1609 : Int) (x4018 : σ) : Option (σ ⊕ τ) :=
  rec115 (iadd .i64 x1609 1, x4018)
def M_core_threes_1_j168 {σ τ : Type} (_F : Nat) (_yy : σ → List Int → Option (σ ⊕ τ)) (rec163 : (Int × σ) → Option (σ ⊕ τ)) (x4288 : Int) (x4687 : σ) : Option (σ ⊕ τ) :=
  rec163 (iadd .i64 x4288 1, x4687)
def M_core_threes_1_j172 {σ τ : Type} (_F : Nat) (_yy : σ → List Int → Option (σ ⊕ τ)) (rec171 : (Int × σ) → Option (σ ⊕ τ)) (x4735 : Int) (x4798 : σ) : Option (σ ⊕ τ) :=
  rec171 (iadd .i64 x4735 1, x4798)
def M_core_threes_1_b171 {σ τ : Type} (F : Nat) (yy : σ → List Int → Option (σ ⊕ τ)) (rec163 : (Int × σ) → Option (σ ⊕ τ)) (x2 : List (List Int)) (x1609 : Int) (x4288 : Int) (x4689 : Int) (x4692 : List Int) (rec171 : (Int × σ) → Option (σ ⊕ τ)) (x4735 : Int) (x4736 : σ) : Option (σ ⊕ τ) :=
  (if (decide (x4735 < (x4692.length : Int))) then ((idx x4692 x4735).bind fun x4800 => ((idx x2 x4689).bind fun x4803 => ((M_slices_BinarySearch_int_int F x4803 x4800).bind fun x4807 => (if (x4807.2 && (decide (x1609 < x4689))) then ((yy x4736 ([x1609, x4689, x4800] : List Int)).bind (Sum.elim (fun x4814 => M_core_threes_1_j172 F yy rec171 x4735 x4814) (fun x4815 => some (.inr x4815)))) else M_core_threes_1_j172 F yy rec171 x4735 x4736)))) else M_core_threes_1_j168 F yy rec163 x4288 x4736)
def M_core_threes_1_l171 {σ τ : Type} (F : Nat) (yy : σ → List Int → Option (σ ⊕ τ)) (rec163 : (Int × σ) → Option (σ ⊕ τ)) (x2 : List (List Int)) (x1609 : Int) (x4288 : Int) (x4689 : Int) (x4692 : List Int) : Nat → (Int × σ) → Option (σ ⊕ τ)
  | 0 => fun _ => none
  | k + 1 => fun s => M_core_threes_1_b171 F yy rec163 x2 x1609 x4288 x4689 x4692 (M_core_threes_1_l171 F yy rec163 x2 x1609 x4288 x4689 x4692 k) s.1 s.2
def M_core_threes_1_b163 {σ τ : Type} (F : Nat) (yy : σ → List Int → Option (σ ⊕ τ)) (rec115 : (Int × σ) → Option (σ ⊕ τ)) (x2 : List (List Int)) (x1609 : Int) (x4020 : List Int) (rec163 : (Int × σ) → Option (σ ⊕ τ)) (x4288 : Int) (x4289 : σ) : Option (σ ⊕ τ) :=
  (if (decide (x4288 < (x4020.length : Int))) then ((idx x4020 x4288).bind fun x4689 => ((sub x4020 (iadd .i64 x4288 1) (x4020.length : Int)).bind fun x4692 => M_core_threes_1_l171 F yy rec163 x2 x1609 x4288 x4689 x4692 F (0, x4289))) else M_core_threes_1_j144 F yy rec115 x1609 x4289)
def M_core_threes_1_l163 {σ τ : Type} (F : Nat) (yy : σ → List Int → Option (σ ⊕ τ)) (rec115 : (Int × σ) → Option (σ ⊕ τ)) (x2 : List (List Int)) (x1609 : Int) (x4020 : List Int) : Nat → (Int × σ) → Option (σ ⊕ τ)
  | 0 => fun _ => none
  | k + 1 => fun s => M_core_threes_1_b163 F yy rec115 x2 x1609 x4020 (M_core_threes_1_l163 F yy rec115 x2 x1609 x4020 k) s.1 s.2
def M_core_threes_1_b115 {σ τ : Type} (F : Nat) (yy : σ → List Int → Option (σ ⊕ τ)) (x2 : List (List Int)) (rec115 : (Int × σ) → Option (σ ⊕ τ)) (x1609 : Int) (x1610 : σ) : Option (σ ⊕ τ) :=
  (if (decide (x1609 < (x2.length : Int))) then ((idx x2 x1609).bind fun x4020 => M_core_threes_1_l163 F yy rec115 x2 x1609 x4020 F (0, x1610)) else some (.inl x1610))
def M_core_threes_1_l115 {σ τ : Type} (F : Nat) (yy : σ → List Int → Option (σ ⊕ τ)) (x2 : List (List Int)) : Nat → (Int × σ) → Option (σ ⊕ τ)
  | 0 => fun _ => none
  | k + 1 => fun s => M_core_threes_1_b115 F yy x2 (M_core_threes_1_l115 F yy x2 k) s.1 s.2
def M_core_threes_1 {σ τ : Type} (F : Nat) (yy : σ → List Int → Option (σ ⊕ τ)) (x2 : List (List Int)) (s0 : σ) : Option (σ ⊕ τ) :=
  M_core_threes_1_l115 F yy x2 F (0, s0)
/-! lampwright core.Threes -/
def M_core_Threes_b8 (_F : Nat) (x341 : Int) (x422 : List Int) (rec8 : (Int × List Int) → Option ((Int × List Int) ⊕ Empty)) (x450 : Int) (x451 : List Int) : Option ((Int × List Int) ⊕ Empty) :=
  (if (decide (x450 < 3)) then (chk (decide (x422.length = 3)) (((idx x422 x450).bind fun x490 => ((idx x451 x490).bind fun x491 => ((idx x451 x490).bind fun _x494 => (lett (x451.set x490.toNat (iadd .i64 x491 1)) fun x497 => rec8 (iadd .i64 x450 1, x497))))))) else some (.inl (iadd .i64 x341 1, x451)))
def M_core_Threes_l8 (F : Nat) (x341 : Int) (x422 : List Int) : Nat → (Int × List Int) → Option ((Int × List Int) ⊕ Empty)
  | 0 => fun _ => none
  | k + 1 => fun s => M_core_Threes_b8 F x341 x422 (M_core_Threes_l8 F x341 x422 k) s.1 s.2
def M_core_Threes_r5 (F : Nat) (x341 : Int) (x342 : List Int) (x422 : List Int) : Option ((Int × List Int) ⊕ Empty) :=
  (chk (decide (x422.length = 3)) ((chk (decide (x422.length = 3)) (M_core_Threes_l8 F x341 x422 F (0, x342)))))
def M_core_Threes (F : Nat) (x1 : List (List Int)) : Option (List Int × Int × Int) :=
  ((M_graph_Check F x1).bind fun x9 => (if ((x9 : Int) != 0) then some (([] : List Int), 0, x9) else ((mk 17592186044416 (0 : Int) (x1.length : Int)).bind fun x10 => ((M_core_near F x1).bind fun x257 => ((M_core_threes F x257).bind fun _x260 => ((M_core_threes_1 F (fun ((x341, x342) : (Int × List Int)) (x422 : List Int) => M_core_Threes_r5 F x341 x342 x422) x257 (0, x10)).bind (Sum.elim (fun ((x341, x342) : (Int × List Int)) => some (x342, x341, 0)) (fun t => t.elim))))))))
/-! math bits.Mul32 -/
def M_math_bits_Mul32 (_F : Nat) (x1 : Int) (x2 : Int) : Option (Int × Int) :=
  (lett (imul .u64 (iconv .u64 x1) (iconv .u64 x2)) fun x3 => some (iconv .u32 (ishr .u64 x3 32), iconv .u32 x3))
/-! math bits.Mul64 -/
def M_math_bits_Mul64 (_F : Nat) (x1 : Int) (x2 : Int) : Option (Int × Int) :=
  (lett (imul .u64 (iand .u64 x1 4294967295) (iand .u64 x2 4294967295)) fun x3 => (lett (iadd .u64 (imul .u64 (ishr .u64 x1 32) (iand .u64 x2 4294967295)) (ishr .u64 x3 32)) fun x4 => (lett (iadd .u64 (iand .u64 x4 4294967295) (imul .u64 (iand .u64 x1 4294967295) (ishr .u64 x2 32))) fun x5 => (lett (iadd .u64 (iadd .u64 (imul .u64 (ishr .u64 x1 32) (ishr .u64 x2 32)) (ishr .u64 x4 32)) (ishr .u64 x5 32)) fun x6 => some (x6, imul .u64 x1 x2)))))
/-! math bits.Mul -/
def M_math_bits_Mul (F : Nat) (x1 : Int) (x2 : Int) : Option (Int × Int) :=
  ((M_math_bits_Mul64 F x1 x2).bind fun x3 => some (x3.1, x3.2))
/-! slices.Repeat[[]int,int] -/
def M_slices_Repeat_int_int_j2 (_F : Nat) (x64 : List Int) : Option (List Int) :=
  some x64
def M_slices_Repeat_int_int_b3 (F : Nat) (rec3 : (List Int × Int) → Option (List Int)) (x80 : List Int) (x81 : Int) : Option (List Int) :=
  (if (decide (x81 < (x80.length : Int))) then ((sub x80 x81 (x80.length : Int)).bind fun x99 => ((sub x80 0 x81).bind fun x104 => (lett (overlay x81.toNat x80 x104) fun x109 => rec3 (x109, iadd .i64 x81 ((min x104.length x99.length : Nat) : Int))))) else M_slices_Repeat_int_int_j2 F x80)
def M_slices_Repeat_int_int_l3 (F : Nat) : Nat → (List Int × Int) → Option (List Int)
  | 0 => fun _ => none
  | k + 1 => fun s => M_slices_Repeat_int_int_b3 F (M_slices_Repeat_int_int_l3 F k) s.1 s.2
def M_slices_Repeat_int_int (F : Nat) (x1 : List Int) (x4 : Int) : Option (List Int) :=
  (if (decide (x4 < 0)) then none else ((M_math_bits_Mul F (iconv .u64 (x1.length : Int)) (iconv .u64 x4)).bind fun x6 => (if ((decide (0 < x6.1)) || (decide (9223372036854775807 < x6.2))) then none else ((mk 17592186044416 (0 : Int) (iconv .i64 x6.2)).bind fun x10 => (lett (overlay 0 x10 x1) fun x13 => M_slices_Repeat_int_int_l3 F F (x13, ((min x1.length x10.length : Nat) : Int)))))))
/-! lampwright core.Pairs$1 -/
def M_core_Pairs_1_j1 (_F : Nat) (x12 : Bool) : Option Bool :=
  some x12
def M_core_Pairs_1 (F : Nat) (x1 : Int) (x3 : Int) (x5 : List Int) : Option Bool :=
  (if (decide (x3 < x1)) then ((idx x5 x1).bind fun x13 => M_core_Pairs_1_j1 F (decide (x13 < 0))) else M_core_Pairs_1_j1 F false)
/-! slices.IndexFunc[[]int,int] -/
def M_slices_IndexFunc_int_int_core_Pairs_1_j2 (_F : Nat) : Option Int :=
  some (-1)
def M_slices_IndexFunc_int_int_core_Pairs_1_b3 (F : Nat) (x1 : List Int) (x5 : Int) (x7 : List Int) (rec3 : Int → Option Int) (x60 : Int) : Option Int :=
  (if (decide (x60 < (x1.length : Int))) then ((idx x1 x60).bind fun x80 => ((M_core_Pairs_1 F x80 x5 x7).bind fun x83 => (if x83 then some x60 else rec3 (iadd .i64 x60 1)))) else M_slices_IndexFunc_int_int_core_Pairs_1_j2 F)
def M_slices_IndexFunc_int_int_core_Pairs_1_l3 (F : Nat) (x1 : List Int) (x5 : Int) (x7 : List Int) : Nat → Int → Option Int
  | 0 => fun _ => none
  | k + 1 => fun s => M_slices_IndexFunc_int_int_core_Pairs_1_b3 F x1 x5 x7 (M_slices_IndexFunc_int_int_core_Pairs_1_l3 F x1 x5 x7 k) s
def M_slices_IndexFunc_int_int_core_Pairs_1 (F : Nat) (x1 : List Int) (x5 : Int) (x7 : List Int) : Option Int :=
  M_slices_IndexFunc_int_int_core_Pairs_1_l3 F x1 x5 x7 F 0
/-! lampwright core.Pairs -/
def M_core_Pairs_j5 (_F : Nat) (x233 : List Int) : Option (List Int × Int) :=
  some (x233, 0)
def M_core_Pairs_j9 (_F : Nat) (rec8 : (Int × List Int) → Option (List Int × Int)) (x308 : Int) (x417 : List Int) : Option (List Int × Int) :=
  rec8 (iadd .i64 x308 1, x417)
def M_core_Pairs_b8 (F : Nat) (x234 : List (List Int)) (rec8 : (Int × List Int) → Option (List Int × Int)) (x308 : Int) (x309 : List Int) : Option (List Int × Int) :=
  (if (decide (x308 < (x234.length : Int))) then ((idx x234 x308).bind fun x418 => ((M_slices_IndexFunc_int_int_core_Pairs_1 F x418 x308 x309).bind fun x424 => ((idx x309 x308).bind fun x425 => (if ((decide (x425 < 0)) && (decide (0 ≤ x424))) then ((idx x418 x424).bind fun x429 => ((idx x418 x424).bind fun x433 => ((idx x309 x308).bind fun _x437 => ((idx x309 x429).bind fun _x441 => (lett (x309.set x308.toNat x433) fun x445 => (lett (x445.set x429.toNat x308) fun x448 => M_core_Pairs_j9 F rec8 x308 x448)))))) else M_core_Pairs_j9 F rec8 x308 x309)))) else M_core_Pairs_j5 F x309)
def M_core_Pairs_l8 (F : Nat) (x234 : List (List Int)) : Nat → (Int × List Int) → Option (List Int × Int)
  | 0 => fun _ => none
  | k + 1 => fun s => M_core_Pairs_b8 F x234 (M_core_Pairs_l8 F x234 k) s.1 s.2
def M_core_Pairs (F : Nat) (x1 : List (List Int)) : Option (List Int × Int) :=
  ((M_graph_Check F x1).bind fun x7 => (if ((x7 : Int) != 0) then some (([] : List Int), x7) else ((M_slices_Repeat_int_int F ([-1] : List Int) (x1.length : Int)).bind fun x10 => ((M_core_near F x1).bind fun x234 => M_core_Pairs_l8 F x234 F (0, x10)))))
/-! lampwright lampwrightref.between -/
def M_R_between (_F : Nat) (x1 : Int) (x2 : Int) (x3 : Int) : Option Bool :=
  some ((decide (x2 ≤ x1)) && (decide (x1 ≤ x3)))
/-! lampwright lampwrightref.GraphCheck -/
def M_R_GraphCheck_j83 (_F : Nat) (x3744 : Int) : Option Int :=
  (if (decide (600 < x3744)) then some 2 else some 0)
def M_R_GraphCheck_j152 (_F : Nat) (rec138 : (Int × Int) → Option Int) (x4993 : Int) (x6862 : Int) : Option Int :=
  rec138 (x6862, iadd .i64 x4993 1)
def M_R_GraphCheck_j165 (_F : Nat) (rec161 : (Int × Int) → Option Int) (x7069 : Int) (x7070 : Int) (x7461 : Bool) : Option Int :=
  (if x7461 then some 4 else rec161 (iadd .i64 x7069 1, iadd .i64 x7070 1))
def M_R_GraphCheck_b161 (F : Nat) (rec138 : (Int × Int) → Option Int) (x1 : List (List Int)) (x4993 : Int) (rec161 : (Int × Int) → Option Int) (x7069 : Int) (x7070 : Int) : Option Int :=
  ((idx x1 x4993).bind fun x7283 => (if (decide (x7070 < (x7283.length : Int))) then ((idx x1 x4993).bind fun x7394 => ((idx x7394 x7070).bind fun x7398 => ((M_R_between F x7398 0 (isub .i64 (x1.length : Int) 1)).bind fun x7401 => (if (!x7401) then some 3 else (if (decide (0 < x7070)) then ((idx x1 x4993).bind fun x7464 => ((idx x7464 x7070).bind fun x7469 => ((idx x1 x4993).bind fun x7473 => ((idx x7473 (isub .i64 x7070 1)).bind fun x7478 => M_R_GraphCheck_j165 F rec161 x7069 x7070 (decide (x7469 ≤ x7478)))))) else M_R_GraphCheck_j165 F rec161 x7069 x7070 false))))) else M_R_GraphCheck_j152 F rec138 x4993 x7069))
def M_R_GraphCheck_l161 (F : Nat) (rec138 : (Int × Int) → Option Int) (x1 : List (List Int)) (x4993 : Int) : Nat → (Int × Int) → Option Int
  | 0 => fun _ => none
  | k + 1 => fun s => M_R_GraphCheck_b161 F rec138 x1 x4993 (M_R_GraphCheck_l161 F rec138 x1 x4993 k) s.1 s.2
def M_R_GraphCheck_b138 (F : Nat) (x1 : List (List Int)) (rec138 : (Int × Int) → Option Int) (x4992 : Int) (x4993 : Int) : Option Int :=
  (if (decide (x4993 < (x1.length : Int))) then M_R_GraphCheck_l161 F rec138 x1 x4993 F (x4992, 0) else M_R_GraphCheck_j83 F x4992)
def M_R_GraphCheck_l138 (F : Nat) (x1 : List (List Int)) : Nat → (Int × Int) → Option Int
  | 0 => fun _ => none
  | k + 1 => fun s => M_R_GraphCheck_b138 F x1 (M_R_GraphCheck_l138 F x1 k) s.1 s.2
def M_R_GraphCheck (F : Nat) (x1 : List (List Int)) : Option Int :=
  (if (decide (100 < (x1.length : Int))) then some 2 else M_R_GraphCheck_l138 F x1 F (0, 0))
/-! lampwright lampwrightref.HasInt -/
def M_R_HasInt_j2 (_F : Nat) : Option Bool :=
  some false
def M_R_HasInt_b3 (F : Nat) (x1 : List Int) (x4 : Int) (rec3 : Int → Option Bool) (x47 : Int) : Option Bool :=
  (if (decide (x47 < (x1.length : Int))) then ((idx x1 x47).bind fun x64 => (if ((x64 : Int) == x4) then some true else rec3 (iadd .i64 x47 1))) else M_R_HasInt_j2 F)
def M_R_HasInt_l3 (F : Nat) (x1 : List Int) (x4 : Int) : Nat → Int → Option Bool
  | 0 => fun _ => none
  | k + 1 => fun s => M_R_HasInt_b3 F x1 x4 (M_R_HasInt_l3 F x1 x4 k) s
def M_R_HasInt (F : Nat) (x1 : List Int) (x4 : Int) : Option Bool :=
  M_R_HasInt_l3 F x1 x4 F 0
/-! lampwright lampwrightref.Leads -/
def M_R_Leads (F : Nat) (x1 : List (List Int)) (x4 : Int) (x5 : Int) : Option Bool :=
  ((idx x1 x4).bind fun x7 => ((M_R_HasInt F x7 x5).bind fun x11 => some x11))
/-! lampwright lampwrightref.Near -/
def M_R_Near_j2 (_F : Nat) (x13 : Bool) : Option Bool :=
  some x13
def M_R_Near_j3 (F : Nat) (x17 : Bool) : Option Bool :=
  M_R_Near_j2 F x17
def M_R_Near (F : Nat) (x1 : List (List Int)) (x4 : Int) (x5 : Int) : Option Bool :=
  (if ((x4 : Int) != x5) then ((M_R_Leads F x1 x4 x5).bind fun x14 => (if x14 then M_R_Near_j3 F true else ((M_R_Leads F x1 x5 x4).bind fun x18 => M_R_Near_j3 F x18))) else M_R_Near_j2 F false)
/-! lampwright lampwrightref.CoreNumbers -/
def M_R_CoreNumbers_j4729 (_F : Nat) (x29683 : List Int) : Option (List Int) :=
  some x29683
def M_R_CoreNumbers_j8668 (_F : Nat) (rec7880 : (List Int × List Bool × Int) → Option (List Int)) (x39560 : Int) (x54372 : List Int) (x54373 : List Bool) : Option (List Int) :=
  rec7880 (x54372, x54373, iadd .i64 x39560 1)
def M_R_CoreNumbers_j9064 (_F : Nat) (rec9063 : (List Int × Int) → Option (List Int)) (x56830 : Int) (x56866 : List Int) : Option (List Int) :=
  rec9063 (x56866, iadd .i64 x56830 1)
def M_R_CoreNumbers_b9063 (F : Nat) (rec7880 : (List Int × List Bool × Int) → Option (List Int)) (x1 : List (List Int)) (x39560 : Int) (x56805 : List Bool) (rec9063 : (List Int × Int) → Option (List Int)) (x56829 : List Int) (x56830 : Int) : Option (List Int) :=
  (if (decide (x56830 < (x1.length : Int))) then ((idx x56805 x56830).bind fun x56867 => (if x56867 then ((idx x56829 x56830).bind fun _x56870 => (lett (x56829.set x56830.toNat x39560) fun x56873 => M_R_CoreNumbers_j9064 F rec9063 x56830 x56873)) else M_R_CoreNumbers_j9064 F rec9063 x56830 x56829)) else M_R_CoreNumbers_j8668 F rec7880 x39560 x56829 x56805)
def M_R_CoreNumbers_l9063 (F : Nat) (rec7880 : (List Int × List Bool × Int) → Option (List Int)) (x1 : List (List Int)) (x39560 : Int) (x56805 : List Bool) : Nat → (List Int × Int) → Option (List Int)
  | 0 => fun _ => none
  | k + 1 => fun s => M_R_CoreNumbers_b9063 F rec7880 x1 x39560 x56805 (M_R_CoreNumbers_l9063 F rec7880 x1 x39560 x56805 k) s.1 s.2
def M_R_CoreNumbers_j9060 (F : Nat) (rec7880 : (List Int × List Bool × Int) → Option (List Int)) (x1 : List (List Int)) (x39558 : List Int) (x39560 : Int) (x56805 : List Bool) : Option (List Int) :=
  M_R_CoreNumbers_l9063 F rec7880 x1 x39560 x56805 F (x39558, 0)
def M_R_CoreNumbers_j9434 (_F : Nat) (rec9412 : (List Bool × Bool × Int) → Option (List Int)) (x58770 : Int) (x59173 : List Bool) (x59174 : Bool) : Option (List Int) :=
  rec9412 (x59173, x59174, iadd .i64 x58770 1)
def M_R_CoreNumbers_j9445 (F : Nat) (rec9412 : (List Bool × Bool × Int) → Option (List Int)) (x39560 : Int) (x58768 : List Bool) (x58769 : Bool) (x58770 : Int) (x59235 : Int) : Option (List Int) :=
  ((idx x58768 x58770).bind fun x59236 => (if (x59236 && (decide (x59235 < x39560))) then ((idx x58768 x58770).bind fun _x59240 => (lett (x58768.set x58770.toNat false) fun x59243 => M_R_CoreNumbers_j9434 F rec9412 x58770 x59243 true)) else M_R_CoreNumbers_j9434 F rec9412 x58770 x58768 x58769))
def M_R_CoreNumbers_j9454 (_F : Nat) (rec9452 : (Int × Int) → Option (List Int)) (x59267 : Int) (x59297 : Int) : Option (List Int) :=
  rec9452 (x59297, iadd .i64 x59267 1)
def M_R_CoreNumbers_j9455 (F : Nat) (rec9452 : (Int × Int) → Option (List Int)) (x59266 : Int) (x59267 : Int) (x59303 : Bool) : Option (List Int) :=
  (if x59303 then M_R_CoreNumbers_j9454 F rec9452 x59267 (iadd .i64 x59266 1) else M_R_CoreNumbers_j9454 F rec9452 x59267 x59266)
def M_R_CoreNumbers_b9452 (F : Nat) (rec9412 : (List Bool × Bool × Int) → Option (List Int)) (x1 : List (List Int)) (x39560 : Int) (x58768 : List Bool) (x58769 : Bool) (x58770 : Int) (rec9452 : (Int × Int) → Option (List Int)) (x59266 : Int) (x59267 : Int) : Option (List Int) :=
  (if (decide (x59267 < (x1.length : Int))) then ((idx x58768 x59267).bind fun x59298 => (if x59298 then ((M_R_Near F x1 x58770 x59267).bind fun x59305 => M_R_CoreNumbers_j9455 F rec9452 x59266 x59267 x59305) else M_R_CoreNumbers_j9455 F rec9452 x59266 x59267 false)) else M_R_CoreNumbers_j9445 F rec9412 x39560 x58768 x58769 x58770 x59266)
def M_R_CoreNumbers_l9452 (F : Nat) (rec9412 : (List Bool × Bool × Int) → Option (List Int)) (x1 : List (List Int)) (x39560 : Int) (x58768 : List Bool) (x58769 : Bool) (x58770 : Int) : Nat → (Int × Int) → Option (List Int)
  | 0 => fun _ => none
  | k + 1 => fun s => M_R_CoreNumbers_b9452 F rec9412 x1 x39560 x58768 x58769 x58770 (M_R_CoreNumbers_l9452 F rec9412 x1 x39560 x58768 x58769 x58770 k) s.1 s.2
def M_R_CoreNumbers_b9412 (F : Nat) (rec9325 : (List Bool × Bool) → Option (List Int)) (x1 : List (List Int)) (x39560 : Int) (rec9412 : (List Bool × Bool × Int) → Option (List Int)) (x58768 : List Bool) (x58769 : Bool) (x58770 : Int) : Option (List Int) :=
  (if (decide (x58770 < (x1.length : Int))) then M_R_CoreNumbers_l9452 F rec9412 x1 x39560 x58768 x58769 x58770 F (0, 0) else rec9325 (x58768, x58769))
def M_R_CoreNumbers_l9412 (F : Nat) (rec9325 : (List Bool × Bool) → Option (List Int)) (x1 : List (List Int)) (x39560 : Int) : Nat → (List Bool × Bool × Int) → Option (List Int)
  | 0 => fun _ => none
  | k + 1 => fun s => M_R_CoreNumbers_b9412 F rec9325 x1 x39560 (M_R_CoreNumbers_l9412 F rec9325 x1 x39560 k) s.1 s.2.1 s.2.2
def M_R_CoreNumbers_b9325 (F : Nat) (rec7880 : (List Int × List Bool × Int) → Option (List Int)) (x1 : List (List Int)) (x39558 : List Int) (x39560 : Int) (rec9325 : (List Bool × Bool) → Option (List Int)) (x57686 : List Bool) (x57687 : Bool) : Option (List Int) :=
  (if x57687 then M_R_CoreNumbers_l9412 F rec9325 x1 x39560 F (x57686, false, 0) else M_R_CoreNumbers_j9060 F rec7880 x1 x39558 x39560 x57686)
def M_R_CoreNumbers_l9325 (F : Nat) (rec7880 : (List Int × List Bool × Int) → Option (List Int)) (x1 : List (List Int)) (x39558 : List Int) (x39560 : Int) : Nat → (List Bool × Bool) → Option (List Int)
  | 0 => fun _ => none
  | k + 1 => fun s => M_R_CoreNumbers_b9325 F rec7880 x1 x39558 x39560 (M_R_CoreNumbers_l9325 F rec7880 x1 x39558 x39560 k) s.1 s.2
def M_R_CoreNumbers_b7880 (F : Nat) (x1 : List (List Int)) (rec7880 : (List Int × List Bool × Int) → Option (List Int)) (x39558 : List Int) (x39559 : List Bool) (x39560 : Int) : Option (List Int) :=
  (if (decide (x39560 < (x1.length : Int))) then M_R_CoreNumbers_l9325 F rec7880 x1 x39558 x39560 F (x39559, true) else M_R_CoreNumbers_j4729 F x39558)
def M_R_CoreNumbers_l7880 (F : Nat) (x1 : List (List Int)) : Nat → (List Int × List Bool × Int) → Option (List Int)
  | 0 => fun _ => none
  | k + 1 => fun s => M_R_CoreNumbers_b7880 F x1 (M_R_CoreNumbers_l7880 F x1 k) s.1 s.2.1 s.2.2
def M_R_CoreNumbers_j2 (F : Nat) (x1 : List (List Int)) (x5 : List Int) (x56 : List Bool) : Option (List Int) :=
  M_R_CoreNumbers_l7880 F x1 F (x5, x56, 1)
def M_R_CoreNumbers_b9456 (F : Nat) (x1 : List (List Int)) (x5 : List Int) (rec9456 : (List Bool × Int) → Option (List Int)) (x59324 : List Bool) (x59325 : Int) : Option (List Int) :=
  (if (decide (x59325 < (x1.length : Int))) then ((idx x59324 x59325).bind fun _x59348 => (lett (x59324.set x59325.toNat true) fun x59351 => rec9456 (x59351, iadd .i64 x59325 1))) else M_R_CoreNumbers_j2 F x1 x5 x59324)
def M_R_CoreNumbers_l9456 (F : Nat) (x1 : List (List Int)) (x5 : List Int) : Nat → (List Bool × Int) → Option (List Int)
  | 0 => fun _ => none
  | k + 1 => fun s => M_R_CoreNumbers_b9456 F x1 x5 (M_R_CoreNumbers_l9456 F x1 x5 k) s.1 s.2
def M_R_CoreNumbers (F : Nat) (x1 : List (List Int)) : Option (List Int) :=
  ((mk 17592186044416 (0 : Int) (x1.length : Int)).bind fun x5 => ((mk 140737488355328 (false : Bool) (x1.length : Int)).bind fun x8 => M_R_CoreNumbers_l9456 F x1 x5 F (x8, 0)))
/-! lampwright lampwrightref.CorePairs -/
def M_R_CorePairs_j103 (_F : Nat) (x1213 : List Int) : Option (List Int) :=
  some x1213
def M_R_CorePairs_j187 (_F : Nat) (rec170 : (List Int × Int) → Option (List Int)) (x1602 : Int) (x2184 : List Int) : Option (List Int) :=
  rec170 (x2184, iadd .i64 x1602 1)
def M_R_CorePairs_j201 (_F : Nat) (rec198 : (List Int × Int) → Option (List Int)) (x2249 : Int) (x2345 : List Int) : Option (List Int) :=
  rec198 (x2345, iadd .i64 x2249 1)
def M_R_CorePairs_j203 (F : Nat) (rec198 : (List Int × Int) → Option (List Int)) (x1602 : Int) (x2248 : List Int) (x2249 : Int) (x2356 : Bool) : Option (List Int) :=
  (if x2356 then ((idx x2248 x1602).bind fun _x2357 => (lett (x2248.set x1602.toNat x2249) fun x2360 => ((idx x2360 x2249).bind fun _x2363 => (lett (x2360.set x2249.toNat x1602) fun x2366 => M_R_CorePairs_j201 F rec198 x2249 x2366)))) else M_R_CorePairs_j201 F rec198 x2249 x2248)
def M_R_CorePairs_j202 (F : Nat) (rec198 : (List Int × Int) → Option (List Int)) (x1602 : Int) (x2248 : List Int) (x2249 : Int) (x2351 : Bool) : Option (List Int) :=
  (if x2351 then ((idx x2248 x2249).bind fun x2370 => M_R_CorePairs_j203 F rec198 x1602 x2248 x2249 (decide (x2370 < 0))) else M_R_CorePairs_j203 F rec198 x1602 x2248 x2249 false)
def M_R_CorePairs_b198 (F : Nat) (rec170 : (List Int × Int) → Option (List Int)) (x1 : List (List Int)) (x1602 : Int) (rec198 : (List Int × Int) → Option (List Int)) (x2248 : List Int) (x2249 : Int) : Option (List Int) :=
  (if (decide (x2249 < (x1.length : Int))) then ((M_R_Near F x1 x1602 x2249).bind fun x2346 => (if x2346 then ((idx x2248 x1602).bind fun x2373 => M_R_CorePairs_j202 F rec198 x1602 x2248 x2249 (decide (x2373 < 0))) else M_R_CorePairs_j202 F rec198 x1602 x2248 x2249 false)) else M_R_CorePairs_j187 F rec170 x1602 x2248)
def M_R_CorePairs_l198 (F : Nat) (rec170 : (List Int × Int) → Option (List Int)) (x1 : List (List Int)) (x1602 : Int) : Nat → (List Int × Int) → Option (List Int)
  | 0 => fun _ => none
  | k + 1 => fun s => M_R_CorePairs_b198 F rec170 x1 x1602 (M_R_CorePairs_l198 F rec170 x1 x1602 k) s.1 s.2
def M_R_CorePairs_b170 (F : Nat) (x1 : List (List Int)) (rec170 : (List Int × Int) → Option (List Int)) (x1601 : List Int) (x1602 : Int) : Option (List Int) :=
  (if (decide (x1602 < (x1.length : Int))) then M_R_CorePairs_l198 F rec170 x1 x1602 F (x1601, iadd .i64 x1602 1) else M_R_CorePairs_j103 F x1601)
def M_R_CorePairs_l170 (F : Nat) (x1 : List (List Int)) : Nat → (List Int × Int) → Option (List Int)
  | 0 => fun _ => none
  | k + 1 => fun s => M_R_CorePairs_b170 F x1 (M_R_CorePairs_l170 F x1 k) s.1 s.2
def M_R_CorePairs_j2 (F : Nat) (x1 : List (List Int)) (x48 : List Int) : Option (List Int) :=
  M_R_CorePairs_l170 F x1 F (x48, 0)
def M_R_CorePairs_b204 (F : Nat) (x1 : List (List Int)) (rec204 : (List Int × Int) → Option (List Int)) (x2392 : List Int) (x2393 : Int) : Option (List Int) :=
  (if (decide (x2393 < (x1.length : Int))) then ((app 8796093022208 x2392 ([-1] : List Int)).bind fun x2415 => rec204 (x2415, iadd .i64 x2393 1)) else M_R_CorePairs_j2 F x1 x2392)
def M_R_CorePairs_l204 (F : Nat) (x1 : List (List Int)) : Nat → (List Int × Int) → Option (List Int)
  | 0 => fun _ => none
  | k + 1 => fun s => M_R_CorePairs_b204 F x1 (M_R_CorePairs_l204 F x1 k) s.1 s.2
def M_R_CorePairs (F : Nat) (x1 : List (List Int)) : Option (List Int) :=
  M_R_CorePairs_l204 F x1 F (([] : List Int), 0)
/-! lampwright lampwrightref.CoreThrees -/
def M_R_CoreThrees_j605 (_F : Nat) (x8688 : List Int) (x8689 : Int) : Option (List Int × Int) :=
  some (x8688, x8689)
def M_R_CoreThrees_j1109 (_F : Nat) (rec1008 : (List Int × Int × Int) → Option (List Int × Int)) (x11584 : Int) (x15923 : List Int) (x15924 : Int) : Option (List Int × Int) :=
  rec1008 (x15923, x15924, iadd .i64 x11584 1)
def M_R_CoreThrees_j1193 (_F : Nat) (rec1176 : (List Int × Int × Int) → Option (List Int × Int)) (x16407 : Int) (x17128 : List Int) (x17129 : Int) : Option (List Int × Int) :=
  rec1176 (x17128, x17129, iadd .i64 x16407 1)
def M_R_CoreThrees_j1208 (_F : Nat) (rec1204 : (List Int × Int × Int) → Option (List Int × Int)) (x17210 : Int) (x17331 : List Int) (x17332 : Int) : Option (List Int × Int) :=
  rec1204 (x17331, x17332, iadd .i64 x17210 1)
def M_R_CoreThrees_j1209 (F : Nat) (rec1204 : (List Int × Int × Int) → Option (List Int × Int)) (x11584 : Int) (x16407 : Int) (x17208 : List Int) (x17209 : Int) (x17210 : Int) (x17336 : Bool) : Option (List Int × Int) :=
  (if x17336 then ((idx x17208 x17210).bind fun x17337 => ((idx x17208 x17210).bind fun _x17340 => (lett (x17208.set x17210.toNat (iadd .i64 x17337 1)) fun x17343 => ((idx x17343 x16407).bind fun x17346 => ((idx x17343 x16407).bind fun _x17349 => (lett (x17343.set x16407.toNat (iadd .i64 x17346 1)) fun x17352 => ((idx x17352 x11584).bind fun x17355 => ((idx x17352 x11584).bind fun _x17358 => (lett (x17352.set x11584.toNat (iadd .i64 x17355 1)) fun x17361 => M_R_CoreThrees_j1208 F rec1204 x17210 x17361 (iadd .i64 x17209 1)))))))))) else M_R_CoreThrees_j1208 F rec1204 x17210 x17208 x17209)
def M_R_CoreThrees_j1206 (F : Nat) (rec1176 : (List Int × Int × Int) → Option (List Int × Int)) (rec1204 : (List Int × Int × Int) → Option (List Int × Int)) (x1 : List (List Int)) (x11584 : Int) (x16407 : Int) (x17208 : List Int) (x17209 : Int) (x17210 : Int) (x17297 : Bool) : Option (List Int × Int) :=
  (if x17297 then ((M_R_Near F x1 x17210 x16407).bind fun x17333 => (if x17333 then ((M_R_Near F x1 x17210 x11584).bind fun x17365 => M_R_CoreThrees_j1209 F rec1204 x11584 x16407 x17208 x17209 x17210 x17365) else M_R_CoreThrees_j1209 F rec1204 x11584 x16407 x17208 x17209 x17210 false)) else M_R_CoreThrees_j1193 F rec1176 x16407 x17208 x17209)
def M_R_CoreThrees_b1204 (F : Nat) (rec1176 : (List Int × Int × Int) → Option (List Int × Int)) (x1 : List (List Int)) (x11584 : Int) (x16407 : Int) (rec1204 : (List Int × Int × Int) → Option (List Int × Int)) (x17208 : List Int) (x17209 : Int) (x17210 : Int) : Option (List Int × Int) :=
  (if (decide (x17210 < x16407)) then ((M_R_Near F x1 x16407 x11584).bind fun x17367 => M_R_CoreThrees_j1206 F rec1176 rec1204 x1 x11584 x16407 x17208 x17209 x17210 x17367) else M_R_CoreThrees_j1206 F rec1176 rec1204 x1 x11584 x16407 x17208 x17209 x17210 false)
def M_R_CoreThrees_l1204 (F : Nat) (rec1176 : (List Int × Int × Int) → Option (List Int × Int)) (x1 : List (List Int)) (x11584 : Int) (x16407 : Int) : Nat → (List Int × Int × Int) → Option (List Int × Int)
  | 0 => fun _ => none
  | k + 1 => fun s => M_R_CoreThrees_b1204 F rec1176 x1 x11584 x16407 (M_R_CoreThrees_l1204 F rec1176 x1 x11584 x16407 k) s.1 s.2.1 s.2.2
def M_R_CoreThrees_b1176 (F : Nat) (rec1008 : (List Int × Int × Int) → Option (List Int × Int)) (x1 : List (List Int)) (x11584 : Int) (rec1176 : (List Int × Int × Int) → Option (List Int × Int)) (x16405 : List Int) (x16406 : Int) (x16407 : Int) : Option (List Int × Int) :=
  (if (decide (x16407 < x11584)) then M_R_CoreThrees_l1204 F rec1176 x1 x11584 x16407 F (x16405, x16406, 0) else M_R_CoreThrees_j1109 F rec1008 x11584 x16405 x16406)
def M_R_CoreThrees_l1176 (F : Nat) (rec1008 : (List Int × Int × Int) → Option (List Int × Int)) (x1 : List (List Int)) (x11584 : Int) : Nat → (List Int × Int × Int) → Option (List Int × Int)
  | 0 => fun _ => none
  | k + 1 => fun s => M_R_CoreThrees_b1176 F rec1008 x1 x11584 (M_R_CoreThrees_l1176 F rec1008 x1 x11584 k) s.1 s.2.1 s.2.2
def M_R_CoreThrees_b1008 (F : Nat) (x1 : List (List Int)) (rec1008 : (List Int × Int × Int) → Option (List Int × Int)) (x11582 : List Int) (x11583 : Int) (x11584 : Int) : Option (List Int × Int) :=
  (if (decide (x11584 < (x1.length : Int))) then M_R_CoreThrees_l1176 F rec1008 x1 x11584 F (x11582, x11583, 0) else M_R_CoreThrees_j605 F x11582 x11583)
def M_R_CoreThrees_l1008 (F : Nat) (x1 : List (List Int)) : Nat → (List Int × Int × Int) → Option (List Int × Int)
  | 0 => fun _ => none
  | k + 1 => fun s => M_R_CoreThrees_b1008 F x1 (M_R_CoreThrees_l1008 F x1 k) s.1 s.2.1 s.2.2
def M_R_CoreThrees (F : Nat) (x1 : List (List Int)) : Option (List Int × Int) :=
  ((mk 17592186044416 (0 : Int) (x1.length : Int)).bind fun x5 => M_R_CoreThrees_l1008 F x1 F (x5, 0, 0))
/-! lampwright lampwrightref.SameInts -/
def M_R_SameInts_j2 (_F : Nat) : Option Bool :=
  some true
def M_R_SameInts_b3 (F : Nat) (x1 : List Int) (x4 : List Int) (rec3 : Int → Option Bool) (x154 : Int) : Option Bool :=
  (if (decide (x154 < (x1.length : Int))) then ((idx x1 x154).bind fun x218 => ((idx x4 x154).bind fun x222 => (if ((x218 : Int) != x222) then some false else rec3 (iadd .i64 x154 1)))) else M_R_SameInts_j2 F)
def M_R_SameInts_l3 (F : Nat) (x1 : List Int) (x4 : List Int) : Nat → Int → Option Bool
  | 0 => fun _ => none
  | k + 1 => fun s => M_R_SameInts_b3 F x1 x4 (M_R_SameInts_l3 F x1 x4 k) s
def M_R_SameInts (F : Nat) (x1 : List Int) (x4 : List Int) : Option Bool :=
  (if (((x1.length : Int) : Int) != (x4.length : Int)) then some false else M_R_SameInts_l3 F x1 x4 F 0)
/-! lampwright lampwrightlaw.coreBegun -/
def M_L_coreBegun_j2 (_F : Nat) (x18 : (List Int × Int)) (x36 : Bool) : Option Bool :=
  some (x36 && ((x18.2 : Int) == 0))
def M_L_coreBegun_j1 (F : Nat) (x15 : (List Int × Int × Int)) (x18 : (List Int × Int)) (x29 : Bool) : Option Bool :=
  (if ((x29 && ((x15.2.1 : Int) == 1)) && ((x15.2.2 : Int) == 0)) then ((M_R_SameInts F x18.1 ([1, 0, 3, 2, -1] : List Int)).bind fun x40 => M_L_coreBegun_j2 F x18 x40) else M_L_coreBegun_j2 F x18 false)
def M_L_coreBegun (F : Nat)  : Option Bool :=
  ((M_core_Numbers F ([([0, 1, 2] : List Int), ([2] : List Int), ([0] : List Int), ([2] : List Int), ([] : List Int)] : List (List Int))).bind fun x12 => ((M_core_Threes F ([([0, 1, 2] : List Int), ([2] : List Int), ([0] : List Int), ([2] : List Int), ([] : List Int)] : List (List Int))).bind fun x15 => ((M_core_Pairs F ([([0, 1, 2] : List Int), ([2] : List Int), ([0] : List Int), ([2] : List Int), ([] : List Int)] : List (List Int))).bind fun x18 => ((M_R_SameInts F x12.1 ([2, 2, 2, 1, 0] : List Int)).bind fun x23 => (if (x23 && ((x12.2 : Int) == 0)) then ((M_R_SameInts F x15.1 ([1, 1, 1, 0, 0] : List Int)).bind fun x43 => M_L_coreBegun_j1 F x15 x18 x43) else M_L_coreBegun_j1 F x15 x18 false)))))
/-! lampwright lampwrightlaw.CoreTells -/
def M_L_CoreTells_j4 (_F : Nat) (x11 : (List Int × Int)) (x14 : Int) (x62 : Bool) : Option Bool :=
  some (x62 && ((x11.2 : Int) == x14))
def M_L_CoreTells_j3 (F : Nat) (x8 : (List Int × Int × Int)) (x11 : (List Int × Int)) (x14 : Int) (x48 : List Int) (x49 : Int) (x57 : Bool) : Option Bool :=
  (if ((x57 && ((x8.2.1 : Int) == x49)) && ((x8.2.2 : Int) == x14)) then ((M_R_SameInts F x11.1 x48).bind fun x64 => M_L_CoreTells_j4 F x11 x14 x64) else M_L_CoreTells_j4 F x11 x14 false)
def M_L_CoreTells_j2 (F : Nat) (x5 : (List Int × Int)) (x8 : (List Int × Int × Int)) (x11 : (List Int × Int)) (x14 : Int) (x45 : List Int) (x48 : List Int) (x49 : Int) (x53 : Bool) : Option Bool :=
  (if (x53 && ((x5.2 : Int) == x14)) then ((M_R_SameInts F x8.1 x45).bind fun x65 => M_L_CoreTells_j3 F x8 x11 x14 x48 x49 x65) else M_L_CoreTells_j3 F x8 x11 x14 x48 x49 false)
def M_L_CoreTells_j1 (F : Nat) (x5 : (List Int × Int)) (x8 : (List Int × Int × Int)) (x11 : (List Int × Int)) (x14 : Int) (x42 : List Int) (x45 : List Int) (x48 : List Int) (x49 : Int) : Option Bool :=
  ((M_L_coreBegun F).bind fun x50 => (if x50 then ((M_R_SameInts F x5.1 x42).bind fun x66 => M_L_CoreTells_j2 F x5 x8 x11 x14 x45 x48 x49 x66) else M_L_CoreTells_j2 F x5 x8 x11 x14 x45 x48 x49 false))
def M_L_CoreTells (F : Nat) (x1 : List (List Int)) : Option Bool :=
  ((M_core_Numbers F x1).bind fun x5 => ((M_core_Threes F x1).bind fun x8 => ((M_core_Pairs F x1).bind fun x11 => ((M_R_GraphCheck F x1).bind fun x14 => (if ((x14 : Int) == 0) then ((M_R_CoreNumbers F x1).bind fun x73 => ((M_R_CorePairs F x1).bind fun x76 => ((M_R_CoreThrees F x1).bind fun x79 => M_L_CoreTells_j1 F x5 x8 x11 x14 x73 x79.1 x76 x79.2))) else M_L_CoreTells_j1 F x5 x8 x11 x14 ([] : List Int) ([] : List Int) ([] : List Int) 0)))))
/-! lampwright lampwrightlaw.CoreNumbers$1 -/
def M_L_CoreNumbers_1 (_F : Nat) (x1 : Int) (x3 : Int) : Option Bool :=
  (chk (decide (0 ≤ (irem x1 64))) (some (((irem (ishr .u64 x3 (irem x1 64)) 2) : Int) == 1)))
/-! lampwright lampwrightlaw.CoreNumbers -/
def M_L_CoreNumbers_j361 (_F : Nat) : Option Bool :=
  some true
def M_L_CoreNumbers_j368 (_F : Nat) (rec366 : Int → Option Bool) (x4077 : Int) (x4117 : Bool) : Option Bool :=
  (if x4117 then some false else rec366 (iadd .i64 x4077 1))
def M_L_CoreNumbers_b366 (F : Nat) (x4 : Int) (x7 : (List Int × Int)) (x3986 : Int) (rec366 : Int → Option Bool) (x4077 : Int) : Option Bool :=
  (if (decide (x4077 < (x7.1.length : Int))) then ((M_L_CoreNumbers_1 F x4077 x4).bind fun x4112 => (if x4112 then ((idx x7.1 x4077).bind fun x4119 => M_L_CoreNumbers_j368 F rec366 x4077 (decide (x4119 < x3986))) else M_L_CoreNumbers_j368 F rec366 x4077 false)) else M_L_CoreNumbers_j361 F)
def M_L_CoreNumbers_l366 (F : Nat) (x4 : Int) (x7 : (List Int × Int)) (x3986 : Int) : Nat → Int → Option Bool
  | 0 => fun _ => none
  | k + 1 => fun s => M_L_CoreNumbers_b366 F x4 x7 x3986 (M_L_CoreNumbers_l366 F x4 x7 x3986 k) s
def M_L_CoreNumbers_j353 (F : Nat) (x4 : Int) (x7 : (List Int × Int)) (x3986 : Int) : Option Bool :=
  M_L_CoreNumbers_l366 F x4 x7 x3986 F 0
def M_L_CoreNumbers_j662 (_F : Nat) (rec603 : (Int × Int) → Option Bool) (x5447 : Int) (x7433 : Int) : Option Bool :=
  rec603 (x7433, iadd .i64 x5447 1)
def M_L_CoreNumbers_j692 (F : Nat) (rec603 : (Int × Int) → Option Bool) (x5446 : Int) (x5447 : Int) (x7757 : Int) (x7768 : Bool) : Option Bool :=
  (if x7768 then M_L_CoreNumbers_j662 F rec603 x5447 x7757 else M_L_CoreNumbers_j662 F rec603 x5447 x5446)
def M_L_CoreNumbers_j691 (F : Nat) (rec603 : (Int × Int) → Option Bool) (x4 : Int) (x7 : (List Int × Int)) (x5446 : Int) (x5447 : Int) (x7756 : Int) (x7757 : Int) : Option Bool :=
  ((idx x7.1 x5447).bind fun x7762 => (if (decide (x7756 < x7762)) then some false else ((M_L_CoreNumbers_1 F x5447 x4).bind fun x7765 => (if x7765 then M_L_CoreNumbers_j692 F rec603 x5446 x5447 x7757 ((decide (x5446 < 0)) || (decide (x7757 < x5446))) else M_L_CoreNumbers_j692 F rec603 x5446 x5447 x7757 false))))
def M_L_CoreNumbers_j716 (_F : Nat) (rec711 : (Int × Int × Int) → Option Bool) (x7880 : Int) (x8040 : Int) (x8041 : Int) : Option Bool :=
  rec711 (x8040, x8041, iadd .i64 x7880 1)
def M_L_CoreNumbers_j719 (F : Nat) (rec711 : (Int × Int × Int) → Option Bool) (x7879 : Int) (x7880 : Int) (x8064 : Int) (x8068 : Bool) : Option Bool :=
  (if x8068 then M_L_CoreNumbers_j716 F rec711 x7880 x8064 (iadd .i64 x7879 1) else M_L_CoreNumbers_j716 F rec711 x7880 x8064 x7879)
def M_L_CoreNumbers_j718 (F : Nat) (rec711 : (Int × Int × Int) → Option Bool) (x1 : List (List Int)) (x4 : Int) (x5447 : Int) (x7879 : Int) (x7880 : Int) (x8064 : Int) : Option Bool :=
  ((M_R_Near F x1 x5447 x7880).bind fun x8065 => (if x8065 then ((M_L_CoreNumbers_1 F x7880 x4).bind fun x8070 => M_L_CoreNumbers_j719 F rec711 x7879 x7880 x8064 x8070) else M_L_CoreNumbers_j719 F rec711 x7879 x7880 x8064 false))
def M_L_CoreNumbers_j720 (F : Nat) (rec711 : (Int × Int × Int) → Option Bool) (x1 : List (List Int)) (x4 : Int) (x5447 : Int) (x7878 : Int) (x7879 : Int) (x7880 : Int) (x8081 : Bool) : Option Bool :=
  (if x8081 then M_L_CoreNumbers_j718 F rec711 x1 x4 x5447 x7879 x7880 (iadd .i64 x7878 1) else M_L_CoreNumbers_j718 F rec711 x1 x4 x5447 x7879 x7880 x7878)
def M_L_CoreNumbers_b711 (F : Nat) (rec603 : (Int × Int) → Option Bool) (x1 : List (List Int)) (x4 : Int) (x7 : (List Int × Int)) (x5446 : Int) (x5447 : Int) (rec711 : (Int × Int × Int) → Option Bool) (x7878 : Int) (x7879 : Int) (x7880 : Int) : Option Bool :=
  (if (decide (x7880 < (x7.1.length : Int))) then ((idx x7.1 x7880).bind fun x8083 => ((idx x7.1 x5447).bind fun x8087 => ((M_R_Near F x1 x5447 x7880).bind fun x8091 => (if x8091 then M_L_CoreNumbers_j720 F rec711 x1 x4 x5447 x7878 x7879 x7880 (decide (x8087 ≤ x8083)) else M_L_CoreNumbers_j720 F rec711 x1 x4 x5447 x7878 x7879 x7880 false)))) else M_L_CoreNumbers_j691 F rec603 x4 x7 x5446 x5447 x7878 x7879)
def M_L_CoreNumbers_l711 (F : Nat) (rec603 : (Int × Int) → Option Bool) (x1 : List (List Int)) (x4 : Int) (x7 : (List Int × Int)) (x5446 : Int) (x5447 : Int) : Nat → (Int × Int × Int) → Option Bool
  | 0 => fun _ => none
  | k + 1 => fun s => M_L_CoreNumbers_b711 F rec603 x1 x4 x7 x5446 x5447 (M_L_CoreNumbers_l711 F rec603 x1 x4 x7 x5446 x5447 k) s.1 s.2.1 s.2.2
def M_L_CoreNumbers_b603 (F : Nat) (x1 : List (List Int)) (x4 : Int) (x7 : (List Int × Int)) (rec603 : (Int × Int) → Option Bool) (x5446 : Int) (x5447 : Int) : Option Bool :=
  (if (decide (x5447 < (x7.1.length : Int))) then M_L_CoreNumbers_l711 F rec603 x1 x4 x7 x5446 x5447 F (0, 0, 0) else M_L_CoreNumbers_j353 F x4 x7 x5446)
def M_L_CoreNumbers_l603 (F : Nat) (x1 : List (List Int)) (x4 : Int) (x7 : (List Int × Int)) : Nat → (Int × Int) → Option Bool
  | 0 => fun _ => none
  | k + 1 => fun s => M_L_CoreNumbers_b603 F x1 x4 x7 (M_L_CoreNumbers_l603 F x1 x4 x7 k) s.1 s.2
def M_L_CoreNumbers (F : Nat) (x1 : List (List Int)) (x4 : Int) : Option Bool :=
  ((M_core_Numbers F x1).bind fun x7 => ((M_L_coreBegun F).bind fun x12 => (if (!x12) then some false else (if ((x7.2 : Int) != 0) then some (((x7.1.length : Int) : Int) == 0) else M_L_CoreNumbers_l603 F x1 x4 x7 F (-1, 0)))))
/-! lampwright lampwrightlaw.CoreThrees -/
def M_L_CoreThrees_j20 (_F : Nat) (x5 : (List Int × Int × Int)) (x190 : Int) : Option Bool :=
  some ((x190 : Int) == (imul .i64 3 x5.2.1))
def M_L_CoreThrees_j38 (_F : Nat) (rec33 : (Int × Int) → Option Bool) (x247 : Int) (x248 : Int) (x334 : Int) (x350 : Bool) : Option Bool :=
  (if x350 then some false else rec33 (iadd .i64 x247 x334, iadd .i64 x248 1))
def M_L_CoreThrees_j39 (F : Nat) (rec33 : (Int × Int) → Option Bool) (x247 : Int) (x248 : Int) (x334 : Int) (_x356 : Bool) (x357 : Bool) : Option Bool :=
  M_L_CoreThrees_j38 F rec33 x247 x248 x334 x357
def M_L_CoreThrees_b33 (F : Nat) (x5 : (List Int × Int × Int)) (x8 : (List Int × Int)) (rec33 : (Int × Int) → Option Bool) (x247 : Int) (x248 : Int) : Option Bool :=
  (if (decide (x248 < (x5.1.length : Int))) then ((idx x5.1 x248).bind fun x334 => ((idx x5.1 x248).bind fun x337 => (if (decide (0 < x337)) then (if (decide ((x8.1.length : Int) ≤ x248)) then M_L_CoreThrees_j39 F rec33 x247 x248 x334 true true else ((idx x8.1 x248).bind fun x358 => M_L_CoreThrees_j39 F rec33 x247 x248 x334 false (decide (x358 < 2)))) else M_L_CoreThrees_j38 F rec33 x247 x248 x334 false))) else M_L_CoreThrees_j20 F x5 x247)
def M_L_CoreThrees_l33 (F : Nat) (x5 : (List Int × Int × Int)) (x8 : (List Int × Int)) : Nat → (Int × Int) → Option Bool
  | 0 => fun _ => none
  | k + 1 => fun s => M_L_CoreThrees_b33 F x5 x8 (M_L_CoreThrees_l33 F x5 x8 k) s.1 s.2
def M_L_CoreThrees (F : Nat) (x1 : List (List Int)) : Option Bool :=
  ((M_core_Threes F x1).bind fun x5 => ((M_core_Numbers F x1).bind fun x8 => ((M_L_coreBegun F).bind fun x13 => (if (!x13) then some false else (if (((x5.2.2 : Int) != 0) || ((x8.2 : Int) != 0)) then some (((x5.2.2 : Int) == x8.2) && (((x5.1.length : Int) : Int) == 0)) else M_L_CoreThrees_l33 F x5 x8 F (0, 0))))))
/-! lampwright lampwrightlaw.CorePairs -/
def M_L_CorePairs_j118 (_F : Nat) (x1186 : Int) (x1313 : Int) : Option Bool :=
  some (decide (x1313 ≤ x1186))
def M_L_CorePairs_j132 (_F : Nat) (rec129 : (Int × Int) → Option Bool) (x1356 : Int) (x1420 : Int) : Option Bool :=
  rec129 (x1420, iadd .i64 x1356 1)
def M_L_CorePairs_j134 (F : Nat) (rec129 : (Int × Int) → Option Bool) (x1355 : Int) (x1356 : Int) (x1433 : Bool) : Option Bool :=
  (if x1433 then M_L_CorePairs_j132 F rec129 x1356 (iadd .i64 x1355 1) else M_L_CorePairs_j132 F rec129 x1356 x1355)
def M_L_CorePairs_j133 (F : Nat) (rec129 : (Int × Int) → Option Bool) (x1 : List (List Int)) (x1355 : Int) (x1356 : Int) (x1421 : Int) (x1430 : Bool) : Option Bool :=
  (if x1430 then ((M_R_Near F x1 x1356 x1421).bind fun x1435 => M_L_CorePairs_j134 F rec129 x1355 x1356 x1435) else M_L_CorePairs_j134 F rec129 x1355 x1356 false)
def M_L_CorePairs_b129 (F : Nat) (x1 : List (List Int)) (x4 : List Int) (x8 : (List Int × Int)) (x1186 : Int) (rec129 : (Int × Int) → Option Bool) (x1355 : Int) (x1356 : Int) : Option Bool :=
  (if ((decide (x1356 < (x4.length : Int))) && (decide (x1356 < (x8.1.length : Int)))) then ((idx x4 x1356).bind fun x1421 => (if (((decide (0 ≤ x1421)) && (decide (x1421 < x1356))) && (decide (x1421 < (x4.length : Int)))) then ((idx x4 x1421).bind fun x1436 => M_L_CorePairs_j133 F rec129 x1 x1355 x1356 x1421 ((x1436 : Int) == x1356)) else M_L_CorePairs_j133 F rec129 x1 x1355 x1356 x1421 false)) else M_L_CorePairs_j118 F x1186 x1355)
def M_L_CorePairs_l129 (F : Nat) (x1 : List (List Int)) (x4 : List Int) (x8 : (List Int × Int)) (x1186 : Int) : Nat → (Int × Int) → Option Bool
  | 0 => fun _ => none
  | k + 1 => fun s => M_L_CorePairs_b129 F x1 x4 x8 x1186 (M_L_CorePairs_l129 F x1 x4 x8 x1186 k) s.1 s.2
def M_L_CorePairs_j101 (F : Nat) (x1 : List (List Int)) (x4 : List Int) (x8 : (List Int × Int)) (x1186 : Int) : Option Bool :=
  M_L_CorePairs_l129 F x1 x4 x8 x1186 F (0, 0)
def M_L_CorePairs_j218 (_F : Nat) (rec201 : (Int × Int) → Option Bool) (x1830 : Int) (x2415 : Int) : Option Bool :=
  rec201 (x2415, iadd .i64 x1830 1)
def M_L_CorePairs_j233 (_F : Nat) (rec229 : Int → Option Bool) (x2495 : Int) (x2558 : Bool) : Option Bool :=
  (if x2558 then some false else rec229 (iadd .i64 x2495 1))
def M_L_CorePairs_j232 (F : Nat) (rec229 : Int → Option Bool) (x1 : List (List Int)) (x1830 : Int) (x2495 : Int) (x2555 : Bool) : Option Bool :=
  (if x2555 then ((M_R_Near F x1 x1830 x2495).bind fun x2560 => M_L_CorePairs_j233 F rec229 x2495 x2560) else M_L_CorePairs_j233 F rec229 x2495 false)
def M_L_CorePairs_b229 (F : Nat) (rec201 : (Int × Int) → Option Bool) (x1 : List (List Int)) (x8 : (List Int × Int)) (x1830 : Int) (x2460 : Int) (rec229 : Int → Option Bool) (x2495 : Int) : Option Bool :=
  (if (decide (x2495 < x1830)) then ((idx x8.1 x1830).bind fun x2548 => (if (decide (x2548 < 0)) then ((idx x8.1 x2495).bind fun x2561 => M_L_CorePairs_j232 F rec229 x1 x1830 x2495 (decide (x2561 < 0))) else M_L_CorePairs_j232 F rec229 x1 x1830 x2495 false)) else M_L_CorePairs_j218 F rec201 x1830 x2460)
def M_L_CorePairs_l229 (F : Nat) (rec201 : (Int × Int) → Option Bool) (x1 : List (List Int)) (x8 : (List Int × Int)) (x1830 : Int) (x2460 : Int) : Nat → Int → Option Bool
  | 0 => fun _ => none
  | k + 1 => fun s => M_L_CorePairs_b229 F rec201 x1 x8 x1830 x2460 (M_L_CorePairs_l229 F rec201 x1 x8 x1830 x2460 k) s
def M_L_CorePairs_j220 (F : Nat) (rec201 : (Int × Int) → Option Bool) (x1 : List (List Int)) (x8 : (List Int × Int)) (x1830 : Int) (x2460 : Int) : Option Bool :=
  M_L_CorePairs_l229 F rec201 x1 x8 x1830 x2460 F 0
def M_L_CorePairs_j234 (F : Nat) (rec201 : (Int × Int) → Option Bool) (x1 : List (List Int)) (x8 : (List Int × Int)) (x1829 : Int) (x1830 : Int) (x2587 : Bool) : Option Bool :=
  (if x2587 then some false else M_L_CorePairs_j220 F rec201 x1 x8 x1830 (iadd .i64 x1829 1))
def M_L_CorePairs_b201 (F : Nat) (x1 : List (List Int)) (x4 : List Int) (x8 : (List Int × Int)) (rec201 : (Int × Int) → Option Bool) (x1829 : Int) (x1830 : Int) : Option Bool :=
  (if (decide (x1830 < (x8.1.length : Int))) then ((idx x8.1 x1830).bind fun x2565 => (if (decide (0 ≤ x2565)) then ((idx x8.1 x1830).bind fun x2589 => (if (decide ((x8.1.length : Int) ≤ x2589)) then M_L_CorePairs_j234 F rec201 x1 x8 x1829 x1830 true else ((idx x8.1 x1830).bind fun x2594 => ((idx x8.1 x2594).bind fun x2598 => (if ((x2598 : Int) != x1830) then M_L_CorePairs_j234 F rec201 x1 x8 x1829 x1830 true else ((idx x8.1 x1830).bind fun x2603 => ((M_R_Near F x1 x1830 x2603).bind fun x2607 => M_L_CorePairs_j234 F rec201 x1 x8 x1829 x1830 (!x2607)))))))) else M_L_CorePairs_j220 F rec201 x1 x8 x1830 x1829)) else M_L_CorePairs_j101 F x1 x4 x8 x1829)
def M_L_CorePairs_l201 (F : Nat) (x1 : List (List Int)) (x4 : List Int) (x8 : (List Int × Int)) : Nat → (Int × Int) → Option Bool
  | 0 => fun _ => none
  | k + 1 => fun s => M_L_CorePairs_b201 F x1 x4 x8 (M_L_CorePairs_l201 F x1 x4 x8 k) s.1 s.2
def M_L_CorePairs (F : Nat) (x1 : List (List Int)) (x4 : List Int) : Option Bool :=
  ((M_core_Pairs F x1).bind fun x8 => ((M_L_coreBegun F).bind fun x13 => (if (!x13) then some false else (if ((x8.2 : Int) != 0) then some (((x8.1.length : Int) : Int) == 0) else (if (((x8.1.length : Int) : Int) != (x1.length : Int)) then some false else M_L_CorePairs_l201 F x1 x4 x8 F (0, 0))))))
/-! lampwright lampwrightlaw.CoreDegree -/
def M_L_CoreDegree_j71 (_F : Nat) (x488 : Int) (x489 : Int) : Option Bool :=
  some (decide (x489 ≤ x488))
def M_L_CoreDegree_j130 (_F : Nat) (rec118 : (Int × Int × Int) → Option Bool) (x648 : Int) (x883 : Int) (x884 : Int) : Option Bool :=
  rec118 (x883, x884, iadd .i64 x648 1)
def M_L_CoreDegree_j137 (F : Nat) (rec118 : (Int × Int × Int) → Option Bool) (x5 : (List Int × Int)) (x646 : Int) (x647 : Int) (x648 : Int) (x909 : Int) (x929 : Bool) : Option Bool :=
  (if x929 then some false else ((idx x5.1 x648).bind fun x930 => M_L_CoreDegree_j130 F rec118 x648 (imax x646 x930) (imin x647 x909)))
def M_L_CoreDegree_j135 (F : Nat) (rec118 : (Int × Int × Int) → Option Bool) (x5 : (List Int × Int)) (x646 : Int) (x647 : Int) (x648 : Int) (x909 : Int) : Option Bool :=
  ((idx x5.1 x648).bind fun x922 => (if (decide (x922 < 0)) then M_L_CoreDegree_j137 F rec118 x5 x646 x647 x648 x909 true else ((idx x5.1 x648).bind fun x934 => M_L_CoreDegree_j137 F rec118 x5 x646 x647 x648 x909 (decide (x909 < x934)))))
def M_L_CoreDegree_j141 (_F : Nat) (rec140 : (Int × Int) → Option Bool) (x945 : Int) (x957 : Int) : Option Bool :=
  rec140 (x957, iadd .i64 x945 1)
def M_L_CoreDegree_b140 (F : Nat) (rec118 : (Int × Int × Int) → Option Bool) (x1 : List (List Int)) (x5 : (List Int × Int)) (x646 : Int) (x647 : Int) (x648 : Int) (rec140 : (Int × Int) → Option Bool) (x944 : Int) (x945 : Int) : Option Bool :=
  (if (decide (x945 < (x5.1.length : Int))) then ((M_R_Near F x1 x648 x945).bind fun x958 => (if x958 then M_L_CoreDegree_j141 F rec140 x945 (iadd .i64 x944 1) else M_L_CoreDegree_j141 F rec140 x945 x944)) else M_L_CoreDegree_j135 F rec118 x5 x646 x647 x648 x944)
def M_L_CoreDegree_l140 (F : Nat) (rec118 : (Int × Int × Int) → Option Bool) (x1 : List (List Int)) (x5 : (List Int × Int)) (x646 : Int) (x647 : Int) (x648 : Int) : Nat → (Int × Int) → Option Bool
  | 0 => fun _ => none
  | k + 1 => fun s => M_L_CoreDegree_b140 F rec118 x1 x5 x646 x647 x648 (M_L_CoreDegree_l140 F rec118 x1 x5 x646 x647 x648 k) s.1 s.2
def M_L_CoreDegree_b118 (F : Nat) (x1 : List (List Int)) (x5 : (List Int × Int)) (rec118 : (Int × Int × Int) → Option Bool) (x646 : Int) (x647 : Int) (x648 : Int) : Option Bool :=
  (if (decide (x648 < (x5.1.length : Int))) then M_L_CoreDegree_l140 F rec118 x1 x5 x646 x647 x648 F (0, 0) else M_L_CoreDegree_j71 F x646 x647)
def M_L_CoreDegree_l118 (F : Nat) (x1 : List (List Int)) (x5 : (List Int × Int)) : Nat → (Int × Int × Int) → Option Bool
  | 0 => fun _ => none
  | k + 1 => fun s => M_L_CoreDegree_b118 F x1 x5 (M_L_CoreDegree_l118 F x1 x5 k) s.1 s.2.1 s.2.2
def M_L_CoreDegree (F : Nat) (x1 : List (List Int)) : Option Bool :=
  ((M_core_Numbers F x1).bind fun x5 => ((M_L_coreBegun F).bind fun x10 => (if (!x10) then some false else (if (((x5.2 : Int) != 0) || (((x5.1.length : Int) : Int) == 0)) then some (((x5.2 : Int) == 0) || (((x5.1.length : Int) : Int) == 0)) else M_L_CoreDegree_l118 F x1 x5 F (0, (x5.1.length : Int), 0)))))
end Go.Proofs.Ytdiabhkbchmpaaa
