/- What each Go function of this seat computes, in plain terms. -/
import Derived.Test.YtefoeebfidklgaaSy
namespace Go.Proofs.Ytefoeebfidklgaa
open Go SX
/-! lampwright graph.Check -/
def M_graph_Check_j23 (_F : Nat) (x798 : Int) : Option Int :=
  (if (decide (600 < x798)) then some 2 else some 0)
def M_graph_Check_j42 (_F : Nat) (rec38 : (Int × Int) → Option Int) (x1065 : Int) (x1461 : Int) : Option Int :=
  rec38 (x1461, iadd .i64 x1065 1)
def M_graph_Check_j44 (F : Nat) (rec38 : (Int × Int) → Option Int) (x1064 : Int) (x1065 : Int) (x1462 : List Int) : Option Int :=
  M_graph_Check_j42 F rec38 x1065 (iadd .i64 x1064 (x1462.length : Int))
def M_graph_Check_b45 (F : Nat) (rec38 : (Int × Int) → Option Int) (x1 : List (List Int)) (x1064 : Int) (x1065 : Int) (x1462 : List Int) (rec45 : (Int × Int) → Option Int) (x1549 : Int) (x1550 : Int) : Option Int :=
  (if (decide (x1550 < (x1462.length : Int))) then ((idx x1462 x1550).bind fun x1582 => (if ((decide (x1582 < 0)) || (decide ((x1.length : Int) ≤ x1582))) then some 3 else (if (decide (x1582 ≤ x1549)) then some 4 else rec45 (x1582, iadd .i64 x1550 1)))) else M_graph_Check_j44 F rec38 x1064 x1065 x1462)
def M_graph_Check_l45 (F : Nat) (rec38 : (Int × Int) → Option Int) (x1 : List (List Int)) (x1064 : Int) (x1065 : Int) (x1462 : List Int) : Nat → (Int × Int) → Option Int
  | 0 => fun _ => none
  | k + 1 => fun s => M_graph_Check_b45 F rec38 x1 x1064 x1065 x1462 (M_graph_Check_l45 F rec38 x1 x1064 x1065 x1462 k) s.1 s.2
def M_graph_Check_b38 (F : Nat) (x1 : List (List Int)) (rec38 : (Int × Int) → Option Int) (x1064 : Int) (x1065 : Int) : Option Int :=
  (if (decide (x1065 < (x1.length : Int))) then ((idx x1 x1065).bind fun x1462 => M_graph_Check_l45 F rec38 x1 x1064 x1065 x1462 F (-1, 0)) else M_graph_Check_j23 F x1064)
def M_graph_Check_l38 (F : Nat) (x1 : List (List Int)) : Nat → (Int × Int) → Option Int
  | 0 => fun _ => none
  | k + 1 => fun s => M_graph_Check_b38 F x1 (M_graph_Check_l38 F x1 k) s.1 s.2
def M_graph_Check (F : Nat) (x1 : List (List Int)) : Option Int :=
  (if (decide (100 < (x1.length : Int))) then some 2 else M_graph_Check_l38 F x1 F (0, 0))
/-! math bits.Mul32 -/
def M_math_bits_Mul32 (_F : Nat) (x1 : Int) (x2 : Int) : Option (Int × Int) :=
  (lett (imul .u64 (iconv .u64 x1) (iconv .u64 x2)) fun x3 => some (iconv .u32 (ishr .u64 x3 32), iconv .u32 x3))
/-! math bits.Mul64 -/
def M_math_bits_Mul64 (_F : Nat) (x1 : Int) (x2 : Int) : Option (Int × Int) :=
  (lett (imul .u64 (iand .u64 x1 4294967295) (iand .u64 x2 4294967295)) fun x3 => (lett (iadd .u64 (imul .u64 (ishr .u64 x1 32) (iand .u64 x2 4294967295)) (ishr .u64 x3 32)) fun x4 => (lett (iadd .u64 (iand .u64 x4 4294967295) (imul .u64 (iand .u64 x1 4294967295) (ishr .u64 x2 32))) fun x5 => (lett (iadd .u64 (iadd .u64 (imul .u64 (ishr .u64 x1 32) (ishr .u64 x2 32)) (ishr .u64 x4 32)) (ishr .u64 x5 32)) fun x6 => some (x6, imul .u64 x1 x2)))))
/-! math bits.Mul -/
def M_math_bits_Mul (F : Nat) (x1 : Int) (x2 : Int) : Option (Int × Int) :=
  ((M_math_bits_Mul64 F x1 x2).bind fun x3 => some (x3.1, x3.2))
/-! slices.Repeat[[]int,int] -/
def M_slices_Repeat_int_int_j2 (_F : Nat) (x64 : List Int) : Option (List Int) :=
  some x64
def M_slices_Repeat_int_int_b3 (F : Nat) (rec3 : (List Int × Int) → Option (List Int)) (x80 : List Int) (x81 : Int) : Option (List Int) :=
  (if (decide (x81 < (x80.length : Int))) then ((sub x80 x81 (x80.length : Int)).bind fun x99 => ((sub x80 0 x81).bind fun x104 => (lett (overlay x81.toNat x80 x104) fun x109 => rec3 (x109, iadd .i64 x81 ((min x104.length x99.length : Nat) : Int))))) else M_slices_Repeat_int_int_j2 F x80)
def M_slices_Repeat_int_int_l3 (F : Nat) : Nat → (List Int × Int) → Option (List Int)
  | 0 => fun _ => none
  | k + 1 => fun s => M_slices_Repeat_int_int_b3 F (M_slices_Repeat_int_int_l3 F k) s.1 s.2
def M_slices_Repeat_int_int (F : Nat) (x1 : List Int) (x4 : Int) : Option (List Int) :=
  (if (decide (x4 < 0)) then none else ((M_math_bits_Mul F (iconv .u64 (x1.length : Int)) (iconv .u64 x4)).bind fun x6 => (if ((decide (0 < x6.1)) || (decide (9223372036854775807 < x6.2))) then none else ((mk 17592186044416 (0 : Int) (iconv .i64 x6.2)).bind fun x10 => (lett (overlay 0 x10 x1) fun x13 => M_slices_Repeat_int_int_l3 F F (x13, ((min x1.length x10.length : Nat) : Int)))))))
/-! slices.Index[[]int,int] -/
def M_slices_Index_int_int_j2 (_F : Nat) : Option Int :=
  some (-1)
def M_slices_Index_int_int_b3 (F : Nat) (x1 : List Int) (x4 : Int) (rec3 : Int → Option Int) (x47 : Int) : Option Int :=
  (if (decide (x47 < (x1.length : Int))) then ((idx x1 x47).bind fun x64 => (if ((x4 : Int) == x64) then some x47 else rec3 (iadd .i64 x47 1))) else M_slices_Index_int_int_j2 F)
def M_slices_Index_int_int_l3 (F : Nat) (x1 : List Int) (x4 : Int) : Nat → Int → Option Int
  | 0 => fun _ => none
  | k + 1 => fun s => M_slices_Index_int_int_b3 F x1 x4 (M_slices_Index_int_int_l3 F x1 x4 k) s
def M_slices_Index_int_int (F : Nat) (x1 : List Int) (x4 : Int) : Option Int :=
  M_slices_Index_int_int_l3 F x1 x4 F 0
/-! slices.Min[[]int,int] -/
def M_slices_Min_int_int_j2 (_F : Nat) (x35 : Int) : Option Int :=
  some x35
def M_slices_Min_int_int_b3 (F : Nat) (x1 : List Int) (rec3 : (Int × Int) → Option Int) (x44 : Int) (x45 : Int) : Option Int :=
  (if (decide (x45 < (x1.length : Int))) then ((idx x1 x45).bind fun x59 => rec3 (imin x44 x59, iadd .i64 x45 1)) else M_slices_Min_int_int_j2 F x44)
def M_slices_Min_int_int_l3 (F : Nat) (x1 : List Int) : Nat → (Int × Int) → Option Int
  | 0 => fun _ => none
  | k + 1 => fun s => M_slices_Min_int_int_b3 F x1 (M_slices_Min_int_int_l3 F x1 k) s.1 s.2
def M_slices_Min_int_int (F : Nat) (x1 : List Int) : Option Int :=
  (if (decide ((x1.length : Int) < 1)) then none else ((idx x1 0).bind fun x5 => M_slices_Min_int_int_l3 F x1 F (x5, 1)))
/-! (*lampwright strong.finder).close -/
def M_strong_finder_close_j2 (_F : Nat) (x5 : List Int) (x8 : List Int) (x11 : List Int) (x17 : Int) (x19 : Int) (x75 : List Int) : Option (List Int × List Int × List Int × List Int × Int) :=
  ((sub x11 0 x19).bind fun x76 => some (x5, x8, x76, x75, x17))
def M_strong_finder_close_b3 (F : Nat) (x5 : List Int) (x8 : List Int) (x11 : List Int) (x17 : Int) (x19 : Int) (x23 : Int) (rec3 : (Int × List Int) → Option (List Int × List Int × List Int × List Int × Int)) (x93 : Int) (x94 : List Int) : Option (List Int × List Int × List Int × List Int × Int) :=
  (if (decide (x93 < ((x11.length - x19.toNat : Nat) : Int))) then ((idx (x11.drop x19.toNat) x93).bind fun x120 => ((idx x94 x120).bind fun _x121 => (lett (x94.set x120.toNat x23) fun x124 => rec3 (iadd .i64 x93 1, x124)))) else M_strong_finder_close_j2 F x5 x8 x11 x17 x19 x94)
def M_strong_finder_close_l3 (F : Nat) (x5 : List Int) (x8 : List Int) (x11 : List Int) (x17 : Int) (x19 : Int) (x23 : Int) : Nat → (Int × List Int) → Option (List Int × List Int × List Int × List Int × Int)
  | 0 => fun _ => none
  | k + 1 => fun s => M_strong_finder_close_b3 F x5 x8 x11 x17 x19 x23 (M_strong_finder_close_l3 F x5 x8 x11 x17 x19 x23 k) s.1 s.2
def M_strong_finder_close (F : Nat) (_x2 : List (List Int)) (x5 : List Int) (x8 : List Int) (x11 : List Int) (x14 : List Int) (x17 : Int) (x18 : Int) : Option (List Int × List Int × List Int × List Int × Int) :=
  ((M_slices_Index_int_int F x11 x18).bind fun x19 => (chk (decide (0 ≤ x19 ∧ x19 < (x11.length : Int))) (((M_slices_Min_int_int F (x11.drop x19.toNat)).bind fun x23 => M_strong_finder_close_l3 F x5 x8 x11 x17 x19 x23 F (0, x14)))))
/-! (*lampwright strong.finder).visit -/
def M_strong_finder_visit_j5 (F : Nat) (x2 : List (List Int)) (x18 : Int) (x418 : List Int) (x421 : List Int) (x424 : List Int) (x427 : List Int) (x428 : Int) : Option (List Int × List Int × List Int × List Int × Int) :=
  ((idx x421 x18).bind fun x437 => ((idx x418 x18).bind fun x441 => (if ((x437 : Int) == x441) then ((M_strong_finder_close F x2 x418 x421 x424 x427 x428 x18).bind fun x445 => some (x445.1, x445.2.1, x445.2.2.1, x445.2.2.2.1, x445.2.2.2.2)) else some (x418, x421, x424, x427, x428))))
def M_strong_finder_visit_j9 (_F : Nat) (rec8 : (Int × List Int × List Int × List Int × List Int × Int) → Option (List Int × List Int × List Int × List Int × Int)) (x574 : Int) (x757 : List Int) (x760 : List Int) (x763 : List Int) (x766 : List Int) (x767 : Int) : Option (List Int × List Int × List Int × List Int × Int) :=
  rec8 (iadd .i64 x574 1, x757, x760, x763, x766, x767)
def M_strong_finder_visit_b8 (F : Nat) (self : (List (List Int)) → (List Int) → (List Int) → (List Int) → (List Int) → Int → Int → Option (List Int × List Int × List Int × List Int × Int)) (x2 : List (List Int)) (x18 : Int) (x455 : List Int) (rec8 : (Int × List Int × List Int × List Int × List Int × Int) → Option (List Int × List Int × List Int × List Int × Int)) (x574 : Int) (x577 : List Int) (x580 : List Int) (x583 : List Int) (x586 : List Int) (x587 : Int) : Option (List Int × List Int × List Int × List Int × Int) :=
  (if (decide (x574 < (x455.length : Int))) then ((idx x455 x574).bind fun x768 => ((idx x577 x768).bind fun x771 => (if ((x771 : Int) == 0) then ((self x2 x577 x580 x583 x586 x587 x768).bind fun x774 => ((idx x774.2.1 x18).bind fun x783 => ((idx x774.2.1 x768).bind fun x787 => ((idx x774.2.1 x18).bind fun _x791 => (lett (x774.2.1.set x18.toNat (imin x783 x787)) fun x795 => M_strong_finder_visit_j9 F rec8 x574 x774.1 x795 x774.2.2.1 x774.2.2.2.1 x774.2.2.2.2))))) else ((idx x586 x768).bind fun x798 => (if (decide (x798 < 0)) then ((idx x580 x18).bind fun x801 => ((idx x577 x768).bind fun x805 => ((idx x580 x18).bind fun _x809 => (lett (x580.set x18.toNat (imin x801 x805)) fun x813 => M_strong_finder_visit_j9 F rec8 x574 x577 x813 x583 x586 x587)))) else M_strong_finder_visit_j9 F rec8 x574 x577 x580 x583 x586 x587))))) else M_strong_finder_visit_j5 F x2 x18 x577 x580 x583 x586 x587)
def M_strong_finder_visit_l8 (F : Nat) (self : (List (List Int)) → (List Int) → (List Int) → (List Int) → (List Int) → Int → Int → Option (List Int × List Int × List Int × List Int × Int)) (x2 : List (List Int)) (x18 : Int) (x455 : List Int) : Nat → (Int × List Int × List Int × List Int × List Int × Int) → Option (List Int × List Int × List Int × List Int × Int)
  | 0 => fun _ => none
  | k + 1 => fun s => M_strong_finder_visit_b8 F self x2 x18 x455 (M_strong_finder_visit_l8 F self x2 x18 x455 k) s.1 s.2.1 s.2.2.1 s.2.2.2.1 s.2.2.2.2.1 s.2.2.2.2.2
def M_strong_finder_visit : Nat → (List (List Int)) → (List Int) → (List Int) → (List Int) → (List Int) → Int → Int → Option (List Int × List Int × List Int × List Int × Int)
  | 0 => fun _ _ _ _ _ _ _ => none
  | F + 1 => fun x2 x5 x8 x11 x14 x17 x18 =>
    let self := M_strong_finder_visit F
    ((idx x5 x18).bind fun _x33 => ((idx x8 x18).bind fun _x37 => (lett (x5.set x18.toNat (iadd .i64 x17 1)) fun x41 => (lett (x8.set x18.toNat (iadd .i64 x17 1)) fun x44 => ((app 8796093022208 x11 ([x18] : List Int)).bind fun x49 => ((idx x2 x18).bind fun x455 => M_strong_finder_visit_l8 F self x2 x18 x455 F (0, x41, x44, x49, x14, iadd .i64 x17 1)))))))
/-! lampwright strong.parts -/
def M_strong_parts_j6 (_F : Nat) (_x265 : List Int) (_x268 : List Int) (_x271 : List Int) (x274 : List Int) (_x275 : Int) : Option (List Int) :=
  some x274
def M_strong_parts_j10 (_F : Nat) (rec9 : (Int × List Int × List Int × List Int × List Int × Int) → Option (List Int)) (x318 : Int) (x390 : List Int) (x393 : List Int) (x396 : List Int) (x399 : List Int) (x400 : Int) : Option (List Int) :=
  rec9 (iadd .i64 x318 1, x390, x393, x396, x399, x400)
def M_strong_parts_b9 (F : Nat) (x1 : List (List Int)) (rec9 : (Int × List Int × List Int × List Int × List Int × Int) → Option (List Int)) (x318 : Int) (x321 : List Int) (x324 : List Int) (x327 : List Int) (x330 : List Int) (x331 : Int) : Option (List Int) :=
  (if (decide (x318 < (x1.length : Int))) then ((idx x321 x318).bind fun x401 => (if ((x401 : Int) == 0) then ((M_strong_finder_visit F x1 x321 x324 x327 x330 x331 x318).bind fun x404 => M_strong_parts_j10 F rec9 x318 x404.1 x404.2.1 x404.2.2.1 x404.2.2.2.1 x404.2.2.2.2) else M_strong_parts_j10 F rec9 x318 x321 x324 x327 x330 x331)) else M_strong_parts_j6 F x321 x324 x327 x330 x331)
def M_strong_parts_l9 (F : Nat) (x1 : List (List Int)) : Nat → (Int × List Int × List Int × List Int × List Int × Int) → Option (List Int)
  | 0 => fun _ => none
  | k + 1 => fun s => M_strong_parts_b9 F x1 (M_strong_parts_l9 F x1 k) s.1 s.2.1 s.2.2.1 s.2.2.2.1 s.2.2.2.2.1 s.2.2.2.2.2
def M_strong_parts_j1 (F : Nat) (x1 : List (List Int)) (x117 : List Int) (x120 : List Int) (x123 : List Int) : Option (List Int) :=
  M_strong_parts_l9 F x1 F (0, x117, x120, ([] : List Int), x123, 0)
def M_strong_parts (F : Nat) (x1 : List (List Int)) : Option (List Int) :=
  ((mk 17592186044416 (0 : Int) (x1.length : Int)).bind fun x415 => ((mk 17592186044416 (0 : Int) (x1.length : Int)).bind fun x418 => ((M_slices_Repeat_int_int F ([-1] : List Int) (x1.length : Int)).bind fun x423 => M_strong_parts_j1 F x1 x415 x418 x423)))
/-! lampwright strong.Parts -/
def M_strong_Parts (F : Nat) (x1 : List (List Int)) : Option (List Int × Int) :=
  ((M_graph_Check F x1).bind fun x7 => (if ((x7 : Int) != 0) then some (([] : List Int), x7) else ((M_strong_parts F x1).bind fun x8 => some (x8, 0))))
/-! lampwright graph.All -/
def M_graph_All (_F : Nat) (_x1 : List (List Int)) : Option Unit :=
  some ()
/-! lampwright graph.All$1 -/
def M_graph_All_1_j9 {σ τ : Type} (_F : Nat) (_yy : σ → (Int × Int) → Option (σ ⊕ τ)) (rec7 : (Int × σ) → Option (σ ⊕ τ)) (x121 : Int) (x298 : σ) : Option (σ ⊕ τ) :=
  rec7 (iadd .i64 x121 1, x298)
def M_graph_All_1_b10 {σ τ : Type} (F : Nat) (yy : σ → (Int × Int) → Option (σ ⊕ τ)) (rec7 : (Int × σ) → Option (σ ⊕ τ)) (x121 : Int) (x300 : List Int) (rec10 : (Int × σ) → Option (σ ⊕ τ)) (x320 : Int) (x321 : σ) : Option (σ ⊕ τ) :=
  (if (decide (x320 < (x300.length : Int))) then ((idx x300 x320).bind fun x348 => ((yy x321 (x121, x348)).bind (Sum.elim (fun x351 => rec10 (iadd .i64 x320 1, x351)) (fun x352 => some (.inr x352))))) else M_graph_All_1_j9 F yy rec7 x121 x321)
def M_graph_All_1_l10 {σ τ : Type} (F : Nat) (yy : σ → (Int × Int) → Option (σ ⊕ τ)) (rec7 : (Int × σ) → Option (σ ⊕ τ)) (x121 : Int) (x300 : List Int) : Nat → (Int × σ) → Option (σ ⊕ τ)
  | 0 => fun _ => none
  | k + 1 => fun s => M_graph_All_1_b10 F yy rec7 x121 x300 (M_graph_All_1_l10 F yy rec7 x121 x300 k) s.1 s.2
def M_graph_All_1_b7 {σ τ : Type} (F : Nat) (yy : σ → (Int × Int) → Option (σ ⊕ τ)) (x2 : List (List Int)) (rec7 : (Int × σ) → Option (σ ⊕ τ)) (x121 : Int) (x122 : σ) : Option (σ ⊕ τ) :=
  (if (decide (x121 < (x2.length : Int))) then ((idx x2 x121).bind fun x300 => M_graph_All_1_l10 F yy rec7 x121 x300 F (0, x122)) else some (.inl x122))
def M_graph_All_1_l7 {σ τ : Type} (F : Nat) (yy : σ → (Int × Int) → Option (σ ⊕ τ)) (x2 : List (List Int)) : Nat → (Int × σ) → Option (σ ⊕ τ)
  | 0 => fun _ => none
  | k + 1 => fun s => M_graph_All_1_b7 F yy x2 (M_graph_All_1_l7 F yy x2 k) s.1 s.2
def M_graph_All_1 {σ τ : Type} (F : Nat) (yy : σ → (Int × Int) → Option (σ ⊕ τ)) (x2 : List (List Int)) (s0 : σ) : Option (σ ⊕ τ) :=
  M_graph_All_1_l7 F yy x2 F (0, s0)
/-! lampwright graph.Degrees -/
def M_graph_Degrees_r3 (_F : Nat) (x121 : List Int) (x122 : List Int) (x144 : Int) (x145 : Int) : Option ((List Int × List Int) ⊕ Empty) :=
  ((idx x122 x144).bind fun x147 => ((idx x122 x144).bind fun _x150 => (lett (x122.set x144.toNat (iadd .i64 x147 1)) fun x153 => ((idx x121 x145).bind fun x156 => ((idx x121 x145).bind fun _x159 => (lett (x121.set x145.toNat (iadd .i64 x156 1)) fun x162 => some (.inl (x162, x153))))))))
def M_graph_Degrees_j1 (F : Nat) (x1 : List (List Int)) (x27 : List Int) (x30 : List Int) : Option (List Int × List Int × Int) :=
  ((M_graph_All F x1).bind fun _x98 => ((M_graph_All_1 F (fun ((x121, x122) : (List Int × List Int)) ((x144, x145) : (Int × Int)) => M_graph_Degrees_r3 F x121 x122 x144 x145) x1 (x27, x30)).bind (Sum.elim (fun ((x121, x122) : (List Int × List Int)) => some (x122, x121, 0)) (fun t => t.elim))))
def M_graph_Degrees (F : Nat) (x1 : List (List Int)) : Option (List Int × List Int × Int) :=
  ((M_graph_Check F x1).bind fun x9 => (if ((x9 : Int) != 0) then some (([] : List Int), ([] : List Int), x9) else ((mk 17592186044416 (0 : Int) (x1.length : Int)).bind fun x165 => ((mk 17592186044416 (0 : Int) (x1.length : Int)).bind fun x168 => M_graph_Degrees_j1 F x1 x168 x165))))
/-! lampwright strong.Order -/
def M_strong_Order_j11 (_F : Nat) (x580 : List Int) : Option (List Int × Int) :=
  some (x580, 0)
def M_strong_Order_j20 (_F : Nat) (rec18 : (List Int × List Int) → Option (List Int × Int)) (x772 : List Int) (x962 : Int) (x1055 : List Int) : Option (List Int × Int) :=
  ((app 8796093022208 x772 ([x962] : List Int)).bind fun x1058 => rec18 (x1055, x1058))
def M_strong_Order_b21 (F : Nat) (rec18 : (List Int × List Int) → Option (List Int × Int)) (x772 : List Int) (x962 : Int) (x1061 : List Int) (rec21 : (List Int × Int) → Option (List Int × Int)) (x1091 : List Int) (x1092 : Int) : Option (List Int × Int) :=
  (if (decide (x1092 < (x1061.length : Int))) then ((idx x1061 x1092).bind fun x1133 => ((idx x1091 x1133).bind fun x1136 => ((idx x1091 x1133).bind fun _x1139 => (lett (x1091.set x1133.toNat (isub .i64 x1136 1)) fun x1142 => rec21 (x1142, iadd .i64 x1092 1))))) else M_strong_Order_j20 F rec18 x772 x962 x1091)
def M_strong_Order_l21 (F : Nat) (rec18 : (List Int × List Int) → Option (List Int × Int)) (x772 : List Int) (x962 : Int) (x1061 : List Int) : Nat → (List Int × Int) → Option (List Int × Int)
  | 0 => fun _ => none
  | k + 1 => fun s => M_strong_Order_b21 F rec18 x772 x962 x1061 (M_strong_Order_l21 F rec18 x772 x962 x1061 k) s.1 s.2
def M_strong_Order_b18 (F : Nat) (x1 : List (List Int)) (rec18 : (List Int × List Int) → Option (List Int × Int)) (x769 : List Int) (x772 : List Int) : Option (List Int × Int) :=
  (if (decide ((x772.length : Int) < (x769.length : Int))) then ((M_slices_Index_int_int F x769 0).bind fun x962 => (if (decide (x962 < 0)) then some (([] : List Int), 4) else ((idx x769 x962).bind fun _x964 => (lett (x769.set x962.toNat (-1)) fun x967 => ((idx x1 x962).bind fun x1061 => M_strong_Order_l21 F rec18 x772 x962 x1061 F (x967, 0)))))) else M_strong_Order_j11 F x772)
def M_strong_Order_l18 (F : Nat) (x1 : List (List Int)) : Nat → (List Int × List Int) → Option (List Int × Int)
  | 0 => fun _ => none
  | k + 1 => fun s => M_strong_Order_b18 F x1 (M_strong_Order_l18 F x1 k) s.1 s.2
def M_strong_Order (F : Nat) (x1 : List (List Int)) : Option (List Int × Int) :=
  ((M_graph_Degrees F x1).bind fun x5 => (if ((x5.2.2 : Int) != 0) then some (([] : List Int), x5.2.2) else M_strong_Order_l18 F x1 F (x5.2.1, ([] : List Int))))
/-! lampwright graph.Built -/
def M_graph_Built_j2 (_F : Nat) (x171 : List (List Int)) : Option (List (List Int)) :=
  some x171
def M_graph_Built_b3 (F : Nat) (x2 : List (Int × Int)) (rec3 : (Int × List (List Int)) → Option (List (List Int))) (x224 : Int) (x226 : List (List Int)) : Option (List (List Int)) :=
  (if (decide (x224 < (x2.length : Int))) then ((idx x2 x224).bind fun x306 => ((idx x226 x306.1).bind fun x310 => ((idx x226 x306.1).bind fun _x316 => ((app 8796093022208 x310 ([x306.2] : List Int)).bind fun x324 => (lett (x226.set x306.1.toNat x324) fun x327 => rec3 (iadd .i64 x224 1, x327)))))) else M_graph_Built_j2 F x226)
def M_graph_Built_l3 (F : Nat) (x2 : List (Int × Int)) : Nat → (Int × List (List Int)) → Option (List (List Int))
  | 0 => fun _ => none
  | k + 1 => fun s => M_graph_Built_b3 F x2 (M_graph_Built_l3 F x2 k) s.1 s.2
def M_graph_Built (F : Nat) (x1 : Int) (x2 : List (Int × Int)) : Option (List (List Int)) :=
  ((mk 4398046511104 (([] : List Int) : List Int) x1).bind fun x6 => M_graph_Built_l3 F x2 F (0, x6))
/-! slices.Values[[]lampwright api.Arc,lampwright api.Arc] -/
def M_slices_Values_api_Arc_api_Arc (_F : Nat) (_x1 : List (Int × Int)) : Option Unit :=
  some ()
/-! cmp.Or[int] -/
def M_cmp_Or_int_j2 (_F : Nat) : Option Int :=
  some 0
def M_cmp_Or_int_b3 (F : Nat) (x1 : List Int) (rec3 : Int → Option Int) (x46 : Int) : Option Int :=
  (if (decide (x46 < (x1.length : Int))) then ((idx x1 x46).bind fun x63 => (if ((x63 : Int) != 0) then some x63 else rec3 (iadd .i64 x46 1))) else M_cmp_Or_int_j2 F)
def M_cmp_Or_int_l3 (F : Nat) (x1 : List Int) : Nat → Int → Option Int
  | 0 => fun _ => none
  | k + 1 => fun s => M_cmp_Or_int_b3 F x1 (M_cmp_Or_int_l3 F x1 k) s
def M_cmp_Or_int (F : Nat) (x1 : List Int) : Option Int :=
  M_cmp_Or_int_l3 F x1 F 0
/-! cmp.isNaN[int] -/
def M_cmp_isNaN_int (_F : Nat) (x1 : Int) : Option Bool :=
  some ((x1 : Int) != x1)
/-! cmp.Compare[int] -/
def M_cmp_Compare_int (F : Nat) (x1 : Int) (x2 : Int) : Option Int :=
  ((M_cmp_isNaN_int F x1).bind fun x3 => ((M_cmp_isNaN_int F x2).bind fun x4 => (if x3 then (if x4 then some 0 else some (-1)) else (if x4 then some 1 else (if (decide (x1 < x2)) then some (-1) else (if (decide (x2 < x1)) then some 1 else some 0))))))
/-! lampwright graph.order -/
def M_graph_order (F : Nat) (x1 : Int) (x2 : Int) (x3 : Int) (x4 : Int) : Option Int :=
  ((M_cmp_Compare_int F x1 x3).bind fun x12 => ((M_cmp_Compare_int F x2 x4).bind fun x13 => ((M_cmp_Or_int F ([x12, x13] : List Int)).bind fun x16 => some x16)))
/-! slices.Values[[]lampwright api.Arc,lampwright api.Arc]$1 -/
def M_slices_Values_api_Arc_api_Arc_1_b1 {σ τ : Type} (_F : Nat) (yy : σ → (Int × Int) → Option (σ ⊕ τ)) (x2 : List (Int × Int)) (rec1 : (Int × σ) → Option (σ ⊕ τ)) (x23 : Int) (x24 : σ) : Option (σ ⊕ τ) :=
  (if (decide (x23 < (x2.length : Int))) then ((idx x2 x23).bind fun x54 => ((yy x24 (x54.1, x54.2)).bind (Sum.elim (fun x58 => rec1 (iadd .i64 x23 1, x58)) (fun x59 => some (.inr x59))))) else some (.inl x24))
def M_slices_Values_api_Arc_api_Arc_1_l1 {σ τ : Type} (F : Nat) (yy : σ → (Int × Int) → Option (σ ⊕ τ)) (x2 : List (Int × Int)) : Nat → (Int × σ) → Option (σ ⊕ τ)
  | 0 => fun _ => none
  | k + 1 => fun s => M_slices_Values_api_Arc_api_Arc_1_b1 F yy x2 (M_slices_Values_api_Arc_api_Arc_1_l1 F yy x2 k) s.1 s.2
def M_slices_Values_api_Arc_api_Arc_1 {σ τ : Type} (F : Nat) (yy : σ → (Int × Int) → Option (σ ⊕ τ)) (x2 : List (Int × Int)) (s0 : σ) : Option (σ ⊕ τ) :=
  M_slices_Values_api_Arc_api_Arc_1_l1 F yy x2 F (0, s0)
/-! slices.AppendSeq[[]lampwright api.Arc,lampwright api.Arc] -/
def M_slices_AppendSeq_api_Arc_api_Arc_slices_Values_api_Arc_api_Arc_1_r2 (_F : Nat) (x46 : List (Int × Int)) (x55 : Int) (x56 : Int) : Option (List (Int × Int) ⊕ Empty) :=
  ((app 4398046511104 x46 ([(x55, x56)] : List (Int × Int))).bind fun x60 => some (.inl x60))
def M_slices_AppendSeq_api_Arc_api_Arc_slices_Values_api_Arc_api_Arc_1 (F : Nat) (x1 : List (Int × Int)) (x5 : List (Int × Int)) : Option (List (Int × Int)) :=
  ((M_slices_Values_api_Arc_api_Arc_1 F (fun (x46 : List (Int × Int)) ((x55, x56) : (Int × Int)) => M_slices_AppendSeq_api_Arc_api_Arc_slices_Values_api_Arc_api_Arc_1_r2 F x46 x55 x56) x5 x1).bind (Sum.elim (fun (x46 : List (Int × Int)) => some x46) (fun t => t.elim)))
/-! slices.Collect[lampwright api.Arc] -/
def M_slices_Collect_api_Arc_slices_Values_api_Arc_api_Arc_1 (F : Nat) (x2 : List (Int × Int)) : Option (List (Int × Int)) :=
  ((M_slices_AppendSeq_api_Arc_api_Arc_slices_Values_api_Arc_api_Arc_1 F ([] : List (Int × Int)) x2).bind fun x5 => some x5)
/-! slices.SortFunc[[]lampwright api.Arc,lampwright api.Arc] -/
def M_slices_SortFunc_api_Arc_api_Arc_graph_order (F : Nat) (x1 : List (Int × Int)) : Option (List (Int × Int)) :=
  sortF (fun a b => M_graph_order F a.1 a.2 b.1 b.2) x1
/-! slices.SortedFunc[lampwright api.Arc] -/
def M_slices_SortedFunc_api_Arc_slices_Values_api_Arc_api_Arc_1_graph_order (F : Nat) (x2 : List (Int × Int)) : Option (List (Int × Int)) :=
  ((M_slices_Collect_api_Arc_slices_Values_api_Arc_api_Arc_1 F x2).bind fun x5 => ((M_slices_SortFunc_api_Arc_api_Arc_graph_order F x5).bind fun x8 => (chk (decide (x8.length = x5.length)) (some x8))))
/-! lampwright graph.Of -/
def M_graph_Of_j2 (F : Nat) (x1 : Int) (x2 : List (Int × Int)) : Option (List (List Int) × Int) :=
  ((M_slices_Values_api_Arc_api_Arc F x2).bind fun _x122 => ((M_slices_SortedFunc_api_Arc_slices_Values_api_Arc_api_Arc_1_graph_order F x2).bind fun x124 => ((M_graph_Built F x1 x124).bind fun x127 => some (x127, 0))))
def M_graph_Of_b3 (F : Nat) (x1 : Int) (x2 : List (Int × Int)) (rec3 : (Int × List (Int × Int)) → Option (List (List Int) × Int)) (x166 : Int) (x167 : List (Int × Int)) : Option (List (List Int) × Int) :=
  (if (decide (x166 < (x2.length : Int))) then ((idx x2 x166).bind fun x223 => (if ((((decide (x223.1 < 0)) || (decide (x1 ≤ x223.1))) || (decide (x223.2 < 0))) || (decide (x1 ≤ x223.2))) then some (([] : List (List Int)), 3) else (if (decide (((x223.1, x223.2) : Int × Int) ∈ x167)) then some (([] : List (List Int)), 6) else ((sins x167 (x223.1, x223.2)).bind fun x237 => rec3 (iadd .i64 x166 1, x237))))) else M_graph_Of_j2 F x1 x2)
def M_graph_Of_l3 (F : Nat) (x1 : Int) (x2 : List (Int × Int)) : Nat → (Int × List (Int × Int)) → Option (List (List Int) × Int)
  | 0 => fun _ => none
  | k + 1 => fun s => M_graph_Of_b3 F x1 x2 (M_graph_Of_l3 F x1 x2 k) s.1 s.2
def M_graph_Of (F : Nat) (x1 : Int) (x2 : List (Int × Int)) : Option (List (List Int) × Int) :=
  (if ((decide (x1 < 0)) || (decide (100 < x1))) then some (([] : List (List Int)), 3) else (if (decide (600 < (x2.length : Int))) then some (([] : List (List Int)), 2) else M_graph_Of_l3 F x1 x2 F (0, ([] : List (Int × Int)))))
/-! slices.Compact[[]int,int] -/
def M_slices_Compact_int_int (_F : Nat) (x1 : List Int) : Option (List Int) :=
  if (Go.Lib.compact x1).length ≤ x1.length then some (Go.Lib.compact x1) else none
/-! slices.Values[[]int,int] -/
def M_slices_Values_int_int (_F : Nat) (_x1 : List Int) : Option Unit :=
  some ()
/-! cmp.Less[int] -/
def M_cmp_Less_int_j1 (_F : Nat) (x1 : Int) (x2 : Int) (x6 : Bool) : Option Bool :=
  some (x6 || (decide (x1 < x2)))
def M_cmp_Less_int (F : Nat) (x1 : Int) (x2 : Int) : Option Bool :=
  ((M_cmp_isNaN_int F x1).bind fun x3 => (if x3 then ((M_cmp_isNaN_int F x2).bind fun x8 => M_cmp_Less_int_j1 F x1 x2 (!x8)) else M_cmp_Less_int_j1 F x1 x2 false))
/-! slices.isNaN[int] -/
def M_slices_isNaN_int (_F : Nat) (x1 : Int) : Option Bool :=
  some ((x1 : Int) != x1)
/-! slices.BinarySearch[[]int,int] -/
def M_slices_BinarySearch_int_int_j6 (_F : Nat) (x32 : Int) (x55 : Bool) : Option (Int × Bool) :=
  some (x32, x55)
def M_slices_BinarySearch_int_int_j8 (F : Nat) (x32 : Int) (x68 : Bool) : Option (Int × Bool) :=
  M_slices_BinarySearch_int_int_j6 F x32 x68
def M_slices_BinarySearch_int_int_j9 (F : Nat) (x32 : Int) (x75 : Bool) : Option (Int × Bool) :=
  M_slices_BinarySearch_int_int_j8 F x32 x75
def M_slices_BinarySearch_int_int_j2 (F : Nat) (x1 : List Int) (x4 : Int) (x32 : Int) : Option (Int × Bool) :=
  (if (decide (x32 < (x1.length : Int))) then ((idx x1 x32).bind fun x56 => (if ((x56 : Int) == x4) then M_slices_BinarySearch_int_int_j8 F x32 true else ((idx x1 x32).bind fun x69 => ((M_slices_isNaN_int F x69).bind fun x72 => (if x72 then ((M_slices_isNaN_int F x4).bind fun x76 => M_slices_BinarySearch_int_int_j9 F x32 x76) else M_slices_BinarySearch_int_int_j9 F x32 false))))) else M_slices_BinarySearch_int_int_j6 F x32 false)
def M_slices_BinarySearch_int_int_b10 (F : Nat) (x1 : List Int) (x4 : Int) (rec10 : (Int × Int) → Option (Int × Bool)) (x85 : Int) (x86 : Int) : Option (Int × Bool) :=
  (if (decide (x85 < x86)) then (lett (iconv .i64 (ishr .u64 (iconv .u64 (iadd .i64 x85 x86)) 1)) fun x97 => ((idx x1 x97).bind fun x98 => ((M_cmp_Less_int F x98 x4).bind fun x101 => (if x101 then rec10 (iadd .i64 x97 1, x86) else rec10 (x85, x97))))) else M_slices_BinarySearch_int_int_j2 F x1 x4 x85)
def M_slices_BinarySearch_int_int_l10 (F : Nat) (x1 : List Int) (x4 : Int) : Nat → (Int × Int) → Option (Int × Bool)
  | 0 => fun _ => none
  | k + 1 => fun s => M_slices_BinarySearch_int_int_b10 F x1 x4 (M_slices_BinarySearch_int_int_l10 F x1 x4 k) s.1 s.2
def M_slices_BinarySearch_int_int (F : Nat) (x1 : List Int) (x4 : Int) : Option (Int × Bool) :=
  M_slices_BinarySearch_int_int_l10 F x1 x4 F (0, (x1.length : Int))
/-! slices.Sort[[]int,int] -/
def M_slices_Sort_int_int (_F : Nat) (x1 : List Int) : Option (List Int) :=
  if x1.length < 4611686018427387904 then some (srt x1) else none
/-! slices.Values[[]int,int]$1 -/
def M_slices_Values_int_int_1_b1 {σ τ : Type} (_F : Nat) (yy : σ → Int → Option (σ ⊕ τ)) (x2 : List Int) (rec1 : (Int × σ) → Option (σ ⊕ τ)) (x21 : Int) (x22 : σ) : Option (σ ⊕ τ) :=
  (if (decide (x21 < (x2.length : Int))) then ((idx x2 x21).bind fun x49 => ((yy x22 x49).bind (Sum.elim (fun x52 => rec1 (iadd .i64 x21 1, x52)) (fun x53 => some (.inr x53))))) else some (.inl x22))
def M_slices_Values_int_int_1_l1 {σ τ : Type} (F : Nat) (yy : σ → Int → Option (σ ⊕ τ)) (x2 : List Int) : Nat → (Int × σ) → Option (σ ⊕ τ)
  | 0 => fun _ => none
  | k + 1 => fun s => M_slices_Values_int_int_1_b1 F yy x2 (M_slices_Values_int_int_1_l1 F yy x2 k) s.1 s.2
def M_slices_Values_int_int_1 {σ τ : Type} (F : Nat) (yy : σ → Int → Option (σ ⊕ τ)) (x2 : List Int) (s0 : σ) : Option (σ ⊕ τ) :=
  M_slices_Values_int_int_1_l1 F yy x2 F (0, s0)
/-! slices.AppendSeq[[]int,int] -/
def M_slices_AppendSeq_int_int_slices_Values_int_int_1_r2 (_F : Nat) (x38 : List Int) (x45 : Int) : Option (List Int ⊕ Empty) :=
  ((app 8796093022208 x38 ([x45] : List Int)).bind fun x48 => some (.inl x48))
def M_slices_AppendSeq_int_int_slices_Values_int_int_1 (F : Nat) (x1 : List Int) (x5 : List Int) : Option (List Int) :=
  ((M_slices_Values_int_int_1 F (fun (x38 : List Int) (x45 : Int) => M_slices_AppendSeq_int_int_slices_Values_int_int_1_r2 F x38 x45) x5 x1).bind (Sum.elim (fun (x38 : List Int) => some x38) (fun t => t.elim)))
/-! slices.Collect[int] -/
def M_slices_Collect_int_slices_Values_int_int_1 (F : Nat) (x2 : List Int) : Option (List Int) :=
  ((M_slices_AppendSeq_int_int_slices_Values_int_int_1 F ([] : List Int) x2).bind fun x5 => some x5)
/-! slices.Sorted[int] -/
def M_slices_Sorted_int_slices_Values_int_int_1 (F : Nat) (x2 : List Int) : Option (List Int) :=
  ((M_slices_Collect_int_slices_Values_int_int_1 F x2).bind fun x5 => ((M_slices_Sort_int_int F x5).bind fun x8 => (chk (decide (x8.length = x5.length)) (some x8))))
/-! lampwright strong.Shrink -/
def M_strong_Shrink_r4 (_F : Nat) (x96 : List Int) (x230 : List (Int × Int)) (x231 : List (Int × Int)) (x262 : Int) (x263 : Int) : Option ((List (Int × Int) × List (Int × Int)) ⊕ Empty) :=
  ((idx x96 x262).bind fun x274 => ((idx x96 x263).bind fun x278 => (if ((!(decide (((x274, x278) : Int × Int) ∈ x231))) && ((x274 : Int) != x278)) then ((sins x231 (x274, x278)).bind fun x285 => ((app 4398046511104 x230 ([(x274, x278)] : List (Int × Int))).bind fun x288 => some (.inl (x288, x285)))) else some (.inl (x230, x231)))))
def M_strong_Shrink_j2 (F : Nat) (x1 : List (List Int)) (x18 : List Int) (x96 : List Int) : Option (List (List Int) × List Int × Int) :=
  ((M_graph_All F x1).bind fun _x196 => ((M_graph_All_1 F (fun ((x230, x231) : (List (Int × Int) × List (Int × Int))) ((x262, x263) : (Int × Int)) => M_strong_Shrink_r4 F x96 x230 x231 x262 x263) x1 (([] : List (Int × Int)), ([] : List (Int × Int)))).bind (Sum.elim (fun ((x230, _x231) : (List (Int × Int) × List (Int × Int))) => ((M_graph_Of F (x18.length : Int) x230).bind fun x292 => some (x292.1, x96, x292.2))) (fun t => t.elim))))
def M_strong_Shrink_b5 (F : Nat) (x1 : List (List Int)) (x9 : List Int) (x18 : List Int) (rec5 : (List Int × Int) → Option (List (List Int) × List Int × Int)) (x320 : List Int) (x321 : Int) : Option (List (List Int) × List Int × Int) :=
  (if (decide (x321 < (x9.length : Int))) then ((idx x320 x321).bind fun x359 => ((idx x320 x321).bind fun _x362 => ((M_slices_BinarySearch_int_int F x18 x359).bind fun x366 => (lett (x320.set x321.toNat x366.1) fun x367 => rec5 (x367, iadd .i64 x321 1))))) else M_strong_Shrink_j2 F x1 x18 x320)
def M_strong_Shrink_l5 (F : Nat) (x1 : List (List Int)) (x9 : List Int) (x18 : List Int) : Nat → (List Int × Int) → Option (List (List Int) × List Int × Int)
  | 0 => fun _ => none
  | k + 1 => fun s => M_strong_Shrink_b5 F x1 x9 x18 (M_strong_Shrink_l5 F x1 x9 x18 k) s.1 s.2
def M_strong_Shrink (F : Nat) (x1 : List (List Int)) : Option (List (List Int) × List Int × Int) :=
  ((M_graph_Check F x1).bind fun x8 => (if ((x8 : Int) != 0) then some (([] : List (List Int)), ([] : List Int), x8) else ((M_strong_parts F x1).bind fun x9 => ((M_slices_Values_int_int F x9).bind fun _x13 => ((M_slices_Sorted_int_slices_Values_int_int_1 F x9).bind fun x15 => ((M_slices_Compact_int_int F x15).bind fun x18 => M_strong_Shrink_l5 F x1 x9 x18 F (x9, 0)))))))
/-! lampwright lampwrightref.between -/
def M_R_between (_F : Nat) (x1 : Int) (x2 : Int) (x3 : Int) : Option Bool :=
  some ((decide (x2 ≤ x1)) && (decide (x1 ≤ x3)))
/-! lampwright lampwrightref.GraphCheck -/
def M_R_GraphCheck_j83 (_F : Nat) (x3744 : Int) : Option Int :=
  (if (decide (600 < x3744)) then some 2 else some 0)
def M_R_GraphCheck_j152 (_F : Nat) (rec138 : (Int × Int) → Option Int) (x4993 : Int) (x6862 : Int) : Option Int :=
  rec138 (x6862, iadd .i64 x4993 1)
def M_R_GraphCheck_j165 (_F : Nat) (rec161 : (Int × Int) → Option Int) (x7069 : Int) (x7070 : Int) (x7461 : Bool) : Option Int :=
  (if x7461 then some 4 else rec161 (iadd .i64 x7069 1, iadd .i64 x7070 1))
def M_R_GraphCheck_b161 (F : Nat) (rec138 : (Int × Int) → Option Int) (x1 : List (List Int)) (x4993 : Int) (rec161 : (Int × Int) → Option Int) (x7069 : Int) (x7070 : Int) : Option Int :=
  ((idx x1 x4993).bind fun x7283 => (if (decide (x7070 < (x7283.length : Int))) then ((idx x1 x4993).bind fun x7394 => ((idx x7394 x7070).bind fun x7398 => ((M_R_between F x7398 0 (isub .i64 (x1.length : Int) 1)).bind fun x7401 => (if (!x7401) then some 3 else (if (decide (0 < x7070)) then ((idx x1 x4993).bind fun x7464 => ((idx x7464 x7070).bind fun x7469 => ((idx x1 x4993).bind fun x7473 => ((idx x7473 (isub .i64 x7070 1)).bind fun x7478 => M_R_GraphCheck_j165 F rec161 x7069 x7070 (decide (x7469 ≤ x7478)))))) else M_R_GraphCheck_j165 F rec161 x7069 x7070 false))))) else M_R_GraphCheck_j152 F rec138 x4993 x7069))
def M_R_GraphCheck_l161 (F : Nat) (rec138 : (Int × Int) → Option Int) (x1 : List (List Int)) (x4993 : Int) : Nat → (Int × Int) → Option Int
  | 0 => fun _ => none
  | k + 1 => fun s => M_R_GraphCheck_b161 F rec138 x1 x4993 (M_R_GraphCheck_l161 F rec138 x1 x4993 k) s.1 s.2
def M_R_GraphCheck_b138 (F : Nat) (x1 : List (List Int)) (rec138 : (Int × Int) → Option Int) (x4992 : Int) (x4993 : Int) : Option Int :=
  (if (decide (x4993 < (x1.length : Int))) then M_R_GraphCheck_l161 F rec138 x1 x4993 F (x4992, 0) else M_R_GraphCheck_j83 F x4992)
def M_R_GraphCheck_l138 (F : Nat) (x1 : List (List Int)) : Nat → (Int × Int) → Option Int
  | 0 => fun _ => none
  | k + 1 => fun s => M_R_GraphCheck_b138 F x1 (M_R_GraphCheck_l138 F x1 k) s.1 s.2
def M_R_GraphCheck (F : Nat) (x1 : List (List Int)) : Option Int :=
  (if (decide (100 < (x1.length : Int))) then some 2 else M_R_GraphCheck_l138 F x1 F (0, 0))
/-! lampwright lampwrightref.WalkFar -/
def M_R_WalkFar_j607 (_F : Nat) (x12668 : List Int) : Option (List Int) :=
  some x12668
def M_R_WalkFar_j1111 (_F : Nat) (rec1010 : (List Int × Int) → Option (List Int)) (x16873 : Int) (x23179 : List Int) : Option (List Int) :=
  rec1010 (x23179, iadd .i64 x16873 1)
def M_R_WalkFar_j1195 (_F : Nat) (rec1178 : (List Int × Int) → Option (List Int)) (x23880 : Int) (x24930 : List Int) : Option (List Int) :=
  rec1178 (x24930, iadd .i64 x23880 1)
def M_R_WalkFar_j1210 (_F : Nat) (rec1206 : (List Int × Int) → Option (List Int)) (x25047 : Int) (x25230 : List Int) : Option (List Int) :=
  rec1206 (x25230, iadd .i64 x25047 1)
def M_R_WalkFar_j1211 (F : Nat) (rec1206 : (List Int × Int) → Option (List Int)) (x23880 : Int) (x25046 : List Int) (x25047 : Int) (x25235 : Int) (x25251 : Bool) : Option (List Int) :=
  (if x25251 then ((idx x25046 x23880).bind fun x25252 => ((idx x25046 x25235).bind fun _x25255 => (lett (x25046.set x25235.toNat (iadd .i64 x25252 1)) fun x25258 => M_R_WalkFar_j1210 F rec1206 x25047 x25258))) else M_R_WalkFar_j1210 F rec1206 x25047 x25046)
def M_R_WalkFar_j1208 (F : Nat) (rec1178 : (List Int × Int) → Option (List Int)) (rec1206 : (List Int × Int) → Option (List Int)) (x1 : List (List Int)) (x23880 : Int) (x25046 : List Int) (x25047 : Int) (x25185 : Bool) : Option (List Int) :=
  (if x25185 then ((idx x1 x23880).bind fun x25231 => ((idx x25231 x25047).bind fun x25235 => ((idx x25046 x25235).bind fun x25262 => (if (decide (x25262 < 0)) then M_R_WalkFar_j1211 F rec1206 x23880 x25046 x25047 x25235 true else ((idx x25046 x23880).bind fun x25267 => ((idx x25046 x25235).bind fun x25271 => M_R_WalkFar_j1211 F rec1206 x23880 x25046 x25047 x25235 (decide ((iadd .i64 x25267 1) < x25271)))))))) else M_R_WalkFar_j1195 F rec1178 x23880 x25046)
def M_R_WalkFar_b1206 (F : Nat) (rec1178 : (List Int × Int) → Option (List Int)) (x1 : List (List Int)) (x23880 : Int) (rec1206 : (List Int × Int) → Option (List Int)) (x25046 : List Int) (x25047 : Int) : Option (List Int) :=
  ((idx x1 x23880).bind fun x25177 => (if (decide (x25047 < (x25177.length : Int))) then ((idx x25046 x23880).bind fun x25276 => M_R_WalkFar_j1208 F rec1178 rec1206 x1 x23880 x25046 x25047 (decide (0 ≤ x25276))) else M_R_WalkFar_j1208 F rec1178 rec1206 x1 x23880 x25046 x25047 false))
def M_R_WalkFar_l1206 (F : Nat) (rec1178 : (List Int × Int) → Option (List Int)) (x1 : List (List Int)) (x23880 : Int) : Nat → (List Int × Int) → Option (List Int)
  | 0 => fun _ => none
  | k + 1 => fun s => M_R_WalkFar_b1206 F rec1178 x1 x23880 (M_R_WalkFar_l1206 F rec1178 x1 x23880 k) s.1 s.2
def M_R_WalkFar_b1178 (F : Nat) (rec1010 : (List Int × Int) → Option (List Int)) (x1 : List (List Int)) (x16873 : Int) (rec1178 : (List Int × Int) → Option (List Int)) (x23879 : List Int) (x23880 : Int) : Option (List Int) :=
  (if (decide (x23880 < (x23879.length : Int))) then M_R_WalkFar_l1206 F rec1178 x1 x23880 F (x23879, 0) else M_R_WalkFar_j1111 F rec1010 x16873 x23879)
def M_R_WalkFar_l1178 (F : Nat) (rec1010 : (List Int × Int) → Option (List Int)) (x1 : List (List Int)) (x16873 : Int) : Nat → (List Int × Int) → Option (List Int)
  | 0 => fun _ => none
  | k + 1 => fun s => M_R_WalkFar_b1178 F rec1010 x1 x16873 (M_R_WalkFar_l1178 F rec1010 x1 x16873 k) s.1 s.2
def M_R_WalkFar_b1010 (F : Nat) (x1 : List (List Int)) (rec1010 : (List Int × Int) → Option (List Int)) (x16872 : List Int) (x16873 : Int) : Option (List Int) :=
  (if (decide (x16873 < (x16872.length : Int))) then M_R_WalkFar_l1178 F rec1010 x1 x16873 F (x16872, 0) else M_R_WalkFar_j607 F x16872)
def M_R_WalkFar_l1010 (F : Nat) (x1 : List (List Int)) : Nat → (List Int × Int) → Option (List Int)
  | 0 => fun _ => none
  | k + 1 => fun s => M_R_WalkFar_b1010 F x1 (M_R_WalkFar_l1010 F x1 k) s.1 s.2
def M_R_WalkFar_j2 (F : Nat) (x1 : List (List Int)) (x4 : Int) (x49 : List Int) : Option (List Int) :=
  ((idx x49 x4).bind fun _x50 => (lett (x49.set x4.toNat 0) fun x53 => M_R_WalkFar_l1010 F x1 F (x53, 0)))
def M_R_WalkFar_b1212 (F : Nat) (x1 : List (List Int)) (x4 : Int) (rec1212 : (List Int × Int) → Option (List Int)) (x25295 : List Int) (x25296 : Int) : Option (List Int) :=
  (if (decide (x25296 < (x1.length : Int))) then ((app 8796093022208 x25295 ([-1] : List Int)).bind fun x25318 => rec1212 (x25318, iadd .i64 x25296 1)) else M_R_WalkFar_j2 F x1 x4 x25295)
def M_R_WalkFar_l1212 (F : Nat) (x1 : List (List Int)) (x4 : Int) : Nat → (List Int × Int) → Option (List Int)
  | 0 => fun _ => none
  | k + 1 => fun s => M_R_WalkFar_b1212 F x1 x4 (M_R_WalkFar_l1212 F x1 x4 k) s.1 s.2
def M_R_WalkFar (F : Nat) (x1 : List (List Int)) (x4 : Int) : Option (List Int) :=
  M_R_WalkFar_l1212 F x1 x4 F (([] : List Int), 0)
/-! lampwright lampwrightref.StrongParts -/
def M_R_StrongParts_j97 (_F : Nat) (x1877 : List Int) : Option (List Int) :=
  some x1877
def M_R_StrongParts_j176 (_F : Nat) (rec160 : (List Int × Int) → Option (List Int)) (x2482 : Int) (x3386 : List Int) : Option (List Int) :=
  rec160 (x3386, iadd .i64 x2482 1)
def M_R_StrongParts_j184 (F : Nat) (rec160 : (List Int × Int) → Option (List Int)) (x2481 : List Int) (x2482 : Int) (x3533 : Int) : Option (List Int) :=
  ((app 8796093022208 x2481 ([x3533] : List Int)).bind fun x3536 => M_R_StrongParts_j176 F rec160 x2482 x3536)
def M_R_StrongParts_j191 (F : Nat) (rec160 : (List Int × Int) → Option (List Int)) (rec189 : Int → Option (List Int)) (x2481 : List Int) (x2482 : Int) (x3587 : Int) (x3676 : Bool) : Option (List Int) :=
  (if x3676 then rec189 (iadd .i64 x3587 1) else M_R_StrongParts_j184 F rec160 x2481 x2482 x3587)
def M_R_StrongParts_b189 (F : Nat) (rec160 : (List Int × Int) → Option (List Int)) (x66 : List (List Int)) (x2481 : List Int) (x2482 : Int) (rec189 : Int → Option (List Int)) (x3587 : Int) : Option (List Int) :=
  ((idx x66 x2482).bind fun x3661 => ((idx x3661 x3587).bind fun x3665 => (if (decide (x3665 < 0)) then M_R_StrongParts_j191 F rec160 rec189 x2481 x2482 x3587 true else ((idx x66 x3587).bind fun x3678 => ((idx x3678 x2482).bind fun x3682 => M_R_StrongParts_j191 F rec160 rec189 x2481 x2482 x3587 (decide (x3682 < 0)))))))
def M_R_StrongParts_l189 (F : Nat) (rec160 : (List Int × Int) → Option (List Int)) (x66 : List (List Int)) (x2481 : List Int) (x2482 : Int) : Nat → Int → Option (List Int)
  | 0 => fun _ => none
  | k + 1 => fun s => M_R_StrongParts_b189 F rec160 x66 x2481 x2482 (M_R_StrongParts_l189 F rec160 x66 x2481 x2482 k) s
def M_R_StrongParts_b160 (F : Nat) (x1 : List (List Int)) (x66 : List (List Int)) (rec160 : (List Int × Int) → Option (List Int)) (x2481 : List Int) (x2482 : Int) : Option (List Int) :=
  (if (decide (x2482 < (x1.length : Int))) then M_R_StrongParts_l189 F rec160 x66 x2481 x2482 F 0 else M_R_StrongParts_j97 F x2481)
def M_R_StrongParts_l160 (F : Nat) (x1 : List (List Int)) (x66 : List (List Int)) : Nat → (List Int × Int) → Option (List Int)
  | 0 => fun _ => none
  | k + 1 => fun s => M_R_StrongParts_b160 F x1 x66 (M_R_StrongParts_l160 F x1 x66 k) s.1 s.2
def M_R_StrongParts_j2 (F : Nat) (x1 : List (List Int)) (x66 : List (List Int)) : Option (List Int) :=
  M_R_StrongParts_l160 F x1 x66 F (([] : List Int), 0)
def M_R_StrongParts_b192 (F : Nat) (x1 : List (List Int)) (rec192 : (List (List Int) × Int) → Option (List Int)) (x3706 : List (List Int)) (x3707 : Int) : Option (List Int) :=
  (if (decide (x3707 < (x1.length : Int))) then ((M_R_WalkFar F x1 x3707).bind fun x3736 => ((app 2199023255552 x3706 ([x3736] : List (List Int))).bind fun x3741 => rec192 (x3741, iadd .i64 x3707 1))) else M_R_StrongParts_j2 F x1 x3706)
def M_R_StrongParts_l192 (F : Nat) (x1 : List (List Int)) : Nat → (List (List Int) × Int) → Option (List Int)
  | 0 => fun _ => none
  | k + 1 => fun s => M_R_StrongParts_b192 F x1 (M_R_StrongParts_l192 F x1 k) s.1 s.2
def M_R_StrongParts (F : Nat) (x1 : List (List Int)) : Option (List Int) :=
  M_R_StrongParts_l192 F x1 F (([] : List (List Int)), 0)
/-! lampwright lampwrightref.StrongShrink -/
def M_R_StrongShrink_j5686 (_F : Nat) (x203 : List Int) (x90608 : List (List Int)) : Option (List (List Int) × List Int) :=
  some (x90608, x203)
def M_R_StrongShrink_j10420 (_F : Nat) (rec9473 : (Int × List (List Int)) → Option (List (List Int) × List Int)) (x120741 : Int) (x165943 : List (List Int)) : Option (List (List Int) × List Int) :=
  rec9473 (iadd .i64 x120741 1, x165943)
def M_R_StrongShrink_j11209 (_F : Nat) (rec11051 : (Int × List (List Int)) → Option (List (List Int) × List Int)) (x170964 : Int) (x178498 : List (List Int)) : Option (List (List Int) × List Int) :=
  rec11051 (iadd .i64 x170964 1, x178498)
def M_R_StrongShrink_j11288 (F : Nat) (rec11051 : (Int × List (List Int)) → Option (List (List Int) × List Int)) (x120741 : Int) (x170964 : Int) (x170966 : List (List Int)) (x179741 : Bool) : Option (List (List Int) × List Int) :=
  (if (x179741 && ((x120741 : Int) != x170964)) then ((idx x170966 x120741).bind fun x179743 => ((idx x170966 x120741).bind fun _x179749 => ((app 8796093022208 x179743 ([x170964] : List Int)).bind fun x179757 => (lett (x170966.set x120741.toNat x179757) fun x179760 => M_R_StrongShrink_j11209 F rec11051 x170964 x179760)))) else M_R_StrongShrink_j11209 F rec11051 x170964 x170966)
def M_R_StrongShrink_j11353 (_F : Nat) (rec11339 : (Bool × Int) → Option (List (List Int) × List Int)) (x180147 : Int) (x180792 : Bool) : Option (List (List Int) × List Int) :=
  rec11339 (x180792, iadd .i64 x180147 1)
def M_R_StrongShrink_j11366 (_F : Nat) (rec11362 : (Bool × Int) → Option (List (List Int) × List Int)) (x180864 : Int) (x180991 : Bool) : Option (List (List Int) × List Int) :=
  rec11362 (x180991, iadd .i64 x180864 1)
def M_R_StrongShrink_j11364 (F : Nat) (rec11339 : (Bool × Int) → Option (List (List Int) × List Int)) (rec11362 : (Bool × Int) → Option (List (List Int) × List Int)) (x1 : List (List Int)) (x203 : List Int) (x170964 : Int) (x180147 : Int) (x180863 : Bool) (x180864 : Int) (x180957 : Bool) : Option (List (List Int) × List Int) :=
  (if x180957 then (if x180863 then M_R_StrongShrink_j11366 F rec11362 x180864 true else ((idx x1 x180147).bind fun x180992 => ((idx x180992 x180864).bind fun x180996 => ((idx x203 x180996).bind fun x180999 => M_R_StrongShrink_j11366 F rec11362 x180864 ((x180999 : Int) == x170964))))) else M_R_StrongShrink_j11353 F rec11339 x180147 x180863)
def M_R_StrongShrink_b11362 (F : Nat) (rec11339 : (Bool × Int) → Option (List (List Int) × List Int)) (x1 : List (List Int)) (x203 : List Int) (x120741 : Int) (x170964 : Int) (x180147 : Int) (rec11362 : (Bool × Int) → Option (List (List Int) × List Int)) (x180863 : Bool) (x180864 : Int) : Option (List (List Int) × List Int) :=
  ((idx x1 x180147).bind fun x180949 => (if (decide (x180864 < (x180949.length : Int))) then ((idx x203 x180147).bind fun x181003 => M_R_StrongShrink_j11364 F rec11339 rec11362 x1 x203 x170964 x180147 x180863 x180864 ((x181003 : Int) == x120741)) else M_R_StrongShrink_j11364 F rec11339 rec11362 x1 x203 x170964 x180147 x180863 x180864 false))
def M_R_StrongShrink_l11362 (F : Nat) (rec11339 : (Bool × Int) → Option (List (List Int) × List Int)) (x1 : List (List Int)) (x203 : List Int) (x120741 : Int) (x170964 : Int) (x180147 : Int) : Nat → (Bool × Int) → Option (List (List Int) × List Int)
  | 0 => fun _ => none
  | k + 1 => fun s => M_R_StrongShrink_b11362 F rec11339 x1 x203 x120741 x170964 x180147 (M_R_StrongShrink_l11362 F rec11339 x1 x203 x120741 x170964 x180147 k) s.1 s.2
def M_R_StrongShrink_b11339 (F : Nat) (rec11051 : (Int × List (List Int)) → Option (List (List Int) × List Int)) (x1 : List (List Int)) (x6 : List Int) (x203 : List Int) (x120741 : Int) (x170964 : Int) (x170966 : List (List Int)) (rec11339 : (Bool × Int) → Option (List (List Int) × List Int)) (x180146 : Bool) (x180147 : Int) : Option (List (List Int) × List Int) :=
  (if (decide (x180147 < (x6.length : Int))) then M_R_StrongShrink_l11362 F rec11339 x1 x203 x120741 x170964 x180147 F (x180146, 0) else M_R_StrongShrink_j11288 F rec11051 x120741 x170964 x170966 x180146)
def M_R_StrongShrink_l11339 (F : Nat) (rec11051 : (Int × List (List Int)) → Option (List (List Int) × List Int)) (x1 : List (List Int)) (x6 : List Int) (x203 : List Int) (x120741 : Int) (x170964 : Int) (x170966 : List (List Int)) : Nat → (Bool × Int) → Option (List (List Int) × List Int)
  | 0 => fun _ => none
  | k + 1 => fun s => M_R_StrongShrink_b11339 F rec11051 x1 x6 x203 x120741 x170964 x170966 (M_R_StrongShrink_l11339 F rec11051 x1 x6 x203 x120741 x170964 x170966 k) s.1 s.2
def M_R_StrongShrink_b11051 (F : Nat) (rec9473 : (Int × List (List Int)) → Option (List (List Int) × List Int)) (x1 : List (List Int)) (x6 : List Int) (x203 : List Int) (x120741 : Int) (rec11051 : (Int × List (List Int)) → Option (List (List Int) × List Int)) (x170964 : Int) (x170966 : List (List Int)) : Option (List (List Int) × List Int) :=
  (if (decide (x170964 < (x170966.length : Int))) then M_R_StrongShrink_l11339 F rec11051 x1 x6 x203 x120741 x170964 x170966 F (false, 0) else M_R_StrongShrink_j10420 F rec9473 x120741 x170966)
def M_R_StrongShrink_l11051 (F : Nat) (rec9473 : (Int × List (List Int)) → Option (List (List Int) × List Int)) (x1 : List (List Int)) (x6 : List Int) (x203 : List Int) (x120741 : Int) : Nat → (Int × List (List Int)) → Option (List (List Int) × List Int)
  | 0 => fun _ => none
  | k + 1 => fun s => M_R_StrongShrink_b11051 F rec9473 x1 x6 x203 x120741 (M_R_StrongShrink_l11051 F rec9473 x1 x6 x203 x120741 k) s.1 s.2
def M_R_StrongShrink_b9473 (F : Nat) (x1 : List (List Int)) (x6 : List Int) (x203 : List Int) (rec9473 : (Int × List (List Int)) → Option (List (List Int) × List Int)) (x120741 : Int) (x120743 : List (List Int)) : Option (List (List Int) × List Int) :=
  (if (decide (x120741 < (x120743.length : Int))) then M_R_StrongShrink_l11051 F rec9473 x1 x6 x203 x120741 F (0, x120743) else M_R_StrongShrink_j5686 F x203 x120743)
def M_R_StrongShrink_l9473 (F : Nat) (x1 : List (List Int)) (x6 : List Int) (x203 : List Int) : Nat → (Int × List (List Int)) → Option (List (List Int) × List Int)
  | 0 => fun _ => none
  | k + 1 => fun s => M_R_StrongShrink_b9473 F x1 x6 x203 (M_R_StrongShrink_l9473 F x1 x6 x203 k) s.1 s.2
def M_R_StrongShrink_j5 (F : Nat) (x1 : List (List Int)) (x6 : List Int) (x203 : List Int) (x206 : List (List Int)) : Option (List (List Int) × List Int) :=
  M_R_StrongShrink_l9473 F x1 x6 x203 F (0, x206)
def M_R_StrongShrink_j11370 (_F : Nat) (rec11369 : (List Int × Int × List (List Int)) → Option (List (List Int) × List Int)) (x181073 : Int) (x181166 : List Int) (x181169 : List (List Int)) : Option (List (List Int) × List Int) :=
  rec11369 (x181166, iadd .i64 x181073 1, x181169)
def M_R_StrongShrink_b11369 (F : Nat) (x1 : List (List Int)) (x6 : List Int) (rec11369 : (List Int × Int × List (List Int)) → Option (List (List Int) × List Int)) (x181072 : List Int) (x181073 : Int) (x181076 : List (List Int)) : Option (List (List Int) × List Int) :=
  (if (decide (x181073 < (x6.length : Int))) then ((idx x6 x181073).bind fun x181170 => (if ((x181170 : Int) == x181073) then ((idx x181072 x181073).bind fun _x181173 => (lett (x181072.set x181073.toNat (x181076.length : Int)) fun x181176 => ((app 2199023255552 x181076 ([([] : List Int)] : List (List Int))).bind fun x181181 => M_R_StrongShrink_j11370 F rec11369 x181073 x181176 x181181))) else ((idx x6 x181073).bind fun x181184 => ((idx x181072 x181184).bind fun x181187 => ((idx x181072 x181073).bind fun _x181190 => (lett (x181072.set x181073.toNat x181187) fun x181193 => M_R_StrongShrink_j11370 F rec11369 x181073 x181193 x181076)))))) else M_R_StrongShrink_j5 F x1 x6 x181072 x181076)
def M_R_StrongShrink_l11369 (F : Nat) (x1 : List (List Int)) (x6 : List Int) : Nat → (List Int × Int × List (List Int)) → Option (List (List Int) × List Int)
  | 0 => fun _ => none
  | k + 1 => fun s => M_R_StrongShrink_b11369 F x1 x6 (M_R_StrongShrink_l11369 F x1 x6 k) s.1 s.2.1 s.2.2
def M_R_StrongShrink (F : Nat) (x1 : List (List Int)) : Option (List (List Int) × List Int) :=
  ((M_R_StrongParts F x1).bind fun x6 => ((mk 17592186044416 (0 : Int) (x6.length : Int)).bind fun x9 => M_R_StrongShrink_l11369 F x1 x6 F (x9, 0, ([] : List (List Int)))))
/-! lampwright lampwrightref.HasInt -/
def M_R_HasInt_j2 (_F : Nat) : Option Bool :=
  some false
def M_R_HasInt_b3 (F : Nat) (x1 : List Int) (x4 : Int) (rec3 : Int → Option Bool) (x47 : Int) : Option Bool :=
  (if (decide (x47 < (x1.length : Int))) then ((idx x1 x47).bind fun x64 => (if ((x64 : Int) == x4) then some true else rec3 (iadd .i64 x47 1))) else M_R_HasInt_j2 F)
def M_R_HasInt_l3 (F : Nat) (x1 : List Int) (x4 : Int) : Nat → Int → Option Bool
  | 0 => fun _ => none
  | k + 1 => fun s => M_R_HasInt_b3 F x1 x4 (M_R_HasInt_l3 F x1 x4 k) s
def M_R_HasInt (F : Nat) (x1 : List Int) (x4 : Int) : Option Bool :=
  M_R_HasInt_l3 F x1 x4 F 0
/-! lampwright lampwrightref.Leads -/
def M_R_Leads (F : Nat) (x1 : List (List Int)) (x4 : Int) (x5 : Int) : Option Bool :=
  ((idx x1 x4).bind fun x7 => ((M_R_HasInt F x7 x5).bind fun x11 => some x11))
/-! lampwright lampwrightref.StrongOrder -/
def M_R_StrongOrder_j569 (_F : Nat) (x3467 : List Int) : Option (List Int × Bool) :=
  some (x3467, true)
def M_R_StrongOrder_j1043 (_F : Nat) (rec948 : List Int → Option (List Int × Bool)) (x4622 : List Int) (x6348 : Int) : Option (List Int × Bool) :=
  (if (decide (x6348 < 0)) then some (([] : List Int), false) else ((app 8796093022208 x4622 ([x6348] : List Int)).bind fun x6352 => rec948 x6352))
def M_R_StrongOrder_j1122 (_F : Nat) (rec1106 : (Int × Int) → Option (List Int × Bool)) (x6547 : Int) (x6832 : Int) : Option (List Int × Bool) :=
  rec1106 (x6832, isub .i64 x6547 1)
def M_R_StrongOrder_j1130 (F : Nat) (rec1106 : (Int × Int) → Option (List Int × Bool)) (x6546 : Int) (x6547 : Int) (x6879 : Bool) : Option (List Int × Bool) :=
  (if x6879 then M_R_StrongOrder_j1122 F rec1106 x6547 x6547 else M_R_StrongOrder_j1122 F rec1106 x6547 x6546)
def M_R_StrongOrder_j1137 (_F : Nat) (rec1135 : (Bool × Int) → Option (List Int × Bool)) (x6896 : Int) (x6923 : Bool) : Option (List Int × Bool) :=
  rec1135 (x6923, iadd .i64 x6896 1)
def M_R_StrongOrder_b1135 (F : Nat) (rec1106 : (Int × Int) → Option (List Int × Bool)) (x1 : List (List Int)) (x4622 : List Int) (x6546 : Int) (x6547 : Int) (rec1135 : (Bool × Int) → Option (List Int × Bool)) (x6895 : Bool) (x6896 : Int) : Option (List Int × Bool) :=
  (if ((decide (x6896 < (x1.length : Int))) && x6895) then ((M_R_HasInt F x4622 x6896).bind fun x6920 => (if x6920 then M_R_StrongOrder_j1137 F rec1135 x6896 true else ((M_R_Leads F x1 x6896 x6547).bind fun x6924 => M_R_StrongOrder_j1137 F rec1135 x6896 (!x6924)))) else M_R_StrongOrder_j1130 F rec1106 x6546 x6547 x6895)
def M_R_StrongOrder_l1135 (F : Nat) (rec1106 : (Int × Int) → Option (List Int × Bool)) (x1 : List (List Int)) (x4622 : List Int) (x6546 : Int) (x6547 : Int) : Nat → (Bool × Int) → Option (List Int × Bool)
  | 0 => fun _ => none
  | k + 1 => fun s => M_R_StrongOrder_b1135 F rec1106 x1 x4622 x6546 x6547 (M_R_StrongOrder_l1135 F rec1106 x1 x4622 x6546 x6547 k) s.1 s.2
def M_R_StrongOrder_b1106 (F : Nat) (rec948 : List Int → Option (List Int × Bool)) (x1 : List (List Int)) (x4622 : List Int) (rec1106 : (Int × Int) → Option (List Int × Bool)) (x6546 : Int) (x6547 : Int) : Option (List Int × Bool) :=
  (if (decide (0 ≤ x6547)) then ((M_R_HasInt F x4622 x6547).bind fun x6833 => M_R_StrongOrder_l1135 F rec1106 x1 x4622 x6546 x6547 F ((!x6833), 0)) else M_R_StrongOrder_j1043 F rec948 x4622 x6546)
def M_R_StrongOrder_l1106 (F : Nat) (rec948 : List Int → Option (List Int × Bool)) (x1 : List (List Int)) (x4622 : List Int) : Nat → (Int × Int) → Option (List Int × Bool)
  | 0 => fun _ => none
  | k + 1 => fun s => M_R_StrongOrder_b1106 F rec948 x1 x4622 (M_R_StrongOrder_l1106 F rec948 x1 x4622 k) s.1 s.2
def M_R_StrongOrder_b948 (F : Nat) (x1 : List (List Int)) (rec948 : List Int → Option (List Int × Bool)) (x4622 : List Int) : Option (List Int × Bool) :=
  (if (decide ((x4622.length : Int) < (x1.length : Int))) then M_R_StrongOrder_l1106 F rec948 x1 x4622 F (-1, isub .i64 (x1.length : Int) 1) else M_R_StrongOrder_j569 F x4622)
def M_R_StrongOrder_l948 (F : Nat) (x1 : List (List Int)) : Nat → List Int → Option (List Int × Bool)
  | 0 => fun _ => none
  | k + 1 => fun s => M_R_StrongOrder_b948 F x1 (M_R_StrongOrder_l948 F x1 k) s
def M_R_StrongOrder (F : Nat) (x1 : List (List Int)) : Option (List Int × Bool) :=
  M_R_StrongOrder_l948 F x1 F ([] : List Int)
/-! lampwright lampwrightref.SameInts -/
def M_R_SameInts_j2 (_F : Nat) : Option Bool :=
  some true
def M_R_SameInts_b3 (F : Nat) (x1 : List Int) (x4 : List Int) (rec3 : Int → Option Bool) (x154 : Int) : Option Bool :=
  (if (decide (x154 < (x1.length : Int))) then ((idx x1 x154).bind fun x218 => ((idx x4 x154).bind fun x222 => (if ((x218 : Int) != x222) then some false else rec3 (iadd .i64 x154 1)))) else M_R_SameInts_j2 F)
def M_R_SameInts_l3 (F : Nat) (x1 : List Int) (x4 : List Int) : Nat → Int → Option Bool
  | 0 => fun _ => none
  | k + 1 => fun s => M_R_SameInts_b3 F x1 x4 (M_R_SameInts_l3 F x1 x4 k) s
def M_R_SameInts (F : Nat) (x1 : List Int) (x4 : List Int) : Option Bool :=
  (if (((x1.length : Int) : Int) != (x4.length : Int)) then some false else M_R_SameInts_l3 F x1 x4 F 0)
/-! lampwright lampwrightlaw.someGraph -/
def M_L_someGraph (_F : Nat)  : Option (List (List Int)) :=
  some ([([1, 2, 3, 5] : List Int), ([1, 2, 3, 5] : List Int), ([0, 1, 2, 3, 5] : List Int), ([] : List Int), ([4] : List Int), ([1, 2, 3] : List Int)] : List (List Int))
/-! lampwright lampwrightref.SameLists -/
def M_R_SameLists_j2 (_F : Nat) : Option Bool :=
  some true
def M_R_SameLists_b3 (F : Nat) (x1 : List (List Int)) (x4 : List (List Int)) (rec3 : Int → Option Bool) (x202 : Int) : Option Bool :=
  (if (decide (x202 < (x1.length : Int))) then ((idx x1 x202).bind fun x287 => ((idx x4 x202).bind fun x292 => ((M_R_SameInts F x287 x292).bind fun x297 => (if (!x297) then some false else rec3 (iadd .i64 x202 1))))) else M_R_SameLists_j2 F)
def M_R_SameLists_l3 (F : Nat) (x1 : List (List Int)) (x4 : List (List Int)) : Nat → Int → Option Bool
  | 0 => fun _ => none
  | k + 1 => fun s => M_R_SameLists_b3 F x1 x4 (M_R_SameLists_l3 F x1 x4 k) s
def M_R_SameLists (F : Nat) (x1 : List (List Int)) (x4 : List (List Int)) : Option Bool :=
  (if (((x1.length : Int) : Int) != (x4.length : Int)) then some false else M_R_SameLists_l3 F x1 x4 F 0)
/-! lampwright lampwrightlaw.strongBegun -/
def M_L_strongBegun_j3 (_F : Nat) (x19 : (List (List Int) × List Int × Int)) (x28 : (List Int × Int)) (x52 : Bool) : Option Bool :=
  some ((x52 && ((x19.2.2 : Int) == 0)) && ((x28.2 : Int) == 4))
def M_L_strongBegun_j2 (F : Nat) (x19 : (List (List Int) × List Int × Int)) (x28 : (List Int × Int)) (x47 : Bool) : Option Bool :=
  (if x47 then ((M_R_SameInts F x19.2.1 ([0, 0, 0, 1, 2, 0] : List Int)).bind fun x57 => M_L_strongBegun_j3 F x19 x28 x57) else M_L_strongBegun_j3 F x19 x28 false)
def M_L_strongBegun_j1 (F : Nat) (x13 : (List Int × Int)) (x19 : (List (List Int) × List Int × Int)) (x28 : (List Int × Int)) (x39 : Bool) : Option Bool :=
  (if (x39 && ((x13.2 : Int) == 0)) then ((M_R_SameLists F x19.1 ([([1] : List Int), ([] : List Int), ([] : List Int)] : List (List Int))).bind fun x62 => M_L_strongBegun_j2 F x19 x28 x62) else M_L_strongBegun_j2 F x19 x28 false)
def M_L_strongBegun (F : Nat)  : Option Bool :=
  ((M_L_someGraph F).bind fun x1 => ((M_strong_Parts F x1).bind fun x4 => ((M_strong_Order F ([([] : List Int), ([0] : List Int), ([0, 1] : List Int)] : List (List Int))).bind fun x13 => ((M_L_someGraph F).bind fun x16 => ((M_strong_Shrink F x16).bind fun x19 => ((M_L_someGraph F).bind fun x25 => ((M_strong_Order F x25).bind fun x28 => ((M_R_SameInts F x4.1 ([0, 0, 0, 3, 4, 0] : List Int)).bind fun x33 => (if (x33 && ((x4.2 : Int) == 0)) then ((M_R_SameInts F x13.1 ([2, 1, 0] : List Int)).bind fun x65 => M_L_strongBegun_j1 F x13 x19 x28 x65) else M_L_strongBegun_j1 F x13 x19 x28 false)))))))))
/-! lampwright lampwrightref.SameGraph -/
def M_R_SameGraph (F : Nat) (x1 : List (List Int)) (x4 : List (List Int)) : Option Bool :=
  ((M_R_SameLists F x1 x4).bind fun x9 => some x9)
/-! lampwright lampwrightlaw.StrongTells -/
def M_L_StrongTells_j5 (_F : Nat) (x11 : (List (List Int) × List Int × Int)) (x17 : Int) (x81 : Bool) : Option Bool :=
  some (x81 && ((x11.2.2 : Int) == x17))
def M_L_StrongTells_j4 (F : Nat) (x11 : (List (List Int) × List Int × Int)) (x17 : Int) (x63 : List Int) (x78 : Bool) : Option Bool :=
  (if x78 then ((M_R_SameInts F x11.2.1 x63).bind fun x83 => M_L_StrongTells_j5 F x11 x17 x83) else M_L_StrongTells_j5 F x11 x17 false)
def M_L_StrongTells_j3 (F : Nat) (x8 : (List Int × Int)) (x11 : (List (List Int) × List Int × Int)) (x17 : Int) (x54 : Int) (x63 : List Int) (x66 : List (List Int)) (x74 : Bool) : Option Bool :=
  (if (x74 && ((x8.2 : Int) == x54)) then ((M_R_SameGraph F x11.1 x66).bind fun x84 => M_L_StrongTells_j4 F x11 x17 x63 x84) else M_L_StrongTells_j4 F x11 x17 x63 false)
def M_L_StrongTells_j2 (F : Nat) (x5 : (List Int × Int)) (x8 : (List Int × Int)) (x11 : (List (List Int) × List Int × Int)) (x17 : Int) (x54 : Int) (x60 : List Int) (x63 : List Int) (x66 : List (List Int)) (x70 : Bool) : Option Bool :=
  (if (x70 && ((x5.2 : Int) == x17)) then ((M_R_SameInts F x8.1 x60).bind fun x85 => M_L_StrongTells_j3 F x8 x11 x17 x54 x63 x66 x85) else M_L_StrongTells_j3 F x8 x11 x17 x54 x63 x66 false)
def M_L_StrongTells_j1 (F : Nat) (x5 : (List Int × Int)) (x8 : (List Int × Int)) (x11 : (List (List Int) × List Int × Int)) (x17 : Int) (x54 : Int) (x57 : List Int) (x60 : List Int) (x63 : List Int) (x66 : List (List Int)) : Option Bool :=
  ((M_L_strongBegun F).bind fun x67 => (if x67 then ((M_R_SameInts F x5.1 x57).bind fun x86 => M_L_StrongTells_j2 F x5 x8 x11 x17 x54 x60 x63 x66 x86) else M_L_StrongTells_j2 F x5 x8 x11 x17 x54 x60 x63 x66 false))
def M_L_StrongTells (F : Nat) (x1 : List (List Int)) : Option Bool :=
  ((M_strong_Parts F x1).bind fun x5 => ((M_strong_Order F x1).bind fun x8 => ((M_strong_Shrink F x1).bind fun x11 => ((M_R_GraphCheck F x1).bind fun x17 => (if ((x17 : Int) == 0) then ((M_R_StrongParts F x1).bind fun x87 => ((M_R_StrongShrink F x1).bind fun x90 => ((M_R_StrongOrder F x1).bind fun x95 => (if (!x95.2) then M_L_StrongTells_j1 F x5 x8 x11 x17 4 x87 x95.1 x90.2 x90.1 else M_L_StrongTells_j1 F x5 x8 x11 x17 x17 x87 x95.1 x90.2 x90.1)))) else M_L_StrongTells_j1 F x5 x8 x11 x17 x17 ([] : List Int) ([] : List Int) ([] : List Int) ([] : List (List Int)))))))
/-! lampwright walk.check$1 -/
def M_walk_check_1 (_F : Nat) (x1 : Int) (x3 : List (List Int)) : Option Bool :=
  some ((decide (x1 < 0)) || (decide ((x3.length : Int) ≤ x1)))
/-! slices.IndexFunc[[]int,int] -/
def M_slices_IndexFunc_int_int_walk_check_1_j2 (_F : Nat) : Option Int :=
  some (-1)
def M_slices_IndexFunc_int_int_walk_check_1_b3 (F : Nat) (x1 : List Int) (x5 : List (List Int)) (rec3 : Int → Option Int) (x58 : Int) : Option Int :=
  (if (decide (x58 < (x1.length : Int))) then ((idx x1 x58).bind fun x78 => ((M_walk_check_1 F x78 x5).bind fun x81 => (if x81 then some x58 else rec3 (iadd .i64 x58 1)))) else M_slices_IndexFunc_int_int_walk_check_1_j2 F)
def M_slices_IndexFunc_int_int_walk_check_1_l3 (F : Nat) (x1 : List Int) (x5 : List (List Int)) : Nat → Int → Option Int
  | 0 => fun _ => none
  | k + 1 => fun s => M_slices_IndexFunc_int_int_walk_check_1_b3 F x1 x5 (M_slices_IndexFunc_int_int_walk_check_1_l3 F x1 x5 k) s
def M_slices_IndexFunc_int_int_walk_check_1 (F : Nat) (x1 : List Int) (x5 : List (List Int)) : Option Int :=
  M_slices_IndexFunc_int_int_walk_check_1_l3 F x1 x5 F 0
/-! slices.ContainsFunc[[]int,int] -/
def M_slices_ContainsFunc_int_int_walk_check_1 (F : Nat) (x1 : List Int) (x5 : List (List Int)) : Option Bool :=
  ((M_slices_IndexFunc_int_int_walk_check_1 F x1 x5).bind fun x8 => some (decide (0 ≤ x8)))
/-! lampwright walk.check -/
def M_walk_check (F : Nat) (x1 : List (List Int)) (x4 : List Int) : Option Int :=
  ((M_graph_Check F x1).bind fun x10 => (if ((x10 : Int) != 0) then some x10 else ((M_slices_ContainsFunc_int_int_walk_check_1 F x4 x1).bind fun x13 => (if x13 then some 3 else some 0))))
/-! lampwright walk.far -/
def M_walk_far_j29 (_F : Nat) (x1033 : List Int) : Option (List Int) :=
  some x1033
def M_walk_far_j53 (_F : Nat) (rec48 : (List Int × List Int) → Option (List Int)) (x1875 : List Int) (x1879 : List Int) : Option (List Int) :=
  ((sub x1879 1 (x1879.length : Int)).bind fun x1880 => rec48 (x1875, x1880))
def M_walk_far_j57 (_F : Nat) (rec56 : (List Int × List Int × Int) → Option (List Int)) (x1945 : Int) (x2021 : List Int) (x2025 : List Int) : Option (List Int) :=
  rec56 (x2021, x2025, iadd .i64 x1945 1)
def M_walk_far_b56 (F : Nat) (rec48 : (List Int × List Int) → Option (List Int)) (x1882 : Int) (x1885 : List Int) (rec56 : (List Int × List Int × Int) → Option (List Int)) (x1940 : List Int) (x1944 : List Int) (x1945 : Int) : Option (List Int) :=
  (if (decide (x1945 < (x1885.length : Int))) then ((idx x1885 x1945).bind fun x2026 => ((idx x1940 x2026).bind fun x2029 => (if (decide (x2029 < 0)) then ((idx x1940 x1882).bind fun x2032 => ((idx x1940 x2026).bind fun _x2035 => (lett (x1940.set x2026.toNat (iadd .i64 x2032 1)) fun x2038 => ((app 8796093022208 x1944 ([x2026] : List Int)).bind fun x2043 => M_walk_far_j57 F rec56 x1945 x2038 x2043)))) else M_walk_far_j57 F rec56 x1945 x1940 x1944))) else M_walk_far_j53 F rec48 x1940 x1944)
def M_walk_far_l56 (F : Nat) (rec48 : (List Int × List Int) → Option (List Int)) (x1882 : Int) (x1885 : List Int) : Nat → (List Int × List Int × Int) → Option (List Int)
  | 0 => fun _ => none
  | k + 1 => fun s => M_walk_far_b56 F rec48 x1882 x1885 (M_walk_far_l56 F rec48 x1882 x1885 k) s.1 s.2.1 s.2.2
def M_walk_far_b48 (F : Nat) (x1 : List (List Int)) (rec48 : (List Int × List Int) → Option (List Int)) (x1358 : List Int) (x1362 : List Int) : Option (List Int) :=
  (if (decide (0 < (x1362.length : Int))) then ((idx x1362 0).bind fun x1882 => ((idx x1 x1882).bind fun x1885 => M_walk_far_l56 F rec48 x1882 x1885 F (x1358, x1362, 0))) else M_walk_far_j29 F x1358)
def M_walk_far_l48 (F : Nat) (x1 : List (List Int)) : Nat → (List Int × List Int) → Option (List Int)
  | 0 => fun _ => none
  | k + 1 => fun s => M_walk_far_b48 F x1 (M_walk_far_l48 F x1 k) s.1 s.2
def M_walk_far (F : Nat) (x1 : List (List Int)) (x4 : Int) : Option (List Int) :=
  ((M_slices_Repeat_int_int F ([-1] : List Int) (x1.length : Int)).bind fun x8 => ((idx x8 x4).bind fun _x11 => (lett (x8.set x4.toNat 0) fun x14 => M_walk_far_l48 F x1 F (x14, ([x4] : List Int)))))
/-! lampwright walk.Far -/
def M_walk_Far (F : Nat) (x1 : List (List Int)) (x4 : Int) : Option (List Int × Int) :=
  ((M_walk_check F x1 ([x4] : List Int)).bind fun x12 => (if ((x12 : Int) != 0) then some (([] : List Int), x12) else ((M_walk_far F x1 x4).bind fun x13 => some (x13, 0))))
end Go.Proofs.Ytefoeebfidklgaa
