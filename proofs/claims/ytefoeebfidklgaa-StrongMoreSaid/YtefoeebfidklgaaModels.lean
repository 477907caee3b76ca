/- What each Go function of this seat computes, in plain terms. -/
import Derived.Test.YtefoeebfidklgaaSy
namespace Go.Proofs.Ytefoeebfidklgaa
open Go SX
/-! lampwright graph.Check -/
def M_graph_Check_j23 (_F : Nat) (x798 : Int) : Option Int :=
  (if (decide (600 < x798)) then some 2 else some 0)
def M_graph_Check_j42 (_F : Nat) (rec38 : (Int × Int) → Option Int) (x1065 : Int) (x1461 : Int) : Option Int :=
  rec38 (x1461, iadd .i64 x1065 1)
def M_graph_Check_j44 (F : Nat) (rec38 : (Int × Int) → Option Int) (x1064 : Int) (x1065 : Int) (x1462 : List Int) : Option Int :=
  M_graph_Check_j42 F rec38 x1065 (iadd .i64 x1064 (x1462.length : Int))
def M_graph_Check_b45 (F : Nat) (rec38 : (Int × Int) → Option Int) (x1 : List (List Int)) (x1064 : Int) (x1065 : Int) (x1462 : List Int) (rec45 : (Int × Int) → Option Int) (x1549 : Int) (x1550 : Int) : Option Int :=
  (if (decide (x1550 < (x1462.length : Int))) then ((idx x1462 x1550).bind fun x1582 => (if ((decide (x1582 < 0)) || (decide ((x1.length : Int) ≤ x1582))) then some 3 else (if (decide (x1582 ≤ x1549)) then some 4 else rec45 (x1582, iadd .i64 x1550 1)))) else M_graph_Check_j44 F rec38 x1064 x1065 x1462)
def M_graph_Check_l45 (F : Nat) (rec38 : (Int × Int) → Option Int) (x1 : List (List Int)) (x1064 : Int) (x1065 : Int) (x1462 : List Int) : Nat → (Int × Int) → Option Int
  | 0 => fun _ => none
  | k + 1 => fun s => M_graph_Check_b45 F rec38 x1 x1064 x1065 x1462 (M_graph_Check_l45 F rec38 x1 x1064 x1065 x1462 k) s.1 s.2
def M_graph_Check_b38 (F : Nat) (x1 : List (List Int)) (rec38 : (Int × Int) → Option Int) (x1064 : Int) (x1065 : Int) : Option Int :=
  (if (decide (x1065 < (x1.length : Int))) then ((idx x1 x1065).bind fun x1462 => M_graph_Check_l45 F rec38 x1 x1064 x1065 x1462 F (-1, 0)) else M_graph_Check_j23 F x1064)
def M_graph_Check_l38 (F : Nat) (x1 : List (List Int)) : Nat → (Int × Int) → Option Int
  | 0 => fun _ => none
  | k + 1 => fun s => M_graph_Check_b38 F x1 (M_graph_Check_l38 F x1 k) s.1 s.2
def M_graph_Check (F : Nat) (x1 : List (List Int)) : Option Int :=
  (if (decide (100 < (x1.length : Int))) then some 2 else M_graph_Check_l38 F x1 F (0, 0))
/-! math bits.Mul32 -/
def M_math_bits_Mul32 (_F : Nat) (x1 : Int) (x2 : Int) : Option (Int × Int) :=
  (lett (imul .u64 (iconv .u64 x1) (iconv .u64 x2)) fun x3 => some (iconv .u32 (ishr .u64 x3 32), iconv .u32 x3))
/-! math bits.Mul64 -/
def M_math_bits_Mul64 (_F : Nat) (x1 : Int) (x2 : Int) : Option (Int × Int) :=
  (lett (imul .u64 (iand .u64 x1 4294967295) (iand .u64 x2 4294967295)) fun x3 => (lett (iadd .u64 (imul .u64 (ishr .u64 x1 32) (iand .u64 x2 4294967295)) (ishr .u64 x3 32)) fun x4 => (lett (iadd .u64 (iand .u64 x4 4294967295) (imul .u64 (iand .u64 x1 4294967295) (ishr .u64 x2 32))) fun x5 => (lett (iadd .u64 (iadd .u64 (imul .u64 (ishr .u64 x1 32) (ishr .u64 x2 32)) (ishr .u64 x4 32)) (ishr .u64 x5 32)) fun x6 => some (x6, imul .u64 x1 x2)))))
/-! math bits.Mul -/
def M_math_bits_Mul (F : Nat) (x1 : Int) (x2 : Int) : Option (Int × Int) :=
  ((M_math_bits_Mul64 F x1 x2).bind fun x3 => some (x3.1, x3.2))
/-! slices.Repeat[[]int,int] -/
def M_slices_Repeat_int_int_j2 (_F : Nat) (x64 : List Int) : Option (List Int) :=
  some x64
def M_slices_Repeat_int_int_b3 (F : Nat) (rec3 : (List Int × Int) → Option (List Int)) (x80 : List Int) (x81 : Int) : Option (List Int) :=
  (if (decide (x81 < (x80.length : Int))) then ((sub x80 x81 (x80.length : Int)).bind fun x99 => ((sub x80 0 x81).bind fun x104 => (lett (overlay x81.toNat x80 x104) fun x109 => rec3 (x109, iadd .i64 x81 ((min x104.length x99.length : Nat) : Int))))) else M_slices_Repeat_int_int_j2 F x80)
def M_slices_Repeat_int_int_l3 (F : Nat) : Nat → (List Int × Int) → Option (List Int)
  | 0 => fun _ => none
  | k + 1 => fun s => M_slices_Repeat_int_int_b3 F (M_slices_Repeat_int_int_l3 F k) s.1 s.2
def M_slices_Repeat_int_int (F : Nat) (x1 : List Int) (x4 : Int) : Option (List Int) :=
  (if (decide (x4 < 0)) then none else ((M_math_bits_Mul F (iconv .u64 (x1.length : Int)) (iconv .u64 x4)).bind fun x6 => (if ((decide (0 < x6.1)) || (decide (9223372036854775807 < x6.2))) then none else ((mk 17592186044416 (0 : Int) (iconv .i64 x6.2)).bind fun x10 => (lett (overlay 0 x10 x1) fun x13 => M_slices_Repeat_int_int_l3 F F (x13, ((min x1.length x10.length : Nat) : Int)))))))
/-! slices.Index[[]int,int] -/
def M_slices_Index_int_int_j2 (_F : Nat) : Option Int :=
  some (-1)
def M_slices_Index_int_int_b3 (F : Nat) (x1 : List Int) (x4 : Int) (rec3 : Int → Option Int) (x47 : Int) : Option Int :=
  (if (decide (x47 < (x1.length : Int))) then ((idx x1 x47).bind fun x64 => (if ((x4 : Int) == x64) then some x47 else rec3 (iadd .i64 x47 1))) else M_slices_Index_int_int_j2 F)
def M_slices_Index_int_int_l3 (F : Nat) (x1 : List Int) (x4 : Int) : Nat → Int → Option Int
  | 0 => fun _ => none
  | k + 1 => fun s => M_slices_Index_int_int_b3 F x1 x4 (M_slices_Index_int_int_l3 F x1 x4 k) s
def M_slices_Index_int_int (F : Nat) (x1 : List Int) (x4 : Int) : Option Int :=
  M_slices_Index_int_int_l3 F x1 x4 F 0
/-! slices.Min[[]int,int] -/
def M_slices_Min_int_int_j2 (_F : Nat) (x35 : Int) : Option Int :=
  some x35
def M_slices_Min_int_int_b3 (F : Nat) (x1 : List Int) (rec3 : (Int × Int) → Option Int) (x44 : Int) (x45 : Int) : Option Int :=
  (if (decide (x45 < (x1.length : Int))) then ((idx x1 x45).bind fun x59 => rec3 (imin x44 x59, iadd .i64 x45 1)) else M_slices_Min_int_int_j2 F x44)
def M_slices_Min_int_int_l3 (F : Nat) (x1 : List Int) : Nat → (Int × Int) → Option Int
  | 0 => fun _ => none
  | k + 1 => fun s => M_slices_Min_int_int_b3 F x1 (M_slices_Min_int_int_l3 F x1 k) s.1 s.2
def M_slices_Min_int_int (F : Nat) (x1 : List Int) : Option Int :=
  (if (decide ((x1.length : Int) < 1)) then none else ((idx x1 0).bind fun x5 => M_slices_Min_int_int_l3 F x1 F (x5, 1)))
/-! (*lampwright strong.finder).close -/
def M_strong_finder_close_j2 (_F : Nat) (x5 : List Int) (x8 : List Int) (x11 : List Int) (x17 : Int) (x19 : Int) (x75 : List Int) : Option (List Int × List Int × List Int × List Int × Int) :=
  ((sub x11 0 x19).bind fun x76 => some (x5, x8, x76, x75, x17))
def M_strong_finder_close_b3 (F : Nat) (x5 : List Int) (x8 : List Int) (x11 : List Int) (x17 : Int) (x19 : Int) (x23 : Int) (rec3 : (Int × List Int) → Option (List Int × List Int × List Int × List Int × Int)) (x93 : Int) (x94 : List Int) : Option (List Int × List Int × List Int × List Int × Int) :=
  (if (decide (x93 < ((x11.length - x19.toNat : Nat) : Int))) then ((idx (x11.drop x19.toNat) x93).bind fun x120 => ((idx x94 x120).bind fun _x121 => (lett (x94.set x120.toNat x23) fun x124 => rec3 (iadd .i64 x93 1, x124)))) else M_strong_finder_close_j2 F x5 x8 x11 x17 x19 x94)
def M_strong_finder_close_l3 (F : Nat) (x5 : List Int) (x8 : List Int) (x11 : List Int) (x17 : Int) (x19 : Int) (x23 : Int) : Nat → (Int × List Int) → Option (List Int × List Int × List Int × List Int × Int)
  | 0 => fun _ => none
  | k + 1 => fun s => M_strong_finder_close_b3 F x5 x8 x11 x17 x19 x23 (M_strong_finder_close_l3 F x5 x8 x11 x17 x19 x23 k) s.1 s.2
def M_strong_finder_close (F : Nat) (_x2 : List (List Int)) (x5 : List Int) (x8 : List Int) (x11 : List Int) (x14 : List Int) (x17 : Int) (x18 : Int) : Option (List Int × List Int × List Int × List Int × Int) :=
  ((M_slices_Index_int_int F x11 x18).bind fun x19 => (chk (decide (0 ≤ x19 ∧ x19 < (x11.length : Int))) (((M_slices_Min_int_int F (x11.drop x19.toNat)).bind fun x23 => M_strong_finder_close_l3 F x5 x8 x11 x17 x19 x23 F (0, x14)))))
/-! (*lampwright strong.finder).visit -/
def M_strong_finder_visit_j5 (F : Nat) (x2 : List (List Int)) (x18 : Int) (x418 : List Int) (x421 : List Int) (x424 : List Int) (x427 : List Int) (x428 : Int) : Option (List Int × List Int × List Int × List Int × Int) :=
  ((idx x421 x18).bind fun x437 => ((idx x418 x18).bind fun x441 => (if ((x437 : Int) == x441) then ((M_strong_finder_close F x2 x418 x421 x424 x427 x428 x18).bind fun x445 => some (x445.1, x445.2.1, x445.2.2.1, x445.2.2.2.1, x445.2.2.2.2)) else some (x418, x421, x424, x427, x428))))
def M_strong_finder_visit_j9 (_F : Nat) (rec8 : (Int × List Int × List Int × List Int × List Int × Int) → Option (List Int × List Int × List Int × List Int × Int)) (x574 : Int) (x757 : List Int) (x760 : List Int) (x763 : List Int) (x766 : List Int) (x767 : Int) : Option (List Int × List Int × List Int × List Int × Int) :=
  rec8 (iadd .i64 x574 1, x757, x760, x763, x766, x767)
def M_strong_finder_visit_b8 (F : Nat) (self : (List (List Int)) → (List Int) → (List Int) → (List Int) → (List Int) → Int → Int → Option (List Int × List Int × List Int × List Int × Int)) (x2 : List (List Int)) (x18 : Int) (x455 : List Int) (rec8 : (Int × List Int × List Int × List Int × List Int × Int) → Option (List Int × List Int × List Int × List Int × Int)) (x574 : Int) (x577 : List Int) (x580 : List Int) (x583 : List Int) (x586 : List Int) (x587 : Int) : Option (List Int × List Int × List Int × List Int × Int) :=
  (if (decide (x574 < (x455.length : Int))) then ((idx x455 x574).bind fun x768 => ((idx x577 x768).bind fun x771 => (if ((x771 : Int) == 0) then ((self x2 x577 x580 x583 x586 x587 x768).bind fun x774 => ((idx x774.2.1 x18).bind fun x783 => ((idx x774.2.1 x768).bind fun x787 => ((idx x774.2.1 x18).bind fun _x791 => (lett (x774.2.1.set x18.toNat (imin x783 x787)) fun x795 => M_strong_finder_visit_j9 F rec8 x574 x774.1 x795 x774.2.2.1 x774.2.2.2.1 x774.2.2.2.2))))) else ((idx x586 x768).bind fun x798 => (if (decide (x798 < 0)) then ((idx x580 x18).bind fun x801 => ((idx x577 x768).bind fun x805 => ((idx x580 x18).bind fun _x809 => (lett (x580.set x18.toNat (imin x801 x805)) fun x813 => M_strong_finder_visit_j9 F rec8 x574 x577 x813 x583 x586 x587)))) else M_strong_finder_visit_j9 F rec8 x574 x577 x580 x583 x586 x587))))) else M_strong_finder_visit_j5 F x2 x18 x577 x580 x583 x586 x587)
def M_strong_finder_visit_l8 (F : Nat) (self : (List (List Int)) → (List Int) → (List Int) → (List Int) → (List Int) → Int → Int → Option (List Int × List Int × List Int × List Int × Int)) (x2 : List (List Int)) (x18 : Int) (x455 : List Int) : Nat → (Int × List Int × List Int × List Int × List Int × Int) → Option (List Int × List Int × List Int × List Int × Int)
  | 0 => fun _ => none
  | k + 1 => fun s => M_strong_finder_visit_b8 F self x2 x18 x455 (M_strong_finder_visit_l8 F self x2 x18 x455 k) s.1 s.2.1 s.2.2.1 s.2.2.2.1 s.2.2.2.2.1 s.2.2.2.2.2
def M_strong_finder_visit : Nat → (List (List Int)) → (List Int) → (List Int) → (List Int) → (List Int) → Int → Int → Option (List Int × List Int × List Int × List Int × Int)
  | 0 => fun _ _ _ _ _ _ _ => none
  | F + 1 => fun x2 x5 x8 x11 x14 x17 x18 =>
    let self := M_strong_finder_visit F
    ((idx x5 x18).bind fun _x33 => ((idx x8 x18).bind fun _x37 => (lett (x5.set x18.toNat (iadd .i64 x17 1)) fun x41 => (lett (x8.set x18.toNat (iadd .i64 x17 1)) fun x44 => ((app 8796093022208 x11 ([x18] : List Int)).bind fun x49 => ((idx x2 x18).bind fun x455 => M_strong_finder_visit_l8 F self x2 x18 x455 F (0, x41, x44, x49, x14, iadd .i64 x17 1)))))))
/-! lampwright strong.parts -/
def M_strong_parts_j6 (_F : Nat) (_x265 : List Int) (_x268 : List Int) (_x271 : List Int) (x274 : List Int) (_x275 : Int) : Option (List Int) :=
  some x274
def M_strong_parts_j10 (_F : Nat) (rec9 : (Int × List Int × List Int × List Int × List Int × Int) → Option (List Int)) (x318 : Int) (x390 : List Int) (x393 : List Int) (x396 : List Int) (x399 : List Int) (x400 : Int) : Option (List Int) :=
  rec9 (iadd .i64 x318 1, x390, x393, x396, x399, x400)
def M_strong_parts_b9 (F : Nat) (x1 : List (List Int)) (rec9 : (Int × List Int × List Int × List Int × List Int × Int) → Option (List Int)) (x318 : Int) (x321 : List Int) (x324 : List Int) (x327 : List Int) (x330 : List Int) (x331 : Int) : Option (List Int) :=
  (if (decide (x318 < (x1.length : Int))) then ((idx x321 x318).bind fun x401 => (if ((x401 : Int) == 0) then ((M_strong_finder_visit F x1 x321 x324 x327 x330 x331 x318).bind fun x404 => M_strong_parts_j10 F rec9 x318 x404.1 x404.2.1 x404.2.2.1 x404.2.2.2.1 x404.2.2.2.2) else M_strong_parts_j10 F rec9 x318 x321 x324 x327 x330 x331)) else M_strong_parts_j6 F x321 x324 x327 x330 x331)
def M_strong_parts_l9 (F : Nat) (x1 : List (List Int)) : Nat → (Int × List Int × List Int × List Int × List Int × Int) → Option (List Int)
  | 0 => fun _ => none
  | k + 1 => fun s => M_strong_parts_b9 F x1 (M_strong_parts_l9 F x1 k) s.1 s.2.1 s.2.2.1 s.2.2.2.1 s.2.2.2.2.1 s.2.2.2.2.2
def M_strong_parts_j1 (F : Nat) (x1 : List (List Int)) (x117 : List Int) (x120 : List Int) (x123 : List Int) : Option (List Int) :=
  M_strong_parts_l9 F x1 F (0, x117, x120, ([] : List Int), x123, 0)
def M_strong_parts (F : Nat) (x1 : List (List Int)) : Option (List Int) :=
  ((mk 17592186044416 (0 : Int) (x1.length : Int)).bind fun x415 => ((mk 17592186044416 (0 : Int) (x1.length : Int)).bind fun x418 => ((M_slices_Repeat_int_int F ([-1] : List Int) (x1.length : Int)).bind fun x423 => M_strong_parts_j1 F x1 x415 x418 x423)))
/-! lampwright strong.Parts -/
def M_strong_Parts (F : Nat) (x1 : List (List Int)) : Option (List Int × Int) :=
  ((M_graph_Check F x1).bind fun x7 => (if ((x7 : Int) != 0) then some (([] : List Int), x7) else ((M_strong_parts F x1).bind fun x8 => some (x8, 0))))
/-! lampwright graph.Built -/
def M_graph_Built_j2 (_F : Nat) (x171 : List (List Int)) : Option (List (List Int)) :=
  some x171
def M_graph_Built_b3 (F : Nat) (x2 : List (Int × Int)) (rec3 : (Int × List (List Int)) → Option (List (List Int))) (x224 : Int) (x226 : List (List Int)) : Option (List (List Int)) :=
  (if (decide (x224 < (x2.length : Int))) then ((idx x2 x224).bind fun x306 => ((idx x226 x306.1).bind fun x310 => ((idx x226 x306.1).bind fun _x316 => ((app 8796093022208 x310 ([x306.2] : List Int)).bind fun x324 => (lett (x226.set x306.1.toNat x324) fun x327 => rec3 (iadd .i64 x224 1, x327)))))) else M_graph_Built_j2 F x226)
def M_graph_Built_l3 (F : Nat) (x2 : List (Int × Int)) : Nat → (Int × List (List Int)) → Option (List (List Int))
  | 0 => fun _ => none
  | k + 1 => fun s => M_graph_Built_b3 F x2 (M_graph_Built_l3 F x2 k) s.1 s.2
def M_graph_Built (F : Nat) (x1 : Int) (x2 : List (Int × Int)) : Option (List (List Int)) :=
  ((mk 4398046511104 (([] : List Int) : List Int) x1).bind fun x6 => M_graph_Built_l3 F x2 F (0, x6))
/-! slices.Values[[]lampwright api.Arc,lampwright api.Arc] -/
def M_slices_Values_api_Arc_api_Arc (_F : Nat) (_x1 : List (Int × Int)) : Option Unit :=
  some ()
/-! cmp.Or[int] -/
def M_cmp_Or_int_j2 (_F : Nat) : Option Int :=
  some 0
def M_cmp_Or_int_b3 (F : Nat) (x1 : List Int) (rec3 : Int → Option Int) (x46 : Int) : Option Int :=
  (if (decide (x46 < (x1.length : Int))) then ((idx x1 x46).bind fun x63 => (if ((x63 : Int) != 0) then some x63 else rec3 (iadd .i64 x46 1))) else M_cmp_Or_int_j2 F)
def M_cmp_Or_int_l3 (F : Nat) (x1 : List Int) : Nat → Int → Option Int
  | 0 => fun _ => none
  | k + 1 => fun s => M_cmp_Or_int_b3 F x1 (M_cmp_Or_int_l3 F x1 k) s
def M_cmp_Or_int (F : Nat) (x1 : List Int) : Option Int :=
  M_cmp_Or_int_l3 F x1 F 0
/-! cmp.isNaN[int] -/
def M_cmp_isNaN_int (_F : Nat) (x1 : Int) : Option Bool :=
  some ((x1 : Int) != x1)
/-! cmp.Compare[int] -/
def M_cmp_Compare_int (F : Nat) (x1 : Int) (x2 : Int) : Option Int :=
  ((M_cmp_isNaN_int F x1).bind fun x3 => ((M_cmp_isNaN_int F x2).bind fun x4 => (if x3 then (if x4 then some 0 else some (-1)) else (if x4 then some 1 else (if (decide (x1 < x2)) then some (-1) else (if (decide (x2 < x1)) then some 1 else some 0))))))
/-! lampwright graph.order -/
def M_graph_order (F : Nat) (x1 : Int) (x2 : Int) (x3 : Int) (x4 : Int) : Option Int :=
  ((M_cmp_Compare_int F x1 x3).bind fun x12 => ((M_cmp_Compare_int F x2 x4).bind fun x13 => ((M_cmp_Or_int F ([x12, x13] : List Int)).bind fun x16 => some x16)))
/-! slices.Values[[]lampwright api.Arc,lampwright api.Arc]$1 -/
def M_slices_Values_api_Arc_api_Arc_1_b1 {σ τ : Type} (_F : Nat) (yy : σ → (Int × Int) → Option (σ ⊕ τ)) (x2 : List (Int × Int)) (rec1 : (Int × σ) → Option (σ ⊕ τ)) (x23 : Int) (x24 : σ) : Option (σ ⊕ τ) :=
  (if (decide (x23 < (x2.length : Int))) then ((idx x2 x23).bind fun x54 => ((yy x24 (x54.1, x54.2)).bind (Sum.elim (fun x58 => rec1 (iadd .i64 x23 1, x58)) (fun x59 => some (.inr x59))))) else some (.inl x24))
def M_slices_Values_api_Arc_api_Arc_1_l1 {σ τ : Type} (F : Nat) (yy : σ → (Int × Int) → Option (σ ⊕ τ)) (x2 : List (Int × Int)) : Nat → (Int × σ) → Option (σ ⊕ τ)
  | 0 => fun _ => none
  | k + 1 => fun s => M_slices_Values_api_Arc_api_Arc_1_b1 F yy x2 (M_slices_Values_api_Arc_api_Arc_1_l1 F yy x2 k) s.1 s.2
def M_slices_Values_api_Arc_api_Arc_1 {σ τ : Type} (F : Nat) (yy : σ → (Int × Int) → Option (σ ⊕ τ)) (x2 : List (Int × Int)) (s0 : σ) : Option (σ ⊕ τ) :=
  M_slices_Values_api_Arc_api_Arc_1_l1 F yy x2 F (0, s0)
/-! slices.AppendSeq[[]lampwright api.Arc,lampwright api.Arc] -/
def M_slices_AppendSeq_api_Arc_api_Arc_slices_Values_api_Arc_api_Arc_1_r2 (_F : Nat) (x46 : List (Int × Int)) (x55 : Int) (x56 : Int) : Option (List (Int × Int) ⊕ Empty) :=
  ((app 4398046511104 x46 ([(x55, x56)] : List (Int × Int))).bind fun x60 => some (.inl x60))
def M_slices_AppendSeq_api_Arc_api_Arc_slices_Values_api_Arc_api_Arc_1 (F : Nat) (x1 : List (Int × Int)) (x5 : List (Int × Int)) : Option (List (Int × Int)) :=
  ((M_slices_Values_api_Arc_api_Arc_1 F (fun (x46 : List (Int × Int)) ((x55, x56) : (Int × Int)) => M_slices_AppendSeq_api_Arc_api_Arc_slices_Values_api_Arc_api_Arc_1_r2 F x46 x55 x56) x5 x1).bind (Sum.elim (fun (x46 : List (Int × Int)) => some x46) (fun t => t.elim)))
/-! slices.Collect[lampwright api.Arc] -/
def M_slices_Collect_api_Arc_slices_Values_api_Arc_api_Arc_1 (F : Nat) (x2 : List (Int × Int)) : Option (List (Int × Int)) :=
  ((M_slices_AppendSeq_api_Arc_api_Arc_slices_Values_api_Arc_api_Arc_1 F ([] : List (Int × Int)) x2).bind fun x5 => some x5)
/-! slices.SortFunc[[]lampwright api.Arc,lampwright api.Arc] -/
def M_slices_SortFunc_api_Arc_api_Arc_graph_order (F : Nat) (x1 : List (Int × Int)) : Option (List (Int × Int)) :=
  sortF (fun a b => M_graph_order F a.1 a.2 b.1 b.2) x1
/-! slices.SortedFunc[lampwright api.Arc] -/
def M_slices_SortedFunc_api_Arc_slices_Values_api_Arc_api_Arc_1_graph_order (F : Nat) (x2 : List (Int × Int)) : Option (List (Int × Int)) :=
  ((M_slices_Collect_api_Arc_slices_Values_api_Arc_api_Arc_1 F x2).bind fun x5 => ((M_slices_SortFunc_api_Arc_api_Arc_graph_order F x5).bind fun x8 => (chk (decide (x8.length = x5.length)) (some x8))))
/-! lampwright graph.Of -/
def M_graph_Of_j2 (F : Nat) (x1 : Int) (x2 : List (Int × Int)) : Option (List (List Int) × Int) :=
  ((M_slices_Values_api_Arc_api_Arc F x2).bind fun _x122 => ((M_slices_SortedFunc_api_Arc_slices_Values_api_Arc_api_Arc_1_graph_order F x2).bind fun x124 => ((M_graph_Built F x1 x124).bind fun x127 => some (x127, 0))))
def M_graph_Of_b3 (F : Nat) (x1 : Int) (x2 : List (Int × Int)) (rec3 : (Int × List (Int × Int)) → Option (List (List Int) × Int)) (x166 : Int) (x167 : List (Int × Int)) : Option (List (List Int) × Int) :=
  (if (decide (x166 < (x2.length : Int))) then ((idx x2 x166).bind fun x223 => (if ((((decide (x223.1 < 0)) || (decide (x1 ≤ x223.1))) || (decide (x223.2 < 0))) || (decide (x1 ≤ x223.2))) then some (([] : List (List Int)), 3) else (if (decide (((x223.1, x223.2) : Int × Int) ∈ x167)) then some (([] : List (List Int)), 6) else ((sins x167 (x223.1, x223.2)).bind fun x237 => rec3 (iadd .i64 x166 1, x237))))) else M_graph_Of_j2 F x1 x2)
def M_graph_Of_l3 (F : Nat) (x1 : Int) (x2 : List (Int × Int)) : Nat → (Int × List (Int × Int)) → Option (List (List Int) × Int)
  | 0 => fun _ => none
  | k + 1 => fun s => M_graph_Of_b3 F x1 x2 (M_graph_Of_l3 F x1 x2 k) s.1 s.2
def M_graph_Of (F : Nat) (x1 : Int) (x2 : List (Int × Int)) : Option (List (List Int) × Int) :=
  (if ((decide (x1 < 0)) || (decide (100 < x1))) then some (([] : List (List Int)), 3) else (if (decide (600 < (x2.length : Int))) then some (([] : List (List Int)), 2) else M_graph_Of_l3 F x1 x2 F (0, ([] : List (Int × Int)))))
/-! slices.Compact[[]int,int] -/
def M_slices_Compact_int_int (_F : Nat) (x1 : List Int) : Option (List Int) :=
  if (Go.Lib.compact x1).length ≤ x1.length then some (Go.Lib.compact x1) else none
/-! slices.Values[[]int,int] -/
def M_slices_Values_int_int (_F : Nat) (_x1 : List Int) : Option Unit :=
  some ()
/-! cmp.Less[int] -/
def M_cmp_Less_int_j1 (_F : Nat) (x1 : Int) (x2 : Int) (x6 : Bool) : Option Bool :=
  some (x6 || (decide (x1 < x2)))
def M_cmp_Less_int (F : Nat) (x1 : Int) (x2 : Int) : Option Bool :=
  ((M_cmp_isNaN_int F x1).bind fun x3 => (if x3 then ((M_cmp_isNaN_int F x2).bind fun x8 => M_cmp_Less_int_j1 F x1 x2 (!x8)) else M_cmp_Less_int_j1 F x1 x2 false))
/-! slices.isNaN[int] -/
def M_slices_isNaN_int (_F : Nat) (x1 : Int) : Option Bool :=
  some ((x1 : Int) != x1)
/-! slices.BinarySearch[[]int,int] -/
def M_slices_BinarySearch_int_int_j6 (_F : Nat) (x32 : Int) (x55 : Bool) : Option (Int × Bool) :=
  some (x32, x55)
def M_slices_BinarySearch_int_int_j8 (F : Nat) (x32 : Int) (x68 : Bool) : Option (Int × Bool) :=
  M_slices_BinarySearch_int_int_j6 F x32 x68
def M_slices_BinarySearch_int_int_j9 (F : Nat) (x32 : Int) (x75 : Bool) : Option (Int × Bool) :=
  M_slices_BinarySearch_int_int_j8 F x32 x75
def M_slices_BinarySearch_int_int_j2 (F : Nat) (x1 : List Int) (x4 : Int) (x32 : Int) : Option (Int × Bool) :=
  (if (decide (x32 < (x1.length : Int))) then ((idx x1 x32).bind fun x56 => (if ((x56 : Int) == x4) then M_slices_BinarySearch_int_int_j8 F x32 true else ((idx x1 x32).bind fun x69 => ((M_slices_isNaN_int F x69).bind fun x72 => (if x72 then ((M_slices_isNaN_int F x4).bind fun x76 => M_slices_BinarySearch_int_int_j9 F x32 x76) else M_slices_BinarySearch_int_int_j9 F x32 false))))) else M_slices_BinarySearch_int_int_j6 F x32 false)
def M_slices_BinarySearch_int_int_b10 (F : Nat) (x1 : List Int) (x4 : Int) (rec10 : (Int × Int) → Option (Int × Bool)) (x85 : Int) (x86 : Int) : Option (Int × Bool) :=
  (if (decide (x85 < x86)) then (lett (iconv .i64 (ishr .u64 (iconv .u64 (iadd .i64 x85 x86)) 1)) fun x97 => ((idx x1 x97).bind fun x98 => ((M_cmp_Less_int F x98 x4).bind fun x101 => (if x101 then rec10 (iadd .i64 x97 1, x86) else rec10 (x85, x97))))) else M_slices_BinarySearch_int_int_j2 F x1 x4 x85)
def M_slices_BinarySearch_int_int_l10 (F : Nat) (x1 : List Int) (x4 : Int) : Nat → (Int × Int) → Option (Int × Bool)
  | 0 => fun _ => none
  | k + 1 => fun s => M_slices_BinarySearch_int_int_b10 F x1 x4 (M_slices_BinarySearch_int_int_l10 F x1 x4 k) s.1 s.2
def M_slices_BinarySearch_int_int (F : Nat) (x1 : List Int) (x4 : Int) : Option (Int × Bool) :=
  M_slices_BinarySearch_int_int_l10 F x1 x4 F (0, (x1.length : Int))
/-! lampwright graph.All -/
def M_graph_All (_F : Nat) (_x1 : List (List Int)) : Option Unit :=
  some ()
/-! slices.Sort[[]int,int] -/
def M_slices_Sort_int_int (_F : Nat) (x1 : List Int) : Option (List Int) :=
  if x1.length < 4611686018427387904 then some (srt x1) else none
/-! slices.Values[[]int,int]$1 -/
def M_slices_Values_int_int_1_b1 {σ τ : Type} (_F : Nat) (yy : σ → Int → Option (σ ⊕ τ)) (x2 : List Int) (rec1 : (Int × σ) → Option (σ ⊕ τ)) (x21 : Int) (x22 : σ) : Option (σ ⊕ τ) :=
  (if (decide (x21 < (x2.length : Int))) then ((idx x2 x21).bind fun x49 => ((yy x22 x49).bind (Sum.elim (fun x52 => rec1 (iadd .i64 x21 1, x52)) (fun x53 => some (.inr x53))))) else some (.inl x22))
def M_slices_Values_int_int_1_l1 {σ τ : Type} (F : Nat) (yy : σ → Int → Option (σ ⊕ τ)) (x2 : List Int) : Nat → (Int × σ) → Option (σ ⊕ τ)
  | 0 => fun _ => none
  | k + 1 => fun s => M_slices_Values_int_int_1_b1 F yy x2 (M_slices_Values_int_int_1_l1 F yy x2 k) s.1 s.2
def M_slices_Values_int_int_1 {σ τ : Type} (F : Nat) (yy : σ → Int → Option (σ ⊕ τ)) (x2 : List Int) (s0 : σ) : Option (σ ⊕ τ) :=
  M_slices_Values_int_int_1_l1 F yy x2 F (0, s0)
/-! slices.AppendSeq[[]int,int] -/
def M_slices_AppendSeq_int_int_slices_Values_int_int_1_r2 (_F : Nat) (x38 : List Int) (x45 : Int) : Option (List Int ⊕ Empty) :=
  ((app 8796093022208 x38 ([x45] : List Int)).bind fun x48 => some (.inl x48))
def M_slices_AppendSeq_int_int_slices_Values_int_int_1 (F : Nat) (x1 : List Int) (x5 : List Int) : Option (List Int) :=
  ((M_slices_Values_int_int_1 F (fun (x38 : List Int) (x45 : Int) => M_slices_AppendSeq_int_int_slices_Values_int_int_1_r2 F x38 x45) x5 x1).bind (Sum.elim (fun (x38 : List Int) => some x38) (fun t => t.elim)))
/-! slices.Collect[int] -/
def M_slices_Collect_int_slices_Values_int_int_1 (F : Nat) (x2 : List Int) : Option (List Int) :=
  ((M_slices_AppendSeq_int_int_slices_Values_int_int_1 F ([] : List Int) x2).bind fun x5 => some x5)
/-! slices.Sorted[int] -/
def M_slices_Sorted_int_slices_Values_int_int_1 (F : Nat) (x2 : List Int) : Option (List Int) :=
  ((M_slices_Collect_int_slices_Values_int_int_1 F x2).bind fun x5 => ((M_slices_Sort_int_int F x5).bind fun x8 => (chk (decide (x8.length = x5.length)) (some x8))))
/-! lampwright graph.All$1 -/
def M_graph_All_1_j9 {σ τ : Type} (_F : Nat) (_yy : σ → (Int × Int) → Option (σ ⊕ τ)) (rec7 : (Int × σ) → Option (σ ⊕ τ)) (x121 : Int) (x298 : σ) : Option (σ ⊕ τ) :=
  rec7 (iadd .i64 x121 1, x298)
def M_graph_All_1_b10 {σ τ : Type} (F : Nat) (yy : σ → (Int × Int) → Option (σ ⊕ τ)) (rec7 : (Int × σ) → Option (σ ⊕ τ)) (x121 : Int) (x300 : List Int) (rec10 : (Int × σ) → Option (σ ⊕ τ)) (x320 : Int) (x321 : σ) : Option (σ ⊕ τ) :=
  (if (decide (x320 < (x300.length : Int))) then ((idx x300 x320).bind fun x348 => ((yy x321 (x121, x348)).bind (Sum.elim (fun x351 => rec10 (iadd .i64 x320 1, x351)) (fun x352 => some (.inr x352))))) else M_graph_All_1_j9 F yy rec7 x121 x321)
def M_graph_All_1_l10 {σ τ : Type} (F : Nat) (yy : σ → (Int × Int) → Option (σ ⊕ τ)) (rec7 : (Int × σ) → Option (σ ⊕ τ)) (x121 : Int) (x300 : List Int) : Nat → (Int × σ) → Option (σ ⊕ τ)
  | 0 => fun _ => none
  | k + 1 => fun s => M_graph_All_1_b10 F yy rec7 x121 x300 (M_graph_All_1_l10 F yy rec7 x121 x300 k) s.1 s.2
def M_graph_All_1_b7 {σ τ : Type} (F : Nat) (yy : σ → (Int × Int) → Option (σ ⊕ τ)) (x2 : List (List Int)) (rec7 : (Int × σ) → Option (σ ⊕ τ)) (x121 : Int) (x122 : σ) : Option (σ ⊕ τ) :=
  (if (decide (x121 < (x2.length : Int))) then ((idx x2 x121).bind fun x300 => M_graph_All_1_l10 F yy rec7 x121 x300 F (0, x122)) else some (.inl x122))
def M_graph_All_1_l7 {σ τ : Type} (F : Nat) (yy : σ → (Int × Int) → Option (σ ⊕ τ)) (x2 : List (List Int)) : Nat → (Int × σ) → Option (σ ⊕ τ)
  | 0 => fun _ => none
  | k + 1 => fun s => M_graph_All_1_b7 F yy x2 (M_graph_All_1_l7 F yy x2 k) s.1 s.2
def M_graph_All_1 {σ τ : Type} (F : Nat) (yy : σ → (Int × Int) → Option (σ ⊕ τ)) (x2 : List (List Int)) (s0 : σ) : Option (σ ⊕ τ) :=
  M_graph_All_1_l7 F yy x2 F (0, s0)
/-! lampwright strong.Shrink -/
def M_strong_Shrink_r4 (_F : Nat) (x96 : List Int) (x230 : List (Int × Int)) (x231 : List (Int × Int)) (x262 : Int) (x263 : Int) : Option ((List (Int × Int) × List (Int × Int)) ⊕ Empty) :=
  ((idx x96 x262).bind fun x274 => ((idx x96 x263).bind fun x278 => (if ((!(decide (((x274, x278) : Int × Int) ∈ x231))) && ((x274 : Int) != x278)) then ((sins x231 (x274, x278)).bind fun x285 => ((app 4398046511104 x230 ([(x274, x278)] : List (Int × Int))).bind fun x288 => some (.inl (x288, x285)))) else some (.inl (x230, x231)))))
def M_strong_Shrink_j2 (F : Nat) (x1 : List (List Int)) (x18 : List Int) (x96 : List Int) : Option (List (List Int) × List Int × Int) :=
  ((M_graph_All F x1).bind fun _x196 => ((M_graph_All_1 F (fun ((x230, x231) : (List (Int × Int) × List (Int × Int))) ((x262, x263) : (Int × Int)) => M_strong_Shrink_r4 F x96 x230 x231 x262 x263) x1 (([] : List (Int × Int)), ([] : List (Int × Int)))).bind (Sum.elim (fun ((x230, _x231) : (List (Int × Int) × List (Int × Int))) => ((M_graph_Of F (x18.length : Int) x230).bind fun x292 => some (x292.1, x96, x292.2))) (fun t => t.elim))))
def M_strong_Shrink_b5 (F : Nat) (x1 : List (List Int)) (x9 : List Int) (x18 : List Int) (rec5 : (List Int × Int) → Option (List (List Int) × List Int × Int)) (x320 : List Int) (x321 : Int) : Option (List (List Int) × List Int × Int) :=
  (if (decide (x321 < (x9.length : Int))) then ((idx x320 x321).bind fun x359 => ((idx x320 x321).bind fun _x362 => ((M_slices_BinarySearch_int_int F x18 x359).bind fun x366 => (lett (x320.set x321.toNat x366.1) fun x367 => rec5 (x367, iadd .i64 x321 1))))) else M_strong_Shrink_j2 F x1 x18 x320)
def M_strong_Shrink_l5 (F : Nat) (x1 : List (List Int)) (x9 : List Int) (x18 : List Int) : Nat → (List Int × Int) → Option (List (List Int) × List Int × Int)
  | 0 => fun _ => none
  | k + 1 => fun s => M_strong_Shrink_b5 F x1 x9 x18 (M_strong_Shrink_l5 F x1 x9 x18 k) s.1 s.2
def M_strong_Shrink (F : Nat) (x1 : List (List Int)) : Option (List (List Int) × List Int × Int) :=
  ((M_graph_Check F x1).bind fun x8 => (if ((x8 : Int) != 0) then some (([] : List (List Int)), ([] : List Int), x8) else ((M_strong_parts F x1).bind fun x9 => ((M_slices_Values_int_int F x9).bind fun _x13 => ((M_slices_Sorted_int_slices_Values_int_int_1 F x9).bind fun x15 => ((M_slices_Compact_int_int F x15).bind fun x18 => M_strong_Shrink_l5 F x1 x9 x18 F (x9, 0)))))))
/-! lampwright graph.Degrees -/
def M_graph_Degrees_r3 (_F : Nat) (x121 : List Int) (x122 : List Int) (x144 : Int) (x145 : Int) : Option ((List Int × List Int) ⊕ Empty) :=
  ((idx x122 x144).bind fun x147 => ((idx x122 x144).bind fun _x150 => (lett (x122.set x144.toNat (iadd .i64 x147 1)) fun x153 => ((idx x121 x145).bind fun x156 => ((idx x121 x145).bind fun _x159 => (lett (x121.set x145.toNat (iadd .i64 x156 1)) fun x162 => some (.inl (x162, x153))))))))
def M_graph_Degrees_j1 (F : Nat) (x1 : List (List Int)) (x27 : List Int) (x30 : List Int) : Option (List Int × List Int × Int) :=
  ((M_graph_All F x1).bind fun _x98 => ((M_graph_All_1 F (fun ((x121, x122) : (List Int × List Int)) ((x144, x145) : (Int × Int)) => M_graph_Degrees_r3 F x121 x122 x144 x145) x1 (x27, x30)).bind (Sum.elim (fun ((x121, x122) : (List Int × List Int)) => some (x122, x121, 0)) (fun t => t.elim))))
def M_graph_Degrees (F : Nat) (x1 : List (List Int)) : Option (List Int × List Int × Int) :=
  ((M_graph_Check F x1).bind fun x9 => (if ((x9 : Int) != 0) then some (([] : List Int), ([] : List Int), x9) else ((mk 17592186044416 (0 : Int) (x1.length : Int)).bind fun x165 => ((mk 17592186044416 (0 : Int) (x1.length : Int)).bind fun x168 => M_graph_Degrees_j1 F x1 x168 x165))))
/-! lampwright strong.Order -/
def M_strong_Order_j11 (_F : Nat) (x580 : List Int) : Option (List Int × Int) :=
  some (x580, 0)
def M_strong_Order_j20 (_F : Nat) (rec18 : (List Int × List Int) → Option (List Int × Int)) (x772 : List Int) (x962 : Int) (x1055 : List Int) : Option (List Int × Int) :=
  ((app 8796093022208 x772 ([x962] : List Int)).bind fun x1058 => rec18 (x1055, x1058))
def M_strong_Order_b21 (F : Nat) (rec18 : (List Int × List Int) → Option (List Int × Int)) (x772 : List Int) (x962 : Int) (x1061 : List Int) (rec21 : (List Int × Int) → Option (List Int × Int)) (x1091 : List Int) (x1092 : Int) : Option (List Int × Int) :=
  (if (decide (x1092 < (x1061.length : Int))) then ((idx x1061 x1092).bind fun x1133 => ((idx x1091 x1133).bind fun x1136 => ((idx x1091 x1133).bind fun _x1139 => (lett (x1091.set x1133.toNat (isub .i64 x1136 1)) fun x1142 => rec21 (x1142, iadd .i64 x1092 1))))) else M_strong_Order_j20 F rec18 x772 x962 x1091)
def M_strong_Order_l21 (F : Nat) (rec18 : (List Int × List Int) → Option (List Int × Int)) (x772 : List Int) (x962 : Int) (x1061 : List Int) : Nat → (List Int × Int) → Option (List Int × Int)
  | 0 => fun _ => none
  | k + 1 => fun s => M_strong_Order_b21 F rec18 x772 x962 x1061 (M_strong_Order_l21 F rec18 x772 x962 x1061 k) s.1 s.2
def M_strong_Order_b18 (F : Nat) (x1 : List (List Int)) (rec18 : (List Int × List Int) → Option (List Int × Int)) (x769 : List Int) (x772 : List Int) : Option (List Int × Int) :=
  (if (decide ((x772.length : Int) < (x769.length : Int))) then ((M_slices_Index_int_int F x769 0).bind fun x962 => (if (decide (x962 < 0)) then some (([] : List Int), 4) else ((idx x769 x962).bind fun _x964 => (lett (x769.set x962.toNat (-1)) fun x967 => ((idx x1 x962).bind fun x1061 => M_strong_Order_l21 F rec18 x772 x962 x1061 F (x967, 0)))))) else M_strong_Order_j11 F x772)
def M_strong_Order_l18 (F : Nat) (x1 : List (List Int)) : Nat → (List Int × List Int) → Option (List Int × Int)
  | 0 => fun _ => none
  | k + 1 => fun s => M_strong_Order_b18 F x1 (M_strong_Order_l18 F x1 k) s.1 s.2
def M_strong_Order (F : Nat) (x1 : List (List Int)) : Option (List Int × Int) :=
  ((M_graph_Degrees F x1).bind fun x5 => (if ((x5.2.2 : Int) != 0) then some (([] : List Int), x5.2.2) else M_strong_Order_l18 F x1 F (x5.2.1, ([] : List Int))))
/-! lampwright lampwrightref.SameInts -/
def M_R_SameInts_j2 (_F : Nat) : Option Bool :=
  some true
def M_R_SameInts_b3 (F : Nat) (x1 : List Int) (x4 : List Int) (rec3 : Int → Option Bool) (x154 : Int) : Option Bool :=
  (if (decide (x154 < (x1.length : Int))) then ((idx x1 x154).bind fun x218 => ((idx x4 x154).bind fun x222 => (if ((x218 : Int) != x222) then some false else rec3 (iadd .i64 x154 1)))) else M_R_SameInts_j2 F)
def M_R_SameInts_l3 (F : Nat) (x1 : List Int) (x4 : List Int) : Nat → Int → Option Bool
  | 0 => fun _ => none
  | k + 1 => fun s => M_R_SameInts_b3 F x1 x4 (M_R_SameInts_l3 F x1 x4 k) s
def M_R_SameInts (F : Nat) (x1 : List Int) (x4 : List Int) : Option Bool :=
  (if (((x1.length : Int) : Int) != (x4.length : Int)) then some false else M_R_SameInts_l3 F x1 x4 F 0)
/-! lampwright lampwrightlaw.someGraph -/
def M_L_someGraph (_F : Nat)  : Option (List (List Int)) :=
  some ([([1, 2, 3, 5] : List Int), ([1, 2, 3, 5] : List Int), ([0, 1, 2, 3, 5] : List Int), ([] : List Int), ([4] : List Int), ([1, 2, 3] : List Int)] : List (List Int))
/-! lampwright lampwrightref.SameLists -/
def M_R_SameLists_j2 (_F : Nat) : Option Bool :=
  some true
def M_R_SameLists_b3 (F : Nat) (x1 : List (List Int)) (x4 : List (List Int)) (rec3 : Int → Option Bool) (x202 : Int) : Option Bool :=
  (if (decide (x202 < (x1.length : Int))) then ((idx x1 x202).bind fun x287 => ((idx x4 x202).bind fun x292 => ((M_R_SameInts F x287 x292).bind fun x297 => (if (!x297) then some false else rec3 (iadd .i64 x202 1))))) else M_R_SameLists_j2 F)
def M_R_SameLists_l3 (F : Nat) (x1 : List (List Int)) (x4 : List (List Int)) : Nat → Int → Option Bool
  | 0 => fun _ => none
  | k + 1 => fun s => M_R_SameLists_b3 F x1 x4 (M_R_SameLists_l3 F x1 x4 k) s
def M_R_SameLists (F : Nat) (x1 : List (List Int)) (x4 : List (List Int)) : Option Bool :=
  (if (((x1.length : Int) : Int) != (x4.length : Int)) then some false else M_R_SameLists_l3 F x1 x4 F 0)
/-! lampwright lampwrightlaw.strongBegun -/
def M_L_strongBegun_j3 (_F : Nat) (x19 : (List (List Int) × List Int × Int)) (x28 : (List Int × Int)) (x52 : Bool) : Option Bool :=
  some ((x52 && ((x19.2.2 : Int) == 0)) && ((x28.2 : Int) == 4))
def M_L_strongBegun_j2 (F : Nat) (x19 : (List (List Int) × List Int × Int)) (x28 : (List Int × Int)) (x47 : Bool) : Option Bool :=
  (if x47 then ((M_R_SameInts F x19.2.1 ([0, 0, 0, 1, 2, 0] : List Int)).bind fun x57 => M_L_strongBegun_j3 F x19 x28 x57) else M_L_strongBegun_j3 F x19 x28 false)
def M_L_strongBegun_j1 (F : Nat) (x13 : (List Int × Int)) (x19 : (List (List Int) × List Int × Int)) (x28 : (List Int × Int)) (x39 : Bool) : Option Bool :=
  (if (x39 && ((x13.2 : Int) == 0)) then ((M_R_SameLists F x19.1 ([([1] : List Int), ([] : List Int), ([] : List Int)] : List (List Int))).bind fun x62 => M_L_strongBegun_j2 F x19 x28 x62) else M_L_strongBegun_j2 F x19 x28 false)
def M_L_strongBegun (F : Nat)  : Option Bool :=
  ((M_L_someGraph F).bind fun x1 => ((M_strong_Parts F x1).bind fun x4 => ((M_strong_Order F ([([] : List Int), ([0] : List Int), ([0, 1] : List Int)] : List (List Int))).bind fun x13 => ((M_L_someGraph F).bind fun x16 => ((M_strong_Shrink F x16).bind fun x19 => ((M_L_someGraph F).bind fun x25 => ((M_strong_Order F x25).bind fun x28 => ((M_R_SameInts F x4.1 ([0, 0, 0, 3, 4, 0] : List Int)).bind fun x33 => (if (x33 && ((x4.2 : Int) == 0)) then ((M_R_SameInts F x13.1 ([2, 1, 0] : List Int)).bind fun x65 => M_L_strongBegun_j1 F x13 x19 x28 x65) else M_L_strongBegun_j1 F x13 x19 x28 false)))))))))
/-! lampwright graph.turned -/
def M_graph_turned_r2 (_F : Nat) (x47 : List (Int × Int)) (x56 : Int) (x57 : Int) : Option (List (Int × Int) ⊕ Empty) :=
  ((app 4398046511104 x47 ([(x57, x56)] : List (Int × Int))).bind fun x61 => some (.inl x61))
def M_graph_turned (F : Nat) (x1 : List (List Int)) : Option (List (Int × Int)) :=
  ((M_graph_All F x1).bind fun _x35 => ((M_graph_All_1 F (fun (x47 : List (Int × Int)) ((x56, x57) : (Int × Int)) => M_graph_turned_r2 F x47 x56 x57) x1 ([] : List (Int × Int))).bind (Sum.elim (fun (x47 : List (Int × Int)) => some x47) (fun t => t.elim))))
/-! lampwright graph.Turn -/
def M_graph_Turn (F : Nat) (x1 : List (List Int)) : Option (List (List Int) × Int) :=
  ((M_graph_Check F x1).bind fun x8 => (if ((x8 : Int) != 0) then some (([] : List (List Int)), x8) else ((M_graph_turned F x1).bind fun x20 => ((M_slices_Values_api_Arc_api_Arc F x20).bind fun _x23 => ((M_slices_SortedFunc_api_Arc_slices_Values_api_Arc_api_Arc_1_graph_order F x20).bind fun x25 => ((M_graph_Built F (x1.length : Int) x25).bind fun x28 => some (x28, 0)))))))
/-! slices.AppendSeq[[]lampwright api.Arc,lampwright api.Arc] -/
def M_slices_AppendSeq_api_Arc_api_Arc_graph_All_1_r2 (_F : Nat) (x46 : List (Int × Int)) (x55 : Int) (x56 : Int) : Option (List (Int × Int) ⊕ Empty) :=
  ((app 4398046511104 x46 ([(x55, x56)] : List (Int × Int))).bind fun x60 => some (.inl x60))
def M_slices_AppendSeq_api_Arc_api_Arc_graph_All_1 (F : Nat) (x1 : List (Int × Int)) (x5 : List (List Int)) : Option (List (Int × Int)) :=
  ((M_graph_All_1 F (fun (x46 : List (Int × Int)) ((x55, x56) : (Int × Int)) => M_slices_AppendSeq_api_Arc_api_Arc_graph_All_1_r2 F x46 x55 x56) x5 x1).bind (Sum.elim (fun (x46 : List (Int × Int)) => some x46) (fun t => t.elim)))
/-! slices.Collect[lampwright api.Arc] -/
def M_slices_Collect_api_Arc_graph_All_1 (F : Nat) (x2 : List (List Int)) : Option (List (Int × Int)) :=
  ((M_slices_AppendSeq_api_Arc_api_Arc_graph_All_1 F ([] : List (Int × Int)) x2).bind fun x5 => some x5)
/-! lampwright graph.Arcs -/
def M_graph_Arcs (F : Nat) (x1 : List (List Int)) : Option (List (Int × Int) × Int) :=
  ((M_graph_Check F x1).bind fun x7 => (if ((x7 : Int) != 0) then some (([] : List (Int × Int)), x7) else ((M_graph_All F x1).bind fun _x8 => ((M_slices_Collect_api_Arc_graph_All_1 F x1).bind fun x10 => some (x10, 0)))))
/-! slices.Compact[[]lampwright api.Arc,lampwright api.Arc] -/
def M_slices_Compact_api_Arc_api_Arc_j59 (_F : Nat) (x1 : List (Int × Int)) : Option (List (Int × Int)) :=
  some x1
def M_slices_Compact_api_Arc_api_Arc_j108 (_F : Nat) (rec98 : Int → Option (List (Int × Int))) (x1975 : Int) : Option (List (Int × Int)) :=
  rec98 (iadd .i64 x1975 1)
def M_slices_Compact_api_Arc_api_Arc_j113 (_F : Nat) (x2842 : List (Int × Int)) (x2843 : Int) : Option (List (Int × Int)) :=
  (chk (decide (0 ≤ x2843 ∧ x2843 < (x2842.length : Int))) ((lett (x2842.take x2843.toNat ++ List.replicate (x2842.length - x2843.toNat) ((0 : Int), (0 : Int))) fun x2847 => ((sub x2847 0 x2843).bind fun x2850 => some x2850))))
def M_slices_Compact_api_Arc_api_Arc_j117 (_F : Nat) (rec116 : (List (Int × Int) × Int × Int) → Option (List (Int × Int))) (x2881 : Int) (x2939 : List (Int × Int)) (x2940 : Int) : Option (List (Int × Int)) :=
  rec116 (x2939, x2940, iadd .i64 x2881 1)
def M_slices_Compact_api_Arc_api_Arc_b116 (F : Nat) (x1 : List (Int × Int)) (x1975 : Int) (rec116 : (List (Int × Int) × Int × Int) → Option (List (Int × Int))) (x2879 : List (Int × Int)) (x2880 : Int) (x2881 : Int) : Option (List (Int × Int)) :=
  (if (decide (x2881 < ((x1.length - x1975.toNat : Nat) : Int))) then (chk (decide (x2879.length = x1.length)) (((idx (x2879.drop x1975.toNat) x2881).bind fun x2946 => (chk (decide (x2879.length = x1.length)) (((idx (x2879.drop x1975.toNat) (isub .i64 x2881 1)).bind fun x2948 => (if (!(((x2946.1 : Int) == x2948.1) && ((x2946.2 : Int) == x2948.2))) then (chk (decide (x2879.length = x1.length)) (((idx (x2879.drop x1975.toNat) x2881).bind fun x2950 => ((idx x2879 x2880).bind fun _x2951 => (lett (x2879.set x2880.toNat (x2950.1, x2950.2)) fun x2954 => M_slices_Compact_api_Arc_api_Arc_j117 F rec116 x2881 x2954 (iadd .i64 x2880 1)))))) else M_slices_Compact_api_Arc_api_Arc_j117 F rec116 x2881 x2879 x2880))))))) else M_slices_Compact_api_Arc_api_Arc_j113 F x2879 x2880)
def M_slices_Compact_api_Arc_api_Arc_l116 (F : Nat) (x1 : List (Int × Int)) (x1975 : Int) : Nat → (List (Int × Int) × Int × Int) → Option (List (Int × Int))
  | 0 => fun _ => none
  | k + 1 => fun s => M_slices_Compact_api_Arc_api_Arc_b116 F x1 x1975 (M_slices_Compact_api_Arc_api_Arc_l116 F x1 x1975 k) s.1 s.2.1 s.2.2
def M_slices_Compact_api_Arc_api_Arc_b98 (F : Nat) (x1 : List (Int × Int)) (rec98 : Int → Option (List (Int × Int))) (x1975 : Int) : Option (List (Int × Int)) :=
  (if (decide (x1975 < (x1.length : Int))) then ((idx x1 x1975).bind fun x2723 => ((idx x1 (isub .i64 x1975 1)).bind fun x2727 => (if (((x2723.1 : Int) == x2727.1) && ((x2723.2 : Int) == x2727.2)) then (chk (decide (0 ≤ x1975 ∧ x1975 < (x1.length : Int))) (M_slices_Compact_api_Arc_api_Arc_l116 F x1 x1975 F (x1, x1975, 1))) else M_slices_Compact_api_Arc_api_Arc_j108 F rec98 x1975))) else M_slices_Compact_api_Arc_api_Arc_j59 F x1)
def M_slices_Compact_api_Arc_api_Arc_l98 (F : Nat) (x1 : List (Int × Int)) : Nat → Int → Option (List (Int × Int))
  | 0 => fun _ => none
  | k + 1 => fun s => M_slices_Compact_api_Arc_api_Arc_b98 F x1 (M_slices_Compact_api_Arc_api_Arc_l98 F x1 k) s
def M_slices_Compact_api_Arc_api_Arc (F : Nat) (x1 : List (Int × Int)) : Option (List (Int × Int)) :=
  (if (decide ((x1.length : Int) < 2)) then some x1 else M_slices_Compact_api_Arc_api_Arc_l98 F x1 F 1)
/-! lampwright graph.Both -/
def M_graph_Both (F : Nat) (x1 : List (List Int)) : Option (List (List Int) × Int) :=
  ((M_graph_Check F x1).bind fun x8 => (if ((x8 : Int) != 0) then some (([] : List (List Int)), x8) else ((M_graph_All F x1).bind fun _x20 => ((M_slices_Collect_api_Arc_graph_All_1 F x1).bind fun x22 => ((M_graph_turned F x1).bind fun x25 => ((app 4398046511104 x22 x25).bind fun x28 => ((M_slices_SortFunc_api_Arc_api_Arc_graph_order F x28).bind fun x31 => (chk (decide (x31.length = x28.length)) (((M_slices_Compact_api_Arc_api_Arc F x31).bind fun x33 => (if (decide (600 < (x33.length : Int))) then some (([] : List (List Int)), 2) else ((M_graph_Built F (x1.length : Int) x33).bind fun x37 => some (x37, 0)))))))))))))
/-! lampwright lampwrightref.SameArcs -/
def M_R_SameArcs_j2 (_F : Nat) : Option Bool :=
  some true
def M_R_SameArcs_b3 (F : Nat) (x1 : List (Int × Int)) (x4 : List (Int × Int)) (rec3 : Int → Option Bool) (x154 : Int) : Option Bool :=
  (if (decide (x154 < (x1.length : Int))) then ((idx x1 x154).bind fun x218 => ((idx x4 x154).bind fun x222 => (if (!(((x218.1 : Int) == x222.1) && ((x218.2 : Int) == x222.2))) then some false else rec3 (iadd .i64 x154 1)))) else M_R_SameArcs_j2 F)
def M_R_SameArcs_l3 (F : Nat) (x1 : List (Int × Int)) (x4 : List (Int × Int)) : Nat → Int → Option Bool
  | 0 => fun _ => none
  | k + 1 => fun s => M_R_SameArcs_b3 F x1 x4 (M_R_SameArcs_l3 F x1 x4 k) s
def M_R_SameArcs (F : Nat) (x1 : List (Int × Int)) (x4 : List (Int × Int)) : Option Bool :=
  (if (((x1.length : Int) : Int) != (x4.length : Int)) then some false else M_R_SameArcs_l3 F x1 x4 F 0)
/-! lampwright lampwrightlaw.graphBegun -/
def M_L_graphBegun_j6 (_F : Nat) (x83 : Bool) : Option Bool :=
  some x83
def M_L_graphBegun_j5 (F : Nat) (x18 : (List Int × List Int × Int)) (x25 : (List (List Int) × Int)) (x74 : Bool) : Option Bool :=
  (if ((x74 && ((x18.2.2 : Int) == 0)) && ((x25.2 : Int) == 6)) then ((M_graph_Check F ([([1] : List Int)] : List (List Int))).bind fun x88 => M_L_graphBegun_j6 F ((x88 : Int) == 3)) else M_L_graphBegun_j6 F false)
def M_L_graphBegun_j4 (F : Nat) (x18 : (List Int × List Int × Int)) (x25 : (List (List Int) × Int)) (x69 : Bool) : Option Bool :=
  (if x69 then ((M_R_SameInts F x18.2.1 ([2, 1, 0] : List Int)).bind fun x91 => M_L_graphBegun_j5 F x18 x25 x91) else M_L_graphBegun_j5 F x18 x25 false)
def M_L_graphBegun_j3 (F : Nat) (x14 : (List (List Int) × Int)) (x18 : (List Int × List Int × Int)) (x25 : (List (List Int) × Int)) (x63 : Bool) : Option Bool :=
  (if (x63 && ((x14.2 : Int) == 0)) then ((M_R_SameInts F x18.1 ([2, 0, 1] : List Int)).bind fun x94 => M_L_graphBegun_j4 F x18 x25 x94) else M_L_graphBegun_j4 F x18 x25 false)
def M_L_graphBegun_j2 (F : Nat) (x10 : (List (List Int) × Int)) (x14 : (List (List Int) × Int)) (x18 : (List Int × List Int × Int)) (x25 : (List (List Int) × Int)) (x51 : Bool) : Option Bool :=
  (if (x51 && ((x10.2 : Int) == 0)) then ((M_R_SameLists F x14.1 ([([0, 1, 2] : List Int), ([0] : List Int), ([0] : List Int)] : List (List Int))).bind fun x103 => M_L_graphBegun_j3 F x14 x18 x25 x103) else M_L_graphBegun_j3 F x14 x18 x25 false)
def M_L_graphBegun_j1 (F : Nat) (x7 : (List (Int × Int) × Int)) (x10 : (List (List Int) × Int)) (x14 : (List (List Int) × Int)) (x18 : (List Int × List Int × Int)) (x25 : (List (List Int) × Int)) (x41 : Bool) : Option Bool :=
  (if (x41 && ((x7.2 : Int) == 0)) then ((M_R_SameLists F x10.1 ([([0, 2] : List Int), ([0] : List Int), ([] : List Int)] : List (List Int))).bind fun x110 => M_L_graphBegun_j2 F x10 x14 x18 x25 x110) else M_L_graphBegun_j2 F x10 x14 x18 x25 false)
def M_L_graphBegun (F : Nat)  : Option Bool :=
  ((M_graph_Of F 3 ([(2, 0), (0, 1), (0, 0)] : List (Int × Int))).bind fun x3 => ((M_graph_Arcs F x3.1).bind fun x7 => ((M_graph_Turn F x3.1).bind fun x10 => ((M_graph_Both F x3.1).bind fun x14 => ((M_graph_Degrees F x3.1).bind fun x18 => ((M_graph_Of F 1 ([(0, 0), (0, 0)] : List (Int × Int))).bind fun x25 => ((M_R_SameLists F x3.1 ([([0, 1] : List Int), ([] : List Int), ([0] : List Int)] : List (List Int))).bind fun x35 => (if (x35 && ((x3.2 : Int) == 0)) then ((M_R_SameArcs F x7.1 ([(0, 0), (0, 1), (2, 0)] : List (Int × Int))).bind fun x113 => M_L_graphBegun_j1 F x7 x10 x14 x18 x25 x113) else M_L_graphBegun_j1 F x7 x10 x14 x18 x25 false))))))))
/-! lampwright walk.check$1 -/
def M_walk_check_1 (_F : Nat) (x1 : Int) (x3 : List (List Int)) : Option Bool :=
  some ((decide (x1 < 0)) || (decide ((x3.length : Int) ≤ x1)))
/-! slices.IndexFunc[[]int,int] -/
def M_slices_IndexFunc_int_int_walk_check_1_j2 (_F : Nat) : Option Int :=
  some (-1)
def M_slices_IndexFunc_int_int_walk_check_1_b3 (F : Nat) (x1 : List Int) (x5 : List (List Int)) (rec3 : Int → Option Int) (x58 : Int) : Option Int :=
  (if (decide (x58 < (x1.length : Int))) then ((idx x1 x58).bind fun x78 => ((M_walk_check_1 F x78 x5).bind fun x81 => (if x81 then some x58 else rec3 (iadd .i64 x58 1)))) else M_slices_IndexFunc_int_int_walk_check_1_j2 F)
def M_slices_IndexFunc_int_int_walk_check_1_l3 (F : Nat) (x1 : List Int) (x5 : List (List Int)) : Nat → Int → Option Int
  | 0 => fun _ => none
  | k + 1 => fun s => M_slices_IndexFunc_int_int_walk_check_1_b3 F x1 x5 (M_slices_IndexFunc_int_int_walk_check_1_l3 F x1 x5 k) s
def M_slices_IndexFunc_int_int_walk_check_1 (F : Nat) (x1 : List Int) (x5 : List (List Int)) : Option Int :=
  M_slices_IndexFunc_int_int_walk_check_1_l3 F x1 x5 F 0
/-! slices.ContainsFunc[[]int,int] -/
def M_slices_ContainsFunc_int_int_walk_check_1 (F : Nat) (x1 : List Int) (x5 : List (List Int)) : Option Bool :=
  ((M_slices_IndexFunc_int_int_walk_check_1 F x1 x5).bind fun x8 => some (decide (0 ≤ x8)))
/-! lampwright walk.check -/
def M_walk_check (F : Nat) (x1 : List (List Int)) (x4 : List Int) : Option Int :=
  ((M_graph_Check F x1).bind fun x10 => (if ((x10 : Int) != 0) then some x10 else ((M_slices_ContainsFunc_int_int_walk_check_1 F x4 x1).bind fun x13 => (if x13 then some 3 else some 0))))
/-! lampwright walk.far -/
def M_walk_far_j29 (_F : Nat) (x1033 : List Int) : Option (List Int) :=
  some x1033
def M_walk_far_j53 (_F : Nat) (rec48 : (List Int × List Int) → Option (List Int)) (x1875 : List Int) (x1879 : List Int) : Option (List Int) :=
  ((sub x1879 1 (x1879.length : Int)).bind fun x1880 => rec48 (x1875, x1880))
def M_walk_far_j57 (_F : Nat) (rec56 : (List Int × List Int × Int) → Option (List Int)) (x1945 : Int) (x2021 : List Int) (x2025 : List Int) : Option (List Int) :=
  rec56 (x2021, x2025, iadd .i64 x1945 1)
def M_walk_far_b56 (F : Nat) (rec48 : (List Int × List Int) → Option (List Int)) (x1882 : Int) (x1885 : List Int) (rec56 : (List Int × List Int × Int) → Option (List Int)) (x1940 : List Int) (x1944 : List Int) (x1945 : Int) : Option (List Int) :=
  (if (decide (x1945 < (x1885.length : Int))) then ((idx x1885 x1945).bind fun x2026 => ((idx x1940 x2026).bind fun x2029 => (if (decide (x2029 < 0)) then ((idx x1940 x1882).bind fun x2032 => ((idx x1940 x2026).bind fun _x2035 => (lett (x1940.set x2026.toNat (iadd .i64 x2032 1)) fun x2038 => ((app 8796093022208 x1944 ([x2026] : List Int)).bind fun x2043 => M_walk_far_j57 F rec56 x1945 x2038 x2043)))) else M_walk_far_j57 F rec56 x1945 x1940 x1944))) else M_walk_far_j53 F rec48 x1940 x1944)
def M_walk_far_l56 (F : Nat) (rec48 : (List Int × List Int) → Option (List Int)) (x1882 : Int) (x1885 : List Int) : Nat → (List Int × List Int × Int) → Option (List Int)
  | 0 => fun _ => none
  | k + 1 => fun s => M_walk_far_b56 F rec48 x1882 x1885 (M_walk_far_l56 F rec48 x1882 x1885 k) s.1 s.2.1 s.2.2
def M_walk_far_b48 (F : Nat) (x1 : List (List Int)) (rec48 : (List Int × List Int) → Option (List Int)) (x1358 : List Int) (x1362 : List Int) : Option (List Int) :=
  (if (decide (0 < (x1362.length : Int))) then ((idx x1362 0).bind fun x1882 => ((idx x1 x1882).bind fun x1885 => M_walk_far_l56 F rec48 x1882 x1885 F (x1358, x1362, 0))) else M_walk_far_j29 F x1358)
def M_walk_far_l48 (F : Nat) (x1 : List (List Int)) : Nat → (List Int × List Int) → Option (List Int)
  | 0 => fun _ => none
  | k + 1 => fun s => M_walk_far_b48 F x1 (M_walk_far_l48 F x1 k) s.1 s.2
def M_walk_far (F : Nat) (x1 : List (List Int)) (x4 : Int) : Option (List Int) :=
  ((M_slices_Repeat_int_int F ([-1] : List Int) (x1.length : Int)).bind fun x8 => ((idx x8 x4).bind fun _x11 => (lett (x8.set x4.toNat 0) fun x14 => M_walk_far_l48 F x1 F (x14, ([x4] : List Int)))))
/-! lampwright walk.Far -/
def M_walk_Far (F : Nat) (x1 : List (List Int)) (x4 : Int) : Option (List Int × Int) :=
  ((M_walk_check F x1 ([x4] : List Int)).bind fun x12 => (if ((x12 : Int) != 0) then some (([] : List Int), x12) else ((M_walk_far F x1 x4).bind fun x13 => some (x13, 0))))
/-! lampwright walk.Way$1 -/
def M_walk_Way_1 (_F : Nat) (x1 : Int) (x3 : List Int) (x7 : Int) : Option Bool :=
  ((idx x3 x1).bind fun x16 => ((idx x3 x7).bind fun x20 => some ((x16 : Int) == (isub .i64 x20 1))))
/-! slices.IndexFunc[[]int,int] -/
def M_slices_IndexFunc_int_int_walk_Way_1_j2 (_F : Nat) : Option Int :=
  some (-1)
def M_slices_IndexFunc_int_int_walk_Way_1_b3 (F : Nat) (x1 : List Int) (x5 : List Int) (x9 : Int) (rec3 : Int → Option Int) (x60 : Int) : Option Int :=
  (if (decide (x60 < (x1.length : Int))) then ((idx x1 x60).bind fun x80 => ((M_walk_Way_1 F x80 x5 x9).bind fun x83 => (if x83 then some x60 else rec3 (iadd .i64 x60 1)))) else M_slices_IndexFunc_int_int_walk_Way_1_j2 F)
def M_slices_IndexFunc_int_int_walk_Way_1_l3 (F : Nat) (x1 : List Int) (x5 : List Int) (x9 : Int) : Nat → Int → Option Int
  | 0 => fun _ => none
  | k + 1 => fun s => M_slices_IndexFunc_int_int_walk_Way_1_b3 F x1 x5 x9 (M_slices_IndexFunc_int_int_walk_Way_1_l3 F x1 x5 x9 k) s
def M_slices_IndexFunc_int_int_walk_Way_1 (F : Nat) (x1 : List Int) (x5 : List Int) (x9 : Int) : Option Int :=
  M_slices_IndexFunc_int_int_walk_Way_1_l3 F x1 x5 x9 F 0
/-! lampwright walk.Way -/
def M_walk_Way_j2 (_F : Nat) (x139 : List Int) : Option (List Int × Int) :=
  some (x139, 0)
def M_walk_Way_b3 (F : Nat) (x1 : List (List Int)) (x5 : Int) (x18 : List Int) (rec3 : (List Int × Int) → Option (List Int × Int)) (x176 : List Int) (x178 : Int) : Option (List Int × Int) :=
  (if ((x178 : Int) != x5) then ((idx x1 x178).bind fun x226 => ((M_slices_IndexFunc_int_int_walk_Way_1 F x226 x18 x178).bind fun x230 => ((idx x1 x178).bind fun x231 => ((idx x231 x230).bind fun x235 => ((app 8796093022208 x176 ([x235] : List Int)).bind fun x242 => rec3 (x242, x235)))))) else M_walk_Way_j2 F x176)
def M_walk_Way_l3 (F : Nat) (x1 : List (List Int)) (x5 : Int) (x18 : List Int) : Nat → (List Int × Int) → Option (List Int × Int)
  | 0 => fun _ => none
  | k + 1 => fun s => M_walk_Way_b3 F x1 x5 x18 (M_walk_Way_l3 F x1 x5 x18 k) s.1 s.2
def M_walk_Way (F : Nat) (x1 : List (List Int)) (x4 : Int) (x5 : Int) : Option (List Int × Int) :=
  ((M_walk_check F x1 ([x4, x5] : List Int)).bind fun x13 => (if ((x13 : Int) != 0) then some (([] : List Int), x13) else ((M_graph_Turn F x1).bind fun x14 => ((M_walk_far F x14.1 x5).bind fun x18 => ((idx x18 x4).bind fun x26 => (if (decide (x26 < 0)) then some (([] : List Int), 5) else M_walk_Way_l3 F x1 x5 x18 F (([x4] : List Int), x4)))))))
/-! lampwright walk.Parts$1 -/
def M_walk_Parts_1_j2 (_F : Nat) (x41 : Int) : Option Int :=
  some x41
def M_walk_Parts_1_b3 (F : Nat) (x3 : List Int) (rec3 : Int → Option Int) (x53 : Int) : Option Int :=
  ((idx x3 x53).bind fun x70 => (if ((x70 : Int) != x53) then ((idx x3 x53).bind fun x73 => rec3 x73) else M_walk_Parts_1_j2 F x53))
def M_walk_Parts_1_l3 (F : Nat) (x3 : List Int) : Nat → Int → Option Int
  | 0 => fun _ => none
  | k + 1 => fun s => M_walk_Parts_1_b3 F x3 (M_walk_Parts_1_l3 F x3 k) s
def M_walk_Parts_1 (F : Nat) (x1 : Int) (x3 : List Int) : Option Int :=
  M_walk_Parts_1_l3 F x3 F x1
/-! lampwright walk.Parts -/
def M_walk_Parts_r4 (F : Nat) (x116 : List Int) (x130 : Int) (x131 : Int) : Option (List Int ⊕ Empty) :=
  ((M_walk_Parts_1 F x130 x116).bind fun x135 => ((M_walk_Parts_1 F x131 x116).bind fun x136 => ((idx x116 (imax x135 x136)).bind fun _x137 => (lett (x116.set (imax x135 x136).toNat (imin x135 x136)) fun x140 => some (.inl x140)))))
def M_walk_Parts_j6 (_F : Nat) (x200 : List Int) : Option (List Int × Int) :=
  some (x200, 0)
def M_walk_Parts_b7 (F : Nat) (x116 : List Int) (rec7 : (Int × List Int) → Option (List Int × Int)) (x219 : Int) (x220 : List Int) : Option (List Int × Int) :=
  (if (decide (x219 < (x116.length : Int))) then ((idx x220 x219).bind fun _x249 => ((M_walk_Parts_1 F x219 x220).bind fun x253 => (lett (x220.set x219.toNat x253) fun x254 => rec7 (iadd .i64 x219 1, x254)))) else M_walk_Parts_j6 F x220)
def M_walk_Parts_l7 (F : Nat) (x116 : List Int) : Nat → (Int × List Int) → Option (List Int × Int)
  | 0 => fun _ => none
  | k + 1 => fun s => M_walk_Parts_b7 F x116 (M_walk_Parts_l7 F x116 k) s.1 s.2
def M_walk_Parts_j2 (F : Nat) (x1 : List (List Int)) (x57 : List Int) : Option (List Int × Int) :=
  ((M_graph_All F x1).bind fun _x101 => ((M_graph_All_1 F (fun (x116 : List Int) ((x130, x131) : (Int × Int)) => M_walk_Parts_r4 F x116 x130 x131) x1 x57).bind (Sum.elim (fun (x116 : List Int) => M_walk_Parts_l7 F x116 F (0, x116)) (fun t => t.elim))))
def M_walk_Parts_b8 (F : Nat) (x1 : List (List Int)) (x8 : List Int) (rec8 : (Int × List Int) → Option (List Int × Int)) (x272 : Int) (x273 : List Int) : Option (List Int × Int) :=
  (if (decide (x272 < (x8.length : Int))) then ((idx x273 x272).bind fun _x296 => (lett (x273.set x272.toNat x272) fun x299 => rec8 (iadd .i64 x272 1, x299))) else M_walk_Parts_j2 F x1 x273)
def M_walk_Parts_l8 (F : Nat) (x1 : List (List Int)) (x8 : List Int) : Nat → (Int × List Int) → Option (List Int × Int)
  | 0 => fun _ => none
  | k + 1 => fun s => M_walk_Parts_b8 F x1 x8 (M_walk_Parts_l8 F x1 x8 k) s.1 s.2
def M_walk_Parts (F : Nat) (x1 : List (List Int)) : Option (List Int × Int) :=
  ((M_walk_check F x1 ([] : List Int)).bind fun x7 => (if ((x7 : Int) != 0) then some (([] : List Int), x7) else ((mk 17592186044416 (0 : Int) (x1.length : Int)).bind fun x8 => M_walk_Parts_l8 F x1 x8 F (0, x8))))
/-! slices.Max[[]int,int] -/
def M_slices_Max_int_int_j2 (_F : Nat) (x35 : Int) : Option Int :=
  some x35
def M_slices_Max_int_int_b3 (F : Nat) (x1 : List Int) (rec3 : (Int × Int) → Option Int) (x44 : Int) (x45 : Int) : Option Int :=
  (if (decide (x45 < (x1.length : Int))) then ((idx x1 x45).bind fun x59 => rec3 (imax x44 x59, iadd .i64 x45 1)) else M_slices_Max_int_int_j2 F x44)
def M_slices_Max_int_int_l3 (F : Nat) (x1 : List Int) : Nat → (Int × Int) → Option Int
  | 0 => fun _ => none
  | k + 1 => fun s => M_slices_Max_int_int_b3 F x1 (M_slices_Max_int_int_l3 F x1 k) s.1 s.2
def M_slices_Max_int_int (F : Nat) (x1 : List Int) : Option Int :=
  (if (decide ((x1.length : Int) < 1)) then none else ((idx x1 0).bind fun x5 => M_slices_Max_int_int_l3 F x1 F (x5, 1)))
/-! lampwright walk.Most -/
def M_walk_Most_j2 (_F : Nat) (x41 : Int) : Option (Int × Int) :=
  some (x41, 0)
def M_walk_Most_b3 (F : Nat) (x1 : List (List Int)) (rec3 : (Int × Int) → Option (Int × Int)) (x52 : Int) (x53 : Int) : Option (Int × Int) :=
  (if (decide (x53 < (x1.length : Int))) then ((M_walk_far F x1 x53).bind fun x70 => ((M_slices_Max_int_int F x70).bind fun x73 => rec3 (imax x52 x73, iadd .i64 x53 1))) else M_walk_Most_j2 F x52)
def M_walk_Most_l3 (F : Nat) (x1 : List (List Int)) : Nat → (Int × Int) → Option (Int × Int)
  | 0 => fun _ => none
  | k + 1 => fun s => M_walk_Most_b3 F x1 (M_walk_Most_l3 F x1 k) s.1 s.2
def M_walk_Most (F : Nat) (x1 : List (List Int)) : Option (Int × Int) :=
  ((M_walk_check F x1 ([] : List Int)).bind fun x7 => (if ((x7 : Int) != 0) then some (0, x7) else M_walk_Most_l3 F x1 F (0, 0)))
/-! lampwright lampwrightlaw.walkBegun -/
def M_L_walkBegun_j2 (_F : Nat) (x16 : (List Int × Int)) (x22 : (Int × Int)) (x26 : (List Int × Int)) (x43 : Bool) : Option Bool :=
  some ((((x43 && ((x16.2 : Int) == 0)) && ((x22.1 : Int) == 2)) && ((x22.2 : Int) == 0)) && ((x26.2 : Int) == 5))
def M_L_walkBegun_j1 (F : Nat) (x10 : (List Int × Int)) (x16 : (List Int × Int)) (x22 : (Int × Int)) (x26 : (List Int × Int)) (x37 : Bool) : Option Bool :=
  (if (x37 && ((x10.2 : Int) == 0)) then ((M_R_SameInts F x16.1 ([0, 0, 0, 0, 4, 0] : List Int)).bind fun x50 => M_L_walkBegun_j2 F x16 x22 x26 x50) else M_L_walkBegun_j2 F x16 x22 x26 false)
def M_L_walkBegun (F : Nat)  : Option Bool :=
  ((M_L_someGraph F).bind fun x1 => ((M_walk_Far F x1 4).bind fun x4 => ((M_L_someGraph F).bind fun x7 => ((M_walk_Way F x7 2 3).bind fun x10 => ((M_L_someGraph F).bind fun x13 => ((M_walk_Parts F x13).bind fun x16 => ((M_L_someGraph F).bind fun x19 => ((M_walk_Most F x19).bind fun x22 => ((M_L_someGraph F).bind fun x23 => ((M_walk_Way F x23 3 0).bind fun x26 => ((M_R_SameInts F x4.1 ([-1, -1, -1, -1, 0, -1] : List Int)).bind fun x31 => (if (x31 && ((x4.2 : Int) == 0)) then ((M_R_SameInts F x10.1 ([2, 3] : List Int)).bind fun x53 => M_L_walkBegun_j1 F x10 x16 x22 x26 x53) else M_L_walkBegun_j1 F x10 x16 x22 x26 false))))))))))))
/-! lampwright lampwrightlaw.StrongMore -/
def M_L_StrongMore_j9 (_F : Nat) : Option Bool :=
  some true
def M_L_StrongMore_b10 (F : Nat) (x4 : Int) (x41 : (List Int × Int)) (x225 : (List Int × Int)) (rec10 : Int → Option Bool) (x615 : Int) : Option Bool :=
  (if ((decide (x615 < (x41.1.length : Int))) && ((x41.2 : Int) == 0)) then ((idx x41.1 x615).bind fun x711 => ((idx x225.1 x711).bind fun x715 => ((idx x225.1 x4).bind fun x719 => (if ((x715 : Int) != x719) then some false else rec10 (iadd .i64 x615 1))))) else M_L_StrongMore_j9 F)
def M_L_StrongMore_l10 (F : Nat) (x4 : Int) (x41 : (List Int × Int)) (x225 : (List Int × Int)) : Nat → Int → Option Bool
  | 0 => fun _ => none
  | k + 1 => fun s => M_L_StrongMore_b10 F x4 x41 x225 (M_L_StrongMore_l10 F x4 x41 x225 k) s
def M_L_StrongMore_j7 (F : Nat) (x4 : Int) (x41 : (List Int × Int)) (x225 : (List Int × Int)) : Option Bool :=
  M_L_StrongMore_l10 F x4 x41 x225 F 0
def M_L_StrongMore_b11 (F : Nat) (x4 : Int) (x7 : (List Int × Int)) (x41 : (List Int × Int)) (x225 : (List Int × Int)) (rec11 : Int → Option Bool) (x777 : Int) : Option Bool :=
  (if (decide (x777 < (x7.1.length : Int))) then ((idx x225.1 x777).bind fun x869 => ((idx x7.1 x777).bind fun x873 => ((idx x225.1 x873).bind fun x877 => (if ((x869 : Int) != x877) then some false else rec11 (iadd .i64 x777 1))))) else M_L_StrongMore_j7 F x4 x41 x225)
def M_L_StrongMore_l11 (F : Nat) (x4 : Int) (x7 : (List Int × Int)) (x41 : (List Int × Int)) (x225 : (List Int × Int)) : Nat → Int → Option Bool
  | 0 => fun _ => none
  | k + 1 => fun s => M_L_StrongMore_b11 F x4 x7 x41 x225 (M_L_StrongMore_l11 F x4 x7 x41 x225 k) s
def M_L_StrongMore_j5 (F : Nat) (x4 : Int) (x7 : (List Int × Int)) (x10 : (List (List Int) × List Int × Int)) (x41 : (List Int × Int)) (x220 : Int) (x223 : List (List Int)) : Option Bool :=
  (if ((x220 : Int) != 0) then some true else ((M_strong_Parts F x223).bind fun x225 => ((M_strong_Shrink F x223).bind fun x228 => (if ((((x225.2 : Int) != 0) || ((x228.2.2 : Int) != 0)) || (decide ((x10.1.length : Int) < (x228.1.length : Int)))) then some false else M_L_StrongMore_l11 F x4 x7 x41 x225 F 0))))
def M_L_StrongMore_j4 (F : Nat) (x1 : List (List Int)) (x4 : Int) (x5 : Int) (x7 : (List Int × Int)) (x10 : (List (List Int) × List Int × Int)) (x16 : (List (Int × Int) × Int)) (x35 : Bool) : Option Bool :=
  (if x35 then some false else (if ((((x7.2 : Int) != 0) || ((x10.2.2 : Int) != 0)) || ((x16.2 : Int) != 0)) then some true else ((M_walk_Way F x1 x4 x5).bind fun x41 => ((app 4398046511104 ([] : List (Int × Int)) x16.1).bind fun x887 => ((app 4398046511104 x887 ([(x5, x4)] : List (Int × Int))).bind fun x892 => ((M_graph_Of F (x1.length : Int) x892).bind fun x895 => M_L_StrongMore_j5 F x4 x7 x10 x41 x895.2 x895.1))))))
def M_L_StrongMore_j3 (F : Nat) (x1 : List (List Int)) (x4 : Int) (x5 : Int) (x7 : (List Int × Int)) (x10 : (List (List Int) × List Int × Int)) (x16 : (List (Int × Int) × Int)) (x32 : Bool) : Option Bool :=
  (if x32 then M_L_StrongMore_j4 F x1 x4 x5 x7 x10 x16 true else ((M_L_walkBegun F).bind fun x1062 => M_L_StrongMore_j4 F x1 x4 x5 x7 x10 x16 (!x1062)))
def M_L_StrongMore (F : Nat) (x1 : List (List Int)) (x4 : Int) (x5 : Int) : Option Bool :=
  ((M_strong_Parts F x1).bind fun x7 => ((M_strong_Shrink F x1).bind fun x10 => ((M_graph_Arcs F x1).bind fun x16 => ((M_L_strongBegun F).bind fun x29 => (if (!x29) then M_L_StrongMore_j3 F x1 x4 x5 x7 x10 x16 true else ((M_L_graphBegun F).bind fun x1063 => M_L_StrongMore_j3 F x1 x4 x5 x7 x10 x16 (!x1063)))))))
end Go.Proofs.Ytefoeebfidklgaa
