/- What each Go function of this seat computes, in plain terms. -/
import Derived.Test.YtilaklhajonenaaSy
namespace Go.Proofs.Ytilaklhajonenaa
open Go SX
/-! lampwright huff.often -/
def M_huff_often (_F : Nat) (x1 : Int) : Option Bool :=
  some ((decide (0 ≤ x1)) && (decide (x1 ≤ 1048576)))
/-! lampwright huff.check$1 -/
def M_huff_check_1 (F : Nat) (x1 : Int) : Option Bool :=
  ((M_huff_often F x1).bind fun x2 => some (!x2))
/-! slices.IndexFunc[[]int,int] -/
def M_slices_IndexFunc_int_int_huff_check_1_j2 (_F : Nat) : Option Int :=
  some (-1)
def M_slices_IndexFunc_int_int_huff_check_1_b3 (F : Nat) (x1 : List Int) (rec3 : Int → Option Int) (x54 : Int) : Option Int :=
  (if (decide (x54 < (x1.length : Int))) then ((idx x1 x54).bind fun x74 => ((M_huff_check_1 F x74).bind fun x77 => (if x77 then some x54 else rec3 (iadd .i64 x54 1)))) else M_slices_IndexFunc_int_int_huff_check_1_j2 F)
def M_slices_IndexFunc_int_int_huff_check_1_l3 (F : Nat) (x1 : List Int) : Nat → Int → Option Int
  | 0 => fun _ => none
  | k + 1 => fun s => M_slices_IndexFunc_int_int_huff_check_1_b3 F x1 (M_slices_IndexFunc_int_int_huff_check_1_l3 F x1 k) s
def M_slices_IndexFunc_int_int_huff_check_1 (F : Nat) (x1 : List Int) : Option Int :=
  M_slices_IndexFunc_int_int_huff_check_1_l3 F x1 F 0
/-! slices.ContainsFunc[[]int,int] -/
def M_slices_ContainsFunc_int_int_huff_check_1 (F : Nat) (x1 : List Int) : Option Bool :=
  ((M_slices_IndexFunc_int_int_huff_check_1 F x1).bind fun x4 => some (decide (0 ≤ x4)))
/-! lampwright huff.check -/
def M_huff_check (F : Nat) (x1 : List Int) : Option Int :=
  (if (decide (64 < (x1.length : Int))) then some 2 else ((M_slices_ContainsFunc_int_int_huff_check_1 F x1).bind fun x7 => (if x7 then some 3 else some 0)))
/-! cmp.Or[int] -/
def M_cmp_Or_int_j2 (_F : Nat) : Option Int :=
  some 0
def M_cmp_Or_int_b3 (F : Nat) (x1 : List Int) (rec3 : Int → Option Int) (x46 : Int) : Option Int :=
  (if (decide (x46 < (x1.length : Int))) then ((idx x1 x46).bind fun x63 => (if ((x63 : Int) != 0) then some x63 else rec3 (iadd .i64 x46 1))) else M_cmp_Or_int_j2 F)
def M_cmp_Or_int_l3 (F : Nat) (x1 : List Int) : Nat → Int → Option Int
  | 0 => fun _ => none
  | k + 1 => fun s => M_cmp_Or_int_b3 F x1 (M_cmp_Or_int_l3 F x1 k) s
def M_cmp_Or_int (F : Nat) (x1 : List Int) : Option Int :=
  M_cmp_Or_int_l3 F x1 F 0
/-! cmp.isNaN[int] -/
def M_cmp_isNaN_int (_F : Nat) (x1 : Int) : Option Bool :=
  some ((x1 : Int) != x1)
/-! cmp.Compare[int] -/
def M_cmp_Compare_int (F : Nat) (x1 : Int) (x2 : Int) : Option Int :=
  ((M_cmp_isNaN_int F x1).bind fun x3 => ((M_cmp_isNaN_int F x2).bind fun x4 => (if x3 then (if x4 then some 0 else some (-1)) else (if x4 then some 1 else (if (decide (x1 < x2)) then some (-1) else (if (decide (x2 < x1)) then some 1 else some 0))))))
/-! lampwright huff.order -/
def M_huff_order (F : Nat) (x1 : List Int) (x4 : Int) (x5 : List Int) (x8 : Int) : Option Int :=
  ((idx x1 0).bind fun x24 => ((idx x5 0).bind fun x28 => ((M_cmp_Compare_int F x4 x8).bind fun x32 => ((M_cmp_Compare_int F x24 x28).bind fun x33 => ((M_cmp_Or_int F ([x32, x33] : List Int)).bind fun x36 => some x36)))))
/-! slices.BinarySearchFunc[lampwright huff.heap,lampwright huff.group,lampwright huff.group] -/
def M_slices_BinarySearchFunc_huff_heap_huff_group_huff_group_huff_order_j3 (_F : Nat) (x60 : Int) (x68 : Bool) : Option (Int × Bool) :=
  some (x60, x68)
def M_slices_BinarySearchFunc_huff_heap_huff_group_huff_group_huff_order_j2 (F : Nat) (x1 : List (List Int × Int)) (x4 : List Int) (x7 : Int) (x60 : Int) : Option (Int × Bool) :=
  (if (decide (x60 < (x1.length : Int))) then ((idx x1 x60).bind fun x70 => ((M_huff_order F x70.1 x70.2 x4 x7).bind fun x75 => M_slices_BinarySearchFunc_huff_heap_huff_group_huff_group_huff_order_j3 F x60 ((x75 : Int) == 0))) else M_slices_BinarySearchFunc_huff_heap_huff_group_huff_group_huff_order_j3 F x60 false)
def M_slices_BinarySearchFunc_huff_heap_huff_group_huff_group_huff_order_b4 (F : Nat) (x1 : List (List Int × Int)) (x4 : List Int) (x7 : Int) (rec4 : (Int × Int) → Option (Int × Bool)) (x92 : Int) (x93 : Int) : Option (Int × Bool) :=
  (if (decide (x92 < x93)) then (lett (iconv .i64 (ishr .u64 (iconv .u64 (iadd .i64 x92 x93)) 1)) fun x112 => ((idx x1 x112).bind fun x119 => ((M_huff_order F x119.1 x119.2 x4 x7).bind fun x124 => (if (decide (x124 < 0)) then rec4 (iadd .i64 x112 1, x93) else rec4 (x92, x112))))) else M_slices_BinarySearchFunc_huff_heap_huff_group_huff_group_huff_order_j2 F x1 x4 x7 x92)
def M_slices_BinarySearchFunc_huff_heap_huff_group_huff_group_huff_order_l4 (F : Nat) (x1 : List (List Int × Int)) (x4 : List Int) (x7 : Int) : Nat → (Int × Int) → Option (Int × Bool)
  | 0 => fun _ => none
  | k + 1 => fun s => M_slices_BinarySearchFunc_huff_heap_huff_group_huff_group_huff_order_b4 F x1 x4 x7 (M_slices_BinarySearchFunc_huff_heap_huff_group_huff_group_huff_order_l4 F x1 x4 x7 k) s.1 s.2
def M_slices_BinarySearchFunc_huff_heap_huff_group_huff_group_huff_order (F : Nat) (x1 : List (List Int × Int)) (x4 : List Int) (x7 : Int) : Option (Int × Bool) :=
  M_slices_BinarySearchFunc_huff_heap_huff_group_huff_group_huff_order_l4 F x1 x4 x7 F (0, (x1.length : Int))
/-! slices.Insert[lampwright huff.heap,lampwright huff.group] -/

/-! (*lampwright huff.heap).push -/
def M_push (F : Nat) (x1 : List (List Int × Int)) (x2 : List Int) (x3 : Int) : Option Int :=
  (M_slices_BinarySearchFunc_huff_heap_huff_group_huff_group_huff_order F x1 x2 x3).bind fun p => if 0 ≤ p.1 ∧ p.1 ≤ (x1.length : Int) ∧ x1.length < 100000 then some p.1 else none
/-! (*lampwright huff.heap).pop -/

/-! slices.Grow[[]int,int] -/
def M_slices_Grow_int_int_j1 (_F : Nat) (x15 : List Int) : Option (List Int) :=
  some x15
def M_slices_Grow_int_int (F : Nat) (x1 : List Int) (c3 : Nat) (x4 : Int) : Option (List Int) :=
  (if (decide (x4 < 0)) then none else (lett (isub .i64 x4 (isub .i64 (c3 : Int) (x1.length : Int))) fun x16 => (if (decide (0 < x16)) then ((sub x1 0 (c3 : Int)).bind fun x17 => ((appz 8796093022208 x17 (0 : Int) x16).bind fun x18 => ((sub x18 0 (x1.length : Int)).bind fun x21 => M_slices_Grow_int_int_j1 F x21))) else M_slices_Grow_int_int_j1 F x1)))
/-! slices.Concat[[]int,int] -/
def M_slices_Concat_int_int_j4 (_F : Nat) (x102 : List Int) : Option (List Int) :=
  some x102
def M_slices_Concat_int_int_b5 (F : Nat) (x1 : List (List Int)) (rec5 : (List Int × Int) → Option (List Int)) (x121 : List Int) (x122 : Int) : Option (List Int) :=
  (if (decide (x122 < (x1.length : Int))) then ((idx x1 x122).bind fun x148 => ((app 8796093022208 x121 x148).bind fun x152 => rec5 (x152, iadd .i64 x122 1))) else M_slices_Concat_int_int_j4 F x121)
def M_slices_Concat_int_int_l5 (F : Nat) (x1 : List (List Int)) : Nat → (List Int × Int) → Option (List Int)
  | 0 => fun _ => none
  | k + 1 => fun s => M_slices_Concat_int_int_b5 F x1 (M_slices_Concat_int_int_l5 F x1 k) s.1 s.2
def M_slices_Concat_int_int_j2 (F : Nat) (x1 : List (List Int)) (x43 : Int) : Option (List Int) :=
  ((M_slices_Grow_int_int F ([] : List Int) 0 x43).bind fun x44 => M_slices_Concat_int_int_l5 F x1 F (x44, 0))
def M_slices_Concat_int_int_b6 (F : Nat) (x1 : List (List Int)) (rec6 : (Int × Int) → Option (List Int)) (x168 : Int) (x169 : Int) : Option (List Int) :=
  (if (decide (x169 < (x1.length : Int))) then ((idx x1 x169).bind fun x189 => (if (decide ((iadd .i64 x168 (x189.length : Int)) < 0)) then none else rec6 (iadd .i64 x168 (x189.length : Int), iadd .i64 x169 1))) else M_slices_Concat_int_int_j2 F x1 x168)
def M_slices_Concat_int_int_l6 (F : Nat) (x1 : List (List Int)) : Nat → (Int × Int) → Option (List Int)
  | 0 => fun _ => none
  | k + 1 => fun s => M_slices_Concat_int_int_b6 F x1 (M_slices_Concat_int_int_l6 F x1 k) s.1 s.2
def M_slices_Concat_int_int (F : Nat) (x1 : List (List Int)) : Option (List Int) :=
  M_slices_Concat_int_int_l6 F x1 F (0, 0)
/-! slices.Sort[[]int,int] -/
def M_slices_Sort_int_int (_F : Nat) (x1 : List Int) : Option (List Int) :=
  if x1.length < 4611686018427387904 then some (srt x1) else none
/-! lampwright huff.Lengths$1 -/
def M_huff_Lengths_1 (_F : Nat) (x1 : Int) : Option Bool :=
  some (decide (24 < x1))
/-! slices.IndexFunc[[]int,int] -/
def M_slices_IndexFunc_int_int_huff_Lengths_1_j2 (_F : Nat) : Option Int :=
  some (-1)
def M_slices_IndexFunc_int_int_huff_Lengths_1_b3 (F : Nat) (x1 : List Int) (rec3 : Int → Option Int) (x54 : Int) : Option Int :=
  (if (decide (x54 < (x1.length : Int))) then ((idx x1 x54).bind fun x74 => ((M_huff_Lengths_1 F x74).bind fun x77 => (if x77 then some x54 else rec3 (iadd .i64 x54 1)))) else M_slices_IndexFunc_int_int_huff_Lengths_1_j2 F)
def M_slices_IndexFunc_int_int_huff_Lengths_1_l3 (F : Nat) (x1 : List Int) : Nat → Int → Option Int
  | 0 => fun _ => none
  | k + 1 => fun s => M_slices_IndexFunc_int_int_huff_Lengths_1_b3 F x1 (M_slices_IndexFunc_int_int_huff_Lengths_1_l3 F x1 k) s
def M_slices_IndexFunc_int_int_huff_Lengths_1 (F : Nat) (x1 : List Int) : Option Int :=
  M_slices_IndexFunc_int_int_huff_Lengths_1_l3 F x1 F 0
/-! slices.ContainsFunc[[]int,int] -/
def M_slices_ContainsFunc_int_int_huff_Lengths_1 (F : Nat) (x1 : List Int) : Option Bool :=
  ((M_slices_IndexFunc_int_int_huff_Lengths_1 F x1).bind fun x4 => some (decide (0 ≤ x4)))
/-! lampwright huff.Lengths -/
def M_huff_Lengths_j20 (F : Nat) (x760 : List Int) : Option (List Int × Int) :=
  ((M_slices_ContainsFunc_int_int_huff_Lengths_1 F x760).bind fun x763 => (if x763 then some (([] : List Int), 8) else some (x760, 0)))
def M_huff_Lengths_j32 (F : Nat) (rec29 : (List Int × List (List Int × Int)) → Option (List Int × Int)) (x1203 : ((List Int × Int) × List (List Int × Int))) (x1207 : ((List Int × Int) × List (List Int × Int))) (x1233 : List Int) (x1316 : List Int) : Option (List Int × Int) :=
  ((M_push F x1207.2 x1233 (iadd .i64 x1203.1.2 x1207.1.2)).bind fun x1317 => rec29 (x1316, (insK x1317 x1207.2 (x1233, iadd .i64 x1203.1.2 x1207.1.2))))
def M_huff_Lengths_b33 (F : Nat) (rec29 : (List Int × List (List Int × Int)) → Option (List Int × Int)) (x1203 : ((List Int × Int) × List (List Int × Int))) (x1207 : ((List Int × Int) × List (List Int × Int))) (x1233 : List Int) (rec33 : (List Int × Int) → Option (List Int × Int)) (x1345 : List Int) (x1346 : Int) : Option (List Int × Int) :=
  (if (decide (x1346 < (x1233.length : Int))) then ((idx x1233 x1346).bind fun x1387 => ((idx x1345 x1387).bind fun x1390 => ((idx x1345 x1387).bind fun _x1393 => (lett (x1345.set x1387.toNat (iadd .i64 x1390 1)) fun x1396 => rec33 (x1396, iadd .i64 x1346 1))))) else M_huff_Lengths_j32 F rec29 x1203 x1207 x1233 x1345)
def M_huff_Lengths_l33 (F : Nat) (rec29 : (List Int × List (List Int × Int)) → Option (List Int × Int)) (x1203 : ((List Int × Int) × List (List Int × Int))) (x1207 : ((List Int × Int) × List (List Int × Int))) (x1233 : List Int) : Nat → (List Int × Int) → Option (List Int × Int)
  | 0 => fun _ => none
  | k + 1 => fun s => M_huff_Lengths_b33 F rec29 x1203 x1207 x1233 (M_huff_Lengths_l33 F rec29 x1203 x1207 x1233 k) s.1 s.2
def M_huff_Lengths_j30 (F : Nat) (rec29 : (List Int × List (List Int × Int)) → Option (List Int × Int)) (x980 : List Int) (x1203 : ((List Int × Int) × List (List Int × Int))) (x1207 : ((List Int × Int) × List (List Int × Int))) (x1232 : List Int) : Option (List Int × Int) :=
  ((M_slices_Sort_int_int F x1232).bind fun x1233 => (chk (decide (x1233.length = x1232.length)) (M_huff_Lengths_l33 F rec29 x1203 x1207 x1233 F (x980, 0))))
def M_huff_Lengths_b29 (F : Nat) (rec29 : (List Int × List (List Int × Int)) → Option (List Int × Int)) (x980 : List Int) (x985 : List (List Int × Int)) : Option (List Int × Int) :=
  (if (decide (1 < (x985.length : Int))) then ((popM x985).bind fun x1203 => ((popM x1203.2).bind fun x1207 => ((M_slices_Concat_int_int F ([x1203.1.1, x1207.1.1] : List (List Int))).bind fun x1402 => M_huff_Lengths_j30 F rec29 x980 x1203 x1207 x1402))) else M_huff_Lengths_j20 F x980)
def M_huff_Lengths_l29 (F : Nat) : Nat → (List Int × List (List Int × Int)) → Option (List Int × Int)
  | 0 => fun _ => none
  | k + 1 => fun s => M_huff_Lengths_b29 F (M_huff_Lengths_l29 F k) s.1 s.2
def M_huff_Lengths_j6 (F : Nat) (x88 : List (List Int × Int)) (x107 : List Int) : Option (List Int × Int) :=
  M_huff_Lengths_l29 F F (x107, x88)
def M_huff_Lengths_j5 (F : Nat) (x1 : List Int) (x88 : List (List Int × Int)) : Option (List Int × Int) :=
  ((mk 17592186044416 (0 : Int) (x1.length : Int)).bind fun x89 => (if (((x88.length : Int) : Int) == 1) then ((idx x88 0).bind fun x1417 => ((idx x1417.1 0).bind fun x1422 => ((idx x89 x1422).bind fun _x1425 => (lett (x89.set x1422.toNat 1) fun x1428 => M_huff_Lengths_j6 F x88 x1428)))) else M_huff_Lengths_j6 F x88 x89))
def M_huff_Lengths_j37 (_F : Nat) (rec36 : (Int × List (List Int × Int)) → Option (List Int × Int)) (x1455 : Int) (x1498 : List (List Int × Int)) : Option (List Int × Int) :=
  rec36 (iadd .i64 x1455 1, x1498)
def M_huff_Lengths_b36 (F : Nat) (x1 : List Int) (rec36 : (Int × List (List Int × Int)) → Option (List Int × Int)) (x1455 : Int) (x1460 : List (List Int × Int)) : Option (List Int × Int) :=
  (if (decide (x1455 < (x1.length : Int))) then ((idx x1 x1455).bind fun x1499 => (if (decide (0 < x1499)) then ((M_push F x1460 ([x1455] : List Int) x1499).bind fun x1504 => M_huff_Lengths_j37 F rec36 x1455 (insK x1504 x1460 (([x1455] : List Int), x1499))) else M_huff_Lengths_j37 F rec36 x1455 x1460)) else M_huff_Lengths_j5 F x1 x1460)
def M_huff_Lengths_l36 (F : Nat) (x1 : List Int) : Nat → (Int × List (List Int × Int)) → Option (List Int × Int)
  | 0 => fun _ => none
  | k + 1 => fun s => M_huff_Lengths_b36 F x1 (M_huff_Lengths_l36 F x1 k) s.1 s.2
def M_huff_Lengths (F : Nat) (x1 : List Int) : Option (List Int × Int) :=
  ((M_huff_check F x1).bind fun x6 => (if ((x6 : Int) != 0) then some (([] : List Int), x6) else M_huff_Lengths_l36 F x1 F (0, ([] : List (List Int × Int)))))
/-! lampwright kraft.Check$1 -/
def M_kraft_Check_1 (_F : Nat) (x1 : Int) : Option Bool :=
  some ((decide (x1 < 0)) || (decide (24 < x1)))
/-! slices.IndexFunc[[]int,int] -/
def M_slices_IndexFunc_int_int_kraft_Check_1_j2 (_F : Nat) : Option Int :=
  some (-1)
def M_slices_IndexFunc_int_int_kraft_Check_1_b3 (F : Nat) (x1 : List Int) (rec3 : Int → Option Int) (x54 : Int) : Option Int :=
  (if (decide (x54 < (x1.length : Int))) then ((idx x1 x54).bind fun x74 => ((M_kraft_Check_1 F x74).bind fun x77 => (if x77 then some x54 else rec3 (iadd .i64 x54 1)))) else M_slices_IndexFunc_int_int_kraft_Check_1_j2 F)
def M_slices_IndexFunc_int_int_kraft_Check_1_l3 (F : Nat) (x1 : List Int) : Nat → Int → Option Int
  | 0 => fun _ => none
  | k + 1 => fun s => M_slices_IndexFunc_int_int_kraft_Check_1_b3 F x1 (M_slices_IndexFunc_int_int_kraft_Check_1_l3 F x1 k) s
def M_slices_IndexFunc_int_int_kraft_Check_1 (F : Nat) (x1 : List Int) : Option Int :=
  M_slices_IndexFunc_int_int_kraft_Check_1_l3 F x1 F 0
/-! slices.ContainsFunc[[]int,int] -/
def M_slices_ContainsFunc_int_int_kraft_Check_1 (F : Nat) (x1 : List Int) : Option Bool :=
  ((M_slices_IndexFunc_int_int_kraft_Check_1 F x1).bind fun x4 => some (decide (0 ≤ x4)))
/-! lampwright kraft.Check -/
def M_kraft_Check (F : Nat) (x1 : List Int) : Option Int :=
  (if (decide (64 < (x1.length : Int))) then some 2 else ((M_slices_ContainsFunc_int_int_kraft_Check_1 F x1).bind fun x7 => (if x7 then some 3 else some 0)))
/-! lampwright huff.Cost -/
def M_huff_Cost_j16 (_F : Nat) (x168 : Int) : Option (Int × Int) :=
  some (x168, 0)
def M_huff_Cost_j29 (_F : Nat) (rec25 : (Int × Int) → Option (Int × Int)) (x4 : List Int) (x219 : Int) (x220 : Int) (x297 : Int) (x313 : Bool) : Option (Int × Int) :=
  (if x313 then some (0, 4) else ((idx x4 x220).bind fun x314 => rec25 (iadd .i64 x219 (imul .i64 x297 x314), iadd .i64 x220 1)))
def M_huff_Cost_b25 (F : Nat) (x1 : List Int) (x4 : List Int) (rec25 : (Int × Int) → Option (Int × Int)) (x219 : Int) (x220 : Int) : Option (Int × Int) :=
  (if (decide (x220 < (x1.length : Int))) then ((idx x1 x220).bind fun x297 => (if (decide (0 < x297)) then ((idx x4 x220).bind fun x318 => M_huff_Cost_j29 F rec25 x4 x219 x220 x297 ((x318 : Int) == 0)) else M_huff_Cost_j29 F rec25 x4 x219 x220 x297 false)) else M_huff_Cost_j16 F x219)
def M_huff_Cost_l25 (F : Nat) (x1 : List Int) (x4 : List Int) : Nat → (Int × Int) → Option (Int × Int)
  | 0 => fun _ => none
  | k + 1 => fun s => M_huff_Cost_b25 F x1 x4 (M_huff_Cost_l25 F x1 x4 k) s.1 s.2
def M_huff_Cost_j2 (F : Nat) (x1 : List Int) (x4 : List Int) (x13 : Int) : Option (Int × Int) :=
  (if ((x13 : Int) != 0) then some (0, x13) else M_huff_Cost_l25 F x1 x4 F (0, 0))
def M_huff_Cost_j1 (F : Nat) (x1 : List Int) (x4 : List Int) (x10 : Int) : Option (Int × Int) :=
  (if ((x10 : Int) == 0) then ((M_huff_check F x1).bind fun x323 => M_huff_Cost_j2 F x1 x4 x323) else M_huff_Cost_j2 F x1 x4 x10)
def M_huff_Cost (F : Nat) (x1 : List Int) (x4 : List Int) : Option (Int × Int) :=
  ((M_kraft_Check F x4).bind fun x7 => (if (((x7 : Int) == 0) && (((x1.length : Int) : Int) != (x4.length : Int))) then M_huff_Cost_j1 F x1 x4 1 else M_huff_Cost_j1 F x1 x4 x7))
/-! lampwright huff.counted -/
def M_huff_counted_j2 (_F : Nat) (x1 : List Int) (x116 : List Int) : Option (List Int × Int) :=
  (if (decide (1000 < (x1.length : Int))) then some (([] : List Int), 2) else some (x116, 0))
def M_huff_counted_b3 (F : Nat) (x1 : List Int) (x4 : Int) (rec3 : (List Int × Int) → Option (List Int × Int)) (x153 : List Int) (x154 : Int) : Option (List Int × Int) :=
  (if (decide (x154 < (x1.length : Int))) then ((idx x1 x154).bind fun x207 => (if ((decide (x207 < 0)) || (decide (x4 ≤ x207))) then some (([] : List Int), 3) else ((idx x153 x207).bind fun x213 => ((idx x153 x207).bind fun _x216 => (lett (x153.set x207.toNat (iadd .i64 x213 1)) fun x219 => rec3 (x219, iadd .i64 x154 1)))))) else M_huff_counted_j2 F x1 x153)
def M_huff_counted_l3 (F : Nat) (x1 : List Int) (x4 : Int) : Nat → (List Int × Int) → Option (List Int × Int)
  | 0 => fun _ => none
  | k + 1 => fun s => M_huff_counted_b3 F x1 x4 (M_huff_counted_l3 F x1 x4 k) s.1 s.2
def M_huff_counted (F : Nat) (x1 : List Int) (x4 : Int) : Option (List Int × Int) :=
  (if ((decide (x4 < 0)) || (decide (64 < x4))) then some (([] : List Int), 3) else ((mk 17592186044416 (0 : Int) x4).bind fun x8 => M_huff_counted_l3 F x1 x4 F (x8, 0)))
/-! lampwright kraft.room -/
def M_kraft_room_j5 (_F : Nat) (x52 : Int) : Option Int :=
  some x52
def M_kraft_room_j9 (_F : Nat) (rec8 : (Int × Int) → Option Int) (x69 : Int) (x93 : Int) : Option Int :=
  rec8 (x93, iadd .i64 x69 1)
def M_kraft_room_b8 (F : Nat) (x1 : List Int) (rec8 : (Int × Int) → Option Int) (x68 : Int) (x69 : Int) : Option Int :=
  (if (decide (x69 < (x1.length : Int))) then ((idx x1 x69).bind fun x94 => (if (decide (0 < x94)) then (chk (decide (0 ≤ (isub .i64 24 x94))) ((lett (isub .i64 x68 (ishl .i64 1 (isub .i64 24 x94))) fun x98 => M_kraft_room_j9 F rec8 x69 x98))) else M_kraft_room_j9 F rec8 x69 x68)) else M_kraft_room_j5 F x68)
def M_kraft_room_l8 (F : Nat) (x1 : List Int) : Nat → (Int × Int) → Option Int
  | 0 => fun _ => none
  | k + 1 => fun s => M_kraft_room_b8 F x1 (M_kraft_room_l8 F x1 k) s.1 s.2
def M_kraft_room (F : Nat) (x1 : List Int) : Option Int :=
  M_kraft_room_l8 F x1 F (16777216, 0)
/-! lampwright kraft.used$1 -/
def M_kraft_used_1 (F : Nat) (x1 : Int) (x2 : Int) (x4 : List Int) : Option Int :=
  ((idx x4 x1).bind fun x20 => ((idx x4 x2).bind fun x24 => ((M_cmp_Compare_int F x20 x24).bind fun x28 => ((M_cmp_Compare_int F x1 x2).bind fun x29 => ((M_cmp_Or_int F ([x28, x29] : List Int)).bind fun x32 => some x32)))))
/-! slices.SortFunc[[]int,int] -/
def M_slices_SortFunc_int_int_kraft_used_1 (F : Nat) (x1 : List Int) (x5 : List Int) : Option (List Int) :=
  sortF (fun a b => M_kraft_used_1 F a b x5) x1
/-! lampwright kraft.used -/
def M_kraft_used_j5 (F : Nat) (x1 : List Int) (x81 : List Int) : Option (List Int) :=
  ((M_slices_SortFunc_int_int_kraft_used_1 F x81 x1).bind fun x82 => (chk (decide (x82.length = x81.length)) (some x82)))
def M_kraft_used_j9 (_F : Nat) (rec8 : (List Int × Int) → Option (List Int)) (x110 : Int) (x147 : List Int) : Option (List Int) :=
  rec8 (x147, iadd .i64 x110 1)
def M_kraft_used_b8 (F : Nat) (x1 : List Int) (rec8 : (List Int × Int) → Option (List Int)) (x109 : List Int) (x110 : Int) : Option (List Int) :=
  (if (decide (x110 < (x1.length : Int))) then ((idx x1 x110).bind fun x148 => (if (decide (0 < x148)) then ((app 8796093022208 x109 ([x110] : List Int)).bind fun x153 => M_kraft_used_j9 F rec8 x110 x153) else M_kraft_used_j9 F rec8 x110 x109)) else M_kraft_used_j5 F x1 x109)
def M_kraft_used_l8 (F : Nat) (x1 : List Int) : Nat → (List Int × Int) → Option (List Int)
  | 0 => fun _ => none
  | k + 1 => fun s => M_kraft_used_b8 F x1 (M_kraft_used_l8 F x1 k) s.1 s.2
def M_kraft_used (F : Nat) (x1 : List Int) : Option (List Int) :=
  M_kraft_used_l8 F x1 F (([] : List Int), 0)
/-! slices.Clone[[]byte,byte] -/
def M_slices_Clone_byte_byte (_F : Nat) (x1 : List Int) : Option (List Int) :=
  ((app 70368744177664 ([] : List Int) x1).bind fun x8 => some x8)
/-! lampwright bits.own -/
def M_bits_own (F : Nat) (x1 : Int) (x2 : List Int) : Option (Int × List Int) :=
  ((M_slices_Clone_byte_byte F x2).bind fun x10 => some (x1, x10))
/-! (*lampwright bits.writer).bit -/
def M_bits_writer_bit_j1 (_F : Nat) (x2 : Int) (x6 : Int) (x15 : List Int) : Option (Int × List Int) :=
  ((idx x15 (iquo .i64 x2 8)).bind fun x30 => (chk (decide (0 ≤ (irem x2 8))) (((idx x15 (iquo .i64 x2 8)).bind fun _x36 => (lett (x15.set (iquo .i64 x2 8).toNat (ior .u8 x30 (ishr .u8 (iconv .u8 (ishl .u64 x6 7)) (irem x2 8)))) fun x41 => some (iadd .i64 x2 1, x41))))))
def M_bits_writer_bit (F : Nat) (x2 : Int) (x3 : List Int) (x6 : Int) : Option (Int × List Int) :=
  (if (((irem x2 8) : Int) == 0) then ((app 70368744177664 x3 ([0] : List Int)).bind fun x46 => M_bits_writer_bit_j1 F x2 x6 x46) else M_bits_writer_bit_j1 F x2 x6 x3)
/-! (*lampwright bits.writer).number -/
def M_bits_writer_number_b1 (F : Nat) (x6 : Int) (rec1 : (Int × Int × List Int) → Option (Int × List Int)) (x18 : Int) (x19 : Int) (x22 : List Int) : Option (Int × List Int) :=
  (if (decide (0 ≤ x18)) then (chk (decide (0 ≤ x18)) (((M_bits_writer_bit F x19 x22 (iand .u64 (ishr .u64 x6 x18) 1)).bind fun x40 => rec1 (isub .i64 x18 1, x40.1, x40.2)))) else some (x19, x22))
def M_bits_writer_number_l1 (F : Nat) (x6 : Int) : Nat → (Int × Int × List Int) → Option (Int × List Int)
  | 0 => fun _ => none
  | k + 1 => fun s => M_bits_writer_number_b1 F x6 (M_bits_writer_number_l1 F x6 k) s.1 s.2.1 s.2.2
def M_bits_writer_number (F : Nat) (x2 : Int) (x3 : List Int) (x6 : Int) (x7 : Int) : Option (Int × List Int) :=
  M_bits_writer_number_l1 F x6 F (isub .i64 x7 1, x2, x3)
/-! lampwright bits.Add -/
def M_bits_Add (F : Nat) (x1 : Int) (x2 : List Int) (x5 : Int) (x6 : Int) : Option (Int × List Int) :=
  ((M_bits_own F x1 x2).bind fun x9 => ((M_bits_writer_number F x9.1 x9.2 x5 x6).bind fun x13 => some (x13.1, x13.2)))
/-! lampwright kraft.Codes -/
def M_kraft_Codes_j4 (_F : Nat) (x331 : List (Int × List Int)) : Option (List (Int × List Int) × Int) :=
  some (x331, 0)
def M_kraft_Codes_b5 (F : Nat) (x1 : List Int) (x332 : List Int) (rec5 : (List (Int × List Int) × Int × Int × Int) → Option (List (Int × List Int) × Int)) (x438 : List (Int × List Int)) (x439 : Int) (x440 : Int) (x441 : Int) : Option (List (Int × List Int) × Int) :=
  (if (decide (x441 < (x332.length : Int))) then ((idx x332 x441).bind fun x596 => ((idx x1 x596).bind fun x599 => (chk (decide (0 ≤ (isub .i64 x599 x440))) (((idx x1 x596).bind fun x624 => ((idx x1 x596).bind fun x628 => ((idx x438 x596).bind fun _x632 => ((M_bits_Add F 0 ([] : List Int) (ishl .u64 x439 (isub .i64 x599 x440)) x624).bind fun x638 => (lett (x438.set x596.toNat (x638.1, x638.2)) fun x641 => (lett (iadd .u64 (ishl .u64 x439 (isub .i64 x599 x440)) 1) fun x645 => rec5 (x641, x645, x628, iadd .i64 x441 1))))))))))) else M_kraft_Codes_j4 F x438)
def M_kraft_Codes_l5 (F : Nat) (x1 : List Int) (x332 : List Int) : Nat → (List (Int × List Int) × Int × Int × Int) → Option (List (Int × List Int) × Int)
  | 0 => fun _ => none
  | k + 1 => fun s => M_kraft_Codes_b5 F x1 x332 (M_kraft_Codes_l5 F x1 x332 k) s.1 s.2.1 s.2.2.1 s.2.2.2
def M_kraft_Codes_j2 (F : Nat) (x1 : List Int) (x10 : Int) : Option (List (Int × List Int) × Int) :=
  (if ((x10 : Int) != 0) then some (([] : List (Int × List Int)), x10) else ((mk 2199023255552 (((0 : Int), ([] : List Int)) : (Int × List Int)) (x1.length : Int)).bind fun x12 => ((M_kraft_used F x1).bind fun x332 => M_kraft_Codes_l5 F x1 x332 F (x12, 0, 0, 0))))
def M_kraft_Codes_j6 (F : Nat) (x1 : List Int) (x4 : Int) (x650 : Bool) : Option (List (Int × List Int) × Int) :=
  (if x650 then M_kraft_Codes_j2 F x1 8 else M_kraft_Codes_j2 F x1 x4)
def M_kraft_Codes (F : Nat) (x1 : List Int) : Option (List (Int × List Int) × Int) :=
  ((M_kraft_Check F x1).bind fun x4 => (if ((x4 : Int) == 0) then ((M_kraft_room F x1).bind fun x652 => M_kraft_Codes_j6 F x1 x4 (decide (x652 < 0))) else M_kraft_Codes_j6 F x1 x4 false))
/-! lampwright bits.places -/
def M_bits_places (_F : Nat) (_x1 : Int) (_x2 : List Int) (_x5 : Int) (_x6 : Int) : Option Unit :=
  some ()
/-! lampwright bits.At -/
def M_bits_At (_F : Nat) (_x1 : Int) (x2 : List Int) (x5 : Int) : Option Int :=
  ((idx x2 (iquo .i64 x5 8)).bind fun x7 => (chk (decide (0 ≤ (isub .i64 7 (irem x5 8)))) ((lett (iand .u64 (iconv .u64 (ishr .u8 x7 (isub .i64 7 (irem x5 8)))) 1) fun x11 => some x11))))
/-! lampwright bits.places$1 -/
def M_bits_places_1_b1 {σ τ : Type} (F : Nat) (yy : σ → Int → Option (σ ⊕ τ)) (x4 : Int) (x6 : Int) (x7 : List Int) (rec1 : (Int × σ) → Option (σ ⊕ τ)) (x22 : Int) (x23 : σ) : Option (σ ⊕ τ) :=
  (if (decide (x22 < x4)) then ((M_bits_At F x6 x7 x22).bind fun x44 => ((yy x23 x44).bind (Sum.elim (fun x45 => rec1 (iadd .i64 x22 1, x45)) (fun x46 => some (.inr x46))))) else some (.inl x23))
def M_bits_places_1_l1 {σ τ : Type} (F : Nat) (yy : σ → Int → Option (σ ⊕ τ)) (x4 : Int) (x6 : Int) (x7 : List Int) : Nat → (Int × σ) → Option (σ ⊕ τ)
  | 0 => fun _ => none
  | k + 1 => fun s => M_bits_places_1_b1 F yy x4 x6 x7 (M_bits_places_1_l1 F yy x4 x6 x7 k) s.1 s.2
def M_bits_places_1 {σ τ : Type} (F : Nat) (yy : σ → Int → Option (σ ⊕ τ)) (x2 : Int) (x4 : Int) (x6 : Int) (x7 : List Int) (s0 : σ) : Option (σ ⊕ τ) :=
  M_bits_places_1_l1 F yy x4 x6 x7 F (x2, s0)
/-! lampwright bits.Both -/
def M_bits_Both_r2 (F : Nat) (x45 : Int) (x48 : List Int) (x53 : Int) : Option ((Int × List Int) ⊕ Empty) :=
  ((M_bits_writer_bit F x45 x48 x53).bind fun x54 => some (.inl (x54.1, x54.2)))
def M_bits_Both (F : Nat) (x1 : Int) (x2 : List Int) (x5 : Int) (x6 : List Int) : Option (Int × List Int) :=
  ((M_bits_own F x1 x2).bind fun x12 => ((M_bits_places F x5 x6 0 x5).bind fun _x37 => ((M_bits_places_1 F (fun ((x45, x48) : (Int × List Int)) (x53 : Int) => M_bits_Both_r2 F x45 x48 x53) 0 x5 x5 x6 (x12.1, x12.2)).bind (Sum.elim (fun ((x45, x48) : (Int × List Int)) => some (x45, x48)) (fun t => t.elim)))))
/-! lampwright huff.Pack -/
def M_huff_Pack_j2 (_F : Nat) (x10 : (List Int × Int)) (x259 : Int) (x262 : List Int) : Option (List Int × Int × List Int × Int) :=
  some (x10.1, x259, x262, 0)
def M_huff_Pack_b3 (F : Nat) (x1 : List Int) (x10 : (List Int × Int)) (x14 : (List (Int × List Int) × Int)) (rec3 : (Int × Int × List Int) → Option (List Int × Int × List Int × Int)) (x342 : Int) (x343 : Int) (x346 : List Int) : Option (List Int × Int × List Int × Int) :=
  (if (decide (x342 < (x1.length : Int))) then ((idx x1 x342).bind fun x465 => ((idx x14.1 x465).bind fun x487 => (if (decide (8192 < (iadd .i64 x343 x487.1))) then some (([] : List Int), 0, ([] : List Int), 8) else ((idx x14.1 x465).bind fun x493 => ((M_bits_Both F x343 x346 x493.1 x493.2).bind fun x499 => rec3 (iadd .i64 x342 1, x499.1, x499.2)))))) else M_huff_Pack_j2 F x10 x343 x346)
def M_huff_Pack_l3 (F : Nat) (x1 : List Int) (x10 : (List Int × Int)) (x14 : (List (Int × List Int) × Int)) : Nat → (Int × Int × List Int) → Option (List Int × Int × List Int × Int)
  | 0 => fun _ => none
  | k + 1 => fun s => M_huff_Pack_b3 F x1 x10 x14 (M_huff_Pack_l3 F x1 x10 x14 k) s.1 s.2.1 s.2.2
def M_huff_Pack (F : Nat) (x1 : List Int) (x4 : Int) : Option (List Int × Int × List Int × Int) :=
  ((M_huff_counted F x1 x4).bind fun x6 => (if ((x6.2 : Int) != 0) then some (([] : List Int), 0, ([] : List Int), x6.2) else ((M_huff_Lengths F x6.1).bind fun x10 => (if ((x10.2 : Int) != 0) then some (([] : List Int), 0, ([] : List Int), x10.2) else ((M_kraft_Codes F x10.1).bind fun x14 => M_huff_Pack_l3 F x1 x10 x14 F (0, 0, ([] : List Int)))))))
/-! lampwright bits.Check -/
def M_bits_Check_j2 (_F : Nat) (x36 : Bool) : Option Int :=
  (if x36 then some 1 else some 0)
def M_bits_Check (F : Nat) (x1 : Int) (x2 : List Int) : Option Int :=
  (if ((decide (x1 < 0)) || (decide (8192 < x1))) then some 3 else (if (((x2.length : Int) : Int) != (iquo .i64 (iadd .i64 x1 7) 8)) then some 1 else (if (((irem x1 8) : Int) != 0) then ((idx x2 (isub .i64 (x2.length : Int) 1)).bind fun x39 => (chk (decide (0 ≤ (irem x1 8))) (M_bits_Check_j2 F (((ishl .u8 x39 (irem x1 8)) : Int) != 0)))) else M_bits_Check_j2 F false)))
/-! lampwright kraft.begins -/
def M_kraft_begins_j2 (_F : Nat) : Option Bool :=
  some true
def M_kraft_begins_b3 (F : Nat) (x1 : Int) (x2 : List Int) (x5 : Int) (x6 : Int) (x7 : List Int) (rec3 : Int → Option Bool) (x62 : Int) : Option Bool :=
  (if (decide (x62 < (imin x6 (isub .i64 x1 x5)))) then ((M_bits_At F x1 x2 (iadd .i64 x5 x62)).bind fun x84 => ((M_bits_At F x6 x7 x62).bind fun x85 => (if ((x84 : Int) != x85) then some false else rec3 (iadd .i64 x62 1)))) else M_kraft_begins_j2 F)
def M_kraft_begins_l3 (F : Nat) (x1 : Int) (x2 : List Int) (x5 : Int) (x6 : Int) (x7 : List Int) : Nat → Int → Option Bool
  | 0 => fun _ => none
  | k + 1 => fun s => M_kraft_begins_b3 F x1 x2 x5 x6 x7 (M_kraft_begins_l3 F x1 x2 x5 x6 x7 k) s
def M_kraft_begins (F : Nat) (x1 : Int) (x2 : List Int) (x5 : Int) (x6 : Int) (x7 : List Int) : Option Bool :=
  M_kraft_begins_l3 F x1 x2 x5 x6 x7 F 0
/-! lampwright kraft.Found -/
def M_kraft_Found_j11 (_F : Nat) (x88 : Int) : Option (Int × Int × Int) :=
  some (0, 0, x88)
def M_kraft_Found_j20 (_F : Nat) (rec18 : (Int × Int) → Option (Int × Int × Int)) (x115 : Int) (x154 : Int) : Option (Int × Int × Int) :=
  rec18 (x154, iadd .i64 x115 1)
def M_kraft_Found_j21 (F : Nat) (rec18 : (Int × Int) → Option (Int × Int × Int)) (x4 : Int) (x8 : Int) (x114 : Int) (x115 : Int) (x155 : (Int × List Int)) (x162 : Bool) : Option (Int × Int × Int) :=
  (if x162 then M_kraft_Found_j20 F rec18 x115 x114 else (if (decide ((isub .i64 x4 x8) < x155.1)) then M_kraft_Found_j20 F rec18 x115 7 else some (x115, iadd .i64 x8 x155.1, 0)))
def M_kraft_Found_b18 (F : Nat) (x1 : List (Int × List Int)) (x4 : Int) (x5 : List Int) (x8 : Int) (rec18 : (Int × Int) → Option (Int × Int × Int)) (x114 : Int) (x115 : Int) : Option (Int × Int × Int) :=
  (if (decide (x115 < (x1.length : Int))) then ((idx x1 x115).bind fun x155 => (if ((x155.1 : Int) == 0) then M_kraft_Found_j21 F rec18 x4 x8 x114 x115 x155 true else ((M_kraft_begins F x4 x5 x8 x155.1 x155.2).bind fun x165 => M_kraft_Found_j21 F rec18 x4 x8 x114 x115 x155 (!x165)))) else M_kraft_Found_j11 F x114)
def M_kraft_Found_l18 (F : Nat) (x1 : List (Int × List Int)) (x4 : Int) (x5 : List Int) (x8 : Int) : Nat → (Int × Int) → Option (Int × Int × Int)
  | 0 => fun _ => none
  | k + 1 => fun s => M_kraft_Found_b18 F x1 x4 x5 x8 (M_kraft_Found_l18 F x1 x4 x5 x8 k) s.1 s.2
def M_kraft_Found (F : Nat) (x1 : List (Int × List Int)) (x4 : Int) (x5 : List Int) (x8 : Int) : Option (Int × Int × Int) :=
  M_kraft_Found_l18 F x1 x4 x5 x8 F (5, 0)
/-! lampwright huff.Unpack -/
def M_huff_Unpack_j6 (_F : Nat) (x63 : List Int) (x67 : Int) : Option (List Int × Int) :=
  (if ((x67 : Int) != 0) then some (([] : List Int), x67) else some (x63, 0))
def M_huff_Unpack_j5 (F : Nat) (x4 : Int) (x60 : Int) (x63 : List Int) (x64 : Int) : Option (List Int × Int) :=
  (if (((x60 : Int) == 0) && (decide (x64 < x4))) then M_huff_Unpack_j6 F x63 1 else M_huff_Unpack_j6 F x63 x60)
def M_huff_Unpack_b7 (F : Nat) (x4 : Int) (x5 : List Int) (x8 : Int) (x10 : (List (Int × List Int) × Int)) (rec7 : (Int × List Int × Int) → Option (List Int × Int)) (x83 : Int) (x86 : List Int) (x87 : Int) : Option (List Int × Int) :=
  (if (((x83 : Int) == 0) && (decide ((x86.length : Int) < x8))) then ((M_kraft_Found F x10.1 x4 x5 x87).bind fun x102 => ((app 8796093022208 x86 ([x102.1] : List Int)).bind fun x105 => rec7 (x102.2.2, x105, x102.2.1))) else M_huff_Unpack_j5 F x4 x83 x86 x87)
def M_huff_Unpack_l7 (F : Nat) (x4 : Int) (x5 : List Int) (x8 : Int) (x10 : (List (Int × List Int) × Int)) : Nat → (Int × List Int × Int) → Option (List Int × Int)
  | 0 => fun _ => none
  | k + 1 => fun s => M_huff_Unpack_b7 F x4 x5 x8 x10 (M_huff_Unpack_l7 F x4 x5 x8 x10 k) s.1 s.2.1 s.2.2
def M_huff_Unpack_j3 (F : Nat) (x4 : Int) (x5 : List Int) (x8 : Int) (x10 : (List (Int × List Int) × Int)) (x21 : Int) : Option (List Int × Int) :=
  M_huff_Unpack_l7 F x4 x5 x8 x10 F (x21, ([] : List Int), 0)
def M_huff_Unpack_j8 (F : Nat) (x4 : Int) (x5 : List Int) (x8 : Int) (x10 : (List (Int × List Int) × Int)) (x15 : Int) (x111 : Bool) : Option (List Int × Int) :=
  (if x111 then M_huff_Unpack_j3 F x4 x5 x8 x10 3 else M_huff_Unpack_j3 F x4 x5 x8 x10 x15)
def M_huff_Unpack_j1 (F : Nat) (x4 : Int) (x5 : List Int) (x8 : Int) (x10 : (List (Int × List Int) × Int)) (x15 : Int) : Option (List Int × Int) :=
  (if ((x15 : Int) == 0) then M_huff_Unpack_j8 F x4 x5 x8 x10 x15 ((decide (x8 < 0)) || (decide (1000 < x8))) else M_huff_Unpack_j8 F x4 x5 x8 x10 x15 false)
def M_huff_Unpack (F : Nat) (x1 : List Int) (x4 : Int) (x5 : List Int) (x8 : Int) : Option (List Int × Int) :=
  ((M_kraft_Codes F x1).bind fun x10 => (if ((x10.2 : Int) == 0) then ((M_bits_Check F x4 x5).bind fun x114 => M_huff_Unpack_j1 F x4 x5 x8 x10 x114) else M_huff_Unpack_j1 F x4 x5 x8 x10 x10.2))
/-! lampwright lampwrightref.between -/
def M_R_between (_F : Nat) (x1 : Int) (x2 : Int) (x3 : Int) : Option Bool :=
  some ((decide (x2 ≤ x1)) && (decide (x1 ≤ x3)))
/-! lampwright lampwrightref.HuffErr -/
def M_R_HuffErr_j2 (_F : Nat) : Option Int :=
  some 0
def M_R_HuffErr_b3 (F : Nat) (x1 : List Int) (rec3 : Int → Option Int) (x55 : Int) : Option Int :=
  (if (decide (x55 < (x1.length : Int))) then ((idx x1 x55).bind fun x75 => ((M_R_between F x75 0 1048576).bind fun x78 => (if (!x78) then some 3 else rec3 (iadd .i64 x55 1)))) else M_R_HuffErr_j2 F)
def M_R_HuffErr_l3 (F : Nat) (x1 : List Int) : Nat → Int → Option Int
  | 0 => fun _ => none
  | k + 1 => fun s => M_R_HuffErr_b3 F x1 (M_R_HuffErr_l3 F x1 k) s
def M_R_HuffErr (F : Nat) (x1 : List Int) : Option Int :=
  (if (decide (64 < (x1.length : Int))) then some 2 else M_R_HuffErr_l3 F x1 F 0)
/-! lampwright lampwrightref.HuffLengths -/
def M_R_HuffLengths_j323 (_F : Nat) (x4410 : List Int) : Option (List Int × Int) :=
  some (x4410, 0)
def M_R_HuffLengths_b324 (F : Nat) (x1 : List Int) (x4410 : List Int) (rec324 : Int → Option (List Int × Int)) (x4453 : Int) : Option (List Int × Int) :=
  (if (decide (x4453 < (x1.length : Int))) then ((idx x4410 x4453).bind fun x4470 => (if (decide (24 < x4470)) then some (([] : List Int), 8) else rec324 (iadd .i64 x4453 1))) else M_R_HuffLengths_j323 F x4410)
def M_R_HuffLengths_l324 (F : Nat) (x1 : List Int) (x4410 : List Int) : Nat → Int → Option (List Int × Int)
  | 0 => fun _ => none
  | k + 1 => fun s => M_R_HuffLengths_b324 F x1 x4410 (M_R_HuffLengths_l324 F x1 x4410 k) s
def M_R_HuffLengths_j321 (F : Nat) (x1 : List Int) (x4410 : List Int) : Option (List Int × Int) :=
  M_R_HuffLengths_l324 F x1 x4410 F 0
def M_R_HuffLengths_j584 (_F : Nat) (rec531 : (List Int × List Int × List Int × Int) → Option (List Int × Int)) (x5888 : List Int) (x5890 : Int) (x7708 : Int) (x7709 : Int) (x7996 : List Int) (x7997 : List Int) : Option (List Int × Int) :=
  ((idx x5888 x7708).bind fun x8013 => ((idx x5888 x7709).bind fun x8017 => ((idx x5888 x7708).bind fun _x8021 => (lett (x5888.set x7708.toNat (iadd .i64 x8013 x8017)) fun x8025 => rec531 (x7996, x8025, x7997, isub .i64 x5890 1)))))
def M_R_HuffLengths_j603 (_F : Nat) (rec599 : (List Int × List Int × Int) → Option (List Int × Int)) (x8124 : Int) (x8266 : List Int) (x8267 : List Int) : Option (List Int × Int) :=
  rec599 (x8266, x8267, iadd .i64 x8124 1)
def M_R_HuffLengths_j605 (F : Nat) (rec599 : (List Int × List Int × Int) → Option (List Int × Int)) (x7708 : Int) (x8122 : List Int) (x8123 : List Int) (x8124 : Int) (x8284 : Bool) : Option (List Int × Int) :=
  (if x8284 then ((idx x8122 x8124).bind fun _x8285 => (lett (x8122.set x8124.toNat x7708) fun x8288 => ((idx x8123 x8124).bind fun x8291 => ((idx x8123 x8124).bind fun _x8294 => (lett (x8123.set x8124.toNat (iadd .i64 x8291 1)) fun x8297 => M_R_HuffLengths_j603 F rec599 x8124 x8288 x8297))))) else M_R_HuffLengths_j603 F rec599 x8124 x8122 x8123)
def M_R_HuffLengths_j606 (F : Nat) (rec599 : (List Int × List Int × Int) → Option (List Int × Int)) (x7708 : Int) (x8122 : List Int) (x8123 : List Int) (x8124 : Int) (_x8308 : Bool) (x8309 : Bool) : Option (List Int × Int) :=
  M_R_HuffLengths_j605 F rec599 x7708 x8122 x8123 x8124 x8309
def M_R_HuffLengths_b599 (F : Nat) (rec531 : (List Int × List Int × List Int × Int) → Option (List Int × Int)) (x1 : List Int) (x5888 : List Int) (x5890 : Int) (x7708 : Int) (x7709 : Int) (rec599 : (List Int × List Int × Int) → Option (List Int × Int)) (x8122 : List Int) (x8123 : List Int) (x8124 : Int) : Option (List Int × Int) :=
  (if (decide (x8124 < (x1.length : Int))) then ((idx x1 x8124).bind fun x8268 => (if (decide (0 < x8268)) then ((idx x8122 x8124).bind fun x8301 => (if ((x8301 : Int) == x7708) then M_R_HuffLengths_j606 F rec599 x7708 x8122 x8123 x8124 true true else ((idx x8122 x8124).bind fun x8310 => M_R_HuffLengths_j606 F rec599 x7708 x8122 x8123 x8124 false ((x8310 : Int) == x7709)))) else M_R_HuffLengths_j605 F rec599 x7708 x8122 x8123 x8124 false)) else M_R_HuffLengths_j584 F rec531 x5888 x5890 x7708 x7709 x8122 x8123)
def M_R_HuffLengths_l599 (F : Nat) (rec531 : (List Int × List Int × List Int × Int) → Option (List Int × Int)) (x1 : List Int) (x5888 : List Int) (x5890 : Int) (x7708 : Int) (x7709 : Int) : Nat → (List Int × List Int × Int) → Option (List Int × Int)
  | 0 => fun _ => none
  | k + 1 => fun s => M_R_HuffLengths_b599 F rec531 x1 x5888 x5890 x7708 x7709 (M_R_HuffLengths_l599 F rec531 x1 x5888 x5890 x7708 x7709 k) s.1 s.2.1 s.2.2
def M_R_HuffLengths_j561 (F : Nat) (rec531 : (List Int × List Int × List Int × Int) → Option (List Int × Int)) (x1 : List Int) (x5887 : List Int) (x5888 : List Int) (x5889 : List Int) (x5890 : Int) (x7708 : Int) (x7709 : Int) : Option (List Int × Int) :=
  M_R_HuffLengths_l599 F rec531 x1 x5888 x5890 x7708 x7709 F (x5887, x5889, 0)
def M_R_HuffLengths_j560 (F : Nat) (rec531 : (List Int × List Int × List Int × Int) → Option (List Int × Int)) (x1 : List Int) (x5887 : List Int) (x5888 : List Int) (x5889 : List Int) (x5890 : Int) (x7705 : Int) (x7706 : Int) : Option (List Int × Int) :=
  (if (decide (x7706 < x7705)) then M_R_HuffLengths_j561 F rec531 x1 x5887 x5888 x5889 x5890 x7706 x7705 else M_R_HuffLengths_j561 F rec531 x1 x5887 x5888 x5889 x5890 x7705 x7706)
def M_R_HuffLengths_j630 (_F : Nat) (rec625 : (Int × Int × Int) → Option (List Int × Int)) (x8449 : Int) (x8648 : Int) (x8649 : Int) : Option (List Int × Int) :=
  rec625 (x8648, x8649, iadd .i64 x8449 1)
def M_R_HuffLengths_j634 (F : Nat) (rec625 : (Int × Int × Int) → Option (List Int × Int)) (x8447 : Int) (x8448 : Int) (x8449 : Int) (x8689 : Bool) : Option (List Int × Int) :=
  (if x8689 then M_R_HuffLengths_j630 F rec625 x8449 x8447 x8449 else M_R_HuffLengths_j630 F rec625 x8449 x8447 x8448)
def M_R_HuffLengths_j633 (F : Nat) (rec625 : (Int × Int × Int) → Option (List Int × Int)) (x5888 : List Int) (x8447 : Int) (x8448 : Int) (x8449 : Int) (x8679 : Bool) : Option (List Int × Int) :=
  (if x8679 then M_R_HuffLengths_j630 F rec625 x8449 x8449 x8447 else (if (decide (x8448 < 0)) then M_R_HuffLengths_j634 F rec625 x8447 x8448 x8449 true else ((idx x5888 x8449).bind fun x8692 => ((idx x5888 x8448).bind fun x8696 => M_R_HuffLengths_j634 F rec625 x8447 x8448 x8449 (decide (x8692 < x8696))))))
def M_R_HuffLengths_j632 (F : Nat) (rec625 : (Int × Int × Int) → Option (List Int × Int)) (x5888 : List Int) (x8447 : Int) (x8448 : Int) (x8449 : Int) (x8669 : Bool) : Option (List Int × Int) :=
  (if x8669 then M_R_HuffLengths_j630 F rec625 x8449 x8447 x8448 else (if (decide (x8447 < 0)) then M_R_HuffLengths_j633 F rec625 x5888 x8447 x8448 x8449 true else ((idx x5888 x8449).bind fun x8702 => ((idx x5888 x8447).bind fun x8706 => M_R_HuffLengths_j633 F rec625 x5888 x8447 x8448 x8449 (decide (x8702 < x8706))))))
def M_R_HuffLengths_b625 (F : Nat) (rec531 : (List Int × List Int × List Int × Int) → Option (List Int × Int)) (x1 : List Int) (x5887 : List Int) (x5888 : List Int) (x5889 : List Int) (x5890 : Int) (rec625 : (Int × Int × Int) → Option (List Int × Int)) (x8447 : Int) (x8448 : Int) (x8449 : Int) : Option (List Int × Int) :=
  (if (decide (x8449 < (x1.length : Int))) then ((idx x1 x8449).bind fun x8662 => (if ((x8662 : Int) == 0) then M_R_HuffLengths_j632 F rec625 x5888 x8447 x8448 x8449 true else ((idx x5887 x8449).bind fun x8711 => M_R_HuffLengths_j632 F rec625 x5888 x8447 x8448 x8449 ((x8711 : Int) != x8449)))) else M_R_HuffLengths_j560 F rec531 x1 x5887 x5888 x5889 x5890 x8447 x8448)
def M_R_HuffLengths_l625 (F : Nat) (rec531 : (List Int × List Int × List Int × Int) → Option (List Int × Int)) (x1 : List Int) (x5887 : List Int) (x5888 : List Int) (x5889 : List Int) (x5890 : Int) : Nat → (Int × Int × Int) → Option (List Int × Int)
  | 0 => fun _ => none
  | k + 1 => fun s => M_R_HuffLengths_b625 F rec531 x1 x5887 x5888 x5889 x5890 (M_R_HuffLengths_l625 F rec531 x1 x5887 x5888 x5889 x5890 k) s.1 s.2.1 s.2.2
def M_R_HuffLengths_b531 (F : Nat) (x1 : List Int) (rec531 : (List Int × List Int × List Int × Int) → Option (List Int × Int)) (x5887 : List Int) (x5888 : List Int) (x5889 : List Int) (x5890 : Int) : Option (List Int × Int) :=
  (if (decide (1 < x5890)) then M_R_HuffLengths_l625 F rec531 x1 x5887 x5888 x5889 x5890 F (-1, -1, 0) else M_R_HuffLengths_j321 F x1 x5889)
def M_R_HuffLengths_l531 (F : Nat) (x1 : List Int) : Nat → (List Int × List Int × List Int × Int) → Option (List Int × Int)
  | 0 => fun _ => none
  | k + 1 => fun s => M_R_HuffLengths_b531 F x1 (M_R_HuffLengths_l531 F x1 k) s.1 s.2.1 s.2.2.1 s.2.2.2
def M_R_HuffLengths_j10 (F : Nat) (x1 : List Int) (x11 : List Int) (x93 : List Int) (x94 : Int) (x168 : List Int) : Option (List Int × Int) :=
  M_R_HuffLengths_l531 F x1 F (x93, x11, x168, x94)
def M_R_HuffLengths_j638 (_F : Nat) (rec637 : (List Int × Int) → Option (List Int × Int)) (x8740 : Int) (x8776 : List Int) : Option (List Int × Int) :=
  rec637 (x8776, iadd .i64 x8740 1)
def M_R_HuffLengths_b637 (F : Nat) (x1 : List Int) (x11 : List Int) (x93 : List Int) (x94 : Int) (rec637 : (List Int × Int) → Option (List Int × Int)) (x8739 : List Int) (x8740 : Int) : Option (List Int × Int) :=
  (if (decide (x8740 < (x1.length : Int))) then ((idx x1 x8740).bind fun x8777 => (if (decide (0 < x8777)) then ((idx x8739 x8740).bind fun _x8780 => (lett (x8739.set x8740.toNat 1) fun x8783 => M_R_HuffLengths_j638 F rec637 x8740 x8783)) else M_R_HuffLengths_j638 F rec637 x8740 x8739)) else M_R_HuffLengths_j10 F x1 x11 x93 x94 x8739)
def M_R_HuffLengths_l637 (F : Nat) (x1 : List Int) (x11 : List Int) (x93 : List Int) (x94 : Int) : Nat → (List Int × Int) → Option (List Int × Int)
  | 0 => fun _ => none
  | k + 1 => fun s => M_R_HuffLengths_b637 F x1 x11 x93 x94 (M_R_HuffLengths_l637 F x1 x11 x93 x94 k) s.1 s.2
def M_R_HuffLengths_j5 (F : Nat) (x1 : List Int) (x11 : List Int) (x14 : List Int) (x93 : List Int) (x94 : Int) : Option (List Int × Int) :=
  (if ((x94 : Int) == 1) then M_R_HuffLengths_l637 F x1 x11 x93 x94 F (x14, 0) else M_R_HuffLengths_j10 F x1 x11 x93 x94 x14)
def M_R_HuffLengths_j642 (_F : Nat) (rec641 : (List Int × Int × Int) → Option (List Int × Int)) (x8815 : Int) (x8852 : List Int) (x8853 : Int) : Option (List Int × Int) :=
  rec641 (x8852, x8853, iadd .i64 x8815 1)
def M_R_HuffLengths_b641 (F : Nat) (x1 : List Int) (x11 : List Int) (x14 : List Int) (rec641 : (List Int × Int × Int) → Option (List Int × Int)) (x8813 : List Int) (x8814 : Int) (x8815 : Int) : Option (List Int × Int) :=
  (if (decide (x8815 < (x1.length : Int))) then ((idx x8813 x8815).bind fun _x8854 => (lett (x8813.set x8815.toNat x8815) fun x8857 => ((idx x1 x8815).bind fun x8860 => (if (decide (0 < x8860)) then M_R_HuffLengths_j642 F rec641 x8815 x8857 (iadd .i64 x8814 1) else M_R_HuffLengths_j642 F rec641 x8815 x8857 x8814)))) else M_R_HuffLengths_j5 F x1 x11 x14 x8813 x8814)
def M_R_HuffLengths_l641 (F : Nat) (x1 : List Int) (x11 : List Int) (x14 : List Int) : Nat → (List Int × Int × Int) → Option (List Int × Int)
  | 0 => fun _ => none
  | k + 1 => fun s => M_R_HuffLengths_b641 F x1 x11 x14 (M_R_HuffLengths_l641 F x1 x11 x14 k) s.1 s.2.1 s.2.2
def M_R_HuffLengths (F : Nat) (x1 : List Int) : Option (List Int × Int) :=
  ((M_R_HuffErr F x1).bind fun x4 => (if ((x4 : Int) != 0) then some (([] : List Int), x4) else ((mk 17592186044416 (0 : Int) (x1.length : Int)).bind fun x6 => ((app 8796093022208 ([] : List Int) x1).bind fun x11 => ((mk 17592186044416 (0 : Int) (x1.length : Int)).bind fun x14 => M_R_HuffLengths_l641 F x1 x11 x14 F (x6, 0, 0))))))
/-! lampwright lampwrightref.KraftCheck -/
def M_R_KraftCheck_j2 (_F : Nat) : Option Int :=
  some 0
def M_R_KraftCheck_b3 (F : Nat) (x1 : List Int) (rec3 : Int → Option Int) (x55 : Int) : Option Int :=
  (if (decide (x55 < (x1.length : Int))) then ((idx x1 x55).bind fun x75 => ((M_R_between F x75 0 24).bind fun x78 => (if (!x78) then some 3 else rec3 (iadd .i64 x55 1)))) else M_R_KraftCheck_j2 F)
def M_R_KraftCheck_l3 (F : Nat) (x1 : List Int) : Nat → Int → Option Int
  | 0 => fun _ => none
  | k + 1 => fun s => M_R_KraftCheck_b3 F x1 (M_R_KraftCheck_l3 F x1 k) s
def M_R_KraftCheck (F : Nat) (x1 : List Int) : Option Int :=
  (if (decide (64 < (x1.length : Int))) then some 2 else M_R_KraftCheck_l3 F x1 F 0)
/-! lampwright lampwrightref.HuffCost -/
def M_R_HuffCost_j16 (_F : Nat) (x216 : Int) : Option (Int × Int) :=
  some (x216, 0)
def M_R_HuffCost_j29 (_F : Nat) (rec25 : (Int × Int) → Option (Int × Int)) (x1 : List Int) (x4 : List Int) (x283 : Int) (x284 : Int) (x404 : Bool) : Option (Int × Int) :=
  (if x404 then some (0, 4) else ((idx x1 x284).bind fun x405 => ((idx x4 x284).bind fun x409 => rec25 (iadd .i64 x283 (imul .i64 x405 x409), iadd .i64 x284 1))))
def M_R_HuffCost_b25 (F : Nat) (x1 : List Int) (x4 : List Int) (rec25 : (Int × Int) → Option (Int × Int)) (x283 : Int) (x284 : Int) : Option (Int × Int) :=
  (if (decide (x284 < (x4.length : Int))) then ((idx x1 x284).bind fun x397 => (if (decide (0 < x397)) then ((idx x4 x284).bind fun x414 => M_R_HuffCost_j29 F rec25 x1 x4 x283 x284 ((x414 : Int) == 0)) else M_R_HuffCost_j29 F rec25 x1 x4 x283 x284 false)) else M_R_HuffCost_j16 F x283)
def M_R_HuffCost_l25 (F : Nat) (x1 : List Int) (x4 : List Int) : Nat → (Int × Int) → Option (Int × Int)
  | 0 => fun _ => none
  | k + 1 => fun s => M_R_HuffCost_b25 F x1 x4 (M_R_HuffCost_l25 F x1 x4 k) s.1 s.2
def M_R_HuffCost_j2 (F : Nat) (x1 : List Int) (x4 : List Int) (x13 : Int) : Option (Int × Int) :=
  (if ((x13 : Int) != 0) then some (0, x13) else M_R_HuffCost_l25 F x1 x4 F (0, 0))
def M_R_HuffCost_j1 (F : Nat) (x1 : List Int) (x4 : List Int) (x10 : Int) : Option (Int × Int) :=
  (if ((x10 : Int) == 0) then ((M_R_HuffErr F x1).bind fun x419 => M_R_HuffCost_j2 F x1 x4 x419) else M_R_HuffCost_j2 F x1 x4 x10)
def M_R_HuffCost (F : Nat) (x1 : List Int) (x4 : List Int) : Option (Int × Int) :=
  ((M_R_KraftCheck F x4).bind fun x7 => (if (((x7 : Int) == 0) && (((x4.length : Int) : Int) != (x1.length : Int))) then M_R_HuffCost_j1 F x1 x4 1 else M_R_HuffCost_j1 F x1 x4 x7))
/-! lampwright lampwrightref.PackBits -/
def M_R_PackBits_j59 (_F : Nat) (x1 : List Int) (x497 : List Int) : Option (Int × List Int) :=
  some ((x1.length : Int), x497)
def M_R_PackBits_j108 (_F : Nat) (rec98 : (Int × List Int) → Option (Int × List Int)) (x660 : Int) (x907 : List Int) : Option (Int × List Int) :=
  rec98 (iadd .i64 x660 8, x907)
def M_R_PackBits_j113 (F : Nat) (rec98 : (Int × List Int) → Option (Int × List Int)) (x660 : Int) (x663 : List Int) (x944 : Int) : Option (Int × List Int) :=
  ((app 70368744177664 x663 ([iconv .u8 x944] : List Int)).bind fun x947 => M_R_PackBits_j108 F rec98 x660 x947)
def M_R_PackBits_j117 (_F : Nat) (rec116 : (Int × Int) → Option (Int × List Int)) (x962 : Int) (x980 : Int) : Option (Int × List Int) :=
  rec116 (x980, iadd .i64 x962 1)
def M_R_PackBits_b116 (F : Nat) (rec98 : (Int × List Int) → Option (Int × List Int)) (x1 : List Int) (x660 : Int) (x663 : List Int) (rec116 : (Int × Int) → Option (Int × List Int)) (x961 : Int) (x962 : Int) : Option (Int × List Int) :=
  (if (decide (x962 < 8)) then (if (decide ((iadd .i64 x660 x962) < (x1.length : Int))) then ((idx x1 (iadd .i64 x660 x962)).bind fun x981 => M_R_PackBits_j117 F rec116 x962 (iadd .i64 (imul .i64 2 x961) x981)) else M_R_PackBits_j117 F rec116 x962 (imul .i64 2 x961)) else M_R_PackBits_j113 F rec98 x660 x663 x961)
def M_R_PackBits_l116 (F : Nat) (rec98 : (Int × List Int) → Option (Int × List Int)) (x1 : List Int) (x660 : Int) (x663 : List Int) : Nat → (Int × Int) → Option (Int × List Int)
  | 0 => fun _ => none
  | k + 1 => fun s => M_R_PackBits_b116 F rec98 x1 x660 x663 (M_R_PackBits_l116 F rec98 x1 x660 x663 k) s.1 s.2
def M_R_PackBits_b98 (F : Nat) (x1 : List Int) (rec98 : (Int × List Int) → Option (Int × List Int)) (x660 : Int) (x663 : List Int) : Option (Int × List Int) :=
  (if (decide (x660 < (x1.length : Int))) then M_R_PackBits_l116 F rec98 x1 x660 x663 F (0, 0) else M_R_PackBits_j59 F x1 x663)
def M_R_PackBits_l98 (F : Nat) (x1 : List Int) : Nat → (Int × List Int) → Option (Int × List Int)
  | 0 => fun _ => none
  | k + 1 => fun s => M_R_PackBits_b98 F x1 (M_R_PackBits_l98 F x1 k) s.1 s.2
def M_R_PackBits (F : Nat) (x1 : List Int) : Option (Int × List Int) :=
  M_R_PackBits_l98 F x1 F (0, ([] : List Int))
/-! lampwright lampwrightref.KraftRoom -/
def M_R_KraftRoom_j29 (_F : Nat) (x232 : Int) : Option Int :=
  some x232
def M_R_KraftRoom_j53 (_F : Nat) (rec48 : (Int × Int) → Option Int) (x309 : Int) (x423 : Int) : Option Int :=
  rec48 (x423, iadd .i64 x309 1)
def M_R_KraftRoom_j57 (_F : Nat) (rec56 : (Int × Int) → Option Int) (x436 : Int) (x454 : Int) : Option Int :=
  rec56 (x454, iadd .i64 x436 1)
def M_R_KraftRoom_b56 (F : Nat) (rec48 : (Int × Int) → Option Int) (x1 : List Int) (x309 : Int) (rec56 : (Int × Int) → Option Int) (x435 : Int) (x436 : Int) : Option Int :=
  (if (decide (x436 < (x1.length : Int))) then ((idx x1 x436).bind fun x455 => (if ((x455 : Int) == x309) then M_R_KraftRoom_j57 F rec56 x436 (isub .i64 x435 1) else M_R_KraftRoom_j57 F rec56 x436 x435)) else M_R_KraftRoom_j53 F rec48 x309 x435)
def M_R_KraftRoom_l56 (F : Nat) (rec48 : (Int × Int) → Option Int) (x1 : List Int) (x309 : Int) : Nat → (Int × Int) → Option Int
  | 0 => fun _ => none
  | k + 1 => fun s => M_R_KraftRoom_b56 F rec48 x1 x309 (M_R_KraftRoom_l56 F rec48 x1 x309 k) s.1 s.2
def M_R_KraftRoom_b48 (F : Nat) (x1 : List Int) (rec48 : (Int × Int) → Option Int) (x308 : Int) (x309 : Int) : Option Int :=
  (if (decide (x309 ≤ 24)) then M_R_KraftRoom_l56 F rec48 x1 x309 F (imul .i64 2 x308, 0) else M_R_KraftRoom_j29 F x308)
def M_R_KraftRoom_l48 (F : Nat) (x1 : List Int) : Nat → (Int × Int) → Option Int
  | 0 => fun _ => none
  | k + 1 => fun s => M_R_KraftRoom_b48 F x1 (M_R_KraftRoom_l48 F x1 k) s.1 s.2
def M_R_KraftRoom (F : Nat) (x1 : List Int) : Option Int :=
  M_R_KraftRoom_l48 F x1 F (1, 1)
/-! lampwright lampwrightref.NumBits -/
def M_R_NumBits_j2 (_F : Nat) (x52 : List Int) : Option (List Int) :=
  some x52
def M_R_NumBits_b3 (F : Nat) (rec3 : (Int × List Int × Int) → Option (List Int)) (x67 : Int) (x68 : List Int) (x69 : Int) : Option (List Int) :=
  (if (decide (0 ≤ x69)) then ((idx x68 x69).bind fun _x92 => (lett (x68.set x69.toNat (iconv .i64 (irem x67 2))) fun x95 => rec3 (iquo .u64 x67 2, x95, isub .i64 x69 1))) else M_R_NumBits_j2 F x68)
def M_R_NumBits_l3 (F : Nat) : Nat → (Int × List Int × Int) → Option (List Int)
  | 0 => fun _ => none
  | k + 1 => fun s => M_R_NumBits_b3 F (M_R_NumBits_l3 F k) s.1 s.2.1 s.2.2
def M_R_NumBits (F : Nat) (x1 : Int) (x2 : Int) : Option (List Int) :=
  ((mk 17592186044416 (0 : Int) x2).bind fun x3 => M_R_NumBits_l3 F F (x1, x3, isub .i64 x2 1))
/-! lampwright lampwrightref.KraftCodes -/
def M_R_KraftCodes_j31 (_F : Nat) (x840 : List (Int × List Int)) : Option (List (Int × List Int) × Int) :=
  some (x840, 0)
def M_R_KraftCodes_j55 (_F : Nat) (rec50 : (List (Int × List Int) × Int × Int) → Option (List (Int × List Int) × Int)) (x1117 : Int) (x1528 : List (Int × List Int)) (x1529 : Int) : Option (List (Int × List Int) × Int) :=
  rec50 (x1528, x1529, iadd .i64 x1117 1)
def M_R_KraftCodes_j59 (_F : Nat) (rec58 : (List (Int × List Int) × Int × Int) → Option (List (Int × List Int) × Int)) (x1576 : Int) (x1642 : List (Int × List Int)) (x1643 : Int) : Option (List (Int × List Int) × Int) :=
  rec58 (x1642, x1643, iadd .i64 x1576 1)
def M_R_KraftCodes_b58 (F : Nat) (rec50 : (List (Int × List Int) × Int × Int) → Option (List (Int × List Int) × Int)) (x1 : List Int) (x1117 : Int) (rec58 : (List (Int × List Int) × Int × Int) → Option (List (Int × List Int) × Int)) (x1574 : List (Int × List Int)) (x1575 : Int) (x1576 : Int) : Option (List (Int × List Int) × Int) :=
  (if (decide (x1576 < (x1.length : Int))) then ((idx x1 x1576).bind fun x1644 => (if ((x1644 : Int) == x1117) then ((M_R_NumBits F x1575 x1117).bind fun x1647 => ((M_R_PackBits F x1647).bind fun x1650 => ((idx x1574 x1576).bind fun _x1653 => (lett (x1574.set x1576.toNat (x1650.1, x1650.2)) fun x1658 => M_R_KraftCodes_j59 F rec58 x1576 x1658 (iadd .u64 x1575 1))))) else M_R_KraftCodes_j59 F rec58 x1576 x1574 x1575)) else M_R_KraftCodes_j55 F rec50 x1117 x1574 x1575)
def M_R_KraftCodes_l58 (F : Nat) (rec50 : (List (Int × List Int) × Int × Int) → Option (List (Int × List Int) × Int)) (x1 : List Int) (x1117 : Int) : Nat → (List (Int × List Int) × Int × Int) → Option (List (Int × List Int) × Int)
  | 0 => fun _ => none
  | k + 1 => fun s => M_R_KraftCodes_b58 F rec50 x1 x1117 (M_R_KraftCodes_l58 F rec50 x1 x1117 k) s.1 s.2.1 s.2.2
def M_R_KraftCodes_b50 (F : Nat) (x1 : List Int) (rec50 : (List (Int × List Int) × Int × Int) → Option (List (Int × List Int) × Int)) (x1115 : List (Int × List Int)) (x1116 : Int) (x1117 : Int) : Option (List (Int × List Int) × Int) :=
  (if (decide (x1117 ≤ 24)) then M_R_KraftCodes_l58 F rec50 x1 x1117 F (x1115, imul .u64 2 x1116, 0) else M_R_KraftCodes_j31 F x1115)
def M_R_KraftCodes_l50 (F : Nat) (x1 : List Int) : Nat → (List (Int × List Int) × Int × Int) → Option (List (Int × List Int) × Int)
  | 0 => fun _ => none
  | k + 1 => fun s => M_R_KraftCodes_b50 F x1 (M_R_KraftCodes_l50 F x1 k) s.1 s.2.1 s.2.2
def M_R_KraftCodes_j2 (F : Nat) (x1 : List Int) (x10 : Int) : Option (List (Int × List Int) × Int) :=
  (if ((x10 : Int) != 0) then some (([] : List (Int × List Int)), x10) else ((mk 2199023255552 (((0 : Int), ([] : List Int)) : (Int × List Int)) (x1.length : Int)).bind fun x12 => M_R_KraftCodes_l50 F x1 F (x12, 0, 1)))
def M_R_KraftCodes_j60 (F : Nat) (x1 : List Int) (x4 : Int) (x1668 : Bool) : Option (List (Int × List Int) × Int) :=
  (if x1668 then M_R_KraftCodes_j2 F x1 8 else M_R_KraftCodes_j2 F x1 x4)
def M_R_KraftCodes (F : Nat) (x1 : List Int) : Option (List (Int × List Int) × Int) :=
  ((M_R_KraftCheck F x1).bind fun x4 => (if ((x4 : Int) == 0) then ((M_R_KraftRoom F x1).bind fun x1670 => M_R_KraftCodes_j60 F x1 x4 (decide (x1670 < 0))) else M_R_KraftCodes_j60 F x1 x4 false))
/-! lampwright lampwrightref.BitList -/
def M_R_BitList_j23 (_F : Nat) (x190 : List Int) : Option (List Int) :=
  some x190
def M_R_BitList_j42 (_F : Nat) (rec38 : (List Int × Int) → Option (List Int)) (x253 : Int) (x344 : List Int) : Option (List Int) :=
  rec38 (x344, iadd .i64 x253 1)
def M_R_BitList_j44 (F : Nat) (rec38 : (List Int × Int) → Option (List Int)) (x252 : List Int) (x253 : Int) (x357 : Int) : Option (List Int) :=
  ((app 8796093022208 x252 ([irem x357 2] : List Int)).bind fun x360 => M_R_BitList_j42 F rec38 x253 x360)
def M_R_BitList_b45 (F : Nat) (rec38 : (List Int × Int) → Option (List Int)) (x252 : List Int) (x253 : Int) (rec45 : (Int × Int) → Option (List Int)) (x365 : Int) (x366 : Int) : Option (List Int) :=
  (if (decide (x366 < (isub .i64 7 (irem x253 8)))) then rec45 (iquo .i64 x365 2, iadd .i64 x366 1) else M_R_BitList_j44 F rec38 x252 x253 x365)
def M_R_BitList_l45 (F : Nat) (rec38 : (List Int × Int) → Option (List Int)) (x252 : List Int) (x253 : Int) : Nat → (Int × Int) → Option (List Int)
  | 0 => fun _ => none
  | k + 1 => fun s => M_R_BitList_b45 F rec38 x252 x253 (M_R_BitList_l45 F rec38 x252 x253 k) s.1 s.2
def M_R_BitList_b38 (F : Nat) (x1 : Int) (x2 : List Int) (rec38 : (List Int × Int) → Option (List Int)) (x252 : List Int) (x253 : Int) : Option (List Int) :=
  (if (decide (x253 < x1)) then ((idx x2 (iquo .i64 x253 8)).bind fun x345 => M_R_BitList_l45 F rec38 x252 x253 F (iconv .i64 x345, 0)) else M_R_BitList_j23 F x252)
def M_R_BitList_l38 (F : Nat) (x1 : Int) (x2 : List Int) : Nat → (List Int × Int) → Option (List Int)
  | 0 => fun _ => none
  | k + 1 => fun s => M_R_BitList_b38 F x1 x2 (M_R_BitList_l38 F x1 x2 k) s.1 s.2
def M_R_BitList (F : Nat) (x1 : Int) (x2 : List Int) : Option (List Int) :=
  M_R_BitList_l38 F x1 x2 F (([] : List Int), 0)
/-! lampwright lampwrightref.HuffPack -/
def M_R_HuffPack_j4 (F : Nat) (x155 : (List Int × Int)) (x261 : List Int) : Option (List Int × Int × List Int × Int) :=
  ((M_R_PackBits F x261).bind fun x262 => some (x155.1, x262.1, x262.2, 0))
def M_R_HuffPack_b5 (F : Nat) (x1 : List Int) (x155 : (List Int × Int)) (x161 : (List (Int × List Int) × Int)) (rec5 : (List Int × Int) → Option (List Int × Int × List Int × Int)) (x297 : List Int) (x298 : Int) : Option (List Int × Int × List Int × Int) :=
  (if (decide (x298 < (x1.length : Int))) then ((idx x1 x298).bind fun x345 => ((idx x161.1 x345).bind fun x348 => ((M_R_BitList F x348.1 x348.2).bind fun x353 => ((app 8796093022208 x297 x353).bind fun x356 => rec5 (x356, iadd .i64 x298 1))))) else M_R_HuffPack_j4 F x155 x297)
def M_R_HuffPack_l5 (F : Nat) (x1 : List Int) (x155 : (List Int × Int)) (x161 : (List (Int × List Int) × Int)) : Nat → (List Int × Int) → Option (List Int × Int × List Int × Int)
  | 0 => fun _ => none
  | k + 1 => fun s => M_R_HuffPack_b5 F x1 x155 x161 (M_R_HuffPack_l5 F x1 x155 x161 k) s.1 s.2
def M_R_HuffPack_j2 (F : Nat) (x1 : List Int) (x153 : List Int) : Option (List Int × Int × List Int × Int) :=
  (if (decide (1000 < (x1.length : Int))) then some (([] : List Int), 0, ([] : List Int), 2) else ((M_R_HuffLengths F x153).bind fun x155 => (if ((x155.2 : Int) != 0) then some (([] : List Int), 0, ([] : List Int), x155.2) else ((M_R_HuffCost F x153 x155.1).bind fun x159 => (if (decide (8192 < x159.1)) then some (([] : List Int), 0, ([] : List Int), 8) else ((M_R_KraftCodes F x155.1).bind fun x161 => M_R_HuffPack_l5 F x1 x155 x161 F (([] : List Int), 0)))))))
def M_R_HuffPack_b6 (F : Nat) (x1 : List Int) (x4 : Int) (rec6 : (List Int × Int) → Option (List Int × Int × List Int × Int)) (x409 : List Int) (x410 : Int) : Option (List Int × Int × List Int × Int) :=
  (if (decide (x410 < (x1.length : Int))) then ((idx x1 x410).bind fun x486 => ((M_R_between F x486 0 (isub .i64 x4 1)).bind fun x489 => (if (!x489) then some (([] : List Int), 0, ([] : List Int), 3) else ((idx x1 x410).bind fun x490 => ((idx x409 x490).bind fun x493 => ((idx x409 x490).bind fun _x496 => (lett (x409.set x490.toNat (iadd .i64 x493 1)) fun x499 => rec6 (x499, iadd .i64 x410 1)))))))) else M_R_HuffPack_j2 F x1 x409)
def M_R_HuffPack_l6 (F : Nat) (x1 : List Int) (x4 : Int) : Nat → (List Int × Int) → Option (List Int × Int × List Int × Int)
  | 0 => fun _ => none
  | k + 1 => fun s => M_R_HuffPack_b6 F x1 x4 (M_R_HuffPack_l6 F x1 x4 k) s.1 s.2
def M_R_HuffPack (F : Nat) (x1 : List Int) (x4 : Int) : Option (List Int × Int × List Int × Int) :=
  ((M_R_between F x4 0 64).bind fun x8 => (if (!x8) then some (([] : List Int), 0, ([] : List Int), 3) else ((mk 17592186044416 (0 : Int) x4).bind fun x9 => M_R_HuffPack_l6 F x1 x4 F (x9, 0))))
/-! lampwright lampwrightref.BitsCheck -/
def M_R_BitsCheck_j3 (_F : Nat) : Option Int :=
  some 0
def M_R_BitsCheck_b4 (F : Nat) (x12 : List Int) (rec4 : Int → Option Int) (x57 : Int) : Option Int :=
  (if (decide (x57 < (x12.length : Int))) then ((idx x12 x57).bind fun x74 => (if ((x74 : Int) != 0) then some 1 else rec4 (iadd .i64 x57 1))) else M_R_BitsCheck_j3 F)
def M_R_BitsCheck_l4 (F : Nat) (x12 : List Int) : Nat → Int → Option Int
  | 0 => fun _ => none
  | k + 1 => fun s => M_R_BitsCheck_b4 F x12 (M_R_BitsCheck_l4 F x12 k) s
def M_R_BitsCheck_j1 (F : Nat) (x1 : Int) (x2 : List Int) (x10 : Int) : Option Int :=
  (if (((x2.length : Int) : Int) != x10) then some 1 else ((M_R_BitList F (imul .i64 8 x10) x2).bind fun x12 => M_R_BitsCheck_l4 F x12 F x1))
def M_R_BitsCheck (F : Nat) (x1 : Int) (x2 : List Int) : Option Int :=
  ((M_R_between F x1 0 8192).bind fun x8 => (if (!x8) then some 3 else (if (decide (0 < (irem x1 8))) then M_R_BitsCheck_j1 F x1 x2 (iadd .i64 (iquo .i64 x1 8) 1) else M_R_BitsCheck_j1 F x1 x2 (iquo .i64 x1 8))))
/-! lampwright lampwrightref.ReadErr -/
def M_R_ReadErr_j2 (_F : Nat) (x13 : Int) : Option Int :=
  some x13
def M_R_ReadErr_j3 (F : Nat) (x7 : Int) (x16 : Bool) : Option Int :=
  (if x16 then M_R_ReadErr_j2 F 3 else M_R_ReadErr_j2 F x7)
def M_R_ReadErr (F : Nat) (x1 : Int) (x2 : List Int) (x5 : Int) : Option Int :=
  ((M_R_BitsCheck F x1 x2).bind fun x7 => (if ((x7 : Int) == 0) then ((M_R_between F x5 0 x1).bind fun x18 => M_R_ReadErr_j3 F x7 (!x18)) else M_R_ReadErr_j3 F x7 false))
/-! lampwright lampwrightref.SameInts -/
def M_R_SameInts_j2 (_F : Nat) : Option Bool :=
  some true
def M_R_SameInts_b3 (F : Nat) (x1 : List Int) (x4 : List Int) (rec3 : Int → Option Bool) (x154 : Int) : Option Bool :=
  (if (decide (x154 < (x1.length : Int))) then ((idx x1 x154).bind fun x218 => ((idx x4 x154).bind fun x222 => (if ((x218 : Int) != x222) then some false else rec3 (iadd .i64 x154 1)))) else M_R_SameInts_j2 F)
def M_R_SameInts_l3 (F : Nat) (x1 : List Int) (x4 : List Int) : Nat → Int → Option Bool
  | 0 => fun _ => none
  | k + 1 => fun s => M_R_SameInts_b3 F x1 x4 (M_R_SameInts_l3 F x1 x4 k) s
def M_R_SameInts (F : Nat) (x1 : List Int) (x4 : List Int) : Option Bool :=
  (if (((x1.length : Int) : Int) != (x4.length : Int)) then some false else M_R_SameInts_l3 F x1 x4 F 0)
/-! lampwright lampwrightref.Starts -/
def M_R_Starts_j1 (_F : Nat) (x12 : Bool) : Option Bool :=
  some x12
def M_R_Starts (F : Nat) (x1 : List Int) (x4 : List Int) : Option Bool :=
  (if (decide ((x4.length : Int) ≤ (x1.length : Int))) then ((sub x1 0 (x4.length : Int)).bind fun x13 => ((M_R_SameInts F x13 x4).bind fun x16 => M_R_Starts_j1 F x16)) else M_R_Starts_j1 F false)
/-! lampwright lampwrightref.KraftSign -/
def M_R_KraftSign_j29 (_F : Nat) (x198 : Bool) : Option (Int × Int × Int) :=
  (if x198 then some (0, 0, 7) else some (0, 0, 5))
def M_R_KraftSign_j55 (_F : Nat) (rec46 : (Bool × Int) → Option (Int × Int × Int)) (x250 : Int) (x367 : Bool) : Option (Int × Int × Int) :=
  rec46 (x367, iadd .i64 x250 1)
def M_R_KraftSign_j56 (F : Nat) (rec46 : (Bool × Int) → Option (Int × Int × Int)) (x250 : Int) (_x370 : Bool) (x371 : Bool) : Option (Int × Int × Int) :=
  M_R_KraftSign_j55 F rec46 x250 x371
def M_R_KraftSign_j53 (F : Nat) (rec46 : (Bool × Int) → Option (Int × Int × Int)) (x8 : Int) (x20 : List Int) (x249 : Bool) (x250 : Int) (x350 : List Int) (x360 : Bool) : Option (Int × Int × Int) :=
  (if x360 then some (x250, iadd .i64 x8 (x350.length : Int), 0) else (if x249 then M_R_KraftSign_j55 F rec46 x250 true else (if (decide ((x20.length : Int) < (x350.length : Int))) then ((M_R_Starts F x350 x20).bind fun x372 => M_R_KraftSign_j56 F rec46 x250 true x372) else M_R_KraftSign_j56 F rec46 x250 false false)))
def M_R_KraftSign_b46 (F : Nat) (x8 : Int) (x10 : (List (Int × List Int) × Int)) (x20 : List Int) (rec46 : (Bool × Int) → Option (Int × Int × Int)) (x249 : Bool) (x250 : Int) : Option (Int × Int × Int) :=
  (if (decide (x250 < (x10.1.length : Int))) then ((idx x10.1 x250).bind fun x345 => ((M_R_BitList F x345.1 x345.2).bind fun x350 => (if (decide (0 < (x350.length : Int))) then ((M_R_Starts F x20 x350).bind fun x374 => M_R_KraftSign_j53 F rec46 x8 x20 x249 x250 x350 x374) else M_R_KraftSign_j53 F rec46 x8 x20 x249 x250 x350 false))) else M_R_KraftSign_j29 F x249)
def M_R_KraftSign_l46 (F : Nat) (x8 : Int) (x10 : (List (Int × List Int) × Int)) (x20 : List Int) : Nat → (Bool × Int) → Option (Int × Int × Int)
  | 0 => fun _ => none
  | k + 1 => fun s => M_R_KraftSign_b46 F x8 x10 x20 (M_R_KraftSign_l46 F x8 x10 x20 k) s.1 s.2
def M_R_KraftSign_j1 (F : Nat) (x4 : Int) (x5 : List Int) (x8 : Int) (x10 : (List (Int × List Int) × Int)) (x15 : Int) : Option (Int × Int × Int) :=
  (if ((x15 : Int) != 0) then some (0, 0, x15) else ((M_R_BitList F x4 x5).bind fun x17 => ((sub x17 x8 (x17.length : Int)).bind fun x20 => M_R_KraftSign_l46 F x8 x10 x20 F (false, 0))))
def M_R_KraftSign (F : Nat) (x1 : List Int) (x4 : Int) (x5 : List Int) (x8 : Int) : Option (Int × Int × Int) :=
  ((M_R_KraftCodes F x1).bind fun x10 => (if ((x10.2 : Int) == 0) then ((M_R_ReadErr F x4 x5 x8).bind fun x377 => M_R_KraftSign_j1 F x4 x5 x8 x10 x377) else M_R_KraftSign_j1 F x4 x5 x8 x10 x10.2))
/-! lampwright lampwrightref.HuffUnpack -/
def M_R_HuffUnpack_j5 (_F : Nat) (x4 : Int) (x60 : List Int) (x61 : Int) : Option (List Int × Int) :=
  (if (decide (x61 < x4)) then some (([] : List Int), 1) else some (x60, 0))
def M_R_HuffUnpack_b6 (F : Nat) (x1 : List Int) (x4 : Int) (x5 : List Int) (x8 : Int) (rec6 : (List Int × Int) → Option (List Int × Int)) (x76 : List Int) (x77 : Int) : Option (List Int × Int) :=
  (if (decide ((x76.length : Int) < x8)) then ((M_R_KraftSign F x1 x4 x5 x77).bind fun x90 => (if ((x90.2.2 : Int) != 0) then some (([] : List Int), x90.2.2) else ((app 8796093022208 x76 ([x90.1] : List Int)).bind fun x94 => rec6 (x94, x90.2.1)))) else M_R_HuffUnpack_j5 F x4 x76 x77)
def M_R_HuffUnpack_l6 (F : Nat) (x1 : List Int) (x4 : Int) (x5 : List Int) (x8 : Int) : Nat → (List Int × Int) → Option (List Int × Int)
  | 0 => fun _ => none
  | k + 1 => fun s => M_R_HuffUnpack_b6 F x1 x4 x5 x8 (M_R_HuffUnpack_l6 F x1 x4 x5 x8 k) s.1 s.2
def M_R_HuffUnpack_j3 (F : Nat) (x1 : List Int) (x4 : Int) (x5 : List Int) (x8 : Int) (x21 : Int) : Option (List Int × Int) :=
  (if ((x21 : Int) != 0) then some (([] : List Int), x21) else M_R_HuffUnpack_l6 F x1 x4 x5 x8 F (([] : List Int), 0))
def M_R_HuffUnpack_j7 (F : Nat) (x1 : List Int) (x4 : Int) (x5 : List Int) (x8 : Int) (x15 : Int) (x102 : Bool) : Option (List Int × Int) :=
  (if x102 then M_R_HuffUnpack_j3 F x1 x4 x5 x8 3 else M_R_HuffUnpack_j3 F x1 x4 x5 x8 x15)
def M_R_HuffUnpack_j1 (F : Nat) (x1 : List Int) (x4 : Int) (x5 : List Int) (x8 : Int) (x15 : Int) : Option (List Int × Int) :=
  (if ((x15 : Int) == 0) then ((M_R_between F x8 0 1000).bind fun x104 => M_R_HuffUnpack_j7 F x1 x4 x5 x8 x15 (!x104)) else M_R_HuffUnpack_j7 F x1 x4 x5 x8 x15 false)
def M_R_HuffUnpack (F : Nat) (x1 : List Int) (x4 : Int) (x5 : List Int) (x8 : Int) : Option (List Int × Int) :=
  ((M_R_KraftCodes F x1).bind fun x10 => (if ((x10.2 : Int) == 0) then ((M_R_BitsCheck F x4 x5).bind fun x105 => M_R_HuffUnpack_j1 F x1 x4 x5 x8 x105) else M_R_HuffUnpack_j1 F x1 x4 x5 x8 x10.2))
/-! lampwright lampwrightlaw.huffBegun -/
def M_L_huffBegun_j3 (_F : Nat) (x25 : (List Int × Int)) (x52 : Bool) : Option Bool :=
  some (x52 && ((x25.2 : Int) == 0))
def M_L_huffBegun_j2 (F : Nat) (x17 : (List Int × Int)) (x20 : (List Int × Int)) (x25 : (List Int × Int)) (x45 : Bool) : Option Bool :=
  (if ((x45 && ((x17.2 : Int) == 0)) && ((x20.2 : Int) == 1)) then ((M_R_SameInts F x25.1 ([0, 1] : List Int)).bind fun x56 => M_L_huffBegun_j3 F x25 x56) else M_L_huffBegun_j3 F x25 false)
def M_L_huffBegun_j1 (F : Nat) (x11 : (List Int × Int × List Int × Int)) (x17 : (List Int × Int)) (x20 : (List Int × Int)) (x25 : (List Int × Int)) (x38 : Bool) : Option Bool :=
  (if ((x38 && ((x11.2.1 : Int) == 3)) && ((x11.2.2.2 : Int) == 0)) then ((M_R_SameInts F x17.1 ([0, 2, 0] : List Int)).bind fun x59 => M_L_huffBegun_j2 F x17 x20 x25 x59) else M_L_huffBegun_j2 F x17 x20 x25 false)
def M_L_huffBegun (F : Nat)  : Option Bool :=
  ((M_huff_Lengths F ([5, 0, 1, 2, 1] : List Int)).bind fun x3 => ((M_huff_Cost F ([5, 0, 1, 2, 1] : List Int) x3.1).bind fun x8 => ((M_huff_Pack F ([0, 2, 0] : List Int) 3).bind fun x11 => ((M_huff_Unpack F x11.1 x11.2.1 x11.2.2.1 3).bind fun x17 => ((M_huff_Unpack F x11.1 x11.2.1 x11.2.2.1 2).bind fun x20 => ((M_huff_Lengths F ([0, 7] : List Int)).bind fun x25 => ((M_R_SameInts F x3.1 ([1, 0, 3, 2, 3] : List Int)).bind fun x30 => (if (((x30 && ((x3.2 : Int) == 0)) && ((x8.1 : Int) == 15)) && ((x8.2 : Int) == 0)) then ((M_R_SameInts F x11.1 ([1, 0, 1] : List Int)).bind fun x62 => M_L_huffBegun_j1 F x11 x17 x20 x25 x62) else M_L_huffBegun_j1 F x11 x17 x20 x25 false))))))))
/-! lampwright lampwrightref.SameBytes -/
def M_R_SameBytes_j2 (_F : Nat) : Option Bool :=
  some true
def M_R_SameBytes_b3 (F : Nat) (x1 : List Int) (x4 : List Int) (rec3 : Int → Option Bool) (x154 : Int) : Option Bool :=
  (if (decide (x154 < (x1.length : Int))) then ((idx x1 x154).bind fun x218 => ((idx x4 x154).bind fun x222 => (if ((x218 : Int) != x222) then some false else rec3 (iadd .i64 x154 1)))) else M_R_SameBytes_j2 F)
def M_R_SameBytes_l3 (F : Nat) (x1 : List Int) (x4 : List Int) : Nat → Int → Option Bool
  | 0 => fun _ => none
  | k + 1 => fun s => M_R_SameBytes_b3 F x1 x4 (M_R_SameBytes_l3 F x1 x4 k) s
def M_R_SameBytes (F : Nat) (x1 : List Int) (x4 : List Int) : Option Bool :=
  (if (((x1.length : Int) : Int) != (x4.length : Int)) then some false else M_R_SameBytes_l3 F x1 x4 F 0)
/-! lampwright lampwrightref.SameBits -/
def M_R_SameBits_j1 (_F : Nat) (x13 : Bool) : Option Bool :=
  some x13
def M_R_SameBits (F : Nat) (x1 : Int) (x2 : List Int) (x5 : Int) (x6 : List Int) : Option Bool :=
  (if ((x1 : Int) == x5) then ((M_R_SameBytes F x2 x6).bind fun x14 => M_R_SameBits_j1 F x14) else M_R_SameBits_j1 F false)
/-! lampwright lampwrightlaw.HuffTells -/
def M_L_HuffTells_j4 (_F : Nat) (x27 : (List Int × Int)) (x40 : (List Int × Int)) (x59 : Bool) : Option Bool :=
  some (x59 && ((x27.2 : Int) == x40.2))
def M_L_HuffTells_j3 (F : Nat) (x21 : (List Int × Int × List Int × Int)) (x27 : (List Int × Int)) (x34 : (List Int × Int × List Int × Int)) (x40 : (List Int × Int)) (x55 : Bool) : Option Bool :=
  (if (x55 && ((x21.2.2.2 : Int) == x34.2.2.2)) then ((M_R_SameInts F x27.1 x40.1).bind fun x61 => M_L_HuffTells_j4 F x27 x40 x61) else M_L_HuffTells_j4 F x27 x40 false)
def M_L_HuffTells_j2 (F : Nat) (x21 : (List Int × Int × List Int × Int)) (x27 : (List Int × Int)) (x34 : (List Int × Int × List Int × Int)) (x40 : (List Int × Int)) (x52 : Bool) : Option Bool :=
  (if x52 then ((M_R_SameBits F x21.2.1 x21.2.2.1 x34.2.1 x34.2.2.1).bind fun x62 => M_L_HuffTells_j3 F x21 x27 x34 x40 x62) else M_L_HuffTells_j3 F x21 x27 x34 x40 false)
def M_L_HuffTells_j1 (F : Nat) (x17 : (List Int × Int)) (x20 : (Int × Int)) (x21 : (List Int × Int × List Int × Int)) (x27 : (List Int × Int)) (x30 : (List Int × Int)) (x33 : (Int × Int)) (x34 : (List Int × Int × List Int × Int)) (x40 : (List Int × Int)) (x46 : Bool) : Option Bool :=
  (if (((x46 && ((x17.2 : Int) == x30.2)) && ((x20.1 : Int) == x33.1)) && ((x20.2 : Int) == x33.2)) then ((M_R_SameInts F x21.1 x34.1).bind fun x63 => M_L_HuffTells_j2 F x21 x27 x34 x40 x63) else M_L_HuffTells_j2 F x21 x27 x34 x40 false)
def M_L_HuffTells (F : Nat) (x1 : List Int) (x4 : List Int) (x7 : List Int) (x10 : Int) (x11 : Int) (x12 : List Int) (x15 : Int) : Option Bool :=
  ((M_huff_Lengths F x1).bind fun x17 => ((M_huff_Cost F x1 x4).bind fun x20 => ((M_huff_Pack F x7 x10).bind fun x21 => ((M_huff_Unpack F x4 x11 x12 x15).bind fun x27 => ((M_R_HuffLengths F x1).bind fun x30 => ((M_R_HuffCost F x1 x4).bind fun x33 => ((M_R_HuffPack F x7 x10).bind fun x34 => ((M_R_HuffUnpack F x4 x11 x12 x15).bind fun x40 => ((M_L_huffBegun F).bind fun x43 => (if x43 then ((M_R_SameInts F x17.1 x30.1).bind fun x64 => M_L_HuffTells_j1 F x17 x20 x21 x27 x30 x33 x34 x40 x64) else M_L_HuffTells_j1 F x17 x20 x21 x27 x30 x33 x34 x40 false))))))))))
end Go.Proofs.Ytilaklhajonenaa
