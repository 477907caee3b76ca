/- What each Go function of this seat computes, in plain terms. -/
import Derived.Test.YtilaklhajonenaaSy
namespace Go.Proofs.Ytilaklhajonenaa
open Go SX
/-! lampwright huff.often -/
def M_huff_often (_F : Nat) (x1 : Int) : Option Bool :=
  some ((decide (0 ≤ x1)) && (decide (x1 ≤ 1048576)))
/-! lampwright huff.check$1 -/
def M_huff_check_1 (F : Nat) (x1 : Int) : Option Bool :=
  ((M_huff_often F x1).bind fun x2 => some (!x2))
/-! slices.IndexFunc[[]int,int] -/
def M_slices_IndexFunc_int_int_huff_check_1_j2 (_F : Nat) : Option Int :=
  some (-1)
def M_slices_IndexFunc_int_int_huff_check_1_b3 (F : Nat) (x1 : List Int) (rec3 : Int → Option Int) (x54 : Int) : Option Int :=
  (if (decide (x54 < (x1.length : Int))) then ((idx x1 x54).bind fun x74 => ((M_huff_check_1 F x74).bind fun x77 => (if x77 then some x54 else rec3 (iadd .i64 x54 1)))) else M_slices_IndexFunc_int_int_huff_check_1_j2 F)
def M_slices_IndexFunc_int_int_huff_check_1_l3 (F : Nat) (x1 : List Int) : Nat → Int → Option Int
  | 0 => fun _ => none
  | k + 1 => fun s => M_slices_IndexFunc_int_int_huff_check_1_b3 F x1 (M_slices_IndexFunc_int_int_huff_check_1_l3 F x1 k) s
def M_slices_IndexFunc_int_int_huff_check_1 (F : Nat) (x1 : List Int) : Option Int :=
  M_slices_IndexFunc_int_int_huff_check_1_l3 F x1 F 0
/-! slices.ContainsFunc[[]int,int] -/
def M_slices_ContainsFunc_int_int_huff_check_1 (F : Nat) (x1 : List Int) : Option Bool :=
  ((M_slices_IndexFunc_int_int_huff_check_1 F x1).bind fun x4 => some (decide (0 ≤ x4)))
/-! lampwright huff.check -/
def M_huff_check (F : Nat) (x1 : List Int) : Option Int :=
  (if (decide (64 < (x1.length : Int))) then some 2 else ((M_slices_ContainsFunc_int_int_huff_check_1 F x1).bind fun x7 => (if x7 then some 3 else some 0)))
/-! lampwright kraft.Check$1 -/
def M_kraft_Check_1 (_F : Nat) (x1 : Int) : Option Bool :=
  some ((decide (x1 < 0)) || (decide (24 < x1)))
/-! slices.IndexFunc[[]int,int] -/
def M_slices_IndexFunc_int_int_kraft_Check_1_j2 (_F : Nat) : Option Int :=
  some (-1)
def M_slices_IndexFunc_int_int_kraft_Check_1_b3 (F : Nat) (x1 : List Int) (rec3 : Int → Option Int) (x54 : Int) : Option Int :=
  (if (decide (x54 < (x1.length : Int))) then ((idx x1 x54).bind fun x74 => ((M_kraft_Check_1 F x74).bind fun x77 => (if x77 then some x54 else rec3 (iadd .i64 x54 1)))) else M_slices_IndexFunc_int_int_kraft_Check_1_j2 F)
def M_slices_IndexFunc_int_int_kraft_Check_1_l3 (F : Nat) (x1 : List Int) : Nat → Int → Option Int
  | 0 => fun _ => none
  | k + 1 => fun s => M_slices_IndexFunc_int_int_kraft_Check_1_b3 F x1 (M_slices_IndexFunc_int_int_kraft_Check_1_l3 F x1 k) s
def M_slices_IndexFunc_int_int_kraft_Check_1 (F : Nat) (x1 : List Int) : Option Int :=
  M_slices_IndexFunc_int_int_kraft_Check_1_l3 F x1 F 0
/-! slices.ContainsFunc[[]int,int] -/
def M_slices_ContainsFunc_int_int_kraft_Check_1 (F : Nat) (x1 : List Int) : Option Bool :=
  ((M_slices_IndexFunc_int_int_kraft_Check_1 F x1).bind fun x4 => some (decide (0 ≤ x4)))
/-! lampwright kraft.Check -/
def M_kraft_Check (F : Nat) (x1 : List Int) : Option Int :=
  (if (decide (64 < (x1.length : Int))) then some 2 else ((M_slices_ContainsFunc_int_int_kraft_Check_1 F x1).bind fun x7 => (if x7 then some 3 else some 0)))
/-! lampwright huff.Cost -/
def M_huff_Cost_j16 (_F : Nat) (x168 : Int) : Option (Int × Int) :=
  some (x168, 0)
def M_huff_Cost_j29 (_F : Nat) (rec25 : (Int × Int) → Option (Int × Int)) (x4 : List Int) (x219 : Int) (x220 : Int) (x297 : Int) (x313 : Bool) : Option (Int × Int) :=
  (if x313 then some (0, 4) else ((idx x4 x220).bind fun x314 => rec25 (iadd .i64 x219 (imul .i64 x297 x314), iadd .i64 x220 1)))
def M_huff_Cost_b25 (F : Nat) (x1 : List Int) (x4 : List Int) (rec25 : (Int × Int) → Option (Int × Int)) (x219 : Int) (x220 : Int) : Option (Int × Int) :=
  (if (decide (x220 < (x1.length : Int))) then ((idx x1 x220).bind fun x297 => (if (decide (0 < x297)) then ((idx x4 x220).bind fun x318 => M_huff_Cost_j29 F rec25 x4 x219 x220 x297 ((x318 : Int) == 0)) else M_huff_Cost_j29 F rec25 x4 x219 x220 x297 false)) else M_huff_Cost_j16 F x219)
def M_huff_Cost_l25 (F : Nat) (x1 : List Int) (x4 : List Int) : Nat → (Int × Int) → Option (Int × Int)
  | 0 => fun _ => none
  | k + 1 => fun s => M_huff_Cost_b25 F x1 x4 (M_huff_Cost_l25 F x1 x4 k) s.1 s.2
def M_huff_Cost_j2 (F : Nat) (x1 : List Int) (x4 : List Int) (x13 : Int) : Option (Int × Int) :=
  (if ((x13 : Int) != 0) then some (0, x13) else M_huff_Cost_l25 F x1 x4 F (0, 0))
def M_huff_Cost_j1 (F : Nat) (x1 : List Int) (x4 : List Int) (x10 : Int) : Option (Int × Int) :=
  (if ((x10 : Int) == 0) then ((M_huff_check F x1).bind fun x323 => M_huff_Cost_j2 F x1 x4 x323) else M_huff_Cost_j2 F x1 x4 x10)
def M_huff_Cost (F : Nat) (x1 : List Int) (x4 : List Int) : Option (Int × Int) :=
  ((M_kraft_Check F x4).bind fun x7 => (if (((x7 : Int) == 0) && (((x1.length : Int) : Int) != (x4.length : Int))) then M_huff_Cost_j1 F x1 x4 1 else M_huff_Cost_j1 F x1 x4 x7))
/-! cmp.Or[int] -/
def M_cmp_Or_int_j2 (_F : Nat) : Option Int :=
  some 0
def M_cmp_Or_int_b3 (F : Nat) (x1 : List Int) (rec3 : Int → Option Int) (x46 : Int) : Option Int :=
  (if (decide (x46 < (x1.length : Int))) then ((idx x1 x46).bind fun x63 => (if ((x63 : Int) != 0) then some x63 else rec3 (iadd .i64 x46 1))) else M_cmp_Or_int_j2 F)
def M_cmp_Or_int_l3 (F : Nat) (x1 : List Int) : Nat → Int → Option Int
  | 0 => fun _ => none
  | k + 1 => fun s => M_cmp_Or_int_b3 F x1 (M_cmp_Or_int_l3 F x1 k) s
def M_cmp_Or_int (F : Nat) (x1 : List Int) : Option Int :=
  M_cmp_Or_int_l3 F x1 F 0
/-! cmp.isNaN[int] -/
def M_cmp_isNaN_int (_F : Nat) (x1 : Int) : Option Bool :=
  some ((x1 : Int) != x1)
/-! cmp.Compare[int] -/
def M_cmp_Compare_int (F : Nat) (x1 : Int) (x2 : Int) : Option Int :=
  ((M_cmp_isNaN_int F x1).bind fun x3 => ((M_cmp_isNaN_int F x2).bind fun x4 => (if x3 then (if x4 then some 0 else some (-1)) else (if x4 then some 1 else (if (decide (x1 < x2)) then some (-1) else (if (decide (x2 < x1)) then some 1 else some 0))))))
/-! lampwright huff.order -/
def M_huff_order (F : Nat) (x1 : List Int) (x4 : Int) (x5 : List Int) (x8 : Int) : Option Int :=
  ((idx x1 0).bind fun x24 => ((idx x5 0).bind fun x28 => ((M_cmp_Compare_int F x4 x8).bind fun x32 => ((M_cmp_Compare_int F x24 x28).bind fun x33 => ((M_cmp_Or_int F ([x32, x33] : List Int)).bind fun x36 => some x36)))))
/-! slices.BinarySearchFunc[lampwright huff.heap,lampwright huff.group,lampwright huff.group] -/
def M_slices_BinarySearchFunc_huff_heap_huff_group_huff_group_huff_order_j3 (_F : Nat) (x60 : Int) (x68 : Bool) : Option (Int × Bool) :=
  some (x60, x68)
def M_slices_BinarySearchFunc_huff_heap_huff_group_huff_group_huff_order_j2 (F : Nat) (x1 : List (List Int × Int)) (x4 : List Int) (x7 : Int) (x60 : Int) : Option (Int × Bool) :=
  (if (decide (x60 < (x1.length : Int))) then ((idx x1 x60).bind fun x70 => ((M_huff_order F x70.1 x70.2 x4 x7).bind fun x75 => M_slices_BinarySearchFunc_huff_heap_huff_group_huff_group_huff_order_j3 F x60 ((x75 : Int) == 0))) else M_slices_BinarySearchFunc_huff_heap_huff_group_huff_group_huff_order_j3 F x60 false)
def M_slices_BinarySearchFunc_huff_heap_huff_group_huff_group_huff_order_b4 (F : Nat) (x1 : List (List Int × Int)) (x4 : List Int) (x7 : Int) (rec4 : (Int × Int) → Option (Int × Bool)) (x92 : Int) (x93 : Int) : Option (Int × Bool) :=
  (if (decide (x92 < x93)) then (lett (iconv .i64 (ishr .u64 (iconv .u64 (iadd .i64 x92 x93)) 1)) fun x112 => ((idx x1 x112).bind fun x119 => ((M_huff_order F x119.1 x119.2 x4 x7).bind fun x124 => (if (decide (x124 < 0)) then rec4 (iadd .i64 x112 1, x93) else rec4 (x92, x112))))) else M_slices_BinarySearchFunc_huff_heap_huff_group_huff_group_huff_order_j2 F x1 x4 x7 x92)
def M_slices_BinarySearchFunc_huff_heap_huff_group_huff_group_huff_order_l4 (F : Nat) (x1 : List (List Int × Int)) (x4 : List Int) (x7 : Int) : Nat → (Int × Int) → Option (Int × Bool)
  | 0 => fun _ => none
  | k + 1 => fun s => M_slices_BinarySearchFunc_huff_heap_huff_group_huff_group_huff_order_b4 F x1 x4 x7 (M_slices_BinarySearchFunc_huff_heap_huff_group_huff_group_huff_order_l4 F x1 x4 x7 k) s.1 s.2
def M_slices_BinarySearchFunc_huff_heap_huff_group_huff_group_huff_order (F : Nat) (x1 : List (List Int × Int)) (x4 : List Int) (x7 : Int) : Option (Int × Bool) :=
  M_slices_BinarySearchFunc_huff_heap_huff_group_huff_group_huff_order_l4 F x1 x4 x7 F (0, (x1.length : Int))
/-! slices.Insert[lampwright huff.heap,lampwright huff.group] -/

/-! (*lampwright huff.heap).push -/
def M_push (F : Nat) (x1 : List (List Int × Int)) (x2 : List Int) (x3 : Int) : Option Int :=
  (M_slices_BinarySearchFunc_huff_heap_huff_group_huff_group_huff_order F x1 x2 x3).bind fun p => if 0 ≤ p.1 ∧ p.1 ≤ (x1.length : Int) ∧ x1.length < 100000 then some p.1 else none
/-! (*lampwright huff.heap).pop -/

/-! slices.Grow[[]int,int] -/
def M_slices_Grow_int_int_j1 (_F : Nat) (x15 : List Int) : Option (List Int) :=
  some x15
def M_slices_Grow_int_int (F : Nat) (x1 : List Int) (c3 : Nat) (x4 : Int) : Option (List Int) :=
  (if (decide (x4 < 0)) then none else (lett (isub .i64 x4 (isub .i64 (c3 : Int) (x1.length : Int))) fun x16 => (if (decide (0 < x16)) then ((sub x1 0 (c3 : Int)).bind fun x17 => ((appz 8796093022208 x17 (0 : Int) x16).bind fun x18 => ((sub x18 0 (x1.length : Int)).bind fun x21 => M_slices_Grow_int_int_j1 F x21))) else M_slices_Grow_int_int_j1 F x1)))
/-! slices.Concat[[]int,int] -/
def M_slices_Concat_int_int_j4 (_F : Nat) (x102 : List Int) : Option (List Int) :=
  some x102
def M_slices_Concat_int_int_b5 (F : Nat) (x1 : List (List Int)) (rec5 : (List Int × Int) → Option (List Int)) (x121 : List Int) (x122 : Int) : Option (List Int) :=
  (if (decide (x122 < (x1.length : Int))) then ((idx x1 x122).bind fun x148 => ((app 8796093022208 x121 x148).bind fun x152 => rec5 (x152, iadd .i64 x122 1))) else M_slices_Concat_int_int_j4 F x121)
def M_slices_Concat_int_int_l5 (F : Nat) (x1 : List (List Int)) : Nat → (List Int × Int) → Option (List Int)
  | 0 => fun _ => none
  | k + 1 => fun s => M_slices_Concat_int_int_b5 F x1 (M_slices_Concat_int_int_l5 F x1 k) s.1 s.2
def M_slices_Concat_int_int_j2 (F : Nat) (x1 : List (List Int)) (x43 : Int) : Option (List Int) :=
  ((M_slices_Grow_int_int F ([] : List Int) 0 x43).bind fun x44 => M_slices_Concat_int_int_l5 F x1 F (x44, 0))
def M_slices_Concat_int_int_b6 (F : Nat) (x1 : List (List Int)) (rec6 : (Int × Int) → Option (List Int)) (x168 : Int) (x169 : Int) : Option (List Int) :=
  (if (decide (x169 < (x1.length : Int))) then ((idx x1 x169).bind fun x189 => (if (decide ((iadd .i64 x168 (x189.length : Int)) < 0)) then none else rec6 (iadd .i64 x168 (x189.length : Int), iadd .i64 x169 1))) else M_slices_Concat_int_int_j2 F x1 x168)
def M_slices_Concat_int_int_l6 (F : Nat) (x1 : List (List Int)) : Nat → (Int × Int) → Option (List Int)
  | 0 => fun _ => none
  | k + 1 => fun s => M_slices_Concat_int_int_b6 F x1 (M_slices_Concat_int_int_l6 F x1 k) s.1 s.2
def M_slices_Concat_int_int (F : Nat) (x1 : List (List Int)) : Option (List Int) :=
  M_slices_Concat_int_int_l6 F x1 F (0, 0)
/-! slices.Sort[[]int,int] -/
def M_slices_Sort_int_int (_F : Nat) (x1 : List Int) : Option (List Int) :=
  if x1.length < 4611686018427387904 then some (srt x1) else none
/-! lampwright huff.Lengths$1 -/
def M_huff_Lengths_1 (_F : Nat) (x1 : Int) : Option Bool :=
  some (decide (24 < x1))
/-! slices.IndexFunc[[]int,int] -/
def M_slices_IndexFunc_int_int_huff_Lengths_1_j2 (_F : Nat) : Option Int :=
  some (-1)
def M_slices_IndexFunc_int_int_huff_Lengths_1_b3 (F : Nat) (x1 : List Int) (rec3 : Int → Option Int) (x54 : Int) : Option Int :=
  (if (decide (x54 < (x1.length : Int))) then ((idx x1 x54).bind fun x74 => ((M_huff_Lengths_1 F x74).bind fun x77 => (if x77 then some x54 else rec3 (iadd .i64 x54 1)))) else M_slices_IndexFunc_int_int_huff_Lengths_1_j2 F)
def M_slices_IndexFunc_int_int_huff_Lengths_1_l3 (F : Nat) (x1 : List Int) : Nat → Int → Option Int
  | 0 => fun _ => none
  | k + 1 => fun s => M_slices_IndexFunc_int_int_huff_Lengths_1_b3 F x1 (M_slices_IndexFunc_int_int_huff_Lengths_1_l3 F x1 k) s
def M_slices_IndexFunc_int_int_huff_Lengths_1 (F : Nat) (x1 : List Int) : Option Int :=
  M_slices_IndexFunc_int_int_huff_Lengths_1_l3 F x1 F 0
/-! slices.ContainsFunc[[]int,int] -/
def M_slices_ContainsFunc_int_int_huff_Lengths_1 (F : Nat) (x1 : List Int) : Option Bool :=
  ((M_slices_IndexFunc_int_int_huff_Lengths_1 F x1).bind fun x4 => some (decide (0 ≤ x4)))
/-! lampwright huff.Lengths -/
def M_huff_Lengths_j20 (F : Nat) (x760 : List Int) : Option (List Int × Int) :=
  ((M_slices_ContainsFunc_int_int_huff_Lengths_1 F x760).bind fun x763 => (if x763 then some (([] : List Int), 8) else some (x760, 0)))
def M_huff_Lengths_j32 (F : Nat) (rec29 : (List Int × List (List Int × Int)) → Option (List Int × Int)) (x1203 : ((List Int × Int) × List (List Int × Int))) (x1207 : ((List Int × Int) × List (List Int × Int))) (x1233 : List Int) (x1316 : List Int) : Option (List Int × Int) :=
  ((M_push F x1207.2 x1233 (iadd .i64 x1203.1.2 x1207.1.2)).bind fun x1317 => rec29 (x1316, (insK x1317 x1207.2 (x1233, iadd .i64 x1203.1.2 x1207.1.2))))
def M_huff_Lengths_b33 (F : Nat) (rec29 : (List Int × List (List Int × Int)) → Option (List Int × Int)) (x1203 : ((List Int × Int) × List (List Int × Int))) (x1207 : ((List Int × Int) × List (List Int × Int))) (x1233 : List Int) (rec33 : (List Int × Int) → Option (List Int × Int)) (x1345 : List Int) (x1346 : Int) : Option (List Int × Int) :=
  (if (decide (x1346 < (x1233.length : Int))) then ((idx x1233 x1346).bind fun x1387 => ((idx x1345 x1387).bind fun x1390 => ((idx x1345 x1387).bind fun _x1393 => (lett (x1345.set x1387.toNat (iadd .i64 x1390 1)) fun x1396 => rec33 (x1396, iadd .i64 x1346 1))))) else M_huff_Lengths_j32 F rec29 x1203 x1207 x1233 x1345)
def M_huff_Lengths_l33 (F : Nat) (rec29 : (List Int × List (List Int × Int)) → Option (List Int × Int)) (x1203 : ((List Int × Int) × List (List Int × Int))) (x1207 : ((List Int × Int) × List (List Int × Int))) (x1233 : List Int) : Nat → (List Int × Int) → Option (List Int × Int)
  | 0 => fun _ => none
  | k + 1 => fun s => M_huff_Lengths_b33 F rec29 x1203 x1207 x1233 (M_huff_Lengths_l33 F rec29 x1203 x1207 x1233 k) s.1 s.2
def M_huff_Lengths_j30 (F : Nat) (rec29 : (List Int × List (List Int × Int)) → Option (List Int × Int)) (x980 : List Int) (x1203 : ((List Int × Int) × List (List Int × Int))) (x1207 : ((List Int × Int) × List (List Int × Int))) (x1232 : List Int) : Option (List Int × Int) :=
  ((M_slices_Sort_int_int F x1232).bind fun x1233 => (chk (decide (x1233.length = x1232.length)) (M_huff_Lengths_l33 F rec29 x1203 x1207 x1233 F (x980, 0))))
def M_huff_Lengths_b29 (F : Nat) (rec29 : (List Int × List (List Int × Int)) → Option (List Int × Int)) (x980 : List Int) (x985 : List (List Int × Int)) : Option (List Int × Int) :=
  (if (decide (1 < (x985.length : Int))) then ((popM x985).bind fun x1203 => ((popM x1203.2).bind fun x1207 => ((M_slices_Concat_int_int F ([x1203.1.1, x1207.1.1] : List (List Int))).bind fun x1402 => M_huff_Lengths_j30 F rec29 x980 x1203 x1207 x1402))) else M_huff_Lengths_j20 F x980)
def M_huff_Lengths_l29 (F : Nat) : Nat → (List Int × List (List Int × Int)) → Option (List Int × Int)
  | 0 => fun _ => none
  | k + 1 => fun s => M_huff_Lengths_b29 F (M_huff_Lengths_l29 F k) s.1 s.2
def M_huff_Lengths_j6 (F : Nat) (x88 : List (List Int × Int)) (x107 : List Int) : Option (List Int × Int) :=
  M_huff_Lengths_l29 F F (x107, x88)
def M_huff_Lengths_j5 (F : Nat) (x1 : List Int) (x88 : List (List Int × Int)) : Option (List Int × Int) :=
  ((mk 17592186044416 (0 : Int) (x1.length : Int)).bind fun x89 => (if (((x88.length : Int) : Int) == 1) then ((idx x88 0).bind fun x1417 => ((idx x1417.1 0).bind fun x1422 => ((idx x89 x1422).bind fun _x1425 => (lett (x89.set x1422.toNat 1) fun x1428 => M_huff_Lengths_j6 F x88 x1428)))) else M_huff_Lengths_j6 F x88 x89))
def M_huff_Lengths_j37 (_F : Nat) (rec36 : (Int × List (List Int × Int)) → Option (List Int × Int)) (x1455 : Int) (x1498 : List (List Int × Int)) : Option (List Int × Int) :=
  rec36 (iadd .i64 x1455 1, x1498)
def M_huff_Lengths_b36 (F : Nat) (x1 : List Int) (rec36 : (Int × List (List Int × Int)) → Option (List Int × Int)) (x1455 : Int) (x1460 : List (List Int × Int)) : Option (List Int × Int) :=
  (if (decide (x1455 < (x1.length : Int))) then ((idx x1 x1455).bind fun x1499 => (if (decide (0 < x1499)) then ((M_push F x1460 ([x1455] : List Int) x1499).bind fun x1504 => M_huff_Lengths_j37 F rec36 x1455 (insK x1504 x1460 (([x1455] : List Int), x1499))) else M_huff_Lengths_j37 F rec36 x1455 x1460)) else M_huff_Lengths_j5 F x1 x1460)
def M_huff_Lengths_l36 (F : Nat) (x1 : List Int) : Nat → (Int × List (List Int × Int)) → Option (List Int × Int)
  | 0 => fun _ => none
  | k + 1 => fun s => M_huff_Lengths_b36 F x1 (M_huff_Lengths_l36 F x1 k) s.1 s.2
def M_huff_Lengths (F : Nat) (x1 : List Int) : Option (List Int × Int) :=
  ((M_huff_check F x1).bind fun x6 => (if ((x6 : Int) != 0) then some (([] : List Int), x6) else M_huff_Lengths_l36 F x1 F (0, ([] : List (List Int × Int)))))
/-! lampwright huff.counted -/
def M_huff_counted_j2 (_F : Nat) (x1 : List Int) (x116 : List Int) : Option (List Int × Int) :=
  (if (decide (1000 < (x1.length : Int))) then some (([] : List Int), 2) else some (x116, 0))
def M_huff_counted_b3 (F : Nat) (x1 : List Int) (x4 : Int) (rec3 : (List Int × Int) → Option (List Int × Int)) (x153 : List Int) (x154 : Int) : Option (List Int × Int) :=
  (if (decide (x154 < (x1.length : Int))) then ((idx x1 x154).bind fun x207 => (if ((decide (x207 < 0)) || (decide (x4 ≤ x207))) then some (([] : List Int), 3) else ((idx x153 x207).bind fun x213 => ((idx x153 x207).bind fun _x216 => (lett (x153.set x207.toNat (iadd .i64 x213 1)) fun x219 => rec3 (x219, iadd .i64 x154 1)))))) else M_huff_counted_j2 F x1 x153)
def M_huff_counted_l3 (F : Nat) (x1 : List Int) (x4 : Int) : Nat → (List Int × Int) → Option (List Int × Int)
  | 0 => fun _ => none
  | k + 1 => fun s => M_huff_counted_b3 F x1 x4 (M_huff_counted_l3 F x1 x4 k) s.1 s.2
def M_huff_counted (F : Nat) (x1 : List Int) (x4 : Int) : Option (List Int × Int) :=
  (if ((decide (x4 < 0)) || (decide (64 < x4))) then some (([] : List Int), 3) else ((mk 17592186044416 (0 : Int) x4).bind fun x8 => M_huff_counted_l3 F x1 x4 F (x8, 0)))
/-! lampwright kraft.room -/
def M_kraft_room_j5 (_F : Nat) (x52 : Int) : Option Int :=
  some x52
def M_kraft_room_j9 (_F : Nat) (rec8 : (Int × Int) → Option Int) (x69 : Int) (x93 : Int) : Option Int :=
  rec8 (x93, iadd .i64 x69 1)
def M_kraft_room_b8 (F : Nat) (x1 : List Int) (rec8 : (Int × Int) → Option Int) (x68 : Int) (x69 : Int) : Option Int :=
  (if (decide (x69 < (x1.length : Int))) then ((idx x1 x69).bind fun x94 => (if (decide (0 < x94)) then (chk (decide (0 ≤ (isub .i64 24 x94))) ((lett (isub .i64 x68 (ishl .i64 1 (isub .i64 24 x94))) fun x98 => M_kraft_room_j9 F rec8 x69 x98))) else M_kraft_room_j9 F rec8 x69 x68)) else M_kraft_room_j5 F x68)
def M_kraft_room_l8 (F : Nat) (x1 : List Int) : Nat → (Int × Int) → Option Int
  | 0 => fun _ => none
  | k + 1 => fun s => M_kraft_room_b8 F x1 (M_kraft_room_l8 F x1 k) s.1 s.2
def M_kraft_room (F : Nat) (x1 : List Int) : Option Int :=
  M_kraft_room_l8 F x1 F (16777216, 0)
/-! lampwright kraft.used$1 -/
def M_kraft_used_1 (F : Nat) (x1 : Int) (x2 : Int) (x4 : List Int) : Option Int :=
  ((idx x4 x1).bind fun x20 => ((idx x4 x2).bind fun x24 => ((M_cmp_Compare_int F x20 x24).bind fun x28 => ((M_cmp_Compare_int F x1 x2).bind fun x29 => ((M_cmp_Or_int F ([x28, x29] : List Int)).bind fun x32 => some x32)))))
/-! slices.SortFunc[[]int,int] -/
def M_slices_SortFunc_int_int_kraft_used_1 (F : Nat) (x1 : List Int) (x5 : List Int) : Option (List Int) :=
  sortF (fun a b => M_kraft_used_1 F a b x5) x1
/-! lampwright kraft.used -/
def M_kraft_used_j5 (F : Nat) (x1 : List Int) (x81 : List Int) : Option (List Int) :=
  ((M_slices_SortFunc_int_int_kraft_used_1 F x81 x1).bind fun x82 => (chk (decide (x82.length = x81.length)) (some x82)))
def M_kraft_used_j9 (_F : Nat) (rec8 : (List Int × Int) → Option (List Int)) (x110 : Int) (x147 : List Int) : Option (List Int) :=
  rec8 (x147, iadd .i64 x110 1)
def M_kraft_used_b8 (F : Nat) (x1 : List Int) (rec8 : (List Int × Int) → Option (List Int)) (x109 : List Int) (x110 : Int) : Option (List Int) :=
  (if (decide (x110 < (x1.length : Int))) then ((idx x1 x110).bind fun x148 => (if (decide (0 < x148)) then ((app 8796093022208 x109 ([x110] : List Int)).bind fun x153 => M_kraft_used_j9 F rec8 x110 x153) else M_kraft_used_j9 F rec8 x110 x109)) else M_kraft_used_j5 F x1 x109)
def M_kraft_used_l8 (F : Nat) (x1 : List Int) : Nat → (List Int × Int) → Option (List Int)
  | 0 => fun _ => none
  | k + 1 => fun s => M_kraft_used_b8 F x1 (M_kraft_used_l8 F x1 k) s.1 s.2
def M_kraft_used (F : Nat) (x1 : List Int) : Option (List Int) :=
  M_kraft_used_l8 F x1 F (([] : List Int), 0)
/-! slices.Clone[[]byte,byte] -/
def M_slices_Clone_byte_byte (_F : Nat) (x1 : List Int) : Option (List Int) :=
  ((app 70368744177664 ([] : List Int) x1).bind fun x8 => some x8)
/-! lampwright bits.own -/
def M_bits_own (F : Nat) (x1 : Int) (x2 : List Int) : Option (Int × List Int) :=
  ((M_slices_Clone_byte_byte F x2).bind fun x10 => some (x1, x10))
/-! (*lampwright bits.writer).bit -/
def M_bits_writer_bit_j1 (_F : Nat) (x2 : Int) (x6 : Int) (x15 : List Int) : Option (Int × List Int) :=
  ((idx x15 (iquo .i64 x2 8)).bind fun x30 => (chk (decide (0 ≤ (irem x2 8))) (((idx x15 (iquo .i64 x2 8)).bind fun _x36 => (lett (x15.set (iquo .i64 x2 8).toNat (ior .u8 x30 (ishr .u8 (iconv .u8 (ishl .u64 x6 7)) (irem x2 8)))) fun x41 => some (iadd .i64 x2 1, x41))))))
def M_bits_writer_bit (F : Nat) (x2 : Int) (x3 : List Int) (x6 : Int) : Option (Int × List Int) :=
  (if (((irem x2 8) : Int) == 0) then ((app 70368744177664 x3 ([0] : List Int)).bind fun x46 => M_bits_writer_bit_j1 F x2 x6 x46) else M_bits_writer_bit_j1 F x2 x6 x3)
/-! (*lampwright bits.writer).number -/
def M_bits_writer_number_b1 (F : Nat) (x6 : Int) (rec1 : (Int × Int × List Int) → Option (Int × List Int)) (x18 : Int) (x19 : Int) (x22 : List Int) : Option (Int × List Int) :=
  (if (decide (0 ≤ x18)) then (chk (decide (0 ≤ x18)) (((M_bits_writer_bit F x19 x22 (iand .u64 (ishr .u64 x6 x18) 1)).bind fun x40 => rec1 (isub .i64 x18 1, x40.1, x40.2)))) else some (x19, x22))
def M_bits_writer_number_l1 (F : Nat) (x6 : Int) : Nat → (Int × Int × List Int) → Option (Int × List Int)
  | 0 => fun _ => none
  | k + 1 => fun s => M_bits_writer_number_b1 F x6 (M_bits_writer_number_l1 F x6 k) s.1 s.2.1 s.2.2
def M_bits_writer_number (F : Nat) (x2 : Int) (x3 : List Int) (x6 : Int) (x7 : Int) : Option (Int × List Int) :=
  M_bits_writer_number_l1 F x6 F (isub .i64 x7 1, x2, x3)
/-! lampwright bits.Add -/
def M_bits_Add (F : Nat) (x1 : Int) (x2 : List Int) (x5 : Int) (x6 : Int) : Option (Int × List Int) :=
  ((M_bits_own F x1 x2).bind fun x9 => ((M_bits_writer_number F x9.1 x9.2 x5 x6).bind fun x13 => some (x13.1, x13.2)))
/-! lampwright kraft.Codes -/
def M_kraft_Codes_j4 (_F : Nat) (x331 : List (Int × List Int)) : Option (List (Int × List Int) × Int) :=
  some (x331, 0)
def M_kraft_Codes_b5 (F : Nat) (x1 : List Int) (x332 : List Int) (rec5 : (List (Int × List Int) × Int × Int × Int) → Option (List (Int × List Int) × Int)) (x438 : List (Int × List Int)) (x439 : Int) (x440 : Int) (x441 : Int) : Option (List (Int × List Int) × Int) :=
  (if (decide (x441 < (x332.length : Int))) then ((idx x332 x441).bind fun x596 => ((idx x1 x596).bind fun x599 => (chk (decide (0 ≤ (isub .i64 x599 x440))) (((idx x1 x596).bind fun x624 => ((idx x1 x596).bind fun x628 => ((idx x438 x596).bind fun _x632 => ((M_bits_Add F 0 ([] : List Int) (ishl .u64 x439 (isub .i64 x599 x440)) x624).bind fun x638 => (lett (x438.set x596.toNat (x638.1, x638.2)) fun x641 => (lett (iadd .u64 (ishl .u64 x439 (isub .i64 x599 x440)) 1) fun x645 => rec5 (x641, x645, x628, iadd .i64 x441 1))))))))))) else M_kraft_Codes_j4 F x438)
def M_kraft_Codes_l5 (F : Nat) (x1 : List Int) (x332 : List Int) : Nat → (List (Int × List Int) × Int × Int × Int) → Option (List (Int × List Int) × Int)
  | 0 => fun _ => none
  | k + 1 => fun s => M_kraft_Codes_b5 F x1 x332 (M_kraft_Codes_l5 F x1 x332 k) s.1 s.2.1 s.2.2.1 s.2.2.2
def M_kraft_Codes_j2 (F : Nat) (x1 : List Int) (x10 : Int) : Option (List (Int × List Int) × Int) :=
  (if ((x10 : Int) != 0) then some (([] : List (Int × List Int)), x10) else ((mk 2199023255552 (((0 : Int), ([] : List Int)) : (Int × List Int)) (x1.length : Int)).bind fun x12 => ((M_kraft_used F x1).bind fun x332 => M_kraft_Codes_l5 F x1 x332 F (x12, 0, 0, 0))))
def M_kraft_Codes_j6 (F : Nat) (x1 : List Int) (x4 : Int) (x650 : Bool) : Option (List (Int × List Int) × Int) :=
  (if x650 then M_kraft_Codes_j2 F x1 8 else M_kraft_Codes_j2 F x1 x4)
def M_kraft_Codes (F : Nat) (x1 : List Int) : Option (List (Int × List Int) × Int) :=
  ((M_kraft_Check F x1).bind fun x4 => (if ((x4 : Int) == 0) then ((M_kraft_room F x1).bind fun x652 => M_kraft_Codes_j6 F x1 x4 (decide (x652 < 0))) else M_kraft_Codes_j6 F x1 x4 false))
/-! lampwright bits.places -/
def M_bits_places (_F : Nat) (_x1 : Int) (_x2 : List Int) (_x5 : Int) (_x6 : Int) : Option Unit :=
  some ()
/-! lampwright bits.At -/
def M_bits_At (_F : Nat) (_x1 : Int) (x2 : List Int) (x5 : Int) : Option Int :=
  ((idx x2 (iquo .i64 x5 8)).bind fun x7 => (chk (decide (0 ≤ (isub .i64 7 (irem x5 8)))) ((lett (iand .u64 (iconv .u64 (ishr .u8 x7 (isub .i64 7 (irem x5 8)))) 1) fun x11 => some x11))))
/-! lampwright bits.places$1 -/
def M_bits_places_1_b1 {σ τ : Type} (F : Nat) (yy : σ → Int → Option (σ ⊕ τ)) (x4 : Int) (x6 : Int) (x7 : List Int) (rec1 : (Int × σ) → Option (σ ⊕ τ)) (x22 : Int) (x23 : σ) : Option (σ ⊕ τ) :=
  (if (decide (x22 < x4)) then ((M_bits_At F x6 x7 x22).bind fun x44 => ((yy x23 x44).bind (Sum.elim (fun x45 => rec1 (iadd .i64 x22 1, x45)) (fun x46 => some (.inr x46))))) else some (.inl x23))
def M_bits_places_1_l1 {σ τ : Type} (F : Nat) (yy : σ → Int → Option (σ ⊕ τ)) (x4 : Int) (x6 : Int) (x7 : List Int) : Nat → (Int × σ) → Option (σ ⊕ τ)
  | 0 => fun _ => none
  | k + 1 => fun s => M_bits_places_1_b1 F yy x4 x6 x7 (M_bits_places_1_l1 F yy x4 x6 x7 k) s.1 s.2
def M_bits_places_1 {σ τ : Type} (F : Nat) (yy : σ → Int → Option (σ ⊕ τ)) (x2 : Int) (x4 : Int) (x6 : Int) (x7 : List Int) (s0 : σ) : Option (σ ⊕ τ) :=
  M_bits_places_1_l1 F yy x4 x6 x7 F (x2, s0)
/-! lampwright bits.Both -/
def M_bits_Both_r2 (F : Nat) (x45 : Int) (x48 : List Int) (x53 : Int) : Option ((Int × List Int) ⊕ Empty) :=
  ((M_bits_writer_bit F x45 x48 x53).bind fun x54 => some (.inl (x54.1, x54.2)))
def M_bits_Both (F : Nat) (x1 : Int) (x2 : List Int) (x5 : Int) (x6 : List Int) : Option (Int × List Int) :=
  ((M_bits_own F x1 x2).bind fun x12 => ((M_bits_places F x5 x6 0 x5).bind fun _x37 => ((M_bits_places_1 F (fun ((x45, x48) : (Int × List Int)) (x53 : Int) => M_bits_Both_r2 F x45 x48 x53) 0 x5 x5 x6 (x12.1, x12.2)).bind (Sum.elim (fun ((x45, x48) : (Int × List Int)) => some (x45, x48)) (fun t => t.elim)))))
/-! lampwright huff.Pack -/
def M_huff_Pack_j2 (_F : Nat) (x10 : (List Int × Int)) (x259 : Int) (x262 : List Int) : Option (List Int × Int × List Int × Int) :=
  some (x10.1, x259, x262, 0)
def M_huff_Pack_b3 (F : Nat) (x1 : List Int) (x10 : (List Int × Int)) (x14 : (List (Int × List Int) × Int)) (rec3 : (Int × Int × List Int) → Option (List Int × Int × List Int × Int)) (x342 : Int) (x343 : Int) (x346 : List Int) : Option (List Int × Int × List Int × Int) :=
  (if (decide (x342 < (x1.length : Int))) then ((idx x1 x342).bind fun x465 => ((idx x14.1 x465).bind fun x487 => (if (decide (8192 < (iadd .i64 x343 x487.1))) then some (([] : List Int), 0, ([] : List Int), 8) else ((idx x14.1 x465).bind fun x493 => ((M_bits_Both F x343 x346 x493.1 x493.2).bind fun x499 => rec3 (iadd .i64 x342 1, x499.1, x499.2)))))) else M_huff_Pack_j2 F x10 x343 x346)
def M_huff_Pack_l3 (F : Nat) (x1 : List Int) (x10 : (List Int × Int)) (x14 : (List (Int × List Int) × Int)) : Nat → (Int × Int × List Int) → Option (List Int × Int × List Int × Int)
  | 0 => fun _ => none
  | k + 1 => fun s => M_huff_Pack_b3 F x1 x10 x14 (M_huff_Pack_l3 F x1 x10 x14 k) s.1 s.2.1 s.2.2
def M_huff_Pack (F : Nat) (x1 : List Int) (x4 : Int) : Option (List Int × Int × List Int × Int) :=
  ((M_huff_counted F x1 x4).bind fun x6 => (if ((x6.2 : Int) != 0) then some (([] : List Int), 0, ([] : List Int), x6.2) else ((M_huff_Lengths F x6.1).bind fun x10 => (if ((x10.2 : Int) != 0) then some (([] : List Int), 0, ([] : List Int), x10.2) else ((M_kraft_Codes F x10.1).bind fun x14 => M_huff_Pack_l3 F x1 x10 x14 F (0, 0, ([] : List Int)))))))
/-! lampwright bits.Check -/
def M_bits_Check_j2 (_F : Nat) (x36 : Bool) : Option Int :=
  (if x36 then some 1 else some 0)
def M_bits_Check (F : Nat) (x1 : Int) (x2 : List Int) : Option Int :=
  (if ((decide (x1 < 0)) || (decide (8192 < x1))) then some 3 else (if (((x2.length : Int) : Int) != (iquo .i64 (iadd .i64 x1 7) 8)) then some 1 else (if (((irem x1 8) : Int) != 0) then ((idx x2 (isub .i64 (x2.length : Int) 1)).bind fun x39 => (chk (decide (0 ≤ (irem x1 8))) (M_bits_Check_j2 F (((ishl .u8 x39 (irem x1 8)) : Int) != 0)))) else M_bits_Check_j2 F false)))
/-! lampwright kraft.begins -/
def M_kraft_begins_j2 (_F : Nat) : Option Bool :=
  some true
def M_kraft_begins_b3 (F : Nat) (x1 : Int) (x2 : List Int) (x5 : Int) (x6 : Int) (x7 : List Int) (rec3 : Int → Option Bool) (x62 : Int) : Option Bool :=
  (if (decide (x62 < (imin x6 (isub .i64 x1 x5)))) then ((M_bits_At F x1 x2 (iadd .i64 x5 x62)).bind fun x84 => ((M_bits_At F x6 x7 x62).bind fun x85 => (if ((x84 : Int) != x85) then some false else rec3 (iadd .i64 x62 1)))) else M_kraft_begins_j2 F)
def M_kraft_begins_l3 (F : Nat) (x1 : Int) (x2 : List Int) (x5 : Int) (x6 : Int) (x7 : List Int) : Nat → Int → Option Bool
  | 0 => fun _ => none
  | k + 1 => fun s => M_kraft_begins_b3 F x1 x2 x5 x6 x7 (M_kraft_begins_l3 F x1 x2 x5 x6 x7 k) s
def M_kraft_begins (F : Nat) (x1 : Int) (x2 : List Int) (x5 : Int) (x6 : Int) (x7 : List Int) : Option Bool :=
  M_kraft_begins_l3 F x1 x2 x5 x6 x7 F 0
/-! lampwright kraft.Found -/
def M_kraft_Found_j11 (_F : Nat) (x88 : Int) : Option (Int × Int × Int) :=
  some (0, 0, x88)
def M_kraft_Found_j20 (_F : Nat) (rec18 : (Int × Int) → Option (Int × Int × Int)) (x115 : Int) (x154 : Int) : Option (Int × Int × Int) :=
  rec18 (x154, iadd .i64 x115 1)
def M_kraft_Found_j21 (F : Nat) (rec18 : (Int × Int) → Option (Int × Int × Int)) (x4 : Int) (x8 : Int) (x114 : Int) (x115 : Int) (x155 : (Int × List Int)) (x162 : Bool) : Option (Int × Int × Int) :=
  (if x162 then M_kraft_Found_j20 F rec18 x115 x114 else (if (decide ((isub .i64 x4 x8) < x155.1)) then M_kraft_Found_j20 F rec18 x115 7 else some (x115, iadd .i64 x8 x155.1, 0)))
def M_kraft_Found_b18 (F : Nat) (x1 : List (Int × List Int)) (x4 : Int) (x5 : List Int) (x8 : Int) (rec18 : (Int × Int) → Option (Int × Int × Int)) (x114 : Int) (x115 : Int) : Option (Int × Int × Int) :=
  (if (decide (x115 < (x1.length : Int))) then ((idx x1 x115).bind fun x155 => (if ((x155.1 : Int) == 0) then M_kraft_Found_j21 F rec18 x4 x8 x114 x115 x155 true else ((M_kraft_begins F x4 x5 x8 x155.1 x155.2).bind fun x165 => M_kraft_Found_j21 F rec18 x4 x8 x114 x115 x155 (!x165)))) else M_kraft_Found_j11 F x114)
def M_kraft_Found_l18 (F : Nat) (x1 : List (Int × List Int)) (x4 : Int) (x5 : List Int) (x8 : Int) : Nat → (Int × Int) → Option (Int × Int × Int)
  | 0 => fun _ => none
  | k + 1 => fun s => M_kraft_Found_b18 F x1 x4 x5 x8 (M_kraft_Found_l18 F x1 x4 x5 x8 k) s.1 s.2
def M_kraft_Found (F : Nat) (x1 : List (Int × List Int)) (x4 : Int) (x5 : List Int) (x8 : Int) : Option (Int × Int × Int) :=
  M_kraft_Found_l18 F x1 x4 x5 x8 F (5, 0)
/-! lampwright huff.Unpack -/
def M_huff_Unpack_j6 (_F : Nat) (x63 : List Int) (x67 : Int) : Option (List Int × Int) :=
  (if ((x67 : Int) != 0) then some (([] : List Int), x67) else some (x63, 0))
def M_huff_Unpack_j5 (F : Nat) (x4 : Int) (x60 : Int) (x63 : List Int) (x64 : Int) : Option (List Int × Int) :=
  (if (((x60 : Int) == 0) && (decide (x64 < x4))) then M_huff_Unpack_j6 F x63 1 else M_huff_Unpack_j6 F x63 x60)
def M_huff_Unpack_b7 (F : Nat) (x4 : Int) (x5 : List Int) (x8 : Int) (x10 : (List (Int × List Int) × Int)) (rec7 : (Int × List Int × Int) → Option (List Int × Int)) (x83 : Int) (x86 : List Int) (x87 : Int) : Option (List Int × Int) :=
  (if (((x83 : Int) == 0) && (decide ((x86.length : Int) < x8))) then ((M_kraft_Found F x10.1 x4 x5 x87).bind fun x102 => ((app 8796093022208 x86 ([x102.1] : List Int)).bind fun x105 => rec7 (x102.2.2, x105, x102.2.1))) else M_huff_Unpack_j5 F x4 x83 x86 x87)
def M_huff_Unpack_l7 (F : Nat) (x4 : Int) (x5 : List Int) (x8 : Int) (x10 : (List (Int × List Int) × Int)) : Nat → (Int × List Int × Int) → Option (List Int × Int)
  | 0 => fun _ => none
  | k + 1 => fun s => M_huff_Unpack_b7 F x4 x5 x8 x10 (M_huff_Unpack_l7 F x4 x5 x8 x10 k) s.1 s.2.1 s.2.2
def M_huff_Unpack_j3 (F : Nat) (x4 : Int) (x5 : List Int) (x8 : Int) (x10 : (List (Int × List Int) × Int)) (x21 : Int) : Option (List Int × Int) :=
  M_huff_Unpack_l7 F x4 x5 x8 x10 F (x21, ([] : List Int), 0)
def M_huff_Unpack_j8 (F : Nat) (x4 : Int) (x5 : List Int) (x8 : Int) (x10 : (List (Int × List Int) × Int)) (x15 : Int) (x111 : Bool) : Option (List Int × Int) :=
  (if x111 then M_huff_Unpack_j3 F x4 x5 x8 x10 3 else M_huff_Unpack_j3 F x4 x5 x8 x10 x15)
def M_huff_Unpack_j1 (F : Nat) (x4 : Int) (x5 : List Int) (x8 : Int) (x10 : (List (Int × List Int) × Int)) (x15 : Int) : Option (List Int × Int) :=
  (if ((x15 : Int) == 0) then M_huff_Unpack_j8 F x4 x5 x8 x10 x15 ((decide (x8 < 0)) || (decide (1000 < x8))) else M_huff_Unpack_j8 F x4 x5 x8 x10 x15 false)
def M_huff_Unpack (F : Nat) (x1 : List Int) (x4 : Int) (x5 : List Int) (x8 : Int) : Option (List Int × Int) :=
  ((M_kraft_Codes F x1).bind fun x10 => (if ((x10.2 : Int) == 0) then ((M_bits_Check F x4 x5).bind fun x114 => M_huff_Unpack_j1 F x4 x5 x8 x10 x114) else M_huff_Unpack_j1 F x4 x5 x8 x10 x10.2))
/-! lampwright lampwrightref.SameInts -/
def M_R_SameInts_j2 (_F : Nat) : Option Bool :=
  some true
def M_R_SameInts_b3 (F : Nat) (x1 : List Int) (x4 : List Int) (rec3 : Int → Option Bool) (x154 : Int) : Option Bool :=
  (if (decide (x154 < (x1.length : Int))) then ((idx x1 x154).bind fun x218 => ((idx x4 x154).bind fun x222 => (if ((x218 : Int) != x222) then some false else rec3 (iadd .i64 x154 1)))) else M_R_SameInts_j2 F)
def M_R_SameInts_l3 (F : Nat) (x1 : List Int) (x4 : List Int) : Nat → Int → Option Bool
  | 0 => fun _ => none
  | k + 1 => fun s => M_R_SameInts_b3 F x1 x4 (M_R_SameInts_l3 F x1 x4 k) s
def M_R_SameInts (F : Nat) (x1 : List Int) (x4 : List Int) : Option Bool :=
  (if (((x1.length : Int) : Int) != (x4.length : Int)) then some false else M_R_SameInts_l3 F x1 x4 F 0)
/-! lampwright lampwrightlaw.huffBegun -/
def M_L_huffBegun_j3 (_F : Nat) (x25 : (List Int × Int)) (x52 : Bool) : Option Bool :=
  some (x52 && ((x25.2 : Int) == 0))
def M_L_huffBegun_j2 (F : Nat) (x17 : (List Int × Int)) (x20 : (List Int × Int)) (x25 : (List Int × Int)) (x45 : Bool) : Option Bool :=
  (if ((x45 && ((x17.2 : Int) == 0)) && ((x20.2 : Int) == 1)) then ((M_R_SameInts F x25.1 ([0, 1] : List Int)).bind fun x56 => M_L_huffBegun_j3 F x25 x56) else M_L_huffBegun_j3 F x25 false)
def M_L_huffBegun_j1 (F : Nat) (x11 : (List Int × Int × List Int × Int)) (x17 : (List Int × Int)) (x20 : (List Int × Int)) (x25 : (List Int × Int)) (x38 : Bool) : Option Bool :=
  (if ((x38 && ((x11.2.1 : Int) == 3)) && ((x11.2.2.2 : Int) == 0)) then ((M_R_SameInts F x17.1 ([0, 2, 0] : List Int)).bind fun x59 => M_L_huffBegun_j2 F x17 x20 x25 x59) else M_L_huffBegun_j2 F x17 x20 x25 false)
def M_L_huffBegun (F : Nat)  : Option Bool :=
  ((M_huff_Lengths F ([5, 0, 1, 2, 1] : List Int)).bind fun x3 => ((M_huff_Cost F ([5, 0, 1, 2, 1] : List Int) x3.1).bind fun x8 => ((M_huff_Pack F ([0, 2, 0] : List Int) 3).bind fun x11 => ((M_huff_Unpack F x11.1 x11.2.1 x11.2.2.1 3).bind fun x17 => ((M_huff_Unpack F x11.1 x11.2.1 x11.2.2.1 2).bind fun x20 => ((M_huff_Lengths F ([0, 7] : List Int)).bind fun x25 => ((M_R_SameInts F x3.1 ([1, 0, 3, 2, 3] : List Int)).bind fun x30 => (if (((x30 && ((x3.2 : Int) == 0)) && ((x8.1 : Int) == 15)) && ((x8.2 : Int) == 0)) then ((M_R_SameInts F x11.1 ([1, 0, 1] : List Int)).bind fun x62 => M_L_huffBegun_j1 F x11 x17 x20 x25 x62) else M_L_huffBegun_j1 F x11 x17 x20 x25 false))))))))
/-! lampwright lampwrightref.SameBytes -/
def M_R_SameBytes_j2 (_F : Nat) : Option Bool :=
  some true
def M_R_SameBytes_b3 (F : Nat) (x1 : List Int) (x4 : List Int) (rec3 : Int → Option Bool) (x154 : Int) : Option Bool :=
  (if (decide (x154 < (x1.length : Int))) then ((idx x1 x154).bind fun x218 => ((idx x4 x154).bind fun x222 => (if ((x218 : Int) != x222) then some false else rec3 (iadd .i64 x154 1)))) else M_R_SameBytes_j2 F)
def M_R_SameBytes_l3 (F : Nat) (x1 : List Int) (x4 : List Int) : Nat → Int → Option Bool
  | 0 => fun _ => none
  | k + 1 => fun s => M_R_SameBytes_b3 F x1 x4 (M_R_SameBytes_l3 F x1 x4 k) s
def M_R_SameBytes (F : Nat) (x1 : List Int) (x4 : List Int) : Option Bool :=
  (if (((x1.length : Int) : Int) != (x4.length : Int)) then some false else M_R_SameBytes_l3 F x1 x4 F 0)
/-! lampwright lampwrightref.SameBits -/
def M_R_SameBits_j1 (_F : Nat) (x13 : Bool) : Option Bool :=
  some x13
def M_R_SameBits (F : Nat) (x1 : Int) (x2 : List Int) (x5 : Int) (x6 : List Int) : Option Bool :=
  (if ((x1 : Int) == x5) then ((M_R_SameBytes F x2 x6).bind fun x14 => M_R_SameBits_j1 F x14) else M_R_SameBits_j1 F false)
/-! lampwright lampwrightlaw.HuffBack -/
def M_L_HuffBack_j2 (_F : Nat) (x21 : Bool) : Option Bool :=
  some x21
def M_L_HuffBack_j5 (_F : Nat) (x5 : (List Int × Int × List Int × Int)) (x111 : (Int × Int)) (x115 : Bool) : Option Bool :=
  some (x115 && ((x111.1 : Int) == x5.2.1))
def M_L_HuffBack_j4 (F : Nat) (x1 : List Int) (x5 : (List Int × Int × List Int × Int)) (x23 : (List Int × Int)) (x110 : List Int) : Option Bool :=
  ((M_huff_Cost F x110 x5.1).bind fun x111 => (if (((x23.2 : Int) == 0) && ((x111.2 : Int) == 0)) then ((M_R_SameInts F x23.1 x1).bind fun x117 => M_L_HuffBack_j5 F x5 x111 x117) else M_L_HuffBack_j5 F x5 x111 false))
def M_L_HuffBack_b6 (F : Nat) (x1 : List Int) (x5 : (List Int × Int × List Int × Int)) (x23 : (List Int × Int)) (rec6 : (List Int × Int) → Option Bool) (x144 : List Int) (x145 : Int) : Option Bool :=
  (if (decide (x145 < (x1.length : Int))) then ((idx x1 x145).bind fun x186 => ((idx x144 x186).bind fun x189 => ((idx x144 x186).bind fun _x192 => (lett (x144.set x186.toNat (iadd .i64 x189 1)) fun x195 => rec6 (x195, iadd .i64 x145 1))))) else M_L_HuffBack_j4 F x1 x5 x23 x144)
def M_L_HuffBack_l6 (F : Nat) (x1 : List Int) (x5 : (List Int × Int × List Int × Int)) (x23 : (List Int × Int)) : Nat → (List Int × Int) → Option Bool
  | 0 => fun _ => none
  | k + 1 => fun s => M_L_HuffBack_b6 F x1 x5 x23 (M_L_HuffBack_l6 F x1 x5 x23 k) s.1 s.2
def M_L_HuffBack (F : Nat) (x1 : List Int) (x4 : Int) : Option Bool :=
  ((M_huff_Pack F x1 x4).bind fun x5 => ((M_L_huffBegun F).bind fun x13 => (if (!x13) then some false else (if ((x5.2.2.2 : Int) != 0) then (if (((x5.1.length : Int) : Int) == 0) then ((M_R_SameBits F x5.2.1 x5.2.2.1 0 ([] : List Int)).bind fun x22 => M_L_HuffBack_j2 F x22) else M_L_HuffBack_j2 F false) else ((M_huff_Unpack F x5.1 x5.2.1 x5.2.2.1 (x1.length : Int)).bind fun x23 => ((mk 17592186044416 (0 : Int) x4).bind fun x26 => M_L_HuffBack_l6 F x1 x5 x23 F (x26, 0)))))))
end Go.Proofs.Ytilaklhajonenaa
