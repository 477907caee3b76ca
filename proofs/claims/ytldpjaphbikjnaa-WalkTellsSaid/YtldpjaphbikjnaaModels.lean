/- What each Go function of this seat computes, in plain terms. -/
import Derived.Test.YtldpjaphbikjnaaSy
namespace Go.Proofs.Ytldpjaphbikjnaa
open Go SX
/-! lampwright graph.Check -/
def M_graph_Check_j23 (_F : Nat) (x798 : Int) : Option Int :=
  (if (decide (600 < x798)) then some 2 else some 0)
def M_graph_Check_j42 (_F : Nat) (rec38 : (Int × Int) → Option Int) (x1065 : Int) (x1461 : Int) : Option Int :=
  rec38 (x1461, iadd .i64 x1065 1)
def M_graph_Check_j44 (F : Nat) (rec38 : (Int × Int) → Option Int) (x1064 : Int) (x1065 : Int) (x1462 : List Int) : Option Int :=
  M_graph_Check_j42 F rec38 x1065 (iadd .i64 x1064 (x1462.length : Int))
def M_graph_Check_b45 (F : Nat) (rec38 : (Int × Int) → Option Int) (x1 : List (List Int)) (x1064 : Int) (x1065 : Int) (x1462 : List Int) (rec45 : (Int × Int) → Option Int) (x1549 : Int) (x1550 : Int) : Option Int :=
  (if (decide (x1550 < (x1462.length : Int))) then ((idx x1462 x1550).bind fun x1582 => (if ((decide (x1582 < 0)) || (decide ((x1.length : Int) ≤ x1582))) then some 3 else (if (decide (x1582 ≤ x1549)) then some 4 else rec45 (x1582, iadd .i64 x1550 1)))) else M_graph_Check_j44 F rec38 x1064 x1065 x1462)
def M_graph_Check_l45 (F : Nat) (rec38 : (Int × Int) → Option Int) (x1 : List (List Int)) (x1064 : Int) (x1065 : Int) (x1462 : List Int) : Nat → (Int × Int) → Option Int
  | 0 => fun _ => none
  | k + 1 => fun s => M_graph_Check_b45 F rec38 x1 x1064 x1065 x1462 (M_graph_Check_l45 F rec38 x1 x1064 x1065 x1462 k) s.1 s.2
def M_graph_Check_b38 (F : Nat) (x1 : List (List Int)) (rec38 : (Int × Int) → Option Int) (x1064 : Int) (x1065 : Int) : Option Int :=
  (if (decide (x1065 < (x1.length : Int))) then ((idx x1 x1065).bind fun x1462 => M_graph_Check_l45 F rec38 x1 x1064 x1065 x1462 F (-1, 0)) else M_graph_Check_j23 F x1064)
def M_graph_Check_l38 (F : Nat) (x1 : List (List Int)) : Nat → (Int × Int) → Option Int
  | 0 => fun _ => none
  | k + 1 => fun s => M_graph_Check_b38 F x1 (M_graph_Check_l38 F x1 k) s.1 s.2
def M_graph_Check (F : Nat) (x1 : List (List Int)) : Option Int :=
  (if (decide (100 < (x1.length : Int))) then some 2 else M_graph_Check_l38 F x1 F (0, 0))
/-! lampwright walk.check$1 -/
def M_walk_check_1 (_F : Nat) (x1 : Int) (x3 : List (List Int)) : Option Bool :=
  some ((decide (x1 < 0)) || (decide ((x3.length : Int) ≤ x1)))
/-! slices.IndexFunc[[]int,int] -/
def M_slices_IndexFunc_int_int_walk_check_1_j2 (_F : Nat) : Option Int :=
  some (-1)
def M_slices_IndexFunc_int_int_walk_check_1_b3 (F : Nat) (x1 : List Int) (x5 : List (List Int)) (rec3 : Int → Option Int) (x58 : Int) : Option Int :=
  (if (decide (x58 < (x1.length : Int))) then ((idx x1 x58).bind fun x78 => ((M_walk_check_1 F x78 x5).bind fun x81 => (if x81 then some x58 else rec3 (iadd .i64 x58 1)))) else M_slices_IndexFunc_int_int_walk_check_1_j2 F)
def M_slices_IndexFunc_int_int_walk_check_1_l3 (F : Nat) (x1 : List Int) (x5 : List (List Int)) : Nat → Int → Option Int
  | 0 => fun _ => none
  | k + 1 => fun s => M_slices_IndexFunc_int_int_walk_check_1_b3 F x1 x5 (M_slices_IndexFunc_int_int_walk_check_1_l3 F x1 x5 k) s
def M_slices_IndexFunc_int_int_walk_check_1 (F : Nat) (x1 : List Int) (x5 : List (List Int)) : Option Int :=
  M_slices_IndexFunc_int_int_walk_check_1_l3 F x1 x5 F 0
/-! slices.ContainsFunc[[]int,int] -/
def M_slices_ContainsFunc_int_int_walk_check_1 (F : Nat) (x1 : List Int) (x5 : List (List Int)) : Option Bool :=
  ((M_slices_IndexFunc_int_int_walk_check_1 F x1 x5).bind fun x8 => some (decide (0 ≤ x8)))
/-! lampwright walk.check -/
def M_walk_check (F : Nat) (x1 : List (List Int)) (x4 : List Int) : Option Int :=
  ((M_graph_Check F x1).bind fun x10 => (if ((x10 : Int) != 0) then some x10 else ((M_slices_ContainsFunc_int_int_walk_check_1 F x4 x1).bind fun x13 => (if x13 then some 3 else some 0))))
/-! math bits.Mul32 -/
def M_math_bits_Mul32 (_F : Nat) (x1 : Int) (x2 : Int) : Option (Int × Int) :=
  (lett (imul .u64 (iconv .u64 x1) (iconv .u64 x2)) fun x3 => some (iconv .u32 (ishr .u64 x3 32), iconv .u32 x3))
/-! math bits.Mul64 -/
def M_math_bits_Mul64 (_F : Nat) (x1 : Int) (x2 : Int) : Option (Int × Int) :=
  (lett (imul .u64 (iand .u64 x1 4294967295) (iand .u64 x2 4294967295)) fun x3 => (lett (iadd .u64 (imul .u64 (ishr .u64 x1 32) (iand .u64 x2 4294967295)) (ishr .u64 x3 32)) fun x4 => (lett (iadd .u64 (iand .u64 x4 4294967295) (imul .u64 (iand .u64 x1 4294967295) (ishr .u64 x2 32))) fun x5 => (lett (iadd .u64 (iadd .u64 (imul .u64 (ishr .u64 x1 32) (ishr .u64 x2 32)) (ishr .u64 x4 32)) (ishr .u64 x5 32)) fun x6 => some (x6, imul .u64 x1 x2)))))
/-! math bits.Mul -/
def M_math_bits_Mul (F : Nat) (x1 : Int) (x2 : Int) : Option (Int × Int) :=
  ((M_math_bits_Mul64 F x1 x2).bind fun x3 => some (x3.1, x3.2))
/-! slices.Repeat[[]int,int] -/
def M_slices_Repeat_int_int_j2 (_F : Nat) (x64 : List Int) : Option (List Int) :=
  some x64
def M_slices_Repeat_int_int_b3 (F : Nat) (rec3 : (List Int × Int) → Option (List Int)) (x80 : List Int) (x81 : Int) : Option (List Int) :=
  (if (decide (x81 < (x80.length : Int))) then ((sub x80 x81 (x80.length : Int)).bind fun x99 => ((sub x80 0 x81).bind fun x104 => (lett (overlay x81.toNat x80 x104) fun x109 => rec3 (x109, iadd .i64 x81 ((min x104.length x99.length : Nat) : Int))))) else M_slices_Repeat_int_int_j2 F x80)
def M_slices_Repeat_int_int_l3 (F : Nat) : Nat → (List Int × Int) → Option (List Int)
  | 0 => fun _ => none
  | k + 1 => fun s => M_slices_Repeat_int_int_b3 F (M_slices_Repeat_int_int_l3 F k) s.1 s.2
def M_slices_Repeat_int_int (F : Nat) (x1 : List Int) (x4 : Int) : Option (List Int) :=
  (if (decide (x4 < 0)) then none else ((M_math_bits_Mul F (iconv .u64 (x1.length : Int)) (iconv .u64 x4)).bind fun x6 => (if ((decide (0 < x6.1)) || (decide (9223372036854775807 < x6.2))) then none else ((mk 17592186044416 (0 : Int) (iconv .i64 x6.2)).bind fun x10 => (lett (overlay 0 x10 x1) fun x13 => M_slices_Repeat_int_int_l3 F F (x13, ((min x1.length x10.length : Nat) : Int)))))))
/-! lampwright walk.far -/
def M_walk_far_j29 (_F : Nat) (x1033 : List Int) : Option (List Int) :=
  some x1033
def M_walk_far_j53 (_F : Nat) (rec48 : (List Int × List Int) → Option (List Int)) (x1875 : List Int) (x1879 : List Int) : Option (List Int) :=
  ((sub x1879 1 (x1879.length : Int)).bind fun x1880 => rec48 (x1875, x1880))
def M_walk_far_j57 (_F : Nat) (rec56 : (List Int × List Int × Int) → Option (List Int)) (x1945 : Int) (x2021 : List Int) (x2025 : List Int) : Option (List Int) :=
  rec56 (x2021, x2025, iadd .i64 x1945 1)
def M_walk_far_b56 (F : Nat) (rec48 : (List Int × List Int) → Option (List Int)) (x1882 : Int) (x1885 : List Int) (rec56 : (List Int × List Int × Int) → Option (List Int)) (x1940 : List Int) (x1944 : List Int) (x1945 : Int) : Option (List Int) :=
  (if (decide (x1945 < (x1885.length : Int))) then ((idx x1885 x1945).bind fun x2026 => ((idx x1940 x2026).bind fun x2029 => (if (decide (x2029 < 0)) then ((idx x1940 x1882).bind fun x2032 => ((idx x1940 x2026).bind fun _x2035 => (lett (x1940.set x2026.toNat (iadd .i64 x2032 1)) fun x2038 => ((app 8796093022208 x1944 ([x2026] : List Int)).bind fun x2043 => M_walk_far_j57 F rec56 x1945 x2038 x2043)))) else M_walk_far_j57 F rec56 x1945 x1940 x1944))) else M_walk_far_j53 F rec48 x1940 x1944)
def M_walk_far_l56 (F : Nat) (rec48 : (List Int × List Int) → Option (List Int)) (x1882 : Int) (x1885 : List Int) : Nat → (List Int × List Int × Int) → Option (List Int)
  | 0 => fun _ => none
  | k + 1 => fun s => M_walk_far_b56 F rec48 x1882 x1885 (M_walk_far_l56 F rec48 x1882 x1885 k) s.1 s.2.1 s.2.2
def M_walk_far_b48 (F : Nat) (x1 : List (List Int)) (rec48 : (List Int × List Int) → Option (List Int)) (x1358 : List Int) (x1362 : List Int) : Option (List Int) :=
  (if (decide (0 < (x1362.length : Int))) then ((idx x1362 0).bind fun x1882 => ((idx x1 x1882).bind fun x1885 => M_walk_far_l56 F rec48 x1882 x1885 F (x1358, x1362, 0))) else M_walk_far_j29 F x1358)
def M_walk_far_l48 (F : Nat) (x1 : List (List Int)) : Nat → (List Int × List Int) → Option (List Int)
  | 0 => fun _ => none
  | k + 1 => fun s => M_walk_far_b48 F x1 (M_walk_far_l48 F x1 k) s.1 s.2
def M_walk_far (F : Nat) (x1 : List (List Int)) (x4 : Int) : Option (List Int) :=
  ((M_slices_Repeat_int_int F ([-1] : List Int) (x1.length : Int)).bind fun x8 => ((idx x8 x4).bind fun _x11 => (lett (x8.set x4.toNat 0) fun x14 => M_walk_far_l48 F x1 F (x14, ([x4] : List Int)))))
/-! lampwright walk.Far -/
def M_walk_Far (F : Nat) (x1 : List (List Int)) (x4 : Int) : Option (List Int × Int) :=
  ((M_walk_check F x1 ([x4] : List Int)).bind fun x12 => (if ((x12 : Int) != 0) then some (([] : List Int), x12) else ((M_walk_far F x1 x4).bind fun x13 => some (x13, 0))))
/-! lampwright graph.Built -/
def M_graph_Built_j2 (_F : Nat) (x171 : List (List Int)) : Option (List (List Int)) :=
  some x171
def M_graph_Built_b3 (F : Nat) (x2 : List (Int × Int)) (rec3 : (Int × List (List Int)) → Option (List (List Int))) (x224 : Int) (x226 : List (List Int)) : Option (List (List Int)) :=
  (if (decide (x224 < (x2.length : Int))) then ((idx x2 x224).bind fun x306 => ((idx x226 x306.1).bind fun x310 => ((idx x226 x306.1).bind fun _x316 => ((app 8796093022208 x310 ([x306.2] : List Int)).bind fun x324 => (lett (x226.set x306.1.toNat x324) fun x327 => rec3 (iadd .i64 x224 1, x327)))))) else M_graph_Built_j2 F x226)
def M_graph_Built_l3 (F : Nat) (x2 : List (Int × Int)) : Nat → (Int × List (List Int)) → Option (List (List Int))
  | 0 => fun _ => none
  | k + 1 => fun s => M_graph_Built_b3 F x2 (M_graph_Built_l3 F x2 k) s.1 s.2
def M_graph_Built (F : Nat) (x1 : Int) (x2 : List (Int × Int)) : Option (List (List Int)) :=
  ((mk 4398046511104 (([] : List Int) : List Int) x1).bind fun x6 => M_graph_Built_l3 F x2 F (0, x6))
/-! slices.Values[[]lampwright api.Arc,lampwright api.Arc] -/
def M_slices_Values_api_Arc_api_Arc (_F : Nat) (_x1 : List (Int × Int)) : Option Unit :=
  some ()
/-! cmp.Or[int] -/
def M_cmp_Or_int_j2 (_F : Nat) : Option Int :=
  some 0
def M_cmp_Or_int_b3 (F : Nat) (x1 : List Int) (rec3 : Int → Option Int) (x46 : Int) : Option Int :=
  (if (decide (x46 < (x1.length : Int))) then ((idx x1 x46).bind fun x63 => (if ((x63 : Int) != 0) then some x63 else rec3 (iadd .i64 x46 1))) else M_cmp_Or_int_j2 F)
def M_cmp_Or_int_l3 (F : Nat) (x1 : List Int) : Nat → Int → Option Int
  | 0 => fun _ => none
  | k + 1 => fun s => M_cmp_Or_int_b3 F x1 (M_cmp_Or_int_l3 F x1 k) s
def M_cmp_Or_int (F : Nat) (x1 : List Int) : Option Int :=
  M_cmp_Or_int_l3 F x1 F 0
/-! cmp.isNaN[int] -/
def M_cmp_isNaN_int (_F : Nat) (x1 : Int) : Option Bool :=
  some ((x1 : Int) != x1)
/-! cmp.Compare[int] -/
def M_cmp_Compare_int (F : Nat) (x1 : Int) (x2 : Int) : Option Int :=
  ((M_cmp_isNaN_int F x1).bind fun x3 => ((M_cmp_isNaN_int F x2).bind fun x4 => (if x3 then (if x4 then some 0 else some (-1)) else (if x4 then some 1 else (if (decide (x1 < x2)) then some (-1) else (if (decide (x2 < x1)) then some 1 else some 0))))))
/-! lampwright graph.order -/
def M_graph_order (F : Nat) (x1 : Int) (x2 : Int) (x3 : Int) (x4 : Int) : Option Int :=
  ((M_cmp_Compare_int F x1 x3).bind fun x12 => ((M_cmp_Compare_int F x2 x4).bind fun x13 => ((M_cmp_Or_int F ([x12, x13] : List Int)).bind fun x16 => some x16)))
/-! lampwright graph.All -/
def M_graph_All (_F : Nat) (_x1 : List (List Int)) : Option Unit :=
  some ()
/-! lampwright graph.All$1 -/
def M_graph_All_1_j9 {σ τ : Type} (_F : Nat) (_yy : σ → (Int × Int) → Option (σ ⊕ τ)) (rec7 : (Int × σ) → Option (σ ⊕ τ)) (x121 : Int) (x298 : σ) : Option (σ ⊕ τ) :=
  rec7 (iadd .i64 x121 1, x298)
def M_graph_All_1_b10 {σ τ : Type} (F : Nat) (yy : σ → (Int × Int) → Option (σ ⊕ τ)) (rec7 : (Int × σ) → Option (σ ⊕ τ)) (x121 : Int) (x300 : List Int) (rec10 : (Int × σ) → Option (σ ⊕ τ)) (x320 : Int) (x321 : σ) : Option (σ ⊕ τ) :=
  (if (decide (x320 < (x300.length : Int))) then ((idx x300 x320).bind fun x348 => ((yy x321 (x121, x348)).bind (Sum.elim (fun x351 => rec10 (iadd .i64 x320 1, x351)) (fun x352 => some (.inr x352))))) else M_graph_All_1_j9 F yy rec7 x121 x321)
def M_graph_All_1_l10 {σ τ : Type} (F : Nat) (yy : σ → (Int × Int) → Option (σ ⊕ τ)) (rec7 : (Int × σ) → Option (σ ⊕ τ)) (x121 : Int) (x300 : List Int) : Nat → (Int × σ) → Option (σ ⊕ τ)
  | 0 => fun _ => none
  | k + 1 => fun s => M_graph_All_1_b10 F yy rec7 x121 x300 (M_graph_All_1_l10 F yy rec7 x121 x300 k) s.1 s.2
def M_graph_All_1_b7 {σ τ : Type} (F : Nat) (yy : σ → (Int × Int) → Option (σ ⊕ τ)) (x2 : List (List Int)) (rec7 : (Int × σ) → Option (σ ⊕ τ)) (x121 : Int) (x122 : σ) : Option (σ ⊕ τ) :=
  (if (decide (x121 < (x2.length : Int))) then ((idx x2 x121).bind fun x300 => M_graph_All_1_l10 F yy rec7 x121 x300 F (0, x122)) else some (.inl x122))
def M_graph_All_1_l7 {σ τ : Type} (F : Nat) (yy : σ → (Int × Int) → Option (σ ⊕ τ)) (x2 : List (List Int)) : Nat → (Int × σ) → Option (σ ⊕ τ)
  | 0 => fun _ => none
  | k + 1 => fun s => M_graph_All_1_b7 F yy x2 (M_graph_All_1_l7 F yy x2 k) s.1 s.2
def M_graph_All_1 {σ τ : Type} (F : Nat) (yy : σ → (Int × Int) → Option (σ ⊕ τ)) (x2 : List (List Int)) (s0 : σ) : Option (σ ⊕ τ) :=
  M_graph_All_1_l7 F yy x2 F (0, s0)
/-! lampwright graph.turned -/
def M_graph_turned_r2 (_F : Nat) (x47 : List (Int × Int)) (x56 : Int) (x57 : Int) : Option (List (Int × Int) ⊕ Empty) :=
  ((app 4398046511104 x47 ([(x57, x56)] : List (Int × Int))).bind fun x61 => some (.inl x61))
def M_graph_turned (F : Nat) (x1 : List (List Int)) : Option (List (Int × Int)) :=
  ((M_graph_All F x1).bind fun _x35 => ((M_graph_All_1 F (fun (x47 : List (Int × Int)) ((x56, x57) : (Int × Int)) => M_graph_turned_r2 F x47 x56 x57) x1 ([] : List (Int × Int))).bind (Sum.elim (fun (x47 : List (Int × Int)) => some x47) (fun t => t.elim))))
/-! slices.Values[[]lampwright api.Arc,lampwright api.Arc]$1 -/
def M_slices_Values_api_Arc_api_Arc_1_b1 {σ τ : Type} (_F : Nat) (yy : σ → (Int × Int) → Option (σ ⊕ τ)) (x2 : List (Int × Int)) (rec1 : (Int × σ) → Option (σ ⊕ τ)) (x23 : Int) (x24 : σ) : Option (σ ⊕ τ) :=
  (if (decide (x23 < (x2.length : Int))) then ((idx x2 x23).bind fun x54 => ((yy x24 (x54.1, x54.2)).bind (Sum.elim (fun x58 => rec1 (iadd .i64 x23 1, x58)) (fun x59 => some (.inr x59))))) else some (.inl x24))
def M_slices_Values_api_Arc_api_Arc_1_l1 {σ τ : Type} (F : Nat) (yy : σ → (Int × Int) → Option (σ ⊕ τ)) (x2 : List (Int × Int)) : Nat → (Int × σ) → Option (σ ⊕ τ)
  | 0 => fun _ => none
  | k + 1 => fun s => M_slices_Values_api_Arc_api_Arc_1_b1 F yy x2 (M_slices_Values_api_Arc_api_Arc_1_l1 F yy x2 k) s.1 s.2
def M_slices_Values_api_Arc_api_Arc_1 {σ τ : Type} (F : Nat) (yy : σ → (Int × Int) → Option (σ ⊕ τ)) (x2 : List (Int × Int)) (s0 : σ) : Option (σ ⊕ τ) :=
  M_slices_Values_api_Arc_api_Arc_1_l1 F yy x2 F (0, s0)
/-! slices.AppendSeq[[]lampwright api.Arc,lampwright api.Arc] -/
def M_slices_AppendSeq_api_Arc_api_Arc_slices_Values_api_Arc_api_Arc_1_r2 (_F : Nat) (x46 : List (Int × Int)) (x55 : Int) (x56 : Int) : Option (List (Int × Int) ⊕ Empty) :=
  ((app 4398046511104 x46 ([(x55, x56)] : List (Int × Int))).bind fun x60 => some (.inl x60))
def M_slices_AppendSeq_api_Arc_api_Arc_slices_Values_api_Arc_api_Arc_1 (F : Nat) (x1 : List (Int × Int)) (x5 : List (Int × Int)) : Option (List (Int × Int)) :=
  ((M_slices_Values_api_Arc_api_Arc_1 F (fun (x46 : List (Int × Int)) ((x55, x56) : (Int × Int)) => M_slices_AppendSeq_api_Arc_api_Arc_slices_Values_api_Arc_api_Arc_1_r2 F x46 x55 x56) x5 x1).bind (Sum.elim (fun (x46 : List (Int × Int)) => some x46) (fun t => t.elim)))
/-! slices.Collect[lampwright api.Arc] -/
def M_slices_Collect_api_Arc_slices_Values_api_Arc_api_Arc_1 (F : Nat) (x2 : List (Int × Int)) : Option (List (Int × Int)) :=
  ((M_slices_AppendSeq_api_Arc_api_Arc_slices_Values_api_Arc_api_Arc_1 F ([] : List (Int × Int)) x2).bind fun x5 => some x5)
/-! slices.SortFunc[[]lampwright api.Arc,lampwright api.Arc] -/
def M_slices_SortFunc_api_Arc_api_Arc_graph_order (F : Nat) (x1 : List (Int × Int)) : Option (List (Int × Int)) :=
  sortF (fun a b => M_graph_order F a.1 a.2 b.1 b.2) x1
/-! slices.SortedFunc[lampwright api.Arc] -/
def M_slices_SortedFunc_api_Arc_slices_Values_api_Arc_api_Arc_1_graph_order (F : Nat) (x2 : List (Int × Int)) : Option (List (Int × Int)) :=
  ((M_slices_Collect_api_Arc_slices_Values_api_Arc_api_Arc_1 F x2).bind fun x5 => ((M_slices_SortFunc_api_Arc_api_Arc_graph_order F x5).bind fun x8 => (chk (decide (x8.length = x5.length)) (some x8))))
/-! lampwright graph.Turn -/
def M_graph_Turn (F : Nat) (x1 : List (List Int)) : Option (List (List Int) × Int) :=
  ((M_graph_Check F x1).bind fun x8 => (if ((x8 : Int) != 0) then some (([] : List (List Int)), x8) else ((M_graph_turned F x1).bind fun x20 => ((M_slices_Values_api_Arc_api_Arc F x20).bind fun _x23 => ((M_slices_SortedFunc_api_Arc_slices_Values_api_Arc_api_Arc_1_graph_order F x20).bind fun x25 => ((M_graph_Built F (x1.length : Int) x25).bind fun x28 => some (x28, 0)))))))
/-! lampwright walk.Way$1 -/
def M_walk_Way_1 (_F : Nat) (x1 : Int) (x3 : List Int) (x7 : Int) : Option Bool :=
  ((idx x3 x1).bind fun x16 => ((idx x3 x7).bind fun x20 => some ((x16 : Int) == (isub .i64 x20 1))))
/-! slices.IndexFunc[[]int,int] -/
def M_slices_IndexFunc_int_int_walk_Way_1_j2 (_F : Nat) : Option Int :=
  some (-1)
def M_slices_IndexFunc_int_int_walk_Way_1_b3 (F : Nat) (x1 : List Int) (x5 : List Int) (x9 : Int) (rec3 : Int → Option Int) (x60 : Int) : Option Int :=
  (if (decide (x60 < (x1.length : Int))) then ((idx x1 x60).bind fun x80 => ((M_walk_Way_1 F x80 x5 x9).bind fun x83 => (if x83 then some x60 else rec3 (iadd .i64 x60 1)))) else M_slices_IndexFunc_int_int_walk_Way_1_j2 F)
def M_slices_IndexFunc_int_int_walk_Way_1_l3 (F : Nat) (x1 : List Int) (x5 : List Int) (x9 : Int) : Nat → Int → Option Int
  | 0 => fun _ => none
  | k + 1 => fun s => M_slices_IndexFunc_int_int_walk_Way_1_b3 F x1 x5 x9 (M_slices_IndexFunc_int_int_walk_Way_1_l3 F x1 x5 x9 k) s
def M_slices_IndexFunc_int_int_walk_Way_1 (F : Nat) (x1 : List Int) (x5 : List Int) (x9 : Int) : Option Int :=
  M_slices_IndexFunc_int_int_walk_Way_1_l3 F x1 x5 x9 F 0
/-! lampwright walk.Way -/
def M_walk_Way_j2 (_F : Nat) (x139 : List Int) : Option (List Int × Int) :=
  some (x139, 0)
def M_walk_Way_b3 (F : Nat) (x1 : List (List Int)) (x5 : Int) (x18 : List Int) (rec3 : (List Int × Int) → Option (List Int × Int)) (x176 : List Int) (x178 : Int) : Option (List Int × Int) :=
  (if ((x178 : Int) != x5) then ((idx x1 x178).bind fun x226 => ((M_slices_IndexFunc_int_int_walk_Way_1 F x226 x18 x178).bind fun x230 => ((idx x1 x178).bind fun x231 => ((idx x231 x230).bind fun x235 => ((app 8796093022208 x176 ([x235] : List Int)).bind fun x242 => rec3 (x242, x235)))))) else M_walk_Way_j2 F x176)
def M_walk_Way_l3 (F : Nat) (x1 : List (List Int)) (x5 : Int) (x18 : List Int) : Nat → (List Int × Int) → Option (List Int × Int)
  | 0 => fun _ => none
  | k + 1 => fun s => M_walk_Way_b3 F x1 x5 x18 (M_walk_Way_l3 F x1 x5 x18 k) s.1 s.2
def M_walk_Way (F : Nat) (x1 : List (List Int)) (x4 : Int) (x5 : Int) : Option (List Int × Int) :=
  ((M_walk_check F x1 ([x4, x5] : List Int)).bind fun x13 => (if ((x13 : Int) != 0) then some (([] : List Int), x13) else ((M_graph_Turn F x1).bind fun x14 => ((M_walk_far F x14.1 x5).bind fun x18 => ((idx x18 x4).bind fun x26 => (if (decide (x26 < 0)) then some (([] : List Int), 5) else M_walk_Way_l3 F x1 x5 x18 F (([x4] : List Int), x4)))))))
/-! lampwright walk.Parts$1 -/
def M_walk_Parts_1_j2 (_F : Nat) (x41 : Int) : Option Int :=
  some x41
def M_walk_Parts_1_b3 (F : Nat) (x3 : List Int) (rec3 : Int → Option Int) (x53 : Int) : Option Int :=
  ((idx x3 x53).bind fun x70 => (if ((x70 : Int) != x53) then ((idx x3 x53).bind fun x73 => rec3 x73) else M_walk_Parts_1_j2 F x53))
def M_walk_Parts_1_l3 (F : Nat) (x3 : List Int) : Nat → Int → Option Int
  | 0 => fun _ => none
  | k + 1 => fun s => M_walk_Parts_1_b3 F x3 (M_walk_Parts_1_l3 F x3 k) s
def M_walk_Parts_1 (F : Nat) (x1 : Int) (x3 : List Int) : Option Int :=
  M_walk_Parts_1_l3 F x3 F x1
/-! lampwright walk.Parts -/
def M_walk_Parts_r4 (F : Nat) (x116 : List Int) (x130 : Int) (x131 : Int) : Option (List Int ⊕ Empty) :=
  ((M_walk_Parts_1 F x130 x116).bind fun x135 => ((M_walk_Parts_1 F x131 x116).bind fun x136 => ((idx x116 (imax x135 x136)).bind fun _x137 => (lett (x116.set (imax x135 x136).toNat (imin x135 x136)) fun x140 => some (.inl x140)))))
def M_walk_Parts_j6 (_F : Nat) (x200 : List Int) : Option (List Int × Int) :=
  some (x200, 0)
def M_walk_Parts_b7 (F : Nat) (x116 : List Int) (rec7 : (Int × List Int) → Option (List Int × Int)) (x219 : Int) (x220 : List Int) : Option (List Int × Int) :=
  (if (decide (x219 < (x116.length : Int))) then ((idx x220 x219).bind fun _x249 => ((M_walk_Parts_1 F x219 x220).bind fun x253 => (lett (x220.set x219.toNat x253) fun x254 => rec7 (iadd .i64 x219 1, x254)))) else M_walk_Parts_j6 F x220)
def M_walk_Parts_l7 (F : Nat) (x116 : List Int) : Nat → (Int × List Int) → Option (List Int × Int)
  | 0 => fun _ => none
  | k + 1 => fun s => M_walk_Parts_b7 F x116 (M_walk_Parts_l7 F x116 k) s.1 s.2
def M_walk_Parts_j2 (F : Nat) (x1 : List (List Int)) (x57 : List Int) : Option (List Int × Int) :=
  ((M_graph_All F x1).bind fun _x101 => ((M_graph_All_1 F (fun (x116 : List Int) ((x130, x131) : (Int × Int)) => M_walk_Parts_r4 F x116 x130 x131) x1 x57).bind (Sum.elim (fun (x116 : List Int) => M_walk_Parts_l7 F x116 F (0, x116)) (fun t => t.elim))))
def M_walk_Parts_b8 (F : Nat) (x1 : List (List Int)) (x8 : List Int) (rec8 : (Int × List Int) → Option (List Int × Int)) (x272 : Int) (x273 : List Int) : Option (List Int × Int) :=
  (if (decide (x272 < (x8.length : Int))) then ((idx x273 x272).bind fun _x296 => (lett (x273.set x272.toNat x272) fun x299 => rec8 (iadd .i64 x272 1, x299))) else M_walk_Parts_j2 F x1 x273)
def M_walk_Parts_l8 (F : Nat) (x1 : List (List Int)) (x8 : List Int) : Nat → (Int × List Int) → Option (List Int × Int)
  | 0 => fun _ => none
  | k + 1 => fun s => M_walk_Parts_b8 F x1 x8 (M_walk_Parts_l8 F x1 x8 k) s.1 s.2
def M_walk_Parts (F : Nat) (x1 : List (List Int)) : Option (List Int × Int) :=
  ((M_walk_check F x1 ([] : List Int)).bind fun x7 => (if ((x7 : Int) != 0) then some (([] : List Int), x7) else ((mk 17592186044416 (0 : Int) (x1.length : Int)).bind fun x8 => M_walk_Parts_l8 F x1 x8 F (0, x8))))
/-! slices.Max[[]int,int] -/
def M_slices_Max_int_int_j2 (_F : Nat) (x35 : Int) : Option Int :=
  some x35
def M_slices_Max_int_int_b3 (F : Nat) (x1 : List Int) (rec3 : (Int × Int) → Option Int) (x44 : Int) (x45 : Int) : Option Int :=
  (if (decide (x45 < (x1.length : Int))) then ((idx x1 x45).bind fun x59 => rec3 (imax x44 x59, iadd .i64 x45 1)) else M_slices_Max_int_int_j2 F x44)
def M_slices_Max_int_int_l3 (F : Nat) (x1 : List Int) : Nat → (Int × Int) → Option Int
  | 0 => fun _ => none
  | k + 1 => fun s => M_slices_Max_int_int_b3 F x1 (M_slices_Max_int_int_l3 F x1 k) s.1 s.2
def M_slices_Max_int_int (F : Nat) (x1 : List Int) : Option Int :=
  (if (decide ((x1.length : Int) < 1)) then none else ((idx x1 0).bind fun x5 => M_slices_Max_int_int_l3 F x1 F (x5, 1)))
/-! lampwright walk.Most -/
def M_walk_Most_j2 (_F : Nat) (x41 : Int) : Option (Int × Int) :=
  some (x41, 0)
def M_walk_Most_b3 (F : Nat) (x1 : List (List Int)) (rec3 : (Int × Int) → Option (Int × Int)) (x52 : Int) (x53 : Int) : Option (Int × Int) :=
  (if (decide (x53 < (x1.length : Int))) then ((M_walk_far F x1 x53).bind fun x70 => ((M_slices_Max_int_int F x70).bind fun x73 => rec3 (imax x52 x73, iadd .i64 x53 1))) else M_walk_Most_j2 F x52)
def M_walk_Most_l3 (F : Nat) (x1 : List (List Int)) : Nat → (Int × Int) → Option (Int × Int)
  | 0 => fun _ => none
  | k + 1 => fun s => M_walk_Most_b3 F x1 (M_walk_Most_l3 F x1 k) s.1 s.2
def M_walk_Most (F : Nat) (x1 : List (List Int)) : Option (Int × Int) :=
  ((M_walk_check F x1 ([] : List Int)).bind fun x7 => (if ((x7 : Int) != 0) then some (0, x7) else M_walk_Most_l3 F x1 F (0, 0)))
/-! lampwright lampwrightref.between -/
def M_R_between (_F : Nat) (x1 : Int) (x2 : Int) (x3 : Int) : Option Bool :=
  some ((decide (x2 ≤ x1)) && (decide (x1 ≤ x3)))
/-! lampwright lampwrightref.GraphCheck -/
def M_R_GraphCheck_j83 (_F : Nat) (x3744 : Int) : Option Int :=
  (if (decide (600 < x3744)) then some 2 else some 0)
def M_R_GraphCheck_j152 (_F : Nat) (rec138 : (Int × Int) → Option Int) (x4993 : Int) (x6862 : Int) : Option Int :=
  rec138 (x6862, iadd .i64 x4993 1)
def M_R_GraphCheck_j165 (_F : Nat) (rec161 : (Int × Int) → Option Int) (x7069 : Int) (x7070 : Int) (x7461 : Bool) : Option Int :=
  (if x7461 then some 4 else rec161 (iadd .i64 x7069 1, iadd .i64 x7070 1))
def M_R_GraphCheck_b161 (F : Nat) (rec138 : (Int × Int) → Option Int) (x1 : List (List Int)) (x4993 : Int) (rec161 : (Int × Int) → Option Int) (x7069 : Int) (x7070 : Int) : Option Int :=
  ((idx x1 x4993).bind fun x7283 => (if (decide (x7070 < (x7283.length : Int))) then ((idx x1 x4993).bind fun x7394 => ((idx x7394 x7070).bind fun x7398 => ((M_R_between F x7398 0 (isub .i64 (x1.length : Int) 1)).bind fun x7401 => (if (!x7401) then some 3 else (if (decide (0 < x7070)) then ((idx x1 x4993).bind fun x7464 => ((idx x7464 x7070).bind fun x7469 => ((idx x1 x4993).bind fun x7473 => ((idx x7473 (isub .i64 x7070 1)).bind fun x7478 => M_R_GraphCheck_j165 F rec161 x7069 x7070 (decide (x7469 ≤ x7478)))))) else M_R_GraphCheck_j165 F rec161 x7069 x7070 false))))) else M_R_GraphCheck_j152 F rec138 x4993 x7069))
def M_R_GraphCheck_l161 (F : Nat) (rec138 : (Int × Int) → Option Int) (x1 : List (List Int)) (x4993 : Int) : Nat → (Int × Int) → Option Int
  | 0 => fun _ => none
  | k + 1 => fun s => M_R_GraphCheck_b161 F rec138 x1 x4993 (M_R_GraphCheck_l161 F rec138 x1 x4993 k) s.1 s.2
def M_R_GraphCheck_b138 (F : Nat) (x1 : List (List Int)) (rec138 : (Int × Int) → Option Int) (x4992 : Int) (x4993 : Int) : Option Int :=
  (if (decide (x4993 < (x1.length : Int))) then M_R_GraphCheck_l161 F rec138 x1 x4993 F (x4992, 0) else M_R_GraphCheck_j83 F x4992)
def M_R_GraphCheck_l138 (F : Nat) (x1 : List (List Int)) : Nat → (Int × Int) → Option Int
  | 0 => fun _ => none
  | k + 1 => fun s => M_R_GraphCheck_b138 F x1 (M_R_GraphCheck_l138 F x1 k) s.1 s.2
def M_R_GraphCheck (F : Nat) (x1 : List (List Int)) : Option Int :=
  (if (decide (100 < (x1.length : Int))) then some 2 else M_R_GraphCheck_l138 F x1 F (0, 0))
/-! lampwright lampwrightref.WalkParts -/
def M_R_WalkParts_j391 (_F : Nat) (x20010 : List Int) : Option (List Int) :=
  some x20010
def M_R_WalkParts_j715 (_F : Nat) (rec650 : (List Int × Int) → Option (List Int)) (x26663 : Int) (x36641 : List Int) : Option (List Int) :=
  rec650 (x36641, iadd .i64 x26663 1)
def M_R_WalkParts_j769 (_F : Nat) (rec758 : (List Int × Int) → Option (List Int)) (x37750 : Int) (x39412 : List Int) : Option (List Int) :=
  rec758 (x39412, iadd .i64 x37750 1)
def M_R_WalkParts_j778 (_F : Nat) (rec776 : (List Int × Int) → Option (List Int)) (x39597 : Int) (x39877 : List Int) : Option (List Int) :=
  rec776 (x39877, iadd .i64 x39597 1)
def M_R_WalkParts_j779 (F : Nat) (rec776 : (List Int × Int) → Option (List Int)) (x37750 : Int) (x39597 : Int) (x39882 : Int) (x39911 : List Int) : Option (List Int) :=
  ((idx x39911 x39882).bind fun x39920 => ((idx x39911 x37750).bind fun x39924 => (if (decide (x39920 < x39924)) then ((idx x39911 x39882).bind fun x39928 => ((idx x39911 x37750).bind fun _x39931 => (lett (x39911.set x37750.toNat x39928) fun x39934 => M_R_WalkParts_j778 F rec776 x39597 x39934))) else M_R_WalkParts_j778 F rec776 x39597 x39911)))
def M_R_WalkParts_b776 (F : Nat) (rec758 : (List Int × Int) → Option (List Int)) (x1 : List (List Int)) (x37750 : Int) (rec776 : (List Int × Int) → Option (List Int)) (x39596 : List Int) (x39597 : Int) : Option (List Int) :=
  ((idx x1 x37750).bind fun x39787 => (if (decide (x39597 < (x39787.length : Int))) then ((idx x1 x37750).bind fun x39878 => ((idx x39878 x39597).bind fun x39882 => ((idx x39596 x37750).bind fun x39946 => ((idx x39596 x39882).bind fun x39950 => (if (decide (x39946 < x39950)) then ((idx x39596 x37750).bind fun x39954 => ((idx x39596 x39882).bind fun _x39957 => (lett (x39596.set x39882.toNat x39954) fun x39960 => M_R_WalkParts_j779 F rec776 x37750 x39597 x39882 x39960))) else M_R_WalkParts_j779 F rec776 x37750 x39597 x39882 x39596))))) else M_R_WalkParts_j769 F rec758 x37750 x39596))
def M_R_WalkParts_l776 (F : Nat) (rec758 : (List Int × Int) → Option (List Int)) (x1 : List (List Int)) (x37750 : Int) : Nat → (List Int × Int) → Option (List Int)
  | 0 => fun _ => none
  | k + 1 => fun s => M_R_WalkParts_b776 F rec758 x1 x37750 (M_R_WalkParts_l776 F rec758 x1 x37750 k) s.1 s.2
def M_R_WalkParts_b758 (F : Nat) (rec650 : (List Int × Int) → Option (List Int)) (x1 : List (List Int)) (x26663 : Int) (rec758 : (List Int × Int) → Option (List Int)) (x37749 : List Int) (x37750 : Int) : Option (List Int) :=
  (if (decide (x37750 < (x37749.length : Int))) then M_R_WalkParts_l776 F rec758 x1 x37750 F (x37749, 0) else M_R_WalkParts_j715 F rec650 x26663 x37749)
def M_R_WalkParts_l758 (F : Nat) (rec650 : (List Int × Int) → Option (List Int)) (x1 : List (List Int)) (x26663 : Int) : Nat → (List Int × Int) → Option (List Int)
  | 0 => fun _ => none
  | k + 1 => fun s => M_R_WalkParts_b758 F rec650 x1 x26663 (M_R_WalkParts_l758 F rec650 x1 x26663 k) s.1 s.2
def M_R_WalkParts_b650 (F : Nat) (x1 : List (List Int)) (rec650 : (List Int × Int) → Option (List Int)) (x26662 : List Int) (x26663 : Int) : Option (List Int) :=
  (if (decide (x26663 < (x26662.length : Int))) then M_R_WalkParts_l758 F rec650 x1 x26663 F (x26662, 0) else M_R_WalkParts_j391 F x26662)
def M_R_WalkParts_l650 (F : Nat) (x1 : List (List Int)) : Nat → (List Int × Int) → Option (List Int)
  | 0 => fun _ => none
  | k + 1 => fun s => M_R_WalkParts_b650 F x1 (M_R_WalkParts_l650 F x1 k) s.1 s.2
def M_R_WalkParts_j2 (F : Nat) (x1 : List (List Int)) (x53 : List Int) : Option (List Int) :=
  M_R_WalkParts_l650 F x1 F (x53, 0)
def M_R_WalkParts_b780 (F : Nat) (x1 : List (List Int)) (rec780 : (List Int × Int) → Option (List Int)) (x39981 : List Int) (x39982 : Int) : Option (List Int) :=
  (if (decide (x39982 < (x39981.length : Int))) then ((idx x39981 x39982).bind fun _x40005 => (lett (x39981.set x39982.toNat x39982) fun x40008 => rec780 (x40008, iadd .i64 x39982 1))) else M_R_WalkParts_j2 F x1 x39981)
def M_R_WalkParts_l780 (F : Nat) (x1 : List (List Int)) : Nat → (List Int × Int) → Option (List Int)
  | 0 => fun _ => none
  | k + 1 => fun s => M_R_WalkParts_b780 F x1 (M_R_WalkParts_l780 F x1 k) s.1 s.2
def M_R_WalkParts (F : Nat) (x1 : List (List Int)) : Option (List Int) :=
  ((mk 17592186044416 (0 : Int) (x1.length : Int)).bind fun x5 => M_R_WalkParts_l780 F x1 F (x5, 0))
/-! lampwright lampwrightref.WalkFar -/
def M_R_WalkFar_j607 (_F : Nat) (x12668 : List Int) : Option (List Int) :=
  some x12668
def M_R_WalkFar_j1111 (_F : Nat) (rec1010 : (List Int × Int) → Option (List Int)) (x16873 : Int) (x23179 : List Int) : Option (List Int) :=
  rec1010 (x23179, iadd .i64 x16873 1)
def M_R_WalkFar_j1195 (_F : Nat) (rec1178 : (List Int × Int) → Option (List Int)) (x23880 : Int) (x24930 : List Int) : Option (List Int) :=
  rec1178 (x24930, iadd .i64 x23880 1)
def M_R_WalkFar_j1210 (_F : Nat) (rec1206 : (List Int × Int) → Option (List Int)) (x25047 : Int) (x25230 : List Int) : Option (List Int) :=
  rec1206 (x25230, iadd .i64 x25047 1)
def M_R_WalkFar_j1211 (F : Nat) (rec1206 : (List Int × Int) → Option (List Int)) (x23880 : Int) (x25046 : List Int) (x25047 : Int) (x25235 : Int) (x25251 : Bool) : Option (List Int) :=
  (if x25251 then ((idx x25046 x23880).bind fun x25252 => ((idx x25046 x25235).bind fun _x25255 => (lett (x25046.set x25235.toNat (iadd .i64 x25252 1)) fun x25258 => M_R_WalkFar_j1210 F rec1206 x25047 x25258))) else M_R_WalkFar_j1210 F rec1206 x25047 x25046)
def M_R_WalkFar_j1208 (F : Nat) (rec1178 : (List Int × Int) → Option (List Int)) (rec1206 : (List Int × Int) → Option (List Int)) (x1 : List (List Int)) (x23880 : Int) (x25046 : List Int) (x25047 : Int) (x25185 : Bool) : Option (List Int) :=
  (if x25185 then ((idx x1 x23880).bind fun x25231 => ((idx x25231 x25047).bind fun x25235 => ((idx x25046 x25235).bind fun x25262 => (if (decide (x25262 < 0)) then M_R_WalkFar_j1211 F rec1206 x23880 x25046 x25047 x25235 true else ((idx x25046 x23880).bind fun x25267 => ((idx x25046 x25235).bind fun x25271 => M_R_WalkFar_j1211 F rec1206 x23880 x25046 x25047 x25235 (decide ((iadd .i64 x25267 1) < x25271)))))))) else M_R_WalkFar_j1195 F rec1178 x23880 x25046)
def M_R_WalkFar_b1206 (F : Nat) (rec1178 : (List Int × Int) → Option (List Int)) (x1 : List (List Int)) (x23880 : Int) (rec1206 : (List Int × Int) → Option (List Int)) (x25046 : List Int) (x25047 : Int) : Option (List Int) :=
  ((idx x1 x23880).bind fun x25177 => (if (decide (x25047 < (x25177.length : Int))) then ((idx x25046 x23880).bind fun x25276 => M_R_WalkFar_j1208 F rec1178 rec1206 x1 x23880 x25046 x25047 (decide (0 ≤ x25276))) else M_R_WalkFar_j1208 F rec1178 rec1206 x1 x23880 x25046 x25047 false))
def M_R_WalkFar_l1206 (F : Nat) (rec1178 : (List Int × Int) → Option (List Int)) (x1 : List (List Int)) (x23880 : Int) : Nat → (List Int × Int) → Option (List Int)
  | 0 => fun _ => none
  | k + 1 => fun s => M_R_WalkFar_b1206 F rec1178 x1 x23880 (M_R_WalkFar_l1206 F rec1178 x1 x23880 k) s.1 s.2
def M_R_WalkFar_b1178 (F : Nat) (rec1010 : (List Int × Int) → Option (List Int)) (x1 : List (List Int)) (x16873 : Int) (rec1178 : (List Int × Int) → Option (List Int)) (x23879 : List Int) (x23880 : Int) : Option (List Int) :=
  (if (decide (x23880 < (x23879.length : Int))) then M_R_WalkFar_l1206 F rec1178 x1 x23880 F (x23879, 0) else M_R_WalkFar_j1111 F rec1010 x16873 x23879)
def M_R_WalkFar_l1178 (F : Nat) (rec1010 : (List Int × Int) → Option (List Int)) (x1 : List (List Int)) (x16873 : Int) : Nat → (List Int × Int) → Option (List Int)
  | 0 => fun _ => none
  | k + 1 => fun s => M_R_WalkFar_b1178 F rec1010 x1 x16873 (M_R_WalkFar_l1178 F rec1010 x1 x16873 k) s.1 s.2
def M_R_WalkFar_b1010 (F : Nat) (x1 : List (List Int)) (rec1010 : (List Int × Int) → Option (List Int)) (x16872 : List Int) (x16873 : Int) : Option (List Int) :=
  (if (decide (x16873 < (x16872.length : Int))) then M_R_WalkFar_l1178 F rec1010 x1 x16873 F (x16872, 0) else M_R_WalkFar_j607 F x16872)
def M_R_WalkFar_l1010 (F : Nat) (x1 : List (List Int)) : Nat → (List Int × Int) → Option (List Int)
  | 0 => fun _ => none
  | k + 1 => fun s => M_R_WalkFar_b1010 F x1 (M_R_WalkFar_l1010 F x1 k) s.1 s.2
def M_R_WalkFar_j2 (F : Nat) (x1 : List (List Int)) (x4 : Int) (x49 : List Int) : Option (List Int) :=
  ((idx x49 x4).bind fun _x50 => (lett (x49.set x4.toNat 0) fun x53 => M_R_WalkFar_l1010 F x1 F (x53, 0)))
def M_R_WalkFar_b1212 (F : Nat) (x1 : List (List Int)) (x4 : Int) (rec1212 : (List Int × Int) → Option (List Int)) (x25295 : List Int) (x25296 : Int) : Option (List Int) :=
  (if (decide (x25296 < (x1.length : Int))) then ((app 8796093022208 x25295 ([-1] : List Int)).bind fun x25318 => rec1212 (x25318, iadd .i64 x25296 1)) else M_R_WalkFar_j2 F x1 x4 x25295)
def M_R_WalkFar_l1212 (F : Nat) (x1 : List (List Int)) (x4 : Int) : Nat → (List Int × Int) → Option (List Int)
  | 0 => fun _ => none
  | k + 1 => fun s => M_R_WalkFar_b1212 F x1 x4 (M_R_WalkFar_l1212 F x1 x4 k) s.1 s.2
def M_R_WalkFar (F : Nat) (x1 : List (List Int)) (x4 : Int) : Option (List Int) :=
  M_R_WalkFar_l1212 F x1 x4 F (([] : List Int), 0)
/-! lampwright lampwrightref.WalkWay -/
def M_R_WalkWay_j2 (_F : Nat) : Option (List Int) :=
  some ([] : List Int)
def M_R_WalkWay_b3 (F : Nat) (self : (List (List Int)) → Int → Int → Option (List Int)) (x1 : List (List Int)) (x4 : Int) (x5 : Int) (x15 : Int) (rec3 : Int → Option (List Int)) (x237 : Int) : Option (List Int) :=
  ((idx x1 x4).bind fun x298 => (if (decide (x237 < (x298.length : Int))) then ((idx x1 x4).bind fun x324 => ((idx x324 x237).bind fun x328 => ((M_R_WalkFar F x1 x328).bind fun x331 => ((idx x331 x5).bind fun x334 => (if ((x334 : Int) == (isub .i64 x15 1)) then ((self x1 x328 x5).bind fun x339 => ((app 8796093022208 ([x4] : List Int) x339).bind fun x342 => some x342)) else rec3 (iadd .i64 x237 1)))))) else M_R_WalkWay_j2 F))
def M_R_WalkWay_l3 (F : Nat) (self : (List (List Int)) → Int → Int → Option (List Int)) (x1 : List (List Int)) (x4 : Int) (x5 : Int) (x15 : Int) : Nat → Int → Option (List Int)
  | 0 => fun _ => none
  | k + 1 => fun s => M_R_WalkWay_b3 F self x1 x4 x5 x15 (M_R_WalkWay_l3 F self x1 x4 x5 x15 k) s
def M_R_WalkWay : Nat → (List (List Int)) → Int → Int → Option (List Int)
  | 0 => fun _ _ _ => none
  | F + 1 => fun x1 x4 x5 =>
    let self := M_R_WalkWay F
    (if ((x4 : Int) == x5) then some ([x4] : List Int) else ((M_R_WalkFar F x1 x4).bind fun x12 => ((idx x12 x5).bind fun x15 => (if (decide (x15 < 0)) then some ([] : List Int) else M_R_WalkWay_l3 F self x1 x4 x5 x15 F 0))))
/-! lampwright lampwrightref.SameInts -/
def M_R_SameInts_j2 (_F : Nat) : Option Bool :=
  some true
def M_R_SameInts_b3 (F : Nat) (x1 : List Int) (x4 : List Int) (rec3 : Int → Option Bool) (x154 : Int) : Option Bool :=
  (if (decide (x154 < (x1.length : Int))) then ((idx x1 x154).bind fun x218 => ((idx x4 x154).bind fun x222 => (if ((x218 : Int) != x222) then some false else rec3 (iadd .i64 x154 1)))) else M_R_SameInts_j2 F)
def M_R_SameInts_l3 (F : Nat) (x1 : List Int) (x4 : List Int) : Nat → Int → Option Bool
  | 0 => fun _ => none
  | k + 1 => fun s => M_R_SameInts_b3 F x1 x4 (M_R_SameInts_l3 F x1 x4 k) s
def M_R_SameInts (F : Nat) (x1 : List Int) (x4 : List Int) : Option Bool :=
  (if (((x1.length : Int) : Int) != (x4.length : Int)) then some false else M_R_SameInts_l3 F x1 x4 F 0)
/-! lampwright lampwrightlaw.someGraph -/
def M_L_someGraph (_F : Nat)  : Option (List (List Int)) :=
  some ([([1, 2, 3, 5] : List Int), ([1, 2, 3, 5] : List Int), ([0, 1, 2, 3, 5] : List Int), ([] : List Int), ([4] : List Int), ([1, 2, 3] : List Int)] : List (List Int))
/-! lampwright lampwrightlaw.walkBegun -/
def M_L_walkBegun_j2 (_F : Nat) (x16 : (List Int × Int)) (x22 : (Int × Int)) (x26 : (List Int × Int)) (x43 : Bool) : Option Bool :=
  some ((((x43 && ((x16.2 : Int) == 0)) && ((x22.1 : Int) == 2)) && ((x22.2 : Int) == 0)) && ((x26.2 : Int) == 5))
def M_L_walkBegun_j1 (F : Nat) (x10 : (List Int × Int)) (x16 : (List Int × Int)) (x22 : (Int × Int)) (x26 : (List Int × Int)) (x37 : Bool) : Option Bool :=
  (if (x37 && ((x10.2 : Int) == 0)) then ((M_R_SameInts F x16.1 ([0, 0, 0, 0, 4, 0] : List Int)).bind fun x50 => M_L_walkBegun_j2 F x16 x22 x26 x50) else M_L_walkBegun_j2 F x16 x22 x26 false)
def M_L_walkBegun (F : Nat)  : Option Bool :=
  ((M_L_someGraph F).bind fun x1 => ((M_walk_Far F x1 4).bind fun x4 => ((M_L_someGraph F).bind fun x7 => ((M_walk_Way F x7 2 3).bind fun x10 => ((M_L_someGraph F).bind fun x13 => ((M_walk_Parts F x13).bind fun x16 => ((M_L_someGraph F).bind fun x19 => ((M_walk_Most F x19).bind fun x22 => ((M_L_someGraph F).bind fun x23 => ((M_walk_Way F x23 3 0).bind fun x26 => ((M_R_SameInts F x4.1 ([-1, -1, -1, -1, 0, -1] : List Int)).bind fun x31 => (if (x31 && ((x4.2 : Int) == 0)) then ((M_R_SameInts F x10.1 ([2, 3] : List Int)).bind fun x53 => M_L_walkBegun_j1 F x10 x16 x22 x26 x53) else M_L_walkBegun_j1 F x10 x16 x22 x26 false))))))))))))
/-! lampwright lampwrightlaw.WalkTells -/
def M_L_WalkTells_j25 (_F : Nat) (x13 : (List Int × Int)) (x16 : (Int × Int)) (x17 : Int) (x447 : Int) (x459 : Bool) : Option Bool :=
  some (((x459 && ((x13.2 : Int) == x17)) && ((x16.1 : Int) == x447)) && ((x16.2 : Int) == x17))
def M_L_WalkTells_j24 (F : Nat) (x10 : (List Int × Int)) (x13 : (List Int × Int)) (x16 : (Int × Int)) (x17 : Int) (x437 : Int) (x446 : List Int) (x447 : Int) (x455 : Bool) : Option Bool :=
  (if (x455 && ((x10.2 : Int) == x437)) then ((M_R_SameInts F x13.1 x446).bind fun x463 => M_L_WalkTells_j25 F x13 x16 x17 x447 x463) else M_L_WalkTells_j25 F x13 x16 x17 x447 false)
def M_L_WalkTells_j23 (F : Nat) (x7 : (List Int × Int)) (x10 : (List Int × Int)) (x13 : (List Int × Int)) (x16 : (Int × Int)) (x17 : Int) (x436 : Int) (x437 : Int) (x443 : List Int) (x446 : List Int) (x447 : Int) (x451 : Bool) : Option Bool :=
  (if (x451 && ((x7.2 : Int) == x436)) then ((M_R_SameInts F x10.1 x443).bind fun x464 => M_L_WalkTells_j24 F x10 x13 x16 x17 x437 x446 x447 x464) else M_L_WalkTells_j24 F x10 x13 x16 x17 x437 x446 x447 false)
def M_L_WalkTells_j22 (F : Nat) (x7 : (List Int × Int)) (x10 : (List Int × Int)) (x13 : (List Int × Int)) (x16 : (Int × Int)) (x17 : Int) (x436 : Int) (x437 : Int) (x440 : List Int) (x443 : List Int) (x446 : List Int) (x447 : Int) : Option Bool :=
  ((M_L_walkBegun F).bind fun x448 => (if x448 then ((M_R_SameInts F x7.1 x440).bind fun x465 => M_L_WalkTells_j23 F x7 x10 x13 x16 x17 x436 x437 x443 x446 x447 x465) else M_L_WalkTells_j23 F x7 x10 x13 x16 x17 x436 x437 x443 x446 x447 false))
def M_L_WalkTells_j36 (F : Nat) (x1 : List (List Int)) (x4 : Int) (x5 : Int) (x7 : (List Int × Int)) (x10 : (List Int × Int)) (x13 : (List Int × Int)) (x16 : (Int × Int)) (x17 : Int) (x466 : List Int) (x661 : Int) : Option Bool :=
  (if ((decide (x4 < 0)) || (decide ((x1.length : Int) ≤ x4))) then M_L_WalkTells_j22 F x7 x10 x13 x16 x17 3 3 ([] : List Int) ([] : List Int) x466 x661 else ((M_R_WalkFar F x1 x4).bind fun x663 => (if ((decide (x5 < 0)) || (decide ((x1.length : Int) ≤ x5))) then M_L_WalkTells_j22 F x7 x10 x13 x16 x17 x17 3 x663 ([] : List Int) x466 x661 else ((idx x663 x5).bind fun x667 => (if (decide (x667 < 0)) then M_L_WalkTells_j22 F x7 x10 x13 x16 x17 x17 5 x663 ([] : List Int) x466 x661 else ((M_R_WalkWay F x1 x4 x5).bind fun x670 => M_L_WalkTells_j22 F x7 x10 x13 x16 x17 x17 x17 x663 x670 x466 x661))))))
def M_L_WalkTells_j45 (_F : Nat) (rec43 : (Int × Int) → Option Bool) (x740 : Int) (x836 : Int) : Option Bool :=
  rec43 (x836, iadd .i64 x740 1)
def M_L_WalkTells_b46 (F : Nat) (rec43 : (Int × Int) → Option Bool) (x1 : List (List Int)) (x740 : Int) (x837 : List Int) (rec46 : (Int × Int) → Option Bool) (x848 : Int) (x849 : Int) : Option Bool :=
  (if (decide (x849 < (x1.length : Int))) then ((idx x837 x849).bind fun x863 => rec46 (imax x848 x863, iadd .i64 x849 1)) else M_L_WalkTells_j45 F rec43 x740 x848)
def M_L_WalkTells_l46 (F : Nat) (rec43 : (Int × Int) → Option Bool) (x1 : List (List Int)) (x740 : Int) (x837 : List Int) : Nat → (Int × Int) → Option Bool
  | 0 => fun _ => none
  | k + 1 => fun s => M_L_WalkTells_b46 F rec43 x1 x740 x837 (M_L_WalkTells_l46 F rec43 x1 x740 x837 k) s.1 s.2
def M_L_WalkTells_b43 (F : Nat) (x1 : List (List Int)) (x4 : Int) (x5 : Int) (x7 : (List Int × Int)) (x10 : (List Int × Int)) (x13 : (List Int × Int)) (x16 : (Int × Int)) (x17 : Int) (x466 : List Int) (rec43 : (Int × Int) → Option Bool) (x739 : Int) (x740 : Int) : Option Bool :=
  (if (decide (x740 < (x1.length : Int))) then ((M_R_WalkFar F x1 x740).bind fun x837 => M_L_WalkTells_l46 F rec43 x1 x740 x837 F (x739, 0)) else M_L_WalkTells_j36 F x1 x4 x5 x7 x10 x13 x16 x17 x466 x739)
def M_L_WalkTells_l43 (F : Nat) (x1 : List (List Int)) (x4 : Int) (x5 : Int) (x7 : (List Int × Int)) (x10 : (List Int × Int)) (x13 : (List Int × Int)) (x16 : (Int × Int)) (x17 : Int) (x466 : List Int) : Nat → (Int × Int) → Option Bool
  | 0 => fun _ => none
  | k + 1 => fun s => M_L_WalkTells_b43 F x1 x4 x5 x7 x10 x13 x16 x17 x466 (M_L_WalkTells_l43 F x1 x4 x5 x7 x10 x13 x16 x17 x466 k) s.1 s.2
def M_L_WalkTells (F : Nat) (x1 : List (List Int)) (x4 : Int) (x5 : Int) : Option Bool :=
  ((M_walk_Far F x1 x4).bind fun x7 => ((M_walk_Way F x1 x4 x5).bind fun x10 => ((M_walk_Parts F x1).bind fun x13 => ((M_walk_Most F x1).bind fun x16 => ((M_R_GraphCheck F x1).bind fun x17 => (if ((x17 : Int) == 0) then ((M_R_WalkParts F x1).bind fun x466 => M_L_WalkTells_l43 F x1 x4 x5 x7 x10 x13 x16 x17 x466 F (0, 0)) else M_L_WalkTells_j22 F x7 x10 x13 x16 x17 x17 x17 ([] : List Int) ([] : List Int) ([] : List Int) 0))))))
end Go.Proofs.Ytldpjaphbikjnaa
