/- What each Go function of this seat computes, in plain terms. -/
import Derived.Test.YtghkjonlhphcjaaSx
namespace Go.Proofs.Ytghkjonlhphcjaa
open Go SX
/-! lampwright lampwrightref.SameInts -/
def M_R_SameInts_j2 (_F : Nat) : Option Bool :=
  some true
def M_R_SameInts_b3 (F : Nat) (x1 : List Int) (x4 : List Int) (rec3 : Int → Option Bool) (x154 : Int) : Option Bool :=
  (if (decide (x154 < (x1.length : Int))) then ((idx x1 x154).bind fun x218 => ((idx x4 x154).bind fun x222 => (if ((x218 : Int) != x222) then some false else rec3 (iadd .i64 x154 1)))) else M_R_SameInts_j2 F)
def M_R_SameInts_l3 (F : Nat) (x1 : List Int) (x4 : List Int) : Nat → Int → Option Bool
  | 0 => fun _ => none
  | k + 1 => fun s => M_R_SameInts_b3 F x1 x4 (M_R_SameInts_l3 F x1 x4 k) s
def M_R_SameInts (F : Nat) (x1 : List Int) (x4 : List Int) : Option Bool :=
  (if (((x1.length : Int) : Int) != (x4.length : Int)) then some false else M_R_SameInts_l3 F x1 x4 F 0)
/-! lampwright gaps.node -/
def M_gaps_node (_F : Nat) (x1 : Int) : Option Bool :=
  some ((decide (0 ≤ x1)) && (decide (x1 ≤ 1048576)))
/-! lampwright gaps.Check -/
def M_gaps_Check_j2 (_F : Nat) : Option Int :=
  some 0
def M_gaps_Check_b3 (F : Nat) (x1 : List Int) (rec3 : (Int × Int) → Option Int) (x88 : Int) (x89 : Int) : Option Int :=
  (if (decide (x89 < (x1.length : Int))) then ((idx x1 x89).bind fun x121 => ((M_gaps_node F x121).bind fun x127 => (if (!x127) then some 3 else (if (decide (x121 ≤ x88)) then some 4 else rec3 (x121, iadd .i64 x89 1))))) else M_gaps_Check_j2 F)
def M_gaps_Check_l3 (F : Nat) (x1 : List Int) : Nat → (Int × Int) → Option Int
  | 0 => fun _ => none
  | k + 1 => fun s => M_gaps_Check_b3 F x1 (M_gaps_Check_l3 F x1 k) s.1 s.2
def M_gaps_Check (F : Nat) (x1 : List Int) : Option Int :=
  (if (decide (300 < (x1.length : Int))) then some 2 else M_gaps_Check_l3 F x1 F (-1, 0))
/-! cmp.isNaN[int] -/
def M_cmp_isNaN_int (_F : Nat) (x1 : Int) : Option Bool :=
  some ((x1 : Int) != x1)
/-! cmp.Less[int] -/
def M_cmp_Less_int_j1 (_F : Nat) (x1 : Int) (x2 : Int) (x6 : Bool) : Option Bool :=
  some (x6 || (decide (x1 < x2)))
def M_cmp_Less_int (F : Nat) (x1 : Int) (x2 : Int) : Option Bool :=
  ((M_cmp_isNaN_int F x1).bind fun x3 => (if x3 then ((M_cmp_isNaN_int F x2).bind fun x8 => M_cmp_Less_int_j1 F x1 x2 (!x8)) else M_cmp_Less_int_j1 F x1 x2 false))
/-! slices.isNaN[int] -/
def M_slices_isNaN_int (_F : Nat) (x1 : Int) : Option Bool :=
  some ((x1 : Int) != x1)
/-! slices.BinarySearch[[]int,int] -/
def M_slices_BinarySearch_int_int_j6 (_F : Nat) (x32 : Int) (x55 : Bool) : Option (Int × Bool) :=
  some (x32, x55)
def M_slices_BinarySearch_int_int_j8 (F : Nat) (x32 : Int) (x68 : Bool) : Option (Int × Bool) :=
  M_slices_BinarySearch_int_int_j6 F x32 x68
def M_slices_BinarySearch_int_int_j9 (F : Nat) (x32 : Int) (x75 : Bool) : Option (Int × Bool) :=
  M_slices_BinarySearch_int_int_j8 F x32 x75
def M_slices_BinarySearch_int_int_j2 (F : Nat) (x1 : List Int) (x4 : Int) (x32 : Int) : Option (Int × Bool) :=
  (if (decide (x32 < (x1.length : Int))) then ((idx x1 x32).bind fun x56 => (if ((x56 : Int) == x4) then M_slices_BinarySearch_int_int_j8 F x32 true else ((idx x1 x32).bind fun x69 => ((M_slices_isNaN_int F x69).bind fun x72 => (if x72 then ((M_slices_isNaN_int F x4).bind fun x76 => M_slices_BinarySearch_int_int_j9 F x32 x76) else M_slices_BinarySearch_int_int_j9 F x32 false))))) else M_slices_BinarySearch_int_int_j6 F x32 false)
def M_slices_BinarySearch_int_int_b10 (F : Nat) (x1 : List Int) (x4 : Int) (rec10 : (Int × Int) → Option (Int × Bool)) (x85 : Int) (x86 : Int) : Option (Int × Bool) :=
  (if (decide (x85 < x86)) then (lett (iconv .i64 (ishr .u64 (iconv .u64 (iadd .i64 x85 x86)) 1)) fun x97 => ((idx x1 x97).bind fun x98 => ((M_cmp_Less_int F x98 x4).bind fun x101 => (if x101 then rec10 (iadd .i64 x97 1, x86) else rec10 (x85, x97))))) else M_slices_BinarySearch_int_int_j2 F x1 x4 x85)
def M_slices_BinarySearch_int_int_l10 (F : Nat) (x1 : List Int) (x4 : Int) : Nat → (Int × Int) → Option (Int × Bool)
  | 0 => fun _ => none
  | k + 1 => fun s => M_slices_BinarySearch_int_int_b10 F x1 x4 (M_slices_BinarySearch_int_int_l10 F x1 x4 k) s.1 s.2
def M_slices_BinarySearch_int_int (F : Nat) (x1 : List Int) (x4 : Int) : Option (Int × Bool) :=
  M_slices_BinarySearch_int_int_l10 F x1 x4 F (0, (x1.length : Int))
/-! (*lampwright parts.turner).see -/
def M_parts_turner_see_j1 (_F : Nat) (x21 : List Int) (x22 : Bool) (x23 : Int) : Option (List Int × Bool × Int) :=
  some (x21, x22, iadd .i64 x23 1)
def M_parts_turner_see (F : Nat) (x2 : List Int) (x5 : Bool) (x6 : Int) (x7 : Bool) : Option (List Int × Bool × Int) :=
  (if (x7 != x5) then ((app 8796093022208 x2 ([x6] : List Int)).bind fun x31 => M_parts_turner_see_j1 F x31 x7 0) else M_parts_turner_see_j1 F x2 x5 x6)
/-! lampwright parts.Raw -/
def M_parts_Raw_j7 (_F : Nat) (x66 : List Int) (x151 : List Int) : Option (List Int × List Int) :=
  some (x66, x151)
def M_parts_Raw_j11 (_F : Nat) (rec10 : (List Int × Int) → Option (List Int × List Int)) (x180 : Int) (x220 : List Int) : Option (List Int × List Int) :=
  rec10 (x220, iadd .i64 x180 1)
def M_parts_Raw_b10 (F : Nat) (x1 : List Int) (x4 : List Int) (x66 : List Int) (rec10 : (List Int × Int) → Option (List Int × List Int)) (x179 : List Int) (x180 : Int) : Option (List Int × List Int) :=
  (if (decide (x180 < (x4.length : Int))) then ((idx x4 x180).bind fun x221 => ((M_slices_BinarySearch_int_int F x1 x221).bind fun x224 => (if (!x224.2) then ((app 8796093022208 x179 ([x221] : List Int)).bind fun x227 => M_parts_Raw_j11 F rec10 x180 x227) else M_parts_Raw_j11 F rec10 x180 x179))) else M_parts_Raw_j7 F x66 x179)
def M_parts_Raw_l10 (F : Nat) (x1 : List Int) (x4 : List Int) (x66 : List Int) : Nat → (List Int × Int) → Option (List Int × List Int)
  | 0 => fun _ => none
  | k + 1 => fun s => M_parts_Raw_b10 F x1 x4 x66 (M_parts_Raw_l10 F x1 x4 x66 k) s.1 s.2
def M_parts_Raw_j2 (F : Nat) (x1 : List Int) (x4 : List Int) (x66 : List Int) (_x67 : Bool) (_x68 : Int) : Option (List Int × List Int) :=
  M_parts_Raw_l10 F x1 x4 x66 F (([] : List Int), 0)
def M_parts_Raw_b12 (F : Nat) (x1 : List Int) (x4 : List Int) (rec12 : (Int × List Int × Bool × Int) → Option (List Int × List Int)) (x249 : Int) (x252 : List Int) (x253 : Bool) (x254 : Int) : Option (List Int × List Int) :=
  (if (decide (x249 < (x1.length : Int))) then ((idx x1 x249).bind fun x280 => ((M_slices_BinarySearch_int_int F x4 x280).bind fun x283 => ((M_parts_turner_see F x252 x253 x254 x283.2).bind fun x284 => rec12 (iadd .i64 x249 1, x284.1, x284.2.1, x284.2.2)))) else M_parts_Raw_j2 F x1 x4 x252 x253 x254)
def M_parts_Raw_l12 (F : Nat) (x1 : List Int) (x4 : List Int) : Nat → (Int × List Int × Bool × Int) → Option (List Int × List Int)
  | 0 => fun _ => none
  | k + 1 => fun s => M_parts_Raw_b12 F x1 x4 (M_parts_Raw_l12 F x1 x4 k) s.1 s.2.1 s.2.2.1 s.2.2.2
def M_parts_Raw (F : Nat) (x1 : List Int) (x4 : List Int) : Option (List Int × List Int) :=
  M_parts_Raw_l12 F x1 x4 F (0, ([] : List Int), true, 0)
/-! lampwright parts.Blocks -/
def M_parts_Blocks_j1 (F : Nat) (x1 : List Int) (x4 : List Int) (x10 : Int) : Option (List Int × List Int × Int) :=
  (if ((x10 : Int) != 0) then some (([] : List Int), ([] : List Int), x10) else ((M_parts_Raw F x1 x4).bind fun x12 => some (x12.1, x12.2, 0)))
def M_parts_Blocks (F : Nat) (x1 : List Int) (x4 : List Int) : Option (List Int × List Int × Int) :=
  ((M_gaps_Check F x1).bind fun x7 => (if ((x7 : Int) == 0) then ((M_gaps_Check F x4).bind fun x18 => M_parts_Blocks_j1 F x1 x4 x18) else M_parts_Blocks_j1 F x1 x4 x7))
/-! lampwright parts.check -/
def M_parts_check_j14 (_F : Nat) (x4 : Int) (x99 : Int) : Option Int :=
  (if (decide (x4 < x99)) then some 8 else some 0)
def M_parts_check_j27 (_F : Nat) (rec23 : (Int × Int) → Option Int) (x4 : Int) (x132 : Int) (x133 : Int) (x180 : Int) (x190 : Bool) : Option Int :=
  (if x190 then some 3 else (lett (imin (iadd .i64 x132 (imin x180 (iadd .i64 x4 1))) (iadd .i64 x4 1)) fun x191 => rec23 (x191, iadd .i64 x133 1)))
def M_parts_check_b23 (F : Nat) (x1 : List Int) (x4 : Int) (rec23 : (Int × Int) → Option Int) (x132 : Int) (x133 : Int) : Option Int :=
  (if (decide (x133 < (x1.length : Int))) then ((idx x1 x133).bind fun x180 => (if (decide (x180 < 0)) then M_parts_check_j27 F rec23 x4 x132 x133 x180 true else M_parts_check_j27 F rec23 x4 x132 x133 x180 ((decide (x180 < 1)) && (decide (0 < x133))))) else M_parts_check_j14 F x4 x132)
def M_parts_check_l23 (F : Nat) (x1 : List Int) (x4 : Int) : Nat → (Int × Int) → Option Int
  | 0 => fun _ => none
  | k + 1 => fun s => M_parts_check_b23 F x1 x4 (M_parts_check_l23 F x1 x4 k) s.1 s.2
def M_parts_check (F : Nat) (x1 : List Int) (x4 : Int) : Option Int :=
  (if (decide ((iadd .i64 x4 1) < (x1.length : Int))) then some 2 else M_parts_check_l23 F x1 x4 F (0, 0))
/-! lampwright parts.copied -/
def M_parts_copied_j7 (_F : Nat) (x169 : List Int) : Option (List Int) :=
  some x169
def M_parts_copied_j6 (F : Nat) (x158 : List Int) (x161 : List Int) (x162 : Bool) : Option (List Int) :=
  (if x162 then ((app 8796093022208 x161 x158).bind fun x170 => M_parts_copied_j7 F x170) else M_parts_copied_j7 F x161)
def M_parts_copied_j12 (_F : Nat) (rec10 : (List Int × List Int × Bool × Int) → Option (List Int)) (x217 : List Int) (x221 : Bool) (x222 : Int) (x296 : Int) (x308 : List Int) : Option (List Int) :=
  ((sub x217 x296 (x217.length : Int)).bind fun x309 => rec10 (x309, x308, (!x221), iadd .i64 x222 1))
def M_parts_copied_b10 (F : Nat) (x4 : List Int) (rec10 : (List Int × List Int × Bool × Int) → Option (List Int)) (x217 : List Int) (x220 : List Int) (x221 : Bool) (x222 : Int) : Option (List Int) :=
  (if (decide (x222 < (x4.length : Int))) then ((idx x4 x222).bind fun x296 => (if x221 then ((sub x217 0 x296).bind fun x312 => ((app 8796093022208 x220 x312).bind fun x315 => M_parts_copied_j12 F rec10 x217 x221 x222 x296 x315)) else M_parts_copied_j12 F rec10 x217 x221 x222 x296 x220)) else M_parts_copied_j6 F x217 x220 x221)
def M_parts_copied_l10 (F : Nat) (x4 : List Int) : Nat → (List Int × List Int × Bool × Int) → Option (List Int)
  | 0 => fun _ => none
  | k + 1 => fun s => M_parts_copied_b10 F x4 (M_parts_copied_l10 F x4 k) s.1 s.2.1 s.2.2.1 s.2.2.2
def M_parts_copied (F : Nat) (x1 : List Int) (x4 : List Int) : Option (List Int) :=
  M_parts_copied_l10 F x4 F (x1, ([] : List Int), true, 0)
/-! lampwright parts.Copy -/
def M_parts_Copy_j1 (F : Nat) (x1 : List Int) (x4 : List Int) (x10 : Int) : Option (List Int × Int) :=
  (if ((x10 : Int) != 0) then some (([] : List Int), x10) else ((M_parts_copied F x1 x4).bind fun x12 => some (x12, 0)))
def M_parts_Copy (F : Nat) (x1 : List Int) (x4 : List Int) : Option (List Int × Int) :=
  ((M_gaps_Check F x1).bind fun x7 => (if ((x7 : Int) == 0) then ((M_parts_check F x4 (x1.length : Int)).bind fun x16 => M_parts_Copy_j1 F x1 x4 x16) else M_parts_Copy_j1 F x1 x4 x7))
/-! slices.Grow[[]int,int] -/
def M_slices_Grow_int_int_j1 (_F : Nat) (x15 : List Int) : Option (List Int) :=
  some x15
def M_slices_Grow_int_int (F : Nat) (x1 : List Int) (c3 : Nat) (x4 : Int) : Option (List Int) :=
  (if (decide (x4 < 0)) then none else (lett (isub .i64 x4 (isub .i64 (c3 : Int) (x1.length : Int))) fun x16 => (if (decide (0 < x16)) then ((sub x1 0 (c3 : Int)).bind fun x17 => ((appz 8796093022208 x17 (0 : Int) x16).bind fun x18 => ((sub x18 0 (x1.length : Int)).bind fun x21 => M_slices_Grow_int_int_j1 F x21))) else M_slices_Grow_int_int_j1 F x1)))
/-! slices.Concat[[]int,int] -/
def M_slices_Concat_int_int_j4 (_F : Nat) (x102 : List Int) : Option (List Int) :=
  some x102
def M_slices_Concat_int_int_b5 (F : Nat) (x1 : List (List Int)) (rec5 : (List Int × Int) → Option (List Int)) (x121 : List Int) (x122 : Int) : Option (List Int) :=
  (if (decide (x122 < (x1.length : Int))) then ((idx x1 x122).bind fun x148 => ((app 8796093022208 x121 x148).bind fun x152 => rec5 (x152, iadd .i64 x122 1))) else M_slices_Concat_int_int_j4 F x121)
def M_slices_Concat_int_int_l5 (F : Nat) (x1 : List (List Int)) : Nat → (List Int × Int) → Option (List Int)
  | 0 => fun _ => none
  | k + 1 => fun s => M_slices_Concat_int_int_b5 F x1 (M_slices_Concat_int_int_l5 F x1 k) s.1 s.2
def M_slices_Concat_int_int_j2 (F : Nat) (x1 : List (List Int)) (x43 : Int) : Option (List Int) :=
  ((M_slices_Grow_int_int F ([] : List Int) 0 x43).bind fun x44 => M_slices_Concat_int_int_l5 F x1 F (x44, 0))
def M_slices_Concat_int_int_b6 (F : Nat) (x1 : List (List Int)) (rec6 : (Int × Int) → Option (List Int)) (x168 : Int) (x169 : Int) : Option (List Int) :=
  (if (decide (x169 < (x1.length : Int))) then ((idx x1 x169).bind fun x189 => (if (decide ((iadd .i64 x168 (x189.length : Int)) < 0)) then none else rec6 (iadd .i64 x168 (x189.length : Int), iadd .i64 x169 1))) else M_slices_Concat_int_int_j2 F x1 x168)
def M_slices_Concat_int_int_l6 (F : Nat) (x1 : List (List Int)) : Nat → (Int × Int) → Option (List Int)
  | 0 => fun _ => none
  | k + 1 => fun s => M_slices_Concat_int_int_b6 F x1 (M_slices_Concat_int_int_l6 F x1 k) s.1 s.2
def M_slices_Concat_int_int (F : Nat) (x1 : List (List Int)) : Option (List Int) :=
  M_slices_Concat_int_int_l6 F x1 F (0, 0)
/-! slices.Sort[[]int,int] -/
def M_slices_Sort_int_int (_F : Nat) (x1 : List Int) : Option (List Int) :=
  if x1.length < 4611686018427387904 then some (srt x1) else none
/-! slices.Compact[[]int,int] -/
def M_slices_Compact_int_int (_F : Nat) (x1 : List Int) : Option (List Int) :=
  if (Go.Lib.compact x1).length ≤ x1.length then some (Go.Lib.compact x1) else none
/-! slices.Clone[[]int,int] -/
def M_slices_Clone_int_int (_F : Nat) (x1 : List Int) : Option (List Int) :=
  ((app 8796093022208 ([] : List Int) x1).bind fun x8 => some x8)
/-! lampwright parts.Join -/
def M_parts_Join_j1 (F : Nat) (x7 : List Int) (x10 : (List Int × Int)) (x15 : Int) : Option (List Int × Int) :=
  (if ((x15 : Int) != 0) then some (([] : List Int), x15) else ((M_slices_Concat_int_int F ([x10.1, x7] : List (List Int))).bind fun x19 => ((M_slices_Sort_int_int F x19).bind fun x22 => (chk (decide (x22.length = x19.length)) (((M_slices_Clone_int_int F x22).bind fun x32 => ((M_slices_Compact_int_int F x32).bind fun x35 => (if (decide ((x35.length : Int) < (x22.length : Int))) then some (([] : List Int), 6) else (if (decide (300 < (x22.length : Int))) then some (([] : List Int), 2) else some (x22, 0))))))))))
def M_parts_Join (F : Nat) (x1 : List Int) (x4 : List Int) (x7 : List Int) : Option (List Int × Int) :=
  ((M_parts_Copy F x1 x4).bind fun x10 => (if ((x10.2 : Int) == 0) then ((M_gaps_Check F x7).bind fun x41 => M_parts_Join_j1 F x7 x10 x41) else M_parts_Join_j1 F x7 x10 x10.2))
/-! lampwright lampwrightref.between -/
def M_R_between (_F : Nat) (x1 : Int) (x2 : Int) (x3 : Int) : Option Bool :=
  some ((decide (x2 ≤ x1)) && (decide (x1 ≤ x3)))
/-! lampwright lampwrightref.RisingCheck -/
def M_R_RisingCheck_j8 (_F : Nat) : Option Int :=
  some 0
def M_R_RisingCheck_j15 (_F : Nat) (rec13 : Int → Option Int) (x255 : Int) (x368 : Bool) : Option Int :=
  (if x368 then some 4 else rec13 (iadd .i64 x255 1))
def M_R_RisingCheck_b13 (F : Nat) (x1 : List Int) (rec13 : Int → Option Int) (x255 : Int) : Option Int :=
  (if (decide (x255 < (x1.length : Int))) then ((idx x1 x255).bind fun x355 => ((M_R_between F x355 0 1048576).bind fun x358 => (if (!x358) then some 3 else (if (decide (0 < x255)) then ((idx x1 x255).bind fun x371 => ((idx x1 (isub .i64 x255 1)).bind fun x375 => M_R_RisingCheck_j15 F rec13 x255 (decide (x371 ≤ x375)))) else M_R_RisingCheck_j15 F rec13 x255 false)))) else M_R_RisingCheck_j8 F)
def M_R_RisingCheck_l13 (F : Nat) (x1 : List Int) : Nat → Int → Option Int
  | 0 => fun _ => none
  | k + 1 => fun s => M_R_RisingCheck_b13 F x1 (M_R_RisingCheck_l13 F x1 k) s
def M_R_RisingCheck (F : Nat) (x1 : List Int) : Option Int :=
  (if (decide (300 < (x1.length : Int))) then some 2 else M_R_RisingCheck_l13 F x1 F 0)
/-! lampwright lampwrightref.HasInt -/
def M_R_HasInt_j2 (_F : Nat) : Option Bool :=
  some false
def M_R_HasInt_b3 (F : Nat) (x1 : List Int) (x4 : Int) (rec3 : Int → Option Bool) (x47 : Int) : Option Bool :=
  (if (decide (x47 < (x1.length : Int))) then ((idx x1 x47).bind fun x64 => (if ((x64 : Int) == x4) then some true else rec3 (iadd .i64 x47 1))) else M_R_HasInt_j2 F)
def M_R_HasInt_l3 (F : Nat) (x1 : List Int) (x4 : Int) : Nat → Int → Option Bool
  | 0 => fun _ => none
  | k + 1 => fun s => M_R_HasInt_b3 F x1 x4 (M_R_HasInt_l3 F x1 x4 k) s
def M_R_HasInt (F : Nat) (x1 : List Int) (x4 : Int) : Option Bool :=
  M_R_HasInt_l3 F x1 x4 F 0
/-! lampwright lampwrightref.PartsBlocks -/
def M_R_PartsBlocks_j19 (_F : Nat) (x210 : List Int) (x311 : List Int) : Option (List Int × List Int) :=
  some (x210, x311)
def M_R_PartsBlocks_j23 (_F : Nat) (rec22 : (List Int × Int) → Option (List Int × List Int)) (x346 : Int) (x395 : List Int) : Option (List Int × List Int) :=
  rec22 (x395, iadd .i64 x346 1)
def M_R_PartsBlocks_b22 (F : Nat) (x1 : List Int) (x4 : List Int) (x210 : List Int) (rec22 : (List Int × Int) → Option (List Int × List Int)) (x345 : List Int) (x346 : Int) : Option (List Int × List Int) :=
  (if (decide (x346 < (x4.length : Int))) then ((idx x4 x346).bind fun x396 => ((M_R_HasInt F x1 x396).bind fun x399 => (if (!x399) then ((idx x4 x346).bind fun x400 => ((app 8796093022208 x345 ([x400] : List Int)).bind fun x405 => M_R_PartsBlocks_j23 F rec22 x346 x405)) else M_R_PartsBlocks_j23 F rec22 x346 x345))) else M_R_PartsBlocks_j19 F x210 x345)
def M_R_PartsBlocks_l22 (F : Nat) (x1 : List Int) (x4 : List Int) (x210 : List Int) : Nat → (List Int × Int) → Option (List Int × List Int)
  | 0 => fun _ => none
  | k + 1 => fun s => M_R_PartsBlocks_b22 F x1 x4 x210 (M_R_PartsBlocks_l22 F x1 x4 x210 k) s.1 s.2
def M_R_PartsBlocks_j14 (F : Nat) (x1 : List Int) (x4 : List Int) (x210 : List Int) : Option (List Int × List Int) :=
  M_R_PartsBlocks_l22 F x1 x4 x210 F (([] : List Int), 0)
def M_R_PartsBlocks_j35 (_F : Nat) (rec33 : (List Int × Int × Int) → Option (List Int × List Int)) (x513 : Int) (x587 : List Int) (x588 : Int) : Option (List Int × List Int) :=
  rec33 (x587, x588, iadd .i64 x513 1)
def M_R_PartsBlocks_j36 (F : Nat) (rec33 : (List Int × Int × Int) → Option (List Int × List Int)) (x1 : List Int) (x4 : List Int) (x511 : List Int) (x512 : Int) (x513 : Int) (x594 : Bool) : Option (List Int × List Int) :=
  ((idx x1 x513).bind fun x595 => ((M_R_HasInt F x4 x595).bind fun x598 => (if (x598 != x594) then ((app 8796093022208 x511 ([isub .i64 x513 x512] : List Int)).bind fun x601 => M_R_PartsBlocks_j35 F rec33 x513 x601 x513) else M_R_PartsBlocks_j35 F rec33 x513 x511 x512)))
def M_R_PartsBlocks_b33 (F : Nat) (x1 : List Int) (x4 : List Int) (rec33 : (List Int × Int × Int) → Option (List Int × List Int)) (x511 : List Int) (x512 : Int) (x513 : Int) : Option (List Int × List Int) :=
  (if (decide (x513 < (x1.length : Int))) then (if (decide (0 < x513)) then ((idx x1 (isub .i64 x513 1)).bind fun x605 => ((M_R_HasInt F x4 x605).bind fun x608 => M_R_PartsBlocks_j36 F rec33 x1 x4 x511 x512 x513 x608)) else M_R_PartsBlocks_j36 F rec33 x1 x4 x511 x512 x513 true) else M_R_PartsBlocks_j14 F x1 x4 x511)
def M_R_PartsBlocks_l33 (F : Nat) (x1 : List Int) (x4 : List Int) : Nat → (List Int × Int × Int) → Option (List Int × List Int)
  | 0 => fun _ => none
  | k + 1 => fun s => M_R_PartsBlocks_b33 F x1 x4 (M_R_PartsBlocks_l33 F x1 x4 k) s.1 s.2.1 s.2.2
def M_R_PartsBlocks (F : Nat) (x1 : List Int) (x4 : List Int) : Option (List Int × List Int) :=
  M_R_PartsBlocks_l33 F x1 x4 F (([] : List Int), 0, 0)
/-! lampwright lampwrightref.PartsCopy -/
def M_R_PartsCopy_j118 (_F : Nat) (x1144 : List Int) : Option (List Int × Int) :=
  some (x1144, 0)
def M_R_PartsCopy_j197 (_F : Nat) (rec181 : (List Int × Int) → Option (List Int × Int)) (x1437 : Int) (x1873 : List Int) : Option (List Int × Int) :=
  rec181 (x1873, iadd .i64 x1437 1)
def M_R_PartsCopy_j205 (F : Nat) (rec181 : (List Int × Int) → Option (List Int × Int)) (x1 : List Int) (x1436 : List Int) (x1437 : Int) (x1940 : Int) : Option (List Int × Int) :=
  (if (((irem x1940 2) : Int) == 0) then ((idx x1 x1437).bind fun x1941 => ((app 8796093022208 x1436 ([x1941] : List Int)).bind fun x1946 => M_R_PartsCopy_j197 F rec181 x1437 x1946)) else M_R_PartsCopy_j197 F rec181 x1437 x1436)
def M_R_PartsCopy_j212 (F : Nat) (rec181 : (List Int × Int) → Option (List Int × Int)) (rec210 : (Int × Int) → Option (List Int × Int)) (x1 : List Int) (x4 : List Int) (x1436 : List Int) (x1437 : Int) (x1971 : Int) (x1972 : Int) (x2008 : Bool) : Option (List Int × Int) :=
  (if x2008 then ((idx x4 x1971).bind fun x2009 => rec210 (iadd .i64 x1971 1, iadd .i64 x1972 x2009)) else M_R_PartsCopy_j205 F rec181 x1 x1436 x1437 x1971)
def M_R_PartsCopy_b210 (F : Nat) (rec181 : (List Int × Int) → Option (List Int × Int)) (x1 : List Int) (x4 : List Int) (x1436 : List Int) (x1437 : Int) (rec210 : (Int × Int) → Option (List Int × Int)) (x1971 : Int) (x1972 : Int) : Option (List Int × Int) :=
  (if (decide (x1971 < (x4.length : Int))) then ((idx x4 x1971).bind fun x2013 => M_R_PartsCopy_j212 F rec181 rec210 x1 x4 x1436 x1437 x1971 x1972 (decide ((iadd .i64 x1972 x2013) ≤ x1437))) else M_R_PartsCopy_j212 F rec181 rec210 x1 x4 x1436 x1437 x1971 x1972 false)
def M_R_PartsCopy_l210 (F : Nat) (rec181 : (List Int × Int) → Option (List Int × Int)) (x1 : List Int) (x4 : List Int) (x1436 : List Int) (x1437 : Int) : Nat → (Int × Int) → Option (List Int × Int)
  | 0 => fun _ => none
  | k + 1 => fun s => M_R_PartsCopy_b210 F rec181 x1 x4 x1436 x1437 (M_R_PartsCopy_l210 F rec181 x1 x4 x1436 x1437 k) s.1 s.2
def M_R_PartsCopy_b181 (F : Nat) (x1 : List Int) (x4 : List Int) (rec181 : (List Int × Int) → Option (List Int × Int)) (x1436 : List Int) (x1437 : Int) : Option (List Int × Int) :=
  (if (decide (x1437 < (x1.length : Int))) then M_R_PartsCopy_l210 F rec181 x1 x4 x1436 x1437 F (0, 0) else M_R_PartsCopy_j118 F x1436)
def M_R_PartsCopy_l181 (F : Nat) (x1 : List Int) (x4 : List Int) : Nat → (List Int × Int) → Option (List Int × Int)
  | 0 => fun _ => none
  | k + 1 => fun s => M_R_PartsCopy_b181 F x1 x4 (M_R_PartsCopy_l181 F x1 x4 k) s.1 s.2
def M_R_PartsCopy_j23 (F : Nat) (x1 : List Int) (x4 : List Int) (x268 : Int) : Option (List Int × Int) :=
  (if (decide ((x1.length : Int) < x268)) then some (([] : List Int), 8) else M_R_PartsCopy_l181 F x1 x4 F (([] : List Int), 0))
def M_R_PartsCopy_j231 (_F : Nat) (rec227 : (Int × Int) → Option (List Int × Int)) (x2104 : Int) (x2233 : Int) : Option (List Int × Int) :=
  rec227 (x2233, iadd .i64 x2104 1)
def M_R_PartsCopy_j234 (F : Nat) (rec227 : (Int × Int) → Option (List Int × Int)) (x4 : List Int) (x2104 : Int) (x2261 : Int) : Option (List Int × Int) :=
  (if (decide (x2261 < 1000)) then ((idx x4 x2104).bind fun x2262 => M_R_PartsCopy_j231 F rec227 x2104 (iadd .i64 x2261 x2262)) else M_R_PartsCopy_j231 F rec227 x2104 x2261)
def M_R_PartsCopy_j233 (F : Nat) (rec227 : (Int × Int) → Option (List Int × Int)) (x1 : List Int) (x4 : List Int) (x2103 : Int) (x2104 : Int) (x2256 : Bool) : Option (List Int × Int) :=
  (if x2256 then some (([] : List Int), 3) else ((idx x4 x2104).bind fun x2266 => (if (decide ((x1.length : Int) < x2266)) then M_R_PartsCopy_j234 F rec227 x4 x2104 1000 else M_R_PartsCopy_j234 F rec227 x4 x2104 x2103)))
def M_R_PartsCopy_b227 (F : Nat) (x1 : List Int) (x4 : List Int) (rec227 : (Int × Int) → Option (List Int × Int)) (x2103 : Int) (x2104 : Int) : Option (List Int × Int) :=
  (if (decide (x2104 < (x4.length : Int))) then ((idx x4 x2104).bind fun x2248 => (if (decide (x2248 < 0)) then M_R_PartsCopy_j233 F rec227 x1 x4 x2103 x2104 true else ((idx x4 x2104).bind fun x2271 => M_R_PartsCopy_j233 F rec227 x1 x4 x2103 x2104 (((x2271 : Int) == 0) && (decide (0 < x2104)))))) else M_R_PartsCopy_j23 F x1 x4 x2103)
def M_R_PartsCopy_l227 (F : Nat) (x1 : List Int) (x4 : List Int) : Nat → (Int × Int) → Option (List Int × Int)
  | 0 => fun _ => none
  | k + 1 => fun s => M_R_PartsCopy_b227 F x1 x4 (M_R_PartsCopy_l227 F x1 x4 k) s.1 s.2
def M_R_PartsCopy (F : Nat) (x1 : List Int) (x4 : List Int) : Option (List Int × Int) :=
  ((M_R_RisingCheck F x1).bind fun x7 => (if ((x7 : Int) != 0) then some (([] : List Int), x7) else (if (decide ((iadd .i64 (x1.length : Int) 1) < (x4.length : Int))) then some (([] : List Int), 2) else M_R_PartsCopy_l227 F x1 x4 F (0, 0))))
/-! lampwright lampwrightref.Merged -/
def M_R_Merged_j11 (_F : Nat) (x273 : List Int) : Option (List Int × Int) :=
  (if (decide (300 < (x273.length : Int))) then some (([] : List Int), 2) else some (x273, 0))
def M_R_Merged_j21 (_F : Nat) (rec18 : (List Int × Int × Int) → Option (List Int × Int)) (x1 : List Int) (x4 : List Int) (x364 : List Int) (x365 : Int) (x366 : Int) (x500 : Bool) : Option (List Int × Int) :=
  (if x500 then ((idx x1 x365).bind fun x501 => ((app 8796093022208 x364 ([x501] : List Int)).bind fun x506 => rec18 (x506, iadd .i64 x365 1, x366))) else ((idx x4 x366).bind fun x509 => ((app 8796093022208 x364 ([x509] : List Int)).bind fun x514 => rec18 (x514, x365, iadd .i64 x366 1))))
def M_R_Merged_j20 (F : Nat) (rec18 : (List Int × Int × Int) → Option (List Int × Int)) (x1 : List Int) (x4 : List Int) (x364 : List Int) (x365 : Int) (x366 : Int) (x489 : Bool) : Option (List Int × Int) :=
  (if x489 then some (([] : List Int), 6) else (if (decide ((x4.length : Int) ≤ x366)) then M_R_Merged_j21 F rec18 x1 x4 x364 x365 x366 true else (if (decide (x365 < (x1.length : Int))) then ((idx x1 x365).bind fun x520 => ((idx x4 x366).bind fun x524 => M_R_Merged_j21 F rec18 x1 x4 x364 x365 x366 (decide (x520 < x524)))) else M_R_Merged_j21 F rec18 x1 x4 x364 x365 x366 false)))
def M_R_Merged_b18 (F : Nat) (x1 : List Int) (x4 : List Int) (rec18 : (List Int × Int × Int) → Option (List Int × Int)) (x364 : List Int) (x365 : Int) (x366 : Int) : Option (List Int × Int) :=
  (if ((decide (x365 < (x1.length : Int))) || (decide (x366 < (x4.length : Int)))) then (if (decide (x365 < (x1.length : Int))) then (if (decide (x366 < (x4.length : Int))) then ((idx x1 x365).bind fun x531 => ((idx x4 x366).bind fun x535 => M_R_Merged_j20 F rec18 x1 x4 x364 x365 x366 ((x531 : Int) == x535))) else M_R_Merged_j20 F rec18 x1 x4 x364 x365 x366 false) else M_R_Merged_j20 F rec18 x1 x4 x364 x365 x366 false) else M_R_Merged_j11 F x364)
def M_R_Merged_l18 (F : Nat) (x1 : List Int) (x4 : List Int) : Nat → (List Int × Int × Int) → Option (List Int × Int)
  | 0 => fun _ => none
  | k + 1 => fun s => M_R_Merged_b18 F x1 x4 (M_R_Merged_l18 F x1 x4 k) s.1 s.2.1 s.2.2
def M_R_Merged (F : Nat) (x1 : List Int) (x4 : List Int) : Option (List Int × Int) :=
  M_R_Merged_l18 F x1 x4 F (([] : List Int), 0, 0)
/-! lampwright lampwrightref.PartsJoin -/
def M_R_PartsJoin_j1 (F : Nat) (x7 : List Int) (x10 : (List Int × Int)) (x15 : Int) : Option (List Int × Int) :=
  (if ((x15 : Int) != 0) then some (([] : List Int), x15) else ((M_R_Merged F x10.1 x7).bind fun x17 => some (x17.1, x17.2)))
def M_R_PartsJoin (F : Nat) (x1 : List Int) (x4 : List Int) (x7 : List Int) : Option (List Int × Int) :=
  ((M_R_PartsCopy F x1 x4).bind fun x10 => (if ((x10.2 : Int) == 0) then ((M_R_RisingCheck F x7).bind fun x21 => M_R_PartsJoin_j1 F x7 x10 x21) else M_R_PartsJoin_j1 F x7 x10 x10.2))
/-! lampwright lampwrightlaw.partsBegun -/
def M_L_partsBegun_j4 (_F : Nat) (x22 : (List Int × List Int × Int)) (x31 : (List Int × Int)) (x59 : Bool) : Option Bool :=
  some (((x59 && (((x22.2.1.length : Int) : Int) == 0)) && ((x22.2.2 : Int) == 0)) && ((x31.2 : Int) == 8))
def M_L_partsBegun_j3 (F : Nat) (x17 : (List Int × Int)) (x22 : (List Int × List Int × Int)) (x31 : (List Int × Int)) (x53 : Bool) : Option Bool :=
  (if (x53 && ((x17.2 : Int) == 0)) then ((M_R_SameInts F x22.1 ([0] : List Int)).bind fun x65 => M_L_partsBegun_j4 F x22 x31 x65) else M_L_partsBegun_j4 F x22 x31 false)
def M_L_partsBegun_j2 (F : Nat) (x12 : (List Int × Int)) (x17 : (List Int × Int)) (x22 : (List Int × List Int × Int)) (x31 : (List Int × Int)) (x47 : Bool) : Option Bool :=
  (if (x47 && ((x12.2 : Int) == 0)) then ((M_R_SameInts F x17.1 ([1, 2, 3, 9] : List Int)).bind fun x68 => M_L_partsBegun_j3 F x17 x22 x31 x68) else M_L_partsBegun_j3 F x17 x22 x31 false)
def M_L_partsBegun_j1 (F : Nat) (x5 : (List Int × List Int × Int)) (x12 : (List Int × Int)) (x17 : (List Int × Int)) (x22 : (List Int × List Int × Int)) (x31 : (List Int × Int)) (x41 : Bool) : Option Bool :=
  (if (x41 && ((x5.2.2 : Int) == 0)) then ((M_R_SameInts F x12.1 ([1, 2, 9] : List Int)).bind fun x71 => M_L_partsBegun_j2 F x12 x17 x22 x31 x71) else M_L_partsBegun_j2 F x12 x17 x22 x31 false)
def M_L_partsBegun (F : Nat)  : Option Bool :=
  ((M_parts_Blocks F ([1, 2, 5, 7, 9] : List Int) ([1, 2, 3, 9] : List Int)).bind fun x5 => ((M_parts_Copy F ([1, 2, 5, 7, 9] : List Int) x5.1).bind fun x12 => ((M_parts_Join F ([1, 2, 5, 7, 9] : List Int) x5.1 x5.2.1).bind fun x17 => ((M_parts_Blocks F ([4] : List Int) ([] : List Int)).bind fun x22 => ((M_parts_Copy F ([4] : List Int) ([2] : List Int)).bind fun x31 => ((M_R_SameInts F x5.1 ([2, 2] : List Int)).bind fun x36 => (if x36 then ((M_R_SameInts F x5.2.1 ([3] : List Int)).bind fun x74 => M_L_partsBegun_j1 F x5 x12 x17 x22 x31 x74) else M_L_partsBegun_j1 F x5 x12 x17 x22 x31 false)))))))
/-! lampwright lampwrightlaw.PartsTell -/
def M_L_PartsTell_j6 (_F : Nat) (x18 : (List Int × Int)) (x43 : (List Int × Int)) (x60 : Bool) : Option Bool :=
  some (x60 && ((x18.2 : Int) == x43.2))
def M_L_PartsTell_j5 (F : Nat) (x15 : (List Int × Int)) (x18 : (List Int × Int)) (x40 : (List Int × Int)) (x43 : (List Int × Int)) (x56 : Bool) : Option Bool :=
  (if (x56 && ((x15.2 : Int) == x40.2)) then ((M_R_SameInts F x18.1 x43.1).bind fun x62 => M_L_PartsTell_j6 F x18 x43 x62) else M_L_PartsTell_j6 F x18 x43 false)
def M_L_PartsTell_j4 (F : Nat) (x10 : (List Int × List Int × Int)) (x15 : (List Int × Int)) (x18 : (List Int × Int)) (x24 : Int) (x40 : (List Int × Int)) (x43 : (List Int × Int)) (x52 : Bool) : Option Bool :=
  (if (x52 && ((x10.2.2 : Int) == x24)) then ((M_R_SameInts F x15.1 x40.1).bind fun x63 => M_L_PartsTell_j5 F x15 x18 x40 x43 x63) else M_L_PartsTell_j5 F x15 x18 x40 x43 false)
def M_L_PartsTell_j3 (F : Nat) (x10 : (List Int × List Int × Int)) (x15 : (List Int × Int)) (x18 : (List Int × Int)) (x24 : Int) (x39 : List Int) (x40 : (List Int × Int)) (x43 : (List Int × Int)) (x49 : Bool) : Option Bool :=
  (if x49 then ((M_R_SameInts F x10.2.1 x39).bind fun x64 => M_L_PartsTell_j4 F x10 x15 x18 x24 x40 x43 x64) else M_L_PartsTell_j4 F x10 x15 x18 x24 x40 x43 false)
def M_L_PartsTell_j2 (F : Nat) (x1 : List Int) (x4 : List Int) (x7 : List Int) (x10 : (List Int × List Int × Int)) (x15 : (List Int × Int)) (x18 : (List Int × Int)) (x24 : Int) (x36 : List Int) (x39 : List Int) : Option Bool :=
  ((M_R_PartsCopy F x1 x7).bind fun x40 => ((M_R_PartsJoin F x1 x7 x4).bind fun x43 => ((M_L_partsBegun F).bind fun x46 => (if x46 then ((M_R_SameInts F x10.1 x36).bind fun x65 => M_L_PartsTell_j3 F x10 x15 x18 x24 x39 x40 x43 x65) else M_L_PartsTell_j3 F x10 x15 x18 x24 x39 x40 x43 false))))
def M_L_PartsTell_j1 (F : Nat) (x1 : List Int) (x4 : List Int) (x7 : List Int) (x10 : (List Int × List Int × Int)) (x15 : (List Int × Int)) (x18 : (List Int × Int)) (x24 : Int) : Option Bool :=
  (if ((x24 : Int) == 0) then ((M_R_PartsBlocks F x1 x4).bind fun x66 => M_L_PartsTell_j2 F x1 x4 x7 x10 x15 x18 x24 x66.1 x66.2) else M_L_PartsTell_j2 F x1 x4 x7 x10 x15 x18 x24 ([] : List Int) ([] : List Int))
def M_L_PartsTell (F : Nat) (x1 : List Int) (x4 : List Int) (x7 : List Int) : Option Bool :=
  ((M_parts_Blocks F x1 x4).bind fun x10 => ((M_parts_Copy F x1 x7).bind fun x15 => ((M_parts_Join F x1 x7 x4).bind fun x18 => ((M_R_RisingCheck F x1).bind fun x21 => (if ((x21 : Int) == 0) then ((M_R_RisingCheck F x4).bind fun x72 => M_L_PartsTell_j1 F x1 x4 x7 x10 x15 x18 x72) else M_L_PartsTell_j1 F x1 x4 x7 x10 x15 x18 x21)))))
/-! lampwright lampwrightlaw.PartsBack -/
def M_L_PartsBack_j1 (_F : Nat) (x4 : List Int) (x7 : (List Int × List Int × Int)) (x19 : (List Int × Int)) (x25 : Bool) : Option Bool :=
  some (x25 && (((iadd .i64 (x19.1.length : Int) (x7.2.1.length : Int)) : Int) == (x4.length : Int)))
def M_L_PartsBack (F : Nat) (x1 : List Int) (x4 : List Int) : Option Bool :=
  ((M_parts_Blocks F x1 x4).bind fun x7 => ((M_L_partsBegun F).bind fun x14 => (if (!x14) then some false else (if ((x7.2.2 : Int) != 0) then some (((iadd .i64 (x7.1.length : Int) (x7.2.1.length : Int)) : Int) == 0) else ((M_parts_Join F x1 x7.1 x7.2.1).bind fun x16 => ((M_parts_Copy F x1 x7.1).bind fun x19 => (if (((x16.2 : Int) == 0) && ((x19.2 : Int) == 0)) then ((M_R_SameInts F x16.1 x4).bind fun x27 => M_L_PartsBack_j1 F x4 x7 x19 x27) else M_L_PartsBack_j1 F x4 x7 x19 false)))))))
/-! lampwright lampwrightlaw.PartsFew -/
def M_L_PartsFew (F : Nat) (x1 : List Int) (x4 : List Int) : Option Bool :=
  ((M_parts_Copy F x1 x4).bind fun x7 => ((M_L_partsBegun F).bind fun x12 => (if (!x12) then some false else (if ((x7.2 : Int) != 0) then some (((x7.1.length : Int) : Int) == 0) else ((M_parts_Blocks F x1 x7.1).bind fun x14 => (if ((((x14.2.2 : Int) != 0) || (((x14.2.1.length : Int) : Int) != 0)) || (decide ((x4.length : Int) < (x14.1.length : Int)))) then some false else ((sub x4 0 (x14.1.length : Int)).bind fun x24 => ((M_R_SameInts F x14.1 x24).bind fun x27 => some (x27 && (decide ((x4.length : Int) ≤ (iadd .i64 (x14.1.length : Int) 1))))))))))))
/-! lampwright lampwrightlaw.PartsSelf -/
def M_L_PartsSelf_j1 (_F : Nat) (x23 : Bool) : Option Bool :=
  some x23
def M_L_PartsSelf (F : Nat) (x1 : List Int) : Option Bool :=
  ((M_parts_Blocks F x1 x1).bind fun x4 => ((M_parts_Blocks F ([] : List Int) x1).bind fun x9 => ((M_L_partsBegun F).bind fun x16 => (if (!x16) then some false else (if (((x4.2.2 : Int) != 0) || ((x9.2.2 : Int) != 0)) then some ((x4.2.2 : Int) == x9.2.2) else (if ((((iadd .i64 (x4.1.length : Int) (x4.2.1.length : Int)) : Int) == 0) && (((x9.1.length : Int) : Int) == 0)) then ((M_R_SameInts F x9.2.1 x1).bind fun x24 => M_L_PartsSelf_j1 F x24) else M_L_PartsSelf_j1 F false))))))
/-! lampwright lampwrightlaw.PartsSwap -/
def M_L_PartsSwap_j1 (_F : Nat) (x1 : List Int) (x4 : List Int) (x7 : (List Int × List Int × Int)) (x12 : (List Int × List Int × Int)) (x32 : Bool) : Option Bool :=
  some (x32 && (((isub .i64 (x1.length : Int) (x12.2.1.length : Int)) : Int) == (isub .i64 (x4.length : Int) (x7.2.1.length : Int))))
def M_L_PartsSwap (F : Nat) (x1 : List Int) (x4 : List Int) : Option Bool :=
  ((M_parts_Blocks F x1 x4).bind fun x7 => ((M_parts_Blocks F x4 x1).bind fun x12 => ((M_L_partsBegun F).bind fun x19 => (if (!x19) then some false else (if (((x7.2.2 : Int) != 0) || ((x12.2.2 : Int) != 0)) then some (((iadd .i64 (iadd .i64 (iadd .i64 (x7.1.length : Int) (x7.2.1.length : Int)) (x12.1.length : Int)) (x12.2.1.length : Int)) : Int) == 0) else ((M_parts_Copy F x1 x7.1).bind fun x23 => ((M_parts_Copy F x4 x12.1).bind fun x26 => (if (((x23.2 : Int) == 0) && ((x26.2 : Int) == 0)) then ((M_R_SameInts F x23.1 x26.1).bind fun x34 => M_L_PartsSwap_j1 F x1 x4 x7 x12 x34) else M_L_PartsSwap_j1 F x1 x4 x7 x12 false))))))))
/-! lampwright lampwrightlaw.PartsApart -/
def M_L_PartsApart_j4 (_F : Nat) (x35 : Bool) : Option Bool :=
  some x35
def M_L_PartsApart_j5 (F : Nat) (x36 : Bool) (x40 : Bool) : Option Bool :=
  M_L_PartsApart_j4 F (x36 == x40)
def M_L_PartsApart_j2 (F : Nat) (x1 : List Int) (x4 : List Int) (x7 : Int) (x17 : (List Int × Int)) (x27 : Bool) : Option Bool :=
  (if x27 then ((M_R_HasInt F x17.1 x7).bind fun x36 => ((M_R_HasInt F x1 x7).bind fun x37 => (if x37 then ((M_R_HasInt F x4 x7).bind fun x41 => M_L_PartsApart_j5 F x36 x41) else M_L_PartsApart_j5 F x36 false))) else M_L_PartsApart_j4 F false)
def M_L_PartsApart_j6 (F : Nat) (x1 : List Int) (x4 : List Int) (x7 : Int) (x17 : (List Int × Int)) (x45 : Bool) : Option Bool :=
  M_L_PartsApart_j2 F x1 x4 x7 x17 (!x45)
def M_L_PartsApart (F : Nat) (x1 : List Int) (x4 : List Int) (x7 : Int) : Option Bool :=
  ((M_parts_Blocks F x1 x4).bind fun x8 => ((M_L_partsBegun F).bind fun x15 => (if (!x15) then some false else (if ((x8.2.2 : Int) != 0) then some true else ((M_parts_Copy F x1 x8.1).bind fun x17 => (if (((x17.2 : Int) == 0) && (decide ((x8.1.length : Int) ≤ (x1.length : Int)))) then ((M_R_HasInt F x8.2.1 x7).bind fun x42 => (if x42 then ((M_R_HasInt F x1 x7).bind fun x46 => M_L_PartsApart_j6 F x1 x4 x7 x17 x46) else M_L_PartsApart_j6 F x1 x4 x7 x17 false)) else M_L_PartsApart_j2 F x1 x4 x7 x17 false))))))
end Go.Proofs.Ytghkjonlhphcjaa
