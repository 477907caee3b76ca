/- What each Go function of this seat computes, in plain terms. -/
import Derived.Test.YtidnfcdnhdbolaaSy
namespace Go.Proofs.Ytidnfcdnhdbolaa
open Go SX
/-! lampwright succ.Check -/
def M_succ_Check (_F : Nat) (x1 : Int) (x2 : Int) (x3 : Int) : Option Int :=
  (if (((((((decide (x1 < 0)) || (decide (7 < x1))) || (decide (x2 < 0))) || ((x2 : Int) == 1)) || (decide (300 < x2))) || (decide (x3 < 1))) || (decide (16 < x3))) then some 3 else some 0)
/-! lampwright gaps.node -/
def M_gaps_node (_F : Nat) (x1 : Int) : Option Bool :=
  some ((decide (0 ≤ x1)) && (decide (x1 ≤ 1048576)))
/-! lampwright gaps.Check -/
def M_gaps_Check_j2 (_F : Nat) : Option Int :=
  some 0
def M_gaps_Check_b3 (F : Nat) (x1 : List Int) (rec3 : (Int × Int) → Option Int) (x88 : Int) (x89 : Int) : Option Int :=
  (if (decide (x89 < (x1.length : Int))) then ((idx x1 x89).bind fun x121 => ((M_gaps_node F x121).bind fun x127 => (if (!x127) then some 3 else (if (decide (x121 ≤ x88)) then some 4 else rec3 (x121, iadd .i64 x89 1))))) else M_gaps_Check_j2 F)
def M_gaps_Check_l3 (F : Nat) (x1 : List Int) : Nat → (Int × Int) → Option Int
  | 0 => fun _ => none
  | k + 1 => fun s => M_gaps_Check_b3 F x1 (M_gaps_Check_l3 F x1 k) s.1 s.2
def M_gaps_Check (F : Nat) (x1 : List Int) : Option Int :=
  (if (decide (300 < (x1.length : Int))) then some 2 else M_gaps_Check_l3 F x1 F (-1, 0))
/-! lampwright succ.check -/
def M_succ_check (F : Nat) (x1 : Int) (x2 : List Int) (x5 : Int) (_x6 : Int) (_x7 : Int) : Option Int :=
  (if ((decide (x1 < 0)) || (decide (1048576 < x1))) then some 3 else (if (decide (0 < x5)) then ((M_gaps_Check F x2).bind fun x14 => some x14) else some 0))
/-! lampwright bits.places -/
def M_bits_places (_F : Nat) (_x1 : Int) (_x2 : List Int) (_x5 : Int) (_x6 : Int) : Option Unit :=
  some ()
/-! (*lampwright bits.writer).bit -/
def M_bits_writer_bit_j1 (_F : Nat) (x2 : Int) (x6 : Int) (x15 : List Int) : Option (Int × List Int) :=
  ((idx x15 (iquo .i64 x2 8)).bind fun x30 => (chk (decide (0 ≤ (irem x2 8))) (((idx x15 (iquo .i64 x2 8)).bind fun _x36 => (lett (x15.set (iquo .i64 x2 8).toNat (ior .u8 x30 (ishr .u8 (iconv .u8 (ishl .u64 x6 7)) (irem x2 8)))) fun x41 => some (iadd .i64 x2 1, x41))))))
def M_bits_writer_bit (F : Nat) (x2 : Int) (x3 : List Int) (x6 : Int) : Option (Int × List Int) :=
  (if (((irem x2 8) : Int) == 0) then ((app 70368744177664 x3 ([0] : List Int)).bind fun x46 => M_bits_writer_bit_j1 F x2 x6 x46) else M_bits_writer_bit_j1 F x2 x6 x3)
/-! slices.Clone[[]byte,byte] -/
def M_slices_Clone_byte_byte (_F : Nat) (x1 : List Int) : Option (List Int) :=
  ((app 70368744177664 ([] : List Int) x1).bind fun x8 => some x8)
/-! lampwright bits.own -/
def M_bits_own (F : Nat) (x1 : Int) (x2 : List Int) : Option (Int × List Int) :=
  ((M_slices_Clone_byte_byte F x2).bind fun x10 => some (x1, x10))
/-! lampwright bits.At -/
def M_bits_At (_F : Nat) (_x1 : Int) (x2 : List Int) (x5 : Int) : Option Int :=
  ((idx x2 (iquo .i64 x5 8)).bind fun x7 => (chk (decide (0 ≤ (isub .i64 7 (irem x5 8)))) ((lett (iand .u64 (iconv .u64 (ishr .u8 x7 (isub .i64 7 (irem x5 8)))) 1) fun x11 => some x11))))
/-! lampwright bits.places$1 -/
def M_bits_places_1_b1 {σ τ : Type} (F : Nat) (yy : σ → Int → Option (σ ⊕ τ)) (x4 : Int) (x6 : Int) (x7 : List Int) (rec1 : (Int × σ) → Option (σ ⊕ τ)) (x22 : Int) (x23 : σ) : Option (σ ⊕ τ) :=
  (if (decide (x22 < x4)) then ((M_bits_At F x6 x7 x22).bind fun x44 => ((yy x23 x44).bind (Sum.elim (fun x45 => rec1 (iadd .i64 x22 1, x45)) (fun x46 => some (.inr x46))))) else some (.inl x23))
def M_bits_places_1_l1 {σ τ : Type} (F : Nat) (yy : σ → Int → Option (σ ⊕ τ)) (x4 : Int) (x6 : Int) (x7 : List Int) : Nat → (Int × σ) → Option (σ ⊕ τ)
  | 0 => fun _ => none
  | k + 1 => fun s => M_bits_places_1_b1 F yy x4 x6 x7 (M_bits_places_1_l1 F yy x4 x6 x7 k) s.1 s.2
def M_bits_places_1 {σ τ : Type} (F : Nat) (yy : σ → Int → Option (σ ⊕ τ)) (x2 : Int) (x4 : Int) (x6 : Int) (x7 : List Int) (s0 : σ) : Option (σ ⊕ τ) :=
  M_bits_places_1_l1 F yy x4 x6 x7 F (x2, s0)
/-! lampwright bits.Both -/
def M_bits_Both_r2 (F : Nat) (x45 : Int) (x48 : List Int) (x53 : Int) : Option ((Int × List Int) ⊕ Empty) :=
  ((M_bits_writer_bit F x45 x48 x53).bind fun x54 => some (.inl (x54.1, x54.2)))
def M_bits_Both (F : Nat) (x1 : Int) (x2 : List Int) (x5 : Int) (x6 : List Int) : Option (Int × List Int) :=
  ((M_bits_own F x1 x2).bind fun x12 => ((M_bits_places F x5 x6 0 x5).bind fun _x37 => ((M_bits_places_1 F (fun ((x45, x48) : (Int × List Int)) (x53 : Int) => M_bits_Both_r2 F x45 x48 x53) 0 x5 x5 x6 (x12.1, x12.2)).bind (Sum.elim (fun ((x45, x48) : (Int × List Int)) => some (x45, x48)) (fun t => t.elim)))))
/-! (*lampwright succ.writer).add -/
def M_succ_writer_add_j1 (F : Nat) (x2 : Int) (x3 : List Int) (x7 : Int) (x8 : List Int) (x13 : Bool) : Option (Int × List Int × Bool) :=
  (if (!x13) then ((M_bits_Both F x2 x3 x7 x8).bind fun x14 => some (x14.1, x14.2, x13)) else some (x2, x3, x13))
def M_succ_writer_add (F : Nat) (x2 : Int) (x3 : List Int) (x6 : Bool) (x7 : Int) (x8 : List Int) : Option (Int × List Int × Bool) :=
  (if x6 then M_succ_writer_add_j1 F x2 x3 x7 x8 true else M_succ_writer_add_j1 F x2 x3 x7 x8 (decide (8192 < (iadd .i64 x2 x7))))
/-! (*lampwright bits.writer).number -/
def M_bits_writer_number_b1 (F : Nat) (x6 : Int) (rec1 : (Int × Int × List Int) → Option (Int × List Int)) (x18 : Int) (x19 : Int) (x22 : List Int) : Option (Int × List Int) :=
  (if (decide (0 ≤ x18)) then (chk (decide (0 ≤ x18)) (((M_bits_writer_bit F x19 x22 (iand .u64 (ishr .u64 x6 x18) 1)).bind fun x40 => rec1 (isub .i64 x18 1, x40.1, x40.2)))) else some (x19, x22))
def M_bits_writer_number_l1 (F : Nat) (x6 : Int) : Nat → (Int × Int × List Int) → Option (Int × List Int)
  | 0 => fun _ => none
  | k + 1 => fun s => M_bits_writer_number_b1 F x6 (M_bits_writer_number_l1 F x6 k) s.1 s.2.1 s.2.2
def M_bits_writer_number (F : Nat) (x2 : Int) (x3 : List Int) (x6 : Int) (x7 : Int) : Option (Int × List Int) :=
  M_bits_writer_number_l1 F x6 F (isub .i64 x7 1, x2, x3)
/-! lampwright bits.Add -/
def M_bits_Add (F : Nat) (x1 : Int) (x2 : List Int) (x5 : Int) (x6 : Int) : Option (Int × List Int) :=
  ((M_bits_own F x1 x2).bind fun x9 => ((M_bits_writer_number F x9.1 x9.2 x5 x6).bind fun x13 => some (x13.1, x13.2)))
/-! math bits.Len64 -/
def M_math_bits_Len64_j3 (_F : Nat) (x9 : Int) (x10 : Int) : Option Int :=
  ((idx ([0, 1, 2, 2, 3, 3, 3, 3, 4, 4, 4, 4, 4, 4, 4, 4, 5, 5, 5, 5, 5, 5, 5, 5, 5, 5, 5, 5, 5, 5, 5, 5, 6, 6, 6, 6, 6, 6, 6, 6, 6, 6, 6, 6, 6, 6, 6, 6, 6, 6, 6, 6, 6, 6, 6, 6, 6, 6, 6, 6, 6, 6, 6, 6, 7, 7, 7, 7, 7, 7, 7, 7, 7, 7, 7, 7, 7, 7, 7, 7, 7, 7, 7, 7, 7, 7, 7, 7, 7, 7, 7, 7, 7, 7, 7, 7, 7, 7, 7, 7, 7, 7, 7, 7, 7, 7, 7, 7, 7, 7, 7, 7, 7, 7, 7, 7, 7, 7, 7, 7, 7, 7, 7, 7, 7, 7, 7, 7, 8, 8, 8, 8, 8, 8, 8, 8, 8, 8, 8, 8, 8, 8, 8, 8, 8, 8, 8, 8, 8, 8, 8, 8, 8, 8, 8, 8, 8, 8, 8, 8, 8, 8, 8, 8, 8, 8, 8, 8, 8, 8, 8, 8, 8, 8, 8, 8, 8, 8, 8, 8, 8, 8, 8, 8, 8, 8, 8, 8, 8, 8, 8, 8, 8, 8, 8, 8, 8, 8, 8, 8, 8, 8, 8, 8, 8, 8, 8, 8, 8, 8, 8, 8, 8, 8, 8, 8, 8, 8, 8, 8, 8, 8, 8, 8, 8, 8, 8, 8, 8, 8, 8, 8, 8, 8, 8, 8, 8, 8, 8, 8, 8, 8, 8, 8, 8, 8, 8, 8, 8, 8, 8, 8, 8, 8, 8, 8] : List Int) (iconv .u8 x9)).bind fun x11 => some (iadd .i64 x10 (iconv .i64 x11)))
def M_math_bits_Len64_j2 (F : Nat) (x6 : Int) (x7 : Int) : Option Int :=
  (if (decide (256 ≤ x6)) then M_math_bits_Len64_j3 F (ishr .u64 x6 8) (iadd .i64 x7 8) else M_math_bits_Len64_j3 F x6 x7)
def M_math_bits_Len64_j1 (F : Nat) (x3 : Int) (x4 : Int) : Option Int :=
  (if (decide (65536 ≤ x3)) then M_math_bits_Len64_j2 F (ishr .u64 x3 16) (iadd .i64 x4 16) else M_math_bits_Len64_j2 F x3 x4)
def M_math_bits_Len64 (F : Nat) (x1 : Int) : Option Int :=
  (if (decide (4294967296 ≤ x1)) then M_math_bits_Len64_j1 F (ishr .u64 x1 32) 32 else M_math_bits_Len64_j1 F x1 0)
/-! lampwright elias.rest -/
def M_elias_rest (F : Nat) (x1 : Int) : Option Int :=
  ((M_math_bits_Len64 F (iadd .u64 x1 1)).bind fun x2 => some (isub .i64 x2 1))
/-! lampwright unary.Raw -/
def M_unary_Raw (F : Nat) (x1 : Int) : Option (Int × List Int) :=
  ((mk 140737488355328 (0 : Int) (iquo .u64 (iadd .u64 x1 7) 8)).bind fun x3 => ((M_bits_Add F (iconv .i64 x1) x3 1 1).bind fun x6 => some (x6.1, x6.2)))
/-! lampwright elias.low -/
def M_elias_low (_F : Nat) (x1 : Int) (x2 : Int) : Option Int :=
  (chk (decide (0 ≤ x2)) ((lett (iand .u64 x1 (isub .u64 (ishl .u64 1 x2) 1)) fun x4 => some x4)))
/-! lampwright elias.RawGamma -/
def M_elias_RawGamma (F : Nat) (x1 : Int) : Option (Int × List Int) :=
  ((M_elias_rest F x1).bind fun x3 => ((M_unary_Raw F (iconv .u64 x3)).bind fun x4 => ((M_elias_low F (iadd .u64 x1 1) x3).bind fun x7 => ((M_bits_Add F x4.1 x4.2 x7 x3).bind fun x8 => some (x8.1, x8.2)))))
/-! (*lampwright succ.writer).gamma -/
def M_succ_writer_gamma (F : Nat) (x2 : Int) (x3 : List Int) (x6 : Bool) (x7 : Int) : Option (Int × List Int × Bool) :=
  ((M_elias_RawGamma F (iconv .u64 x7)).bind fun x8 => ((M_succ_writer_add F x2 x3 x6 x8.1 x8.2).bind fun x11 => some (x11.1, x11.2.1, x11.2.2)))
/-! cmp.isNaN[int] -/
def M_cmp_isNaN_int (_F : Nat) (x1 : Int) : Option Bool :=
  some ((x1 : Int) != x1)
/-! cmp.Less[int] -/
def M_cmp_Less_int_j1 (_F : Nat) (x1 : Int) (x2 : Int) (x6 : Bool) : Option Bool :=
  some (x6 || (decide (x1 < x2)))
def M_cmp_Less_int (F : Nat) (x1 : Int) (x2 : Int) : Option Bool :=
  ((M_cmp_isNaN_int F x1).bind fun x3 => (if x3 then ((M_cmp_isNaN_int F x2).bind fun x8 => M_cmp_Less_int_j1 F x1 x2 (!x8)) else M_cmp_Less_int_j1 F x1 x2 false))
/-! slices.isNaN[int] -/
def M_slices_isNaN_int (_F : Nat) (x1 : Int) : Option Bool :=
  some ((x1 : Int) != x1)
/-! slices.BinarySearch[[]int,int] -/
def M_slices_BinarySearch_int_int_j6 (_F : Nat) (x32 : Int) (x55 : Bool) : Option (Int × Bool) :=
  some (x32, x55)
def M_slices_BinarySearch_int_int_j8 (F : Nat) (x32 : Int) (x68 : Bool) : Option (Int × Bool) :=
  M_slices_BinarySearch_int_int_j6 F x32 x68
def M_slices_BinarySearch_int_int_j9 (F : Nat) (x32 : Int) (x75 : Bool) : Option (Int × Bool) :=
  M_slices_BinarySearch_int_int_j8 F x32 x75
def M_slices_BinarySearch_int_int_j2 (F : Nat) (x1 : List Int) (x4 : Int) (x32 : Int) : Option (Int × Bool) :=
  (if (decide (x32 < (x1.length : Int))) then ((idx x1 x32).bind fun x56 => (if ((x56 : Int) == x4) then M_slices_BinarySearch_int_int_j8 F x32 true else ((idx x1 x32).bind fun x69 => ((M_slices_isNaN_int F x69).bind fun x72 => (if x72 then ((M_slices_isNaN_int F x4).bind fun x76 => M_slices_BinarySearch_int_int_j9 F x32 x76) else M_slices_BinarySearch_int_int_j9 F x32 false))))) else M_slices_BinarySearch_int_int_j6 F x32 false)
def M_slices_BinarySearch_int_int_b10 (F : Nat) (x1 : List Int) (x4 : Int) (rec10 : (Int × Int) → Option (Int × Bool)) (x85 : Int) (x86 : Int) : Option (Int × Bool) :=
  (if (decide (x85 < x86)) then (lett (iconv .i64 (ishr .u64 (iconv .u64 (iadd .i64 x85 x86)) 1)) fun x97 => ((idx x1 x97).bind fun x98 => ((M_cmp_Less_int F x98 x4).bind fun x101 => (if x101 then rec10 (iadd .i64 x97 1, x86) else rec10 (x85, x97))))) else M_slices_BinarySearch_int_int_j2 F x1 x4 x85)
def M_slices_BinarySearch_int_int_l10 (F : Nat) (x1 : List Int) (x4 : Int) : Nat → (Int × Int) → Option (Int × Bool)
  | 0 => fun _ => none
  | k + 1 => fun s => M_slices_BinarySearch_int_int_b10 F x1 x4 (M_slices_BinarySearch_int_int_l10 F x1 x4 k) s.1 s.2
def M_slices_BinarySearch_int_int (F : Nat) (x1 : List Int) (x4 : Int) : Option (Int × Bool) :=
  M_slices_BinarySearch_int_int_l10 F x1 x4 F (0, (x1.length : Int))
/-! (*lampwright parts.turner).see -/
def M_parts_turner_see_j1 (_F : Nat) (x21 : List Int) (x22 : Bool) (x23 : Int) : Option (List Int × Bool × Int) :=
  some (x21, x22, iadd .i64 x23 1)
def M_parts_turner_see (F : Nat) (x2 : List Int) (x5 : Bool) (x6 : Int) (x7 : Bool) : Option (List Int × Bool × Int) :=
  (if (x7 != x5) then ((app 8796093022208 x2 ([x6] : List Int)).bind fun x31 => M_parts_turner_see_j1 F x31 x7 0) else M_parts_turner_see_j1 F x2 x5 x6)
/-! lampwright parts.Raw -/
def M_parts_Raw_j7 (_F : Nat) (x66 : List Int) (x151 : List Int) : Option (List Int × List Int) :=
  some (x66, x151)
def M_parts_Raw_j11 (_F : Nat) (rec10 : (List Int × Int) → Option (List Int × List Int)) (x180 : Int) (x220 : List Int) : Option (List Int × List Int) :=
  rec10 (x220, iadd .i64 x180 1)
def M_parts_Raw_b10 (F : Nat) (x1 : List Int) (x4 : List Int) (x66 : List Int) (rec10 : (List Int × Int) → Option (List Int × List Int)) (x179 : List Int) (x180 : Int) : Option (List Int × List Int) :=
  (if (decide (x180 < (x4.length : Int))) then ((idx x4 x180).bind fun x221 => ((M_slices_BinarySearch_int_int F x1 x221).bind fun x224 => (if (!x224.2) then ((app 8796093022208 x179 ([x221] : List Int)).bind fun x227 => M_parts_Raw_j11 F rec10 x180 x227) else M_parts_Raw_j11 F rec10 x180 x179))) else M_parts_Raw_j7 F x66 x179)
def M_parts_Raw_l10 (F : Nat) (x1 : List Int) (x4 : List Int) (x66 : List Int) : Nat → (List Int × Int) → Option (List Int × List Int)
  | 0 => fun _ => none
  | k + 1 => fun s => M_parts_Raw_b10 F x1 x4 x66 (M_parts_Raw_l10 F x1 x4 x66 k) s.1 s.2
def M_parts_Raw_j2 (F : Nat) (x1 : List Int) (x4 : List Int) (x66 : List Int) (_x67 : Bool) (_x68 : Int) : Option (List Int × List Int) :=
  M_parts_Raw_l10 F x1 x4 x66 F (([] : List Int), 0)
def M_parts_Raw_b12 (F : Nat) (x1 : List Int) (x4 : List Int) (rec12 : (Int × List Int × Bool × Int) → Option (List Int × List Int)) (x249 : Int) (x252 : List Int) (x253 : Bool) (x254 : Int) : Option (List Int × List Int) :=
  (if (decide (x249 < (x1.length : Int))) then ((idx x1 x249).bind fun x280 => ((M_slices_BinarySearch_int_int F x4 x280).bind fun x283 => ((M_parts_turner_see F x252 x253 x254 x283.2).bind fun x284 => rec12 (iadd .i64 x249 1, x284.1, x284.2.1, x284.2.2)))) else M_parts_Raw_j2 F x1 x4 x252 x253 x254)
def M_parts_Raw_l12 (F : Nat) (x1 : List Int) (x4 : List Int) : Nat → (Int × List Int × Bool × Int) → Option (List Int × List Int)
  | 0 => fun _ => none
  | k + 1 => fun s => M_parts_Raw_b12 F x1 x4 (M_parts_Raw_l12 F x1 x4 k) s.1 s.2.1 s.2.2.1 s.2.2.2
def M_parts_Raw (F : Nat) (x1 : List Int) (x4 : List Int) : Option (List Int × List Int) :=
  M_parts_Raw_l12 F x1 x4 F (0, ([] : List Int), true, 0)
/-! (*lampwright succ.writer).blocks -/
def M_succ_writer_blocks_b1 (F : Nat) (x7 : List Int) (rec1 : (Int × Int × List Int × Bool) → Option (Int × List Int × Bool)) (x27 : Int) (x28 : Int) (x31 : List Int) (x32 : Bool) : Option (Int × List Int × Bool) :=
  (if (decide (x27 < (x7.length : Int))) then ((idx x7 x27).bind fun x55 => ((M_succ_writer_gamma F x28 x31 x32 (isub .i64 x55 (imin x27 1))).bind fun x58 => rec1 (iadd .i64 x27 1, x58.1, x58.2.1, x58.2.2))) else some (x28, x31, x32))
def M_succ_writer_blocks_l1 (F : Nat) (x7 : List Int) : Nat → (Int × Int × List Int × Bool) → Option (Int × List Int × Bool)
  | 0 => fun _ => none
  | k + 1 => fun s => M_succ_writer_blocks_b1 F x7 (M_succ_writer_blocks_l1 F x7 k) s.1 s.2.1 s.2.2.1 s.2.2.2
def M_succ_writer_blocks (F : Nat) (x2 : Int) (x3 : List Int) (x6 : Bool) (x7 : List Int) : Option (Int × List Int × Bool) :=
  ((M_succ_writer_gamma F x2 x3 x6 (x7.length : Int)).bind fun x10 => M_succ_writer_blocks_l1 F x7 F (0, x10.1, x10.2.1, x10.2.2))
/-! lampwright runs.runs -/
def M_runs_runs (_F : Nat) (_x1 : List Int) : Option Unit :=
  some ()
/-! lampwright runs.runs$1 -/
def M_runs_runs_1_j39 {σ τ : Type} (_F : Nat) (yy : σ → (Int × Int) → Option (σ ⊕ τ)) (rec31 : (Int × σ) → Option (σ ⊕ τ)) (x2 : List Int) (x266 : Int) (x267 : σ) (x654 : Int) : Option (σ ⊕ τ) :=
  ((idx x2 x266).bind fun x662 => ((yy x267 (x662, x654)).bind (Sum.elim (fun x665 => rec31 (iadd .i64 x266 x654, x665)) (fun x666 => some (.inr x666)))))
def M_runs_runs_1_j46 {σ τ : Type} (F : Nat) (yy : σ → (Int × Int) → Option (σ ⊕ τ)) (rec31 : (Int × σ) → Option (σ ⊕ τ)) (rec44 : Int → Option (σ ⊕ τ)) (x2 : List Int) (x266 : Int) (x267 : σ) (x709 : Int) (x780 : Bool) : Option (σ ⊕ τ) :=
  (if x780 then rec44 (iadd .i64 x709 1) else M_runs_runs_1_j39 F yy rec31 x2 x266 x267 x709)
def M_runs_runs_1_b44 {σ τ : Type} (F : Nat) (yy : σ → (Int × Int) → Option (σ ⊕ τ)) (rec31 : (Int × σ) → Option (σ ⊕ τ)) (x2 : List Int) (x266 : Int) (x267 : σ) (rec44 : Int → Option (σ ⊕ τ)) (x709 : Int) : Option (σ ⊕ τ) :=
  (if (decide ((iadd .i64 x266 x709) < (x2.length : Int))) then ((idx x2 (iadd .i64 x266 x709)).bind fun x783 => ((idx x2 x266).bind fun x787 => M_runs_runs_1_j46 F yy rec31 rec44 x2 x266 x267 x709 ((x783 : Int) == (iadd .i64 x787 x709)))) else M_runs_runs_1_j46 F yy rec31 rec44 x2 x266 x267 x709 false)
def M_runs_runs_1_l44 {σ τ : Type} (F : Nat) (yy : σ → (Int × Int) → Option (σ ⊕ τ)) (rec31 : (Int × σ) → Option (σ ⊕ τ)) (x2 : List Int) (x266 : Int) (x267 : σ) : Nat → Int → Option (σ ⊕ τ)
  | 0 => fun _ => none
  | k + 1 => fun s => M_runs_runs_1_b44 F yy rec31 x2 x266 x267 (M_runs_runs_1_l44 F yy rec31 x2 x266 x267 k) s
def M_runs_runs_1_b31 {σ τ : Type} (F : Nat) (yy : σ → (Int × Int) → Option (σ ⊕ τ)) (x2 : List Int) (rec31 : (Int × σ) → Option (σ ⊕ τ)) (x266 : Int) (x267 : σ) : Option (σ ⊕ τ) :=
  (if (decide (x266 < (x2.length : Int))) then M_runs_runs_1_l44 F yy rec31 x2 x266 x267 F 1 else some (.inl x267))
def M_runs_runs_1_l31 {σ τ : Type} (F : Nat) (yy : σ → (Int × Int) → Option (σ ⊕ τ)) (x2 : List Int) : Nat → (Int × σ) → Option (σ ⊕ τ)
  | 0 => fun _ => none
  | k + 1 => fun s => M_runs_runs_1_b31 F yy x2 (M_runs_runs_1_l31 F yy x2 k) s.1 s.2
def M_runs_runs_1 {σ τ : Type} (F : Nat) (yy : σ → (Int × Int) → Option (σ ⊕ τ)) (x2 : List Int) (s0 : σ) : Option (σ ⊕ τ) :=
  M_runs_runs_1_l31 F yy x2 F (0, s0)
/-! lampwright runs.Raw -/
def M_runs_Raw_b8 (_F : Nat) (x255 : List (Int × Int)) (x312 : Int) (x313 : Int) (rec8 : (Int × List Int) → Option ((List Int × List (Int × Int)) ⊕ Empty)) (x338 : Int) (x341 : List Int) : Option ((List Int × List (Int × Int)) ⊕ Empty) :=
  (if (decide (x338 < x313)) then ((app 8796093022208 x341 ([iadd .i64 x312 x338] : List Int)).bind fun x363 => rec8 (iadd .i64 x338 1, x363)) else some (.inl (x341, x255)))
def M_runs_Raw_l8 (F : Nat) (x255 : List (Int × Int)) (x312 : Int) (x313 : Int) : Nat → (Int × List Int) → Option ((List Int × List (Int × Int)) ⊕ Empty)
  | 0 => fun _ => none
  | k + 1 => fun s => M_runs_Raw_b8 F x255 x312 x313 (M_runs_Raw_l8 F x255 x312 x313 k) s.1 s.2
def M_runs_Raw_r5 (F : Nat) (x4 : Int) (x252 : List Int) (x255 : List (Int × Int)) (x312 : Int) (x313 : Int) : Option ((List Int × List (Int × Int)) ⊕ Empty) :=
  (if (decide (x4 ≤ x313)) then ((app 4398046511104 x255 ([(x312, x313)] : List (Int × Int))).bind fun x323 => some (.inl (x252, x323))) else M_runs_Raw_l8 F x255 x312 x313 F (0, x252))
def M_runs_Raw (F : Nat) (x1 : List Int) (x4 : Int) : Option (List (Int × Int) × List Int) :=
  ((M_runs_runs F x1).bind fun _x188 => ((M_runs_runs_1 F (fun ((x252, x255) : (List Int × List (Int × Int))) ((x312, x313) : (Int × Int)) => M_runs_Raw_r5 F x4 x252 x255 x312 x313) x1 (([] : List Int), ([] : List (Int × Int)))).bind (Sum.elim (fun ((x252, x255) : (List Int × List (Int × Int))) => some (x255, x252)) (fun t => t.elim))))
/-! lampwright varint.Fold -/
def M_varint_Fold (_F : Nat) (x1 : Int) : Option Int :=
  (lett (ixor .u64 (ishl .u64 (iconv .u64 x1) 1) (iconv .u64 (ishr .i64 x1 63))) fun x2 => some x2)
/-! (*lampwright succ.writer).runs -/
def M_succ_writer_runs_j7 (F : Nat) (rec5 : (Int × Int × Int × List Int × Bool) → Option (Int × List Int × Bool)) (x8 : Int) (x74 : Int) (x168 : (Int × Int)) (x180 : Int) (x183 : List Int) (x184 : Bool) : Option (Int × List Int × Bool) :=
  ((M_succ_writer_gamma F x180 x183 x184 (isub .i64 x168.2 x8)).bind fun x185 => rec5 (isub .i64 (iadd .i64 x168.1 x168.2) 1, iadd .i64 x74 1, x185.1, x185.2.1, x185.2.2))
def M_succ_writer_runs_b5 (F : Nat) (x8 : Int) (x9 : List (Int × Int)) (rec5 : (Int × Int × Int × List Int × Bool) → Option (Int × List Int × Bool)) (x73 : Int) (x74 : Int) (x75 : Int) (x78 : List Int) (x79 : Bool) : Option (Int × List Int × Bool) :=
  (if (decide (x74 < (x9.length : Int))) then ((idx x9 x74).bind fun x168 => (if ((x74 : Int) == 0) then ((M_varint_Fold F (isub .i64 x168.1 x73)).bind fun x188 => ((M_succ_writer_gamma F x75 x78 x79 (iconv .i64 x188)).bind fun x189 => M_succ_writer_runs_j7 F rec5 x8 x74 x168 x189.1 x189.2.1 x189.2.2)) else ((M_succ_writer_gamma F x75 x78 x79 (isub .i64 (isub .i64 x168.1 x73) 2)).bind fun x192 => M_succ_writer_runs_j7 F rec5 x8 x74 x168 x192.1 x192.2.1 x192.2.2))) else some (x75, x78, x79))
def M_succ_writer_runs_l5 (F : Nat) (x8 : Int) (x9 : List (Int × Int)) : Nat → (Int × Int × Int × List Int × Bool) → Option (Int × List Int × Bool)
  | 0 => fun _ => none
  | k + 1 => fun s => M_succ_writer_runs_b5 F x8 x9 (M_succ_writer_runs_l5 F x8 x9 k) s.1 s.2.1 s.2.2.1 s.2.2.2.1 s.2.2.2.2
def M_succ_writer_runs (F : Nat) (x2 : Int) (x3 : List Int) (x6 : Bool) (x7 : Int) (x8 : Int) (x9 : List (Int × Int)) : Option (Int × List Int × Bool) :=
  ((M_succ_writer_gamma F x2 x3 x6 (x9.length : Int)).bind fun x12 => M_succ_writer_runs_l5 F x8 x9 F (x7, 0, x12.1, x12.2.1, x12.2.2))
/-! lampwright golomb.span -/
def M_golomb_span (F : Nat) (x1 : Int) (x2 : Int) : Option (Int × Int × Int) :=
  ((M_math_bits_Len64 F (iadd .u64 x1 1)).bind fun x3 => (chk ((x2 : Int) != 0) ((chk (decide (0 ≤ (imul .i64 (iquo .i64 (isub .i64 x3 1) x2) x2))) ((chk (decide (0 ≤ (iadd .i64 (imul .i64 (iquo .i64 (isub .i64 x3 1) x2) x2) x2))) (some (iquo .i64 (isub .i64 x3 1) x2, ishl .u64 1 (imul .i64 (iquo .i64 (isub .i64 x3 1) x2) x2), ishl .u64 1 (iadd .i64 (imul .i64 (iquo .i64 (isub .i64 x3 1) x2) x2) x2)))))))))
/-! lampwright golomb.shape -/
def M_golomb_shape (F : Nat) (x1 : Int) : Option (Int × Int) :=
  ((M_math_bits_Len64 F (isub .u64 x1 1)).bind fun x2 => (chk (decide (0 ≤ x2)) (some (x2, isub .u64 (ishl .u64 1 x2) x1))))
/-! lampwright golomb.addLeast -/
def M_golomb_addLeast (F : Nat) (x1 : Int) (x2 : List Int) (x5 : Int) (x6 : Int) : Option (Int × List Int) :=
  ((M_golomb_shape F x6).bind fun x9 => (if (decide (x5 < x9.2)) then ((M_bits_Add F x1 x2 x5 (isub .i64 x9.1 1)).bind fun x14 => some (x14.1, x14.2)) else ((M_bits_Add F x1 x2 (iadd .u64 x5 x9.2) x9.1).bind fun x17 => some (x17.1, x17.2))))
/-! lampwright golomb.Zeta -/
def M_golomb_Zeta (F : Nat) (x1 : Int) (x2 : Int) : Option (Int × List Int × Int) :=
  (if (((decide (x2 < 1)) || (decide (16 < x2))) || (decide (1099511627776 < x1))) then some (0, ([] : List Int), 3) else ((M_golomb_span F x1 x2).bind fun x9 => ((M_unary_Raw F (iconv .u64 x9.1)).bind fun x10 => ((M_golomb_addLeast F x10.1 x10.2 (isub .u64 (iadd .u64 x1 1) x9.2.1) (isub .u64 x9.2.2 x9.2.1)).bind fun x13 => some (x13.1, x13.2, 0)))))
/-! lampwright gaps.Put -/
def M_gaps_Put_j2 (_F : Nat) (x107 : Int) (x110 : List Int) : Option (Int × List Int × Bool) :=
  some (x107, x110, true)
def M_gaps_Put_b3 (F : Nat) (x5 : List Int) (x8 : Int) (rec3 : (Int × Int × List Int) → Option (Int × List Int × Bool)) (x141 : Int) (x142 : Int) (x145 : List Int) : Option (Int × List Int × Bool) :=
  (if (decide (x141 < (x5.length : Int))) then ((idx x5 x141).bind fun x192 => ((M_golomb_Zeta F x192 x8).bind fun x195 => (if (((x195.2.2 : Int) != 0) || (decide (8192 < (iadd .i64 x142 x195.1)))) then some (0, ([] : List Int), false) else ((M_bits_Both F x142 x145 x195.1 x195.2.1).bind fun x202 => rec3 (iadd .i64 x141 1, x202.1, x202.2))))) else M_gaps_Put_j2 F x142 x145)
def M_gaps_Put_l3 (F : Nat) (x5 : List Int) (x8 : Int) : Nat → (Int × Int × List Int) → Option (Int × List Int × Bool)
  | 0 => fun _ => none
  | k + 1 => fun s => M_gaps_Put_b3 F x5 x8 (M_gaps_Put_l3 F x5 x8 k) s.1 s.2.1 s.2.2
def M_gaps_Put (F : Nat) (x1 : Int) (x2 : List Int) (x5 : List Int) (x8 : Int) : Option (Int × List Int × Bool) :=
  M_gaps_Put_l3 F x5 x8 F (0, x1, x2)
/-! (*lampwright gaps.walker).gap -/
def M_gaps_walker_gap_j1 (_F : Nat) (x4 : Int) (x8 : Int) : Option (Int × Int × Bool) :=
  some (x8, x4, true)
def M_gaps_walker_gap (F : Nat) (x2 : Int) (x3 : Bool) (x4 : Int) : Option (Int × Int × Bool) :=
  (if x3 then (lett (iconv .u64 (isub .i64 (isub .i64 x4 x2) 1)) fun x9 => M_gaps_walker_gap_j1 F x4 x9) else ((M_varint_Fold F (isub .i64 x4 x2)).bind fun x10 => M_gaps_walker_gap_j1 F x4 x10))
/-! lampwright gaps.Raw -/
def M_gaps_Raw_j2 (_F : Nat) (x75 : List Int) : Option (List Int) :=
  some x75
def M_gaps_Raw_b3 (F : Nat) (x1 : List Int) (rec3 : (List Int × Int × Int × Bool) → Option (List Int)) (x98 : List Int) (x99 : Int) (x100 : Int) (x101 : Bool) : Option (List Int) :=
  (if (decide (x99 < (x1.length : Int))) then ((idx x1 x99).bind fun x133 => ((M_gaps_walker_gap F x100 x101 x133).bind fun x136 => ((app 8796093022208 x98 ([x136.1] : List Int)).bind fun x139 => rec3 (x139, iadd .i64 x99 1, x136.2.1, x136.2.2)))) else M_gaps_Raw_j2 F x98)
def M_gaps_Raw_l3 (F : Nat) (x1 : List Int) : Nat → (List Int × Int × Int × Bool) → Option (List Int)
  | 0 => fun _ => none
  | k + 1 => fun s => M_gaps_Raw_b3 F x1 (M_gaps_Raw_l3 F x1 k) s.1 s.2.1 s.2.2.1 s.2.2.2
def M_gaps_Raw (F : Nat) (x1 : List Int) (x4 : Int) : Option (List Int) :=
  M_gaps_Raw_l3 F x1 F (([] : List Int), 0, x4, false)
/-! (*lampwright succ.writer).list -/
def M_succ_writer_list_j3 (F : Nat) (x52 : Int) (x55 : List Int) (x56 : Bool) (x76 : Bool) (x77 : Int) (x80 : List Int) : Option (Int × List Int × Bool) :=
  ((M_succ_writer_add F x52 x55 (x56 || (!x76)) x77 x80).bind fun x82 => some (x82.1, x82.2.1, x82.2.2))
def M_succ_writer_list_j2 (F : Nat) (x7 : Int) (x16 : Int) (x51 : List Int) (x52 : Int) (x55 : List Int) (x56 : Bool) : Option (Int × List Int × Bool) :=
  ((M_gaps_Raw F x51 x7).bind fun x85 => ((M_gaps_Put F 0 ([] : List Int) x85 x16).bind fun x88 => M_succ_writer_list_j3 F x52 x55 x56 x88.2.2 x88.1 x88.2.1))
def M_succ_writer_list_j1 (F : Nat) (x7 : Int) (x15 : Int) (x16 : Int) (x33 : List Int) (x34 : Int) (x37 : List Int) (x38 : Bool) : Option (Int × List Int × Bool) :=
  (if (((x33.length : Int) : Int) == 0) then some (x34, x37, x38) else (if (decide (0 < x15)) then ((M_runs_Raw F x33 x15).bind fun x103 => ((M_succ_writer_runs F x34 x37 x38 x7 x15 x103.1).bind fun x108 => M_succ_writer_list_j2 F x7 x16 x103.2 x108.1 x108.2.1 x108.2.2)) else M_succ_writer_list_j2 F x7 x16 x33 x34 x37 x38))
def M_succ_writer_list (F : Nat) (x2 : Int) (x3 : List Int) (x6 : Bool) (x7 : Int) (x8 : List Int) (x11 : List Int) (x14 : Int) (x15 : Int) (x16 : Int) : Option (Int × List Int × Bool) :=
  ((M_succ_writer_gamma F x2 x3 x6 (x8.length : Int)).bind fun x18 => (if (((x8.length : Int) : Int) == 0) then some (x18.1, x18.2.1, x18.2.2) else (if (decide (0 < x14)) then ((M_parts_Raw F x11 x8).bind fun x113 => ((M_succ_writer_blocks F x18.1 x18.2.1 x18.2.2 x113.1).bind fun x118 => M_succ_writer_list_j1 F x7 x15 x16 x113.2 x118.1 x118.2.1 x118.2.2)) else M_succ_writer_list_j1 F x7 x15 x16 x8 x18.1 x18.2.1 x18.2.2)))
/-! lampwright succ.Write -/
def M_succ_Write_j4 (F : Nat) (x1 : Int) (x2 : List Int) (x5 : List Int) (x8 : Int) (x9 : Int) (x10 : Int) (x25 : Int) : Option (Int × List Int × Int) :=
  (if ((x25 : Int) != 0) then some (0, ([] : List Int), x25) else ((M_succ_writer_list F 0 ([] : List Int) false x1 x2 x5 x8 x9 x10).bind fun x28 => (if x28.2.2 then some (0, ([] : List Int), 8) else some (x28.1, x28.2.1, 0))))
def M_succ_Write_j3 (F : Nat) (x1 : Int) (x2 : List Int) (x5 : List Int) (x8 : Int) (x9 : Int) (x10 : Int) (x22 : Int) : Option (Int × List Int × Int) :=
  (if ((x22 : Int) == 0) then ((M_succ_check F x1 x5 x8 x9 x10).bind fun x34 => M_succ_Write_j4 F x1 x2 x5 x8 x9 x10 x34) else M_succ_Write_j4 F x1 x2 x5 x8 x9 x10 x22)
def M_succ_Write_j2 (F : Nat) (x1 : Int) (x2 : List Int) (x5 : List Int) (x8 : Int) (x9 : Int) (x10 : Int) (x19 : Int) : Option (Int × List Int × Int) :=
  (if ((x19 : Int) == 0) then ((M_gaps_Check F x2).bind fun x36 => M_succ_Write_j3 F x1 x2 x5 x8 x9 x10 x36) else M_succ_Write_j3 F x1 x2 x5 x8 x9 x10 x19)
def M_succ_Write_j5 (F : Nat) (x1 : Int) (x2 : List Int) (x5 : List Int) (x8 : Int) (x9 : Int) (x10 : Int) (x13 : Int) (x40 : Bool) : Option (Int × List Int × Int) :=
  (if x40 then M_succ_Write_j2 F x1 x2 x5 x8 x9 x10 3 else M_succ_Write_j2 F x1 x2 x5 x8 x9 x10 x13)
def M_succ_Write (F : Nat) (x1 : Int) (x2 : List Int) (x5 : List Int) (x8 : Int) (x9 : Int) (x10 : Int) : Option (Int × List Int × Int) :=
  ((M_succ_Check F x8 x9 x10).bind fun x13 => (if ((x13 : Int) == 0) then M_succ_Write_j5 F x1 x2 x5 x8 x9 x10 x13 ((decide (x1 < 0)) || (decide (1048576 < x1))) else M_succ_Write_j5 F x1 x2 x5 x8 x9 x10 x13 false))
/-! lampwright lampwrightref.SameBytes -/
def M_R_SameBytes_j2 (_F : Nat) : Option Bool :=
  some true
def M_R_SameBytes_b3 (F : Nat) (x1 : List Int) (x4 : List Int) (rec3 : Int → Option Bool) (x154 : Int) : Option Bool :=
  (if (decide (x154 < (x1.length : Int))) then ((idx x1 x154).bind fun x218 => ((idx x4 x154).bind fun x222 => (if ((x218 : Int) != x222) then some false else rec3 (iadd .i64 x154 1)))) else M_R_SameBytes_j2 F)
def M_R_SameBytes_l3 (F : Nat) (x1 : List Int) (x4 : List Int) : Nat → Int → Option Bool
  | 0 => fun _ => none
  | k + 1 => fun s => M_R_SameBytes_b3 F x1 x4 (M_R_SameBytes_l3 F x1 x4 k) s
def M_R_SameBytes (F : Nat) (x1 : List Int) (x4 : List Int) : Option Bool :=
  (if (((x1.length : Int) : Int) != (x4.length : Int)) then some false else M_R_SameBytes_l3 F x1 x4 F 0)
/-! lampwright lampwrightref.SameBits -/
def M_R_SameBits_j1 (_F : Nat) (x13 : Bool) : Option Bool :=
  some x13
def M_R_SameBits (F : Nat) (x1 : Int) (x2 : List Int) (x5 : Int) (x6 : List Int) : Option Bool :=
  (if ((x1 : Int) == x5) then ((M_R_SameBytes F x2 x6).bind fun x14 => M_R_SameBits_j1 F x14) else M_R_SameBits_j1 F false)
/-! lampwright bits.Check -/
def M_bits_Check_j2 (_F : Nat) (x36 : Bool) : Option Int :=
  (if x36 then some 1 else some 0)
def M_bits_Check (F : Nat) (x1 : Int) (x2 : List Int) : Option Int :=
  (if ((decide (x1 < 0)) || (decide (8192 < x1))) then some 3 else (if (((x2.length : Int) : Int) != (iquo .i64 (iadd .i64 x1 7) 8)) then some 1 else (if (((irem x1 8) : Int) != 0) then ((idx x2 (isub .i64 (x2.length : Int) 1)).bind fun x39 => (chk (decide (0 ≤ (irem x1 8))) (M_bits_Check_j2 F (((ishl .u8 x39 (irem x1 8)) : Int) != 0)))) else M_bits_Check_j2 F false)))
/-! lampwright elias.Check -/
def M_elias_Check_j2 (_F : Nat) (x13 : Int) : Option Int :=
  some x13
def M_elias_Check_j3 (F : Nat) (x7 : Int) (x16 : Bool) : Option Int :=
  (if x16 then M_elias_Check_j2 F 3 else M_elias_Check_j2 F x7)
def M_elias_Check (F : Nat) (x1 : Int) (x2 : List Int) (x5 : Int) : Option Int :=
  ((M_bits_Check F x1 x2).bind fun x7 => (if ((x7 : Int) == 0) then M_elias_Check_j3 F x7 ((decide (x5 < 0)) || (decide (x1 < x5))) else M_elias_Check_j3 F x7 false))
/-! lampwright succ.must -/
def M_succ_must (_F : Nat) (x1 : Bool) : Option (Unit ⊕ Unit) :=
  (if (!x1) then some (.inr ()) else some (.inl ()))
/-! lampwright unary.From -/
def M_unary_From_j2 (_F : Nat) : Option (Int × Int × Bool) :=
  some (0, 0, false)
def M_unary_From_b3 (F : Nat) (x1 : Int) (x2 : List Int) (x5 : Int) (rec3 : Int → Option (Int × Int × Bool)) (x33 : Int) : Option (Int × Int × Bool) :=
  (if (decide (x33 < x1)) then ((M_bits_At F x1 x2 x33).bind fun x44 => (if ((x44 : Int) == 1) then some (iconv .u64 (isub .i64 x33 x5), iadd .i64 x33 1, true) else rec3 (iadd .i64 x33 1))) else M_unary_From_j2 F)
def M_unary_From_l3 (F : Nat) (x1 : Int) (x2 : List Int) (x5 : Int) : Nat → Int → Option (Int × Int × Bool)
  | 0 => fun _ => none
  | k + 1 => fun s => M_unary_From_b3 F x1 x2 x5 (M_unary_From_l3 F x1 x2 x5 k) s
def M_unary_From (F : Nat) (x1 : Int) (x2 : List Int) (x5 : Int) : Option (Int × Int × Bool) :=
  M_unary_From_l3 F x1 x2 x5 F x5
/-! lampwright elias.unaryLength -/
def M_elias_unaryLength (F : Nat) (x1 : Int) (x2 : List Int) (x5 : Int) : Option (Int × Int × Int) :=
  ((M_unary_From F x1 x2 x5).bind fun x7 => (if (!x7.2.2) then some (0, 0, 7) else some (x7.1, x7.2.1, 0)))
/-! lampwright bits.Read -/
def M_bits_Read_j2 (_F : Nat) (x24 : Int) : Option (Int × Bool) :=
  some (x24, true)
def M_bits_Read_b3 (F : Nat) (x1 : Int) (x2 : List Int) (x5 : Int) (x6 : Int) (rec3 : (Int × Int) → Option (Int × Bool)) (x29 : Int) (x30 : Int) : Option (Int × Bool) :=
  (if (decide (x30 < x6)) then ((M_bits_At F x1 x2 (iadd .i64 x5 x30)).bind fun x38 => rec3 (ior .u64 (ishl .u64 x29 1) x38, iadd .i64 x30 1)) else M_bits_Read_j2 F x29)
def M_bits_Read_l3 (F : Nat) (x1 : Int) (x2 : List Int) (x5 : Int) (x6 : Int) : Nat → (Int × Int) → Option (Int × Bool)
  | 0 => fun _ => none
  | k + 1 => fun s => M_bits_Read_b3 F x1 x2 x5 x6 (M_bits_Read_l3 F x1 x2 x5 x6 k) s.1 s.2
def M_bits_Read (F : Nat) (x1 : Int) (x2 : List Int) (x5 : Int) (x6 : Int) : Option (Int × Bool) :=
  (if (decide ((isub .i64 x1 x5) < x6)) then some (0, false) else M_bits_Read_l3 F x1 x2 x5 x6 F (0, 0))
/-! (lampwright elias.reader).number -/
def M_elias_reader_number_elias_unaryLength (F : Nat) (x1 : Int) (x2 : List Int) (x5 : Int) : Option (Int × Int × Int) :=
  ((M_elias_unaryLength F x1 x2 x5).bind fun x7 => (if ((x7.2.2 : Int) != 0) then some (0, 0, x7.2.2) else (if (decide (64 ≤ x7.1)) then some (0, 0, 3) else ((M_bits_Read F x1 x2 x7.2.1 (iconv .i64 x7.1)).bind fun x10 => (if (!x10.2) then some (0, 0, 7) else (chk (decide (0 ≤ x7.1)) ((lett (iadd .u64 x10.1 (isub .u64 (ishl .u64 1 x7.1) 1)) fun x16 => (if (decide (1099511627776 < x16)) then some (0, 0, 3) else some (x16, iadd .i64 x7.2.1 (iconv .i64 x7.1), 0))))))))))
/-! lampwright elias.FromGamma -/
def M_elias_FromGamma (F : Nat) (x1 : Int) (x2 : List Int) (x5 : Int) : Option (Int × Int × Int) :=
  ((M_elias_reader_number_elias_unaryLength F x1 x2 x5).bind fun x7 => some (x7.1, x7.2.1, x7.2.2))
/-! (*lampwright succ.reader).gamma -/
def M_succ_reader_gamma (F : Nat) (x2 : Int) (x3 : List Int) (x6 : Int) (x7 : Int) : Option ((Int × Int × Int) ⊕ (Int × Int)) :=
  ((M_elias_FromGamma F x2 x3 x6).bind fun x9 => (lbnd (M_succ_must F (((x9.2.2 : Int) == 0) && (decide (x9.1 ≤ (iconv .u64 x7))))) (fun _x11 => some (.inl (iconv .i64 x9.1, x2, x9.2.1))) (fun _x12 => some (.inr (x2, x6)))))
/-! lampwright parts.check -/
def M_parts_check_j14 (_F : Nat) (x4 : Int) (x99 : Int) : Option Int :=
  (if (decide (x4 < x99)) then some 8 else some 0)
def M_parts_check_j27 (_F : Nat) (rec23 : (Int × Int) → Option Int) (x4 : Int) (x132 : Int) (x133 : Int) (x180 : Int) (x190 : Bool) : Option Int :=
  (if x190 then some 3 else (lett (imin (iadd .i64 x132 (imin x180 (iadd .i64 x4 1))) (iadd .i64 x4 1)) fun x191 => rec23 (x191, iadd .i64 x133 1)))
def M_parts_check_b23 (F : Nat) (x1 : List Int) (x4 : Int) (rec23 : (Int × Int) → Option Int) (x132 : Int) (x133 : Int) : Option Int :=
  (if (decide (x133 < (x1.length : Int))) then ((idx x1 x133).bind fun x180 => (if (decide (x180 < 0)) then M_parts_check_j27 F rec23 x4 x132 x133 x180 true else M_parts_check_j27 F rec23 x4 x132 x133 x180 ((decide (x180 < 1)) && (decide (0 < x133))))) else M_parts_check_j14 F x4 x132)
def M_parts_check_l23 (F : Nat) (x1 : List Int) (x4 : Int) : Nat → (Int × Int) → Option Int
  | 0 => fun _ => none
  | k + 1 => fun s => M_parts_check_b23 F x1 x4 (M_parts_check_l23 F x1 x4 k) s.1 s.2
def M_parts_check (F : Nat) (x1 : List Int) (x4 : Int) : Option Int :=
  (if (decide ((iadd .i64 x4 1) < (x1.length : Int))) then some 2 else M_parts_check_l23 F x1 x4 F (0, 0))
/-! lampwright parts.copied -/
def M_parts_copied_j7 (_F : Nat) (x169 : List Int) : Option (List Int) :=
  some x169
def M_parts_copied_j6 (F : Nat) (x158 : List Int) (x161 : List Int) (x162 : Bool) : Option (List Int) :=
  (if x162 then ((app 8796093022208 x161 x158).bind fun x170 => M_parts_copied_j7 F x170) else M_parts_copied_j7 F x161)
def M_parts_copied_j12 (_F : Nat) (rec10 : (List Int × List Int × Bool × Int) → Option (List Int)) (x217 : List Int) (x221 : Bool) (x222 : Int) (x296 : Int) (x308 : List Int) : Option (List Int) :=
  ((sub x217 x296 (x217.length : Int)).bind fun x309 => rec10 (x309, x308, (!x221), iadd .i64 x222 1))
def M_parts_copied_b10 (F : Nat) (x4 : List Int) (rec10 : (List Int × List Int × Bool × Int) → Option (List Int)) (x217 : List Int) (x220 : List Int) (x221 : Bool) (x222 : Int) : Option (List Int) :=
  (if (decide (x222 < (x4.length : Int))) then ((idx x4 x222).bind fun x296 => (if x221 then ((sub x217 0 x296).bind fun x312 => ((app 8796093022208 x220 x312).bind fun x315 => M_parts_copied_j12 F rec10 x217 x221 x222 x296 x315)) else M_parts_copied_j12 F rec10 x217 x221 x222 x296 x220)) else M_parts_copied_j6 F x217 x220 x221)
def M_parts_copied_l10 (F : Nat) (x4 : List Int) : Nat → (List Int × List Int × Bool × Int) → Option (List Int)
  | 0 => fun _ => none
  | k + 1 => fun s => M_parts_copied_b10 F x4 (M_parts_copied_l10 F x4 k) s.1 s.2.1 s.2.2.1 s.2.2.2
def M_parts_copied (F : Nat) (x1 : List Int) (x4 : List Int) : Option (List Int) :=
  M_parts_copied_l10 F x4 F (x1, ([] : List Int), true, 0)
/-! lampwright parts.Copy -/
def M_parts_Copy_j1 (F : Nat) (x1 : List Int) (x4 : List Int) (x10 : Int) : Option (List Int × Int) :=
  (if ((x10 : Int) != 0) then some (([] : List Int), x10) else ((M_parts_copied F x1 x4).bind fun x12 => some (x12, 0)))
def M_parts_Copy (F : Nat) (x1 : List Int) (x4 : List Int) : Option (List Int × Int) :=
  ((M_gaps_Check F x1).bind fun x7 => (if ((x7 : Int) == 0) then ((M_parts_check F x4 (x1.length : Int)).bind fun x16 => M_parts_Copy_j1 F x1 x4 x16) else M_parts_Copy_j1 F x1 x4 x7))
/-! (*lampwright succ.reader).blocks -/
def M_succ_reader_blocks_j2 (_F : Nat) (x72 : List Int) (x73 : Int) (x74 : Int) : Option ((List Int × Int × Int) ⊕ (Int × Int)) :=
  some (.inl (x72, x73, x74))
def M_succ_reader_blocks_b3 (F : Nat) (x3 : List Int) (x7 : Int) (x10 : List Int) (rec3 : (List Int × Int × Int × Int) → Option ((List Int × Int × Int) ⊕ (Int × Int))) (x93 : List Int) (x94 : Int) (x95 : Int) (x96 : Int) : Option ((List Int × Int × Int) ⊕ (Int × Int)) :=
  (if (decide (x94 < (x10.length : Int))) then (lbnd (M_succ_reader_gamma F x95 x3 x96 x7) (fun x125 => ((idx x93 x94).bind fun _x127 => (lett (x93.set x94.toNat (iadd .i64 x125.1 (imin x94 1))) fun x130 => rec3 (x130, iadd .i64 x94 1, x125.2.1, x125.2.2)))) (fun x126 => some (.inr (x126.1, x126.2)))) else M_succ_reader_blocks_j2 F x93 x95 x96)
def M_succ_reader_blocks_l3 (F : Nat) (x3 : List Int) (x7 : Int) (x10 : List Int) : Nat → (List Int × Int × Int × Int) → Option ((List Int × Int × Int) ⊕ (Int × Int))
  | 0 => fun _ => none
  | k + 1 => fun s => M_succ_reader_blocks_b3 F x3 x7 x10 (M_succ_reader_blocks_l3 F x3 x7 x10 k) s.1 s.2.1 s.2.2.1 s.2.2.2
def M_succ_reader_blocks (F : Nat) (x2 : Int) (x3 : List Int) (x6 : Int) (x7 : Int) : Option ((List Int × Int × Int) ⊕ (Int × Int)) :=
  (lbnd (M_succ_reader_gamma F x2 x3 x6 (iadd .i64 x7 1)) (fun x8 => ((mk 17592186044416 (0 : Int) x8.1).bind fun x10 => M_succ_reader_blocks_l3 F x3 x7 x10 F (x10, 0, x8.2.1, x8.2.2))) (fun x9 => some (.inr (x9.1, x9.2))))
/-! lampwright varint.Unfold -/
def M_varint_Unfold (_F : Nat) (x1 : Int) : Option Int :=
  (lett (ixor .i64 (iconv .i64 (ishr .u64 x1 1)) (isub .i64 0 (iconv .i64 (iand .u64 x1 1)))) fun x2 => some x2)
/-! (*lampwright succ.reader).runs -/
def M_succ_reader_runs_j8 (_F : Nat) (x136 : List (Int × Int)) (x137 : Int) (x138 : Int) : Option ((List (Int × Int) × Int × Int) ⊕ (Int × Int)) :=
  some (.inl (x136, x137, x138))
def M_succ_reader_runs_j15 (F : Nat) (rec13 : (List (Int × Int) × Int × Int × Int × Int) → Option ((List (Int × Int) × Int × Int) ⊕ (Int × Int))) (x3 : List Int) (x8 : Int) (x9 : Int) (x177 : List (Int × Int)) (x179 : Int) (x240 : (Int × Int × Int)) (x244 : Int) : Option ((List (Int × Int) × Int × Int) ⊕ (Int × Int)) :=
  (lbnd (M_succ_reader_gamma F x240.2.1 x3 x240.2.2 x9) (fun x245 => ((idx x177 x179).bind fun _x247 => (lett (x177.set x179.toNat (x244, iadd .i64 x245.1 x8)) fun x250 => ((idx x250 x179).bind fun x253 => rec13 (x250, iadd .i64 x244 (isub .i64 x253.2 1), iadd .i64 x179 1, x245.2.1, x245.2.2))))) (fun x246 => some (.inr (x246.1, x246.2))))
def M_succ_reader_runs_b13 (F : Nat) (x3 : List Int) (x8 : Int) (x9 : Int) (x13 : List (Int × Int)) (rec13 : (List (Int × Int) × Int × Int × Int × Int) → Option ((List (Int × Int) × Int × Int) ⊕ (Int × Int))) (x177 : List (Int × Int)) (x178 : Int) (x179 : Int) (x180 : Int) (x181 : Int) : Option ((List (Int × Int) × Int × Int) ⊕ (Int × Int)) :=
  (if (decide (x179 < (x13.length : Int))) then (lbnd (M_succ_reader_gamma F x180 x3 x181 2097152) (fun x240 => (if ((x179 : Int) == 0) then ((M_varint_Unfold F (iconv .u64 x240.1)).bind fun x256 => M_succ_reader_runs_j15 F rec13 x3 x8 x9 x177 x179 x240 (iadd .i64 x178 x256)) else M_succ_reader_runs_j15 F rec13 x3 x8 x9 x177 x179 x240 (iadd .i64 x178 (iadd .i64 x240.1 2)))) (fun x241 => some (.inr (x241.1, x241.2)))) else M_succ_reader_runs_j8 F x177 x180 x181)
def M_succ_reader_runs_l13 (F : Nat) (x3 : List Int) (x8 : Int) (x9 : Int) (x13 : List (Int × Int)) : Nat → (List (Int × Int) × Int × Int × Int × Int) → Option ((List (Int × Int) × Int × Int) ⊕ (Int × Int))
  | 0 => fun _ => none
  | k + 1 => fun s => M_succ_reader_runs_b13 F x3 x8 x9 x13 (M_succ_reader_runs_l13 F x3 x8 x9 x13 k) s.1 s.2.1 s.2.2.1 s.2.2.2.1 s.2.2.2.2
def M_succ_reader_runs (F : Nat) (x2 : Int) (x3 : List Int) (x6 : Int) (x7 : Int) (x8 : Int) (x9 : Int) : Option ((List (Int × Int) × Int × Int) ⊕ (Int × Int)) :=
  (chk ((x8 : Int) != 0) ((lbnd (M_succ_reader_gamma F x2 x3 x6 (iquo .i64 x9 x8)) (fun x11 => ((mk 8796093022208 (((0 : Int), (0 : Int)) : (Int × Int)) x11.1).bind fun x13 => M_succ_reader_runs_l13 F x3 x8 x9 x13 F (x13, x7, 0, x11.2.1, x11.2.2))) (fun x12 => some (.inr (x12.1, x12.2))))))
/-! slices.Grow[[]int,int] -/
def M_slices_Grow_int_int_j1 (_F : Nat) (x15 : List Int) : Option (List Int) :=
  some x15
def M_slices_Grow_int_int (F : Nat) (x1 : List Int) (c3 : Nat) (x4 : Int) : Option (List Int) :=
  (if (decide (x4 < 0)) then none else (lett (isub .i64 x4 (isub .i64 (c3 : Int) (x1.length : Int))) fun x16 => (if (decide (0 < x16)) then ((sub x1 0 (c3 : Int)).bind fun x17 => ((appz 8796093022208 x17 (0 : Int) x16).bind fun x18 => ((sub x18 0 (x1.length : Int)).bind fun x21 => M_slices_Grow_int_int_j1 F x21))) else M_slices_Grow_int_int_j1 F x1)))
/-! slices.Concat[[]int,int] -/
def M_slices_Concat_int_int_j4 (_F : Nat) (x102 : List Int) : Option (List Int) :=
  some x102
def M_slices_Concat_int_int_b5 (F : Nat) (x1 : List (List Int)) (rec5 : (List Int × Int) → Option (List Int)) (x121 : List Int) (x122 : Int) : Option (List Int) :=
  (if (decide (x122 < (x1.length : Int))) then ((idx x1 x122).bind fun x148 => ((app 8796093022208 x121 x148).bind fun x152 => rec5 (x152, iadd .i64 x122 1))) else M_slices_Concat_int_int_j4 F x121)
def M_slices_Concat_int_int_l5 (F : Nat) (x1 : List (List Int)) : Nat → (List Int × Int) → Option (List Int)
  | 0 => fun _ => none
  | k + 1 => fun s => M_slices_Concat_int_int_b5 F x1 (M_slices_Concat_int_int_l5 F x1 k) s.1 s.2
def M_slices_Concat_int_int_j2 (F : Nat) (x1 : List (List Int)) (x43 : Int) : Option (List Int) :=
  ((M_slices_Grow_int_int F ([] : List Int) 0 x43).bind fun x44 => M_slices_Concat_int_int_l5 F x1 F (x44, 0))
def M_slices_Concat_int_int_b6 (F : Nat) (x1 : List (List Int)) (rec6 : (Int × Int) → Option (List Int)) (x168 : Int) (x169 : Int) : Option (List Int) :=
  (if (decide (x169 < (x1.length : Int))) then ((idx x1 x169).bind fun x189 => (if (decide ((iadd .i64 x168 (x189.length : Int)) < 0)) then none else rec6 (iadd .i64 x168 (x189.length : Int), iadd .i64 x169 1))) else M_slices_Concat_int_int_j2 F x1 x168)
def M_slices_Concat_int_int_l6 (F : Nat) (x1 : List (List Int)) : Nat → (Int × Int) → Option (List Int)
  | 0 => fun _ => none
  | k + 1 => fun s => M_slices_Concat_int_int_b6 F x1 (M_slices_Concat_int_int_l6 F x1 k) s.1 s.2
def M_slices_Concat_int_int (F : Nat) (x1 : List (List Int)) : Option (List Int) :=
  M_slices_Concat_int_int_l6 F x1 F (0, 0)
/-! slices.Sort[[]int,int] -/
def M_slices_Sort_int_int (_F : Nat) (x1 : List Int) : Option (List Int) :=
  if x1.length < 4611686018427387904 then some (srt x1) else none
/-! lampwright runs.within -/
def M_runs_within (_F : Nat) (x1 : Int) (x2 : Int) (x3 : Int) : Option Bool :=
  some ((decide (x2 ≤ x1)) && (decide (x1 ≤ x3)))
/-! lampwright runs.spread -/
def M_runs_spread_j25 (_F : Nat) (x462 : List Int) : Option (List Int × Int) :=
  some (x462, 0)
def M_runs_spread_j34 (_F : Nat) (rec32 : (List Int × Int) → Option (List Int × Int)) (x561 : Int) (x706 : List Int) : Option (List Int × Int) :=
  rec32 (x706, iadd .i64 x561 1)
def M_runs_spread_b35 (F : Nat) (rec32 : (List Int × Int) → Option (List Int × Int)) (x561 : Int) (x707 : (Int × Int)) (rec35 : (List Int × Int) → Option (List Int × Int)) (x725 : List Int) (x726 : Int) : Option (List Int × Int) :=
  (if (decide (x726 < x707.2)) then ((app 8796093022208 x725 ([iadd .i64 x707.1 x726] : List Int)).bind fun x748 => rec35 (x748, iadd .i64 x726 1)) else M_runs_spread_j34 F rec32 x561 x725)
def M_runs_spread_l35 (F : Nat) (rec32 : (List Int × Int) → Option (List Int × Int)) (x561 : Int) (x707 : (Int × Int)) : Nat → (List Int × Int) → Option (List Int × Int)
  | 0 => fun _ => none
  | k + 1 => fun s => M_runs_spread_b35 F rec32 x561 x707 (M_runs_spread_l35 F rec32 x561 x707 k) s.1 s.2
def M_runs_spread_b32 (F : Nat) (x1 : List (Int × Int)) (rec32 : (List Int × Int) → Option (List Int × Int)) (x560 : List Int) (x561 : Int) : Option (List Int × Int) :=
  (if (decide (x561 < (x1.length : Int))) then ((idx x1 x561).bind fun x707 => M_runs_spread_l35 F rec32 x561 x707 F (x560, 0)) else M_runs_spread_j25 F x560)
def M_runs_spread_l32 (F : Nat) (x1 : List (Int × Int)) : Nat → (List Int × Int) → Option (List Int × Int)
  | 0 => fun _ => none
  | k + 1 => fun s => M_runs_spread_b32 F x1 (M_runs_spread_l32 F x1 k) s.1 s.2
def M_runs_spread_j14 (F : Nat) (x1 : List (Int × Int)) : Option (List Int × Int) :=
  M_runs_spread_l32 F x1 F (([] : List Int), 0)
def M_runs_spread_j48 (_F : Nat) (rec44 : (Int × Int) → Option (List Int × Int)) (x807 : Int) (x808 : Int) (x891 : (Int × Int)) (x910 : Bool) : Option (List Int × Int) :=
  (if x910 then some (([] : List Int), 3) else (if (decide (x891.1 < (iadd .i64 x807 2))) then some (([] : List Int), 4) else rec44 (isub .i64 (iadd .i64 x891.1 x891.2) 1, iadd .i64 x808 1)))
def M_runs_spread_b44 (F : Nat) (x1 : List (Int × Int)) (rec44 : (Int × Int) → Option (List Int × Int)) (x807 : Int) (x808 : Int) : Option (List Int × Int) :=
  (if (decide (x808 < (x1.length : Int))) then ((idx x1 x808).bind fun x891 => ((M_runs_within F x891.1 0 1048576).bind fun x913 => (if (!x913) then M_runs_spread_j48 F rec44 x807 x808 x891 (!x913) else ((M_runs_within F x891.2 1 300).bind fun x914 => (if (!x914) then M_runs_spread_j48 F rec44 x807 x808 x891 (!x914) else M_runs_spread_j48 F rec44 x807 x808 x891 (decide (1048576 < (isub .i64 (iadd .i64 x891.1 x891.2) 1)))))))) else M_runs_spread_j14 F x1)
def M_runs_spread_l44 (F : Nat) (x1 : List (Int × Int)) : Nat → (Int × Int) → Option (List Int × Int)
  | 0 => fun _ => none
  | k + 1 => fun s => M_runs_spread_b44 F x1 (M_runs_spread_l44 F x1 k) s.1 s.2
def M_runs_spread (F : Nat) (x1 : List (Int × Int)) : Option (List Int × Int) :=
  (if (decide (300 < (x1.length : Int))) then some (([] : List Int), 2) else M_runs_spread_l44 F x1 F (-2, 0))
/-! slices.Compact[[]int,int] -/
def M_slices_Compact_int_int (_F : Nat) (x1 : List Int) : Option (List Int) :=
  if (Go.Lib.compact x1).length ≤ x1.length then some (Go.Lib.compact x1) else none
/-! slices.Clone[[]int,int] -/
def M_slices_Clone_int_int (_F : Nat) (x1 : List Int) : Option (List Int) :=
  ((app 8796093022208 ([] : List Int) x1).bind fun x8 => some x8)
/-! lampwright runs.Merge -/
def M_runs_Merge_j1 (F : Nat) (x4 : List Int) (x7 : (List Int × Int)) (x12 : Int) : Option (List Int × Int) :=
  (if ((x12 : Int) != 0) then some (([] : List Int), x12) else ((M_slices_Concat_int_int F ([x7.1, x4] : List (List Int))).bind fun x16 => ((M_slices_Sort_int_int F x16).bind fun x19 => (chk (decide (x19.length = x16.length)) (((M_slices_Clone_int_int F x19).bind fun x29 => ((M_slices_Compact_int_int F x29).bind fun x32 => (if (decide ((x32.length : Int) < (x19.length : Int))) then some (([] : List Int), 6) else (if (decide (300 < (x19.length : Int))) then some (([] : List Int), 2) else some (x19, 0))))))))))
def M_runs_Merge (F : Nat) (x1 : List (Int × Int)) (x4 : List Int) : Option (List Int × Int) :=
  ((M_runs_spread F x1).bind fun x7 => (if ((x7.2 : Int) == 0) then ((M_gaps_Check F x4).bind fun x38 => M_runs_Merge_j1 F x4 x7 x38) else M_runs_Merge_j1 F x4 x7 x7.2))
/-! lampwright golomb.fromLeast -/
def M_golomb_fromLeast_j1 (F : Nat) (x1 : Int) (x2 : List Int) (x5 : Int) (x8 : (Int × Int)) : Option (Int × Int × Bool) :=
  ((M_bits_Read F x1 x2 x5 x8.1).bind fun x14 => some (isub .u64 x14.1 x8.2, iadd .i64 x5 x8.1, x14.2))
def M_golomb_fromLeast (F : Nat) (x1 : Int) (x2 : List Int) (x5 : Int) (x6 : Int) : Option (Int × Int × Bool) :=
  ((M_golomb_shape F x6).bind fun x8 => (if (decide (0 < x8.2)) then ((M_bits_Read F x1 x2 x5 (isub .i64 x8.1 1)).bind fun x15 => (if (!x15.2) then some (0, 0, false) else (if (decide (x15.1 < x8.2)) then some (x15.1, isub .i64 (iadd .i64 x5 x8.1) 1, true) else M_golomb_fromLeast_j1 F x1 x2 x5 x8))) else M_golomb_fromLeast_j1 F x1 x2 x5 x8))
/-! lampwright golomb.ended -/
def M_golomb_ended (_F : Nat) (x1 : Int) (x2 : Int) (x3 : Bool) : Option (Int × Int × Int) :=
  (if (!x3) then some (0, 0, 7) else (if (decide (1099511627776 < x1)) then some (0, 0, 3) else some (x1, x2, 0)))
/-! lampwright golomb.FromZeta -/
def M_golomb_FromZeta (F : Nat) (x1 : Int) (x2 : List Int) (x5 : Int) (x6 : Int) : Option (Int × Int × Int) :=
  ((M_unary_From F x1 x2 x5).bind fun x8 => (if (!x8.2.2) then some (0, 0, 7) else (if (decide (41 ≤ (imul .u64 x8.1 (iconv .u64 x6)))) then some (0, 0, 3) else (chk (decide (0 ≤ (imul .i64 (iconv .i64 x8.1) x6))) ((lett (ishl .u64 1 (imul .i64 (iconv .i64 x8.1) x6)) fun x12 => (chk (decide (0 ≤ x6)) (((M_golomb_fromLeast F x1 x2 x8.2.1 (isub .u64 (ishl .u64 x12 x6) x12)).bind fun x20 => ((M_golomb_ended F (isub .u64 (iadd .u64 x12 x20.1) 1) x20.2.1 x20.2.2).bind fun x21 => some (x21.1, x21.2.1, x21.2.2)))))))))))
/-! (*lampwright gaps.walker).step -/
def M_gaps_walker_step_j1 (F : Nat) (x8 : Int) : Option (Bool × Int × Bool) :=
  ((M_gaps_node F x8).bind fun x9 => some (x9, x8, true))
def M_gaps_walker_step (F : Nat) (x2 : Int) (x3 : Bool) (x4 : Int) : Option (Bool × Int × Bool) :=
  (if (decide (2097152 < x4)) then some (false, x2, x3) else (if x3 then M_gaps_walker_step_j1 F (iadd .i64 x2 (iadd .i64 (iconv .i64 x4) 1)) else ((M_varint_Unfold F x4).bind fun x10 => M_gaps_walker_step_j1 F (iadd .i64 x2 x10))))
/-! lampwright gaps.From -/
def M_gaps_From_j2 (_F : Nat) (x105 : Int) (x108 : List Int) : Option (List Int × Int × Int) :=
  some (x108, x105, 0)
def M_gaps_From_b3 (F : Nat) (x1 : Int) (x2 : List Int) (x7 : Int) (x8 : Int) (rec3 : (Int × List Int × Int × Int × Bool) → Option (List Int × Int × Int)) (x138 : Int) (x141 : List Int) (x142 : Int) (x143 : Int) (x144 : Bool) : Option (List Int × Int × Int) :=
  (if (decide (x142 < x8)) then ((M_golomb_FromZeta F x1 x2 x138 x7).bind fun x190 => (if ((x190.2.2 : Int) != 0) then some (([] : List Int), 0, x190.2.2) else ((M_gaps_walker_step F x143 x144 x190.1).bind fun x193 => (if (!x193.1) then some (([] : List Int), 0, 3) else ((app 8796093022208 x141 ([x193.2.1] : List Int)).bind fun x196 => rec3 (x190.2.1, x196, iadd .i64 x142 1, x193.2.1, x193.2.2)))))) else M_gaps_From_j2 F x138 x141)
def M_gaps_From_l3 (F : Nat) (x1 : Int) (x2 : List Int) (x7 : Int) (x8 : Int) : Nat → (Int × List Int × Int × Int × Bool) → Option (List Int × Int × Int)
  | 0 => fun _ => none
  | k + 1 => fun s => M_gaps_From_b3 F x1 x2 x7 x8 (M_gaps_From_l3 F x1 x2 x7 x8 k) s.1 s.2.1 s.2.2.1 s.2.2.2.1 s.2.2.2.2
def M_gaps_From (F : Nat) (x1 : Int) (x2 : List Int) (x5 : Int) (x6 : Int) (x7 : Int) (x8 : Int) : Option (List Int × Int × Int) :=
  M_gaps_From_l3 F x1 x2 x7 x8 F (x5, ([] : List Int), 0, x6, false)
/-! (*lampwright succ.reader).list -/
def M_succ_reader_list_j2 (F : Nat) (x3 : List Int) (x7 : Int) (x13 : Int) (x15 : (Int × Int × Int)) (x31 : List Int) (x42 : List (Int × Int)) (x43 : Int) (x44 : Int) : Option ((List Int × Int × Int) ⊕ (Int × Int)) :=
  ((M_runs_Merge F x42 ([] : List Int)).bind fun x45 => (lbnd (M_succ_must F (((x45.2 : Int) == 0) && (decide ((x45.1.length : Int) ≤ (isub .i64 x15.1 (x31.length : Int)))))) (fun _x49 => ((M_gaps_From F x43 x3 x44 x7 x13 (isub .i64 (isub .i64 x15.1 (x31.length : Int)) (x45.1.length : Int))).bind fun x54 => (lbnd (M_succ_must F ((x54.2.2 : Int) == 0)) (fun _x57 => ((M_slices_Concat_int_int F ([x31, x45.1, x54.1] : List (List Int))).bind fun x61 => ((M_slices_Sort_int_int F x61).bind fun x64 => (chk (decide (x64.length = x61.length)) (some (.inl (x64, x43, x54.2.1))))))) (fun _x58 => some (.inr (x43, x44)))))) (fun _x50 => some (.inr (x43, x44)))))
def M_succ_reader_list_j1 (F : Nat) (x3 : List Int) (x7 : Int) (x12 : Int) (x13 : Int) (x15 : (Int × Int × Int)) (x31 : List Int) (x32 : Int) (x33 : Int) : Option ((List Int × Int × Int) ⊕ (Int × Int)) :=
  (if (((isub .i64 x15.1 (x31.length : Int)) : Int) == 0) then some (.inl (x31, x32, x33)) else (if (decide (0 < x12)) then (lbnd (M_succ_reader_runs F x32 x3 x33 x7 x12 (isub .i64 x15.1 (x31.length : Int))) (fun x66 => M_succ_reader_list_j2 F x3 x7 x13 x15 x31 x66.1 x66.2.1 x66.2.2) (fun x67 => some (.inr (x67.1, x67.2)))) else M_succ_reader_list_j2 F x3 x7 x13 x15 x31 ([] : List (Int × Int)) x32 x33))
def M_succ_reader_list (F : Nat) (x2 : Int) (x3 : List Int) (x6 : Int) (x7 : Int) (x8 : List Int) (x11 : Int) (x12 : Int) (x13 : Int) : Option ((List Int × Int × Int) ⊕ (Int × Int)) :=
  (lbnd (M_succ_reader_gamma F x2 x3 x6 300) (fun x15 => (if ((x15.1 : Int) == 0) then some (.inl (([] : List Int), x15.2.1, x15.2.2)) else (if (decide (0 < x11)) then (lbnd (M_succ_reader_blocks F x15.2.1 x3 x15.2.2 (x8.length : Int)) (fun x72 => ((M_parts_Copy F x8 x72.1).bind fun x76 => (lbnd (M_succ_must F (((x76.2 : Int) == 0) && (decide ((x76.1.length : Int) ≤ x15.1)))) (fun _x80 => M_succ_reader_list_j1 F x3 x7 x12 x13 x15 x76.1 x72.2.1 x72.2.2) (fun _x81 => some (.inr (x72.2.1, x72.2.2)))))) (fun x73 => some (.inr (x73.1, x73.2)))) else M_succ_reader_list_j1 F x3 x7 x12 x13 x15 ([] : List Int) x15.2.1 x15.2.2))) (fun x16 => some (.inr (x16.1, x16.2))))
/-! (*lampwright succ.reader).read -/
def M_succ_reader_read_j3 (_F : Nat) (x17 : (List Int × Int × Int)) : Option (List Int × Bool × Int × Int) :=
  some (x17.1, true, x17.2.1, x17.2.2)
def M_succ_reader_read_b4 (F : Nat) (x3 : List Int) (x6 : Int) (x17 : (List Int × Int × Int)) (x25 : (Int × List Int × Bool)) (rec4 : Int → Option (List Int × Bool × Int × Int)) (x75 : Int) : Option (List Int × Bool × Int × Int) :=
  (if (decide (x75 < x25.1)) then ((M_bits_At F x25.1 x25.2.1 x75).bind fun x92 => ((M_bits_At F x17.2.1 x3 (iadd .i64 x6 x75)).bind fun x93 => (lbnd (M_succ_must F ((x92 : Int) == x93)) (fun _x94 => rec4 (iadd .i64 x75 1)) (fun _x95 => some (([] : List Int), false, x17.2.1, x17.2.2))))) else M_succ_reader_read_j3 F x17)
def M_succ_reader_read_l4 (F : Nat) (x3 : List Int) (x6 : Int) (x17 : (List Int × Int × Int)) (x25 : (Int × List Int × Bool)) : Nat → Int → Option (List Int × Bool × Int × Int)
  | 0 => fun _ => none
  | k + 1 => fun s => M_succ_reader_read_b4 F x3 x6 x17 x25 (M_succ_reader_read_l4 F x3 x6 x17 x25 k) s
def M_succ_reader_read_j1 (F : Nat) (x3 : List Int) (x6 : Int) (x17 : (List Int × Int × Int)) (x25 : (Int × List Int × Bool)) : Option (List Int × Bool × Int × Int) :=
  M_succ_reader_read_l4 F x3 x6 x17 x25 F 0
def M_succ_reader_read (F : Nat) (x2 : Int) (x3 : List Int) (x6 : Int) (x7 : Int) (x8 : List Int) (x11 : Int) (x12 : Int) (x13 : Int) : Option (List Int × Bool × Int × Int) :=
  (lbnd (M_succ_reader_list F x2 x3 x6 x7 x8 x11 x12 x13) (fun x17 => ((M_gaps_Check F x17.1).bind fun x21 => (lbnd (M_succ_must F ((x21 : Int) == 0)) (fun _x22 => ((M_succ_writer_list F 0 ([] : List Int) false x7 x17.1 x8 x11 x12 x13).bind fun x25 => (if (!x25.2.2) then (lbnd (M_succ_must F ((x25.1 : Int) == (isub .i64 x17.2.2 x6))) (fun _x98 => M_succ_reader_read_j1 F x3 x6 x17 x25) (fun _x99 => some (([] : List Int), false, x17.2.1, x17.2.2))) else (lbnd (M_succ_must F false) (fun _x100 => M_succ_reader_read_j1 F x3 x6 x17 x25) (fun _x101 => some (([] : List Int), false, x17.2.1, x17.2.2)))))) (fun _x23 => some (([] : List Int), false, x17.2.1, x17.2.2))))) (fun x18 => some (([] : List Int), false, x18.1, x18.2)))
/-! lampwright succ.From -/
def M_succ_From (F : Nat) (x1 : Int) (x2 : List Int) (x5 : Int) (x6 : Int) (x7 : List Int) (x10 : Int) (x11 : Int) (x12 : Int) : Option (List Int × Int × Int) :=
  ((M_succ_reader_read F x1 x2 x5 x6 x7 x10 x11 x12).bind fun x16 => (if (!x16.2.1) then some (([] : List Int), 0, 1) else some (x16.1, x16.2.2.2, 0)))
/-! lampwright succ.Read -/
def M_succ_Read_j2 (F : Nat) (x1 : Int) (x2 : List Int) (x5 : Int) (x6 : Int) (x7 : List Int) (x10 : Int) (x11 : Int) (x12 : Int) (x21 : Int) : Option (List Int × Int × Int) :=
  (if ((x21 : Int) != 0) then some (([] : List Int), 0, x21) else ((M_succ_From F x1 x2 x5 x6 x7 x10 x11 x12).bind fun x23 => some (x23.1, x23.2.1, x23.2.2)))
def M_succ_Read_j1 (F : Nat) (x1 : Int) (x2 : List Int) (x5 : Int) (x6 : Int) (x7 : List Int) (x10 : Int) (x11 : Int) (x12 : Int) (x18 : Int) : Option (List Int × Int × Int) :=
  (if ((x18 : Int) == 0) then ((M_succ_check F x6 x7 x10 x11 x12).bind fun x27 => M_succ_Read_j2 F x1 x2 x5 x6 x7 x10 x11 x12 x27) else M_succ_Read_j2 F x1 x2 x5 x6 x7 x10 x11 x12 x18)
def M_succ_Read (F : Nat) (x1 : Int) (x2 : List Int) (x5 : Int) (x6 : Int) (x7 : List Int) (x10 : Int) (x11 : Int) (x12 : Int) : Option (List Int × Int × Int) :=
  ((M_succ_Check F x10 x11 x12).bind fun x15 => (if ((x15 : Int) == 0) then ((M_elias_Check F x1 x2 x5).bind fun x29 => M_succ_Read_j1 F x1 x2 x5 x6 x7 x10 x11 x12 x29) else M_succ_Read_j1 F x1 x2 x5 x6 x7 x10 x11 x12 x15))
/-! lampwright lampwrightref.SameInts -/
def M_R_SameInts_j2 (_F : Nat) : Option Bool :=
  some true
def M_R_SameInts_b3 (F : Nat) (x1 : List Int) (x4 : List Int) (rec3 : Int → Option Bool) (x154 : Int) : Option Bool :=
  (if (decide (x154 < (x1.length : Int))) then ((idx x1 x154).bind fun x218 => ((idx x4 x154).bind fun x222 => (if ((x218 : Int) != x222) then some false else rec3 (iadd .i64 x154 1)))) else M_R_SameInts_j2 F)
def M_R_SameInts_l3 (F : Nat) (x1 : List Int) (x4 : List Int) : Nat → Int → Option Bool
  | 0 => fun _ => none
  | k + 1 => fun s => M_R_SameInts_b3 F x1 x4 (M_R_SameInts_l3 F x1 x4 k) s
def M_R_SameInts (F : Nat) (x1 : List Int) (x4 : List Int) : Option Bool :=
  (if (((x1.length : Int) : Int) != (x4.length : Int)) then some false else M_R_SameInts_l3 F x1 x4 F 0)
/-! lampwright lampwrightlaw.succBegun -/
def M_L_succBegun_j3 (_F : Nat) (x36 : Bool) : Option Bool :=
  some x36
def M_L_succBegun_j2 (F : Nat) (x15 : (Int × List Int × Int)) (x19 : (List Int × Int × Int)) (x31 : Bool) : Option Bool :=
  (if ((x31 && ((x15.2.2 : Int) == 0)) && ((x19.2.2 : Int) == 1)) then ((M_succ_Check F 0 1 1).bind fun x37 => M_L_succBegun_j3 F ((x37 : Int) == 3)) else M_L_succBegun_j3 F false)
def M_L_succBegun_j1 (F : Nat) (x6 : (Int × List Int × Int)) (x12 : (List Int × Int × Int)) (x15 : (Int × List Int × Int)) (x19 : (List Int × Int × Int)) (x24 : Bool) : Option Bool :=
  (if ((x24 && ((x12.2.1 : Int) == x6.1)) && ((x12.2.2 : Int) == 0)) then ((M_R_SameBits F x15.1 x15.2.1 1 ([128] : List Int)).bind fun x40 => M_L_succBegun_j2 F x15 x19 x40) else M_L_succBegun_j2 F x15 x19 false)
def M_L_succBegun (F : Nat)  : Option Bool :=
  ((M_succ_Write F 7 ([2, 3, 4, 5, 9, 20] : List Int) ([3, 9, 11] : List Int) 1 3 2).bind fun x6 => ((M_succ_Read F x6.1 x6.2.1 0 7 ([3, 9, 11] : List Int) 1 3 2).bind fun x12 => ((M_succ_Write F 7 ([] : List Int) ([] : List Int) 0 0 1).bind fun x15 => ((M_succ_Read F 0 ([] : List Int) 0 7 ([] : List Int) 0 0 1).bind fun x19 => (if ((x6.2.2 : Int) == 0) then ((M_R_SameInts F x12.1 ([2, 3, 4, 5, 9, 20] : List Int)).bind fun x41 => M_L_succBegun_j1 F x6 x12 x15 x19 x41) else M_L_succBegun_j1 F x6 x12 x15 x19 false)))))
/-! lampwright lampwrightlaw.SuccShift$1 -/
def M_L_SuccShift_1_j2 (_F : Nat) (x73 : List Int) : Option (List Int) :=
  some x73
def M_L_SuccShift_1_b3 (F : Nat) (x1 : List Int) (x5 : Int) (rec3 : (List Int × Int) → Option (List Int)) (x96 : List Int) (x97 : Int) : Option (List Int) :=
  (if (decide (x97 < (x1.length : Int))) then ((idx x1 x97).bind fun x129 => ((app 8796093022208 x96 ([iadd .i64 x129 x5] : List Int)).bind fun x135 => rec3 (x135, iadd .i64 x97 1))) else M_L_SuccShift_1_j2 F x96)
def M_L_SuccShift_1_l3 (F : Nat) (x1 : List Int) (x5 : Int) : Nat → (List Int × Int) → Option (List Int)
  | 0 => fun _ => none
  | k + 1 => fun s => M_L_SuccShift_1_b3 F x1 x5 (M_L_SuccShift_1_l3 F x1 x5 k) s.1 s.2
def M_L_SuccShift_1 (F : Nat) (x1 : List Int) (x5 : Int) : Option (List Int) :=
  M_L_SuccShift_1_l3 F x1 x5 F (([] : List Int), 0)
/-! lampwright lampwrightlaw.SuccShift -/
def M_L_SuccShift_j4 (_F : Nat) (x72 : Bool) : Option Bool :=
  some x72
def M_L_SuccShift_j5 (F : Nat) (x75 : Bool) : Option Bool :=
  M_L_SuccShift_j4 F x75
def M_L_SuccShift_j2 (F : Nat) (x14 : (Int × List Int × Int)) (x62 : Int) (x63 : Int) (x66 : List Int) : Option Bool :=
  (if ((x62 : Int) == 3) then M_L_SuccShift_j4 F true else (if ((x62 : Int) == 0) then ((M_R_SameBits F x14.1 x14.2.1 x63 x66).bind fun x76 => M_L_SuccShift_j5 F x76) else M_L_SuccShift_j5 F false))
def M_L_SuccShift_j1 (F : Nat) (x1 : Int) (x2 : List Int) (x8 : Int) (x9 : Int) (x10 : Int) (x11 : Int) (x14 : (Int × List Int × Int)) (x29 : List Int) : Option Bool :=
  ((M_L_SuccShift_1 F x2 x11).bind fun x77 => ((M_L_SuccShift_1 F x29 x11).bind fun x80 => ((M_succ_Write F (iadd .i64 x1 x11) x77 x80 x8 x9 x10).bind fun x83 => M_L_SuccShift_j2 F x14 x83.2.2 x83.1 x83.2.1)))
def M_L_SuccShift (F : Nat) (x1 : Int) (x2 : List Int) (x5 : List Int) (x8 : Int) (x9 : Int) (x10 : Int) (x11 : Int) : Option Bool :=
  ((M_succ_Write F x1 x2 x5 x8 x9 x10).bind fun x14 => ((M_L_succBegun F).bind fun x20 => (if (!x20) then some false else (if ((((x14.2.2 : Int) != 0) || (decide (x11 < (-1048576)))) || (decide (1048576 < x11))) then some true else (if ((x8 : Int) == 0) then M_L_SuccShift_j1 F x1 x2 x8 x9 x10 x11 x14 ([] : List Int) else M_L_SuccShift_j1 F x1 x2 x8 x9 x10 x11 x14 x5)))))
end Go.Proofs.Ytidnfcdnhdbolaa
