/- What each Go function of this seat computes, in plain terms. -/
import Derived.Test.YtjeaicfjildchaaSx
namespace Go.Proofs.Ytjeaicfjildchaa
open Go SX
/-! math bits.Len64 -/
def M_math_bits_Len64_j3 (_F : Nat) (x9 : Int) (x10 : Int) : Option Int :=
  ((idx ([0, 1, 2, 2, 3, 3, 3, 3, 4, 4, 4, 4, 4, 4, 4, 4, 5, 5, 5, 5, 5, 5, 5, 5, 5, 5, 5, 5, 5, 5, 5, 5, 6, 6, 6, 6, 6, 6, 6, 6, 6, 6, 6, 6, 6, 6, 6, 6, 6, 6, 6, 6, 6, 6, 6, 6, 6, 6, 6, 6, 6, 6, 6, 6, 7, 7, 7, 7, 7, 7, 7, 7, 7, 7, 7, 7, 7, 7, 7, 7, 7, 7, 7, 7, 7, 7, 7, 7, 7, 7, 7, 7, 7, 7, 7, 7, 7, 7, 7, 7, 7, 7, 7, 7, 7, 7, 7, 7, 7, 7, 7, 7, 7, 7, 7, 7, 7, 7, 7, 7, 7, 7, 7, 7, 7, 7, 7, 7, 8, 8, 8, 8, 8, 8, 8, 8, 8, 8, 8, 8, 8, 8, 8, 8, 8, 8, 8, 8, 8, 8, 8, 8, 8, 8, 8, 8, 8, 8, 8, 8, 8, 8, 8, 8, 8, 8, 8, 8, 8, 8, 8, 8, 8, 8, 8, 8, 8, 8, 8, 8, 8, 8, 8, 8, 8, 8, 8, 8, 8, 8, 8, 8, 8, 8, 8, 8, 8, 8, 8, 8, 8, 8, 8, 8, 8, 8, 8, 8, 8, 8, 8, 8, 8, 8, 8, 8, 8, 8, 8, 8, 8, 8, 8, 8, 8, 8, 8, 8, 8, 8, 8, 8, 8, 8, 8, 8, 8, 8, 8, 8, 8, 8, 8, 8, 8, 8, 8, 8, 8, 8, 8, 8, 8, 8, 8, 8] : List Int) (iconv .u8 x9)).bind fun x11 => some (iadd .i64 x10 (iconv .i64 x11)))
def M_math_bits_Len64_j2 (F : Nat) (x6 : Int) (x7 : Int) : Option Int :=
  (if (decide (256 ≤ x6)) then M_math_bits_Len64_j3 F (ishr .u64 x6 8) (iadd .i64 x7 8) else M_math_bits_Len64_j3 F x6 x7)
def M_math_bits_Len64_j1 (F : Nat) (x3 : Int) (x4 : Int) : Option Int :=
  (if (decide (65536 ≤ x3)) then M_math_bits_Len64_j2 F (ishr .u64 x3 16) (iadd .i64 x4 16) else M_math_bits_Len64_j2 F x3 x4)
def M_math_bits_Len64 (F : Nat) (x1 : Int) : Option Int :=
  (if (decide (4294967296 ≤ x1)) then M_math_bits_Len64_j1 F (ishr .u64 x1 32) 32 else M_math_bits_Len64_j1 F x1 0)
/-! lampwright elias.rest -/
def M_elias_rest (F : Nat) (x1 : Int) : Option Int :=
  ((M_math_bits_Len64 F (iadd .u64 x1 1)).bind fun x2 => some (isub .i64 x2 1))
/-! slices.Clone[[]byte,byte] -/
def M_slices_Clone_byte_byte (_F : Nat) (x1 : List Int) : Option (List Int) :=
  ((app 70368744177664 ([] : List Int) x1).bind fun x8 => some x8)
/-! lampwright bits.own -/
def M_bits_own (F : Nat) (x1 : Int) (x2 : List Int) : Option (Int × List Int) :=
  ((M_slices_Clone_byte_byte F x2).bind fun x10 => some (x1, x10))
/-! (*lampwright bits.writer).bit -/
def M_bits_writer_bit_j1 (_F : Nat) (x2 : Int) (x6 : Int) (x15 : List Int) : Option (Int × List Int) :=
  ((idx x15 (iquo .i64 x2 8)).bind fun x30 => (chk (decide (0 ≤ (irem x2 8))) (((idx x15 (iquo .i64 x2 8)).bind fun _x36 => (lett (x15.set (iquo .i64 x2 8).toNat (ior .u8 x30 (ishr .u8 (iconv .u8 (ishl .u64 x6 7)) (irem x2 8)))) fun x41 => some (iadd .i64 x2 1, x41))))))
def M_bits_writer_bit (F : Nat) (x2 : Int) (x3 : List Int) (x6 : Int) : Option (Int × List Int) :=
  (if (((irem x2 8) : Int) == 0) then ((app 70368744177664 x3 ([0] : List Int)).bind fun x46 => M_bits_writer_bit_j1 F x2 x6 x46) else M_bits_writer_bit_j1 F x2 x6 x3)
/-! (*lampwright bits.writer).number -/
def M_bits_writer_number_b1 (F : Nat) (x6 : Int) (rec1 : (Int × Int × List Int) → Option (Int × List Int)) (x18 : Int) (x19 : Int) (x22 : List Int) : Option (Int × List Int) :=
  (if (decide (0 ≤ x18)) then (chk (decide (0 ≤ x18)) (((M_bits_writer_bit F x19 x22 (iand .u64 (ishr .u64 x6 x18) 1)).bind fun x40 => rec1 (isub .i64 x18 1, x40.1, x40.2)))) else some (x19, x22))
def M_bits_writer_number_l1 (F : Nat) (x6 : Int) : Nat → (Int × Int × List Int) → Option (Int × List Int)
  | 0 => fun _ => none
  | k + 1 => fun s => M_bits_writer_number_b1 F x6 (M_bits_writer_number_l1 F x6 k) s.1 s.2.1 s.2.2
def M_bits_writer_number (F : Nat) (x2 : Int) (x3 : List Int) (x6 : Int) (x7 : Int) : Option (Int × List Int) :=
  M_bits_writer_number_l1 F x6 F (isub .i64 x7 1, x2, x3)
/-! lampwright bits.Add -/
def M_bits_Add (F : Nat) (x1 : Int) (x2 : List Int) (x5 : Int) (x6 : Int) : Option (Int × List Int) :=
  ((M_bits_own F x1 x2).bind fun x9 => ((M_bits_writer_number F x9.1 x9.2 x5 x6).bind fun x13 => some (x13.1, x13.2)))
/-! lampwright unary.Raw -/
def M_unary_Raw (F : Nat) (x1 : Int) : Option (Int × List Int) :=
  ((mk 140737488355328 (0 : Int) (iquo .u64 (iadd .u64 x1 7) 8)).bind fun x3 => ((M_bits_Add F (iconv .i64 x1) x3 1 1).bind fun x6 => some (x6.1, x6.2)))
/-! lampwright elias.low -/
def M_elias_low (_F : Nat) (x1 : Int) (x2 : Int) : Option Int :=
  (chk (decide (0 ≤ x2)) ((lett (iand .u64 x1 (isub .u64 (ishl .u64 1 x2) 1)) fun x4 => some x4)))
/-! lampwright elias.RawGamma -/
def M_elias_RawGamma (F : Nat) (x1 : Int) : Option (Int × List Int) :=
  ((M_elias_rest F x1).bind fun x3 => ((M_unary_Raw F (iconv .u64 x3)).bind fun x4 => ((M_elias_low F (iadd .u64 x1 1) x3).bind fun x7 => ((M_bits_Add F x4.1 x4.2 x7 x3).bind fun x8 => some (x8.1, x8.2)))))
/-! lampwright elias.code -/
def M_elias_code_elias_RawGamma (F : Nat) (x1 : Int) : Option (Int × List Int × Int) :=
  (if (decide (1099511627776 < x1)) then some (0, ([] : List Int), 3) else ((M_elias_RawGamma F x1).bind fun x4 => some (x4.1, x4.2, 0)))
/-! lampwright elias.Gamma -/
def M_elias_Gamma (F : Nat) (x1 : Int) : Option (Int × List Int × Int) :=
  ((M_elias_code_elias_RawGamma F x1).bind fun x3 => some (x3.1, x3.2.1, x3.2.2))
/-! lampwright elias.RawDelta -/
def M_elias_RawDelta (F : Nat) (x1 : Int) : Option (Int × List Int) :=
  ((M_elias_rest F x1).bind fun x3 => ((M_elias_RawGamma F (iconv .u64 x3)).bind fun x4 => ((M_elias_low F (iadd .u64 x1 1) x3).bind fun x7 => ((M_bits_Add F x4.1 x4.2 x7 x3).bind fun x8 => some (x8.1, x8.2)))))
/-! lampwright elias.code -/
def M_elias_code_elias_RawDelta (F : Nat) (x1 : Int) : Option (Int × List Int × Int) :=
  (if (decide (1099511627776 < x1)) then some (0, ([] : List Int), 3) else ((M_elias_RawDelta F x1).bind fun x4 => some (x4.1, x4.2, 0)))
/-! lampwright elias.Delta -/
def M_elias_Delta (F : Nat) (x1 : Int) : Option (Int × List Int × Int) :=
  ((M_elias_code_elias_RawDelta F x1).bind fun x3 => some (x3.1, x3.2.1, x3.2.2))
/-! lampwright bits.Check -/
def M_bits_Check_j2 (_F : Nat) (x36 : Bool) : Option Int :=
  (if x36 then some 1 else some 0)
def M_bits_Check (F : Nat) (x1 : Int) (x2 : List Int) : Option Int :=
  (if ((decide (x1 < 0)) || (decide (8192 < x1))) then some 3 else (if (((x2.length : Int) : Int) != (iquo .i64 (iadd .i64 x1 7) 8)) then some 1 else (if (((irem x1 8) : Int) != 0) then ((idx x2 (isub .i64 (x2.length : Int) 1)).bind fun x39 => (chk (decide (0 ≤ (irem x1 8))) (M_bits_Check_j2 F (((ishl .u8 x39 (irem x1 8)) : Int) != 0)))) else M_bits_Check_j2 F false)))
/-! lampwright elias.Check -/
def M_elias_Check_j2 (_F : Nat) (x13 : Int) : Option Int :=
  some x13
def M_elias_Check_j3 (F : Nat) (x7 : Int) (x16 : Bool) : Option Int :=
  (if x16 then M_elias_Check_j2 F 3 else M_elias_Check_j2 F x7)
def M_elias_Check (F : Nat) (x1 : Int) (x2 : List Int) (x5 : Int) : Option Int :=
  ((M_bits_Check F x1 x2).bind fun x7 => (if ((x7 : Int) == 0) then M_elias_Check_j3 F x7 ((decide (x5 < 0)) || (decide (x1 < x5))) else M_elias_Check_j3 F x7 false))
/-! lampwright bits.At -/
def M_bits_At (_F : Nat) (_x1 : Int) (x2 : List Int) (x5 : Int) : Option Int :=
  ((idx x2 (iquo .i64 x5 8)).bind fun x7 => (chk (decide (0 ≤ (isub .i64 7 (irem x5 8)))) ((lett (iand .u64 (iconv .u64 (ishr .u8 x7 (isub .i64 7 (irem x5 8)))) 1) fun x11 => some x11))))
/-! lampwright unary.From -/
def M_unary_From_j2 (_F : Nat) : Option (Int × Int × Bool) :=
  some (0, 0, false)
def M_unary_From_b3 (F : Nat) (x1 : Int) (x2 : List Int) (x5 : Int) (rec3 : Int → Option (Int × Int × Bool)) (x33 : Int) : Option (Int × Int × Bool) :=
  (if (decide (x33 < x1)) then ((M_bits_At F x1 x2 x33).bind fun x44 => (if ((x44 : Int) == 1) then some (iconv .u64 (isub .i64 x33 x5), iadd .i64 x33 1, true) else rec3 (iadd .i64 x33 1))) else M_unary_From_j2 F)
def M_unary_From_l3 (F : Nat) (x1 : Int) (x2 : List Int) (x5 : Int) : Nat → Int → Option (Int × Int × Bool)
  | 0 => fun _ => none
  | k + 1 => fun s => M_unary_From_b3 F x1 x2 x5 (M_unary_From_l3 F x1 x2 x5 k) s
def M_unary_From (F : Nat) (x1 : Int) (x2 : List Int) (x5 : Int) : Option (Int × Int × Bool) :=
  M_unary_From_l3 F x1 x2 x5 F x5
/-! lampwright elias.unaryLength -/
def M_elias_unaryLength (F : Nat) (x1 : Int) (x2 : List Int) (x5 : Int) : Option (Int × Int × Int) :=
  ((M_unary_From F x1 x2 x5).bind fun x7 => (if (!x7.2.2) then some (0, 0, 7) else some (x7.1, x7.2.1, 0)))
/-! lampwright bits.Read -/
def M_bits_Read_j2 (_F : Nat) (x24 : Int) : Option (Int × Bool) :=
  some (x24, true)
def M_bits_Read_b3 (F : Nat) (x1 : Int) (x2 : List Int) (x5 : Int) (x6 : Int) (rec3 : (Int × Int) → Option (Int × Bool)) (x29 : Int) (x30 : Int) : Option (Int × Bool) :=
  (if (decide (x30 < x6)) then ((M_bits_At F x1 x2 (iadd .i64 x5 x30)).bind fun x38 => rec3 (ior .u64 (ishl .u64 x29 1) x38, iadd .i64 x30 1)) else M_bits_Read_j2 F x29)
def M_bits_Read_l3 (F : Nat) (x1 : Int) (x2 : List Int) (x5 : Int) (x6 : Int) : Nat → (Int × Int) → Option (Int × Bool)
  | 0 => fun _ => none
  | k + 1 => fun s => M_bits_Read_b3 F x1 x2 x5 x6 (M_bits_Read_l3 F x1 x2 x5 x6 k) s.1 s.2
def M_bits_Read (F : Nat) (x1 : Int) (x2 : List Int) (x5 : Int) (x6 : Int) : Option (Int × Bool) :=
  (if (decide ((isub .i64 x1 x5) < x6)) then some (0, false) else M_bits_Read_l3 F x1 x2 x5 x6 F (0, 0))
/-! (lampwright elias.reader).number -/
def M_elias_reader_number_elias_unaryLength (F : Nat) (x1 : Int) (x2 : List Int) (x5 : Int) : Option (Int × Int × Int) :=
  ((M_elias_unaryLength F x1 x2 x5).bind fun x7 => (if ((x7.2.2 : Int) != 0) then some (0, 0, x7.2.2) else (if (decide (64 ≤ x7.1)) then some (0, 0, 3) else ((M_bits_Read F x1 x2 x7.2.1 (iconv .i64 x7.1)).bind fun x10 => (if (!x10.2) then some (0, 0, 7) else (chk (decide (0 ≤ x7.1)) ((lett (iadd .u64 x10.1 (isub .u64 (ishl .u64 1 x7.1) 1)) fun x16 => (if (decide (1099511627776 < x16)) then some (0, 0, 3) else some (x16, iadd .i64 x7.2.1 (iconv .i64 x7.1), 0))))))))))
/-! lampwright elias.FromGamma -/
def M_elias_FromGamma (F : Nat) (x1 : Int) (x2 : List Int) (x5 : Int) : Option (Int × Int × Int) :=
  ((M_elias_reader_number_elias_unaryLength F x1 x2 x5).bind fun x7 => some (x7.1, x7.2.1, x7.2.2))
/-! lampwright elias.read -/
def M_elias_read_elias_FromGamma (F : Nat) (x1 : Int) (x2 : List Int) (x5 : Int) : Option (Int × Int × Int) :=
  ((M_elias_Check F x1 x2 x5).bind fun x9 => (if ((x9 : Int) != 0) then some (0, 0, x9) else ((M_elias_FromGamma F x1 x2 x5).bind fun x10 => some (x10.1, x10.2.1, x10.2.2))))
/-! lampwright elias.ReadGamma -/
def M_elias_ReadGamma (F : Nat) (x1 : Int) (x2 : List Int) (x5 : Int) : Option (Int × Int × Int) :=
  ((M_elias_read_elias_FromGamma F x1 x2 x5).bind fun x7 => some (x7.1, x7.2.1, x7.2.2))
/-! (lampwright elias.reader).number -/
def M_elias_reader_number_elias_FromGamma (F : Nat) (x1 : Int) (x2 : List Int) (x5 : Int) : Option (Int × Int × Int) :=
  ((M_elias_FromGamma F x1 x2 x5).bind fun x7 => (if ((x7.2.2 : Int) != 0) then some (0, 0, x7.2.2) else (if (decide (64 ≤ x7.1)) then some (0, 0, 3) else ((M_bits_Read F x1 x2 x7.2.1 (iconv .i64 x7.1)).bind fun x10 => (if (!x10.2) then some (0, 0, 7) else (chk (decide (0 ≤ x7.1)) ((lett (iadd .u64 x10.1 (isub .u64 (ishl .u64 1 x7.1) 1)) fun x16 => (if (decide (1099511627776 < x16)) then some (0, 0, 3) else some (x16, iadd .i64 x7.2.1 (iconv .i64 x7.1), 0))))))))))
/-! lampwright elias.FromDelta -/
def M_elias_FromDelta (F : Nat) (x1 : Int) (x2 : List Int) (x5 : Int) : Option (Int × Int × Int) :=
  ((M_elias_reader_number_elias_FromGamma F x1 x2 x5).bind fun x7 => some (x7.1, x7.2.1, x7.2.2))
/-! lampwright elias.read -/
def M_elias_read_elias_FromDelta (F : Nat) (x1 : Int) (x2 : List Int) (x5 : Int) : Option (Int × Int × Int) :=
  ((M_elias_Check F x1 x2 x5).bind fun x9 => (if ((x9 : Int) != 0) then some (0, 0, x9) else ((M_elias_FromDelta F x1 x2 x5).bind fun x10 => some (x10.1, x10.2.1, x10.2.2))))
/-! lampwright elias.ReadDelta -/
def M_elias_ReadDelta (F : Nat) (x1 : Int) (x2 : List Int) (x5 : Int) : Option (Int × Int × Int) :=
  ((M_elias_read_elias_FromDelta F x1 x2 x5).bind fun x7 => some (x7.1, x7.2.1, x7.2.2))
/-! lampwright elias.Long -/
def M_elias_Long (F : Nat) (x1 : Int) : Option (Int × Int × Int) :=
  (if (decide (1099511627776 < x1)) then some (0, 0, 3) else ((M_elias_rest F x1).bind fun x3 => ((M_elias_rest F (iconv .u64 x3)).bind fun x4 => (lett (iadd .i64 (iadd .i64 (imul .i64 2 x4) 1) x3) fun x5 => some (iadd .i64 (imul .i64 2 x3) 1, x5, 0)))))
/-! lampwright lampwrightref.SameBytes -/
def M_R_SameBytes_j2 (_F : Nat) : Option Bool :=
  some true
def M_R_SameBytes_b3 (F : Nat) (x1 : List Int) (x4 : List Int) (rec3 : Int → Option Bool) (x154 : Int) : Option Bool :=
  (if (decide (x154 < (x1.length : Int))) then ((idx x1 x154).bind fun x218 => ((idx x4 x154).bind fun x222 => (if ((x218 : Int) != x222) then some false else rec3 (iadd .i64 x154 1)))) else M_R_SameBytes_j2 F)
def M_R_SameBytes_l3 (F : Nat) (x1 : List Int) (x4 : List Int) : Nat → Int → Option Bool
  | 0 => fun _ => none
  | k + 1 => fun s => M_R_SameBytes_b3 F x1 x4 (M_R_SameBytes_l3 F x1 x4 k) s
def M_R_SameBytes (F : Nat) (x1 : List Int) (x4 : List Int) : Option Bool :=
  (if (((x1.length : Int) : Int) != (x4.length : Int)) then some false else M_R_SameBytes_l3 F x1 x4 F 0)
/-! lampwright lampwrightref.SameBits -/
def M_R_SameBits_j1 (_F : Nat) (x13 : Bool) : Option Bool :=
  some x13
def M_R_SameBits (F : Nat) (x1 : Int) (x2 : List Int) (x5 : Int) (x6 : List Int) : Option Bool :=
  (if ((x1 : Int) == x5) then ((M_R_SameBytes F x2 x6).bind fun x14 => M_R_SameBits_j1 F x14) else M_R_SameBits_j1 F false)
/-! lampwright lampwrightlaw.eliasBegun -/
def M_L_eliasBegun_j1 (_F : Nat) (x5 : (Int × List Int × Int)) (x9 : (Int × Int × Int)) (x10 : (Int × Int × Int)) (x11 : (Int × Int × Int)) (x12 : (Int × Int × Int)) (x13 : (Int × List Int × Int)) (x25 : Bool) : Option Bool :=
  some ((((((((((((x25 && ((x5.2.2 : Int) == 0)) && ((x9.1 : Int) == 4)) && ((x9.2.1 : Int) == 5)) && ((x9.2.2 : Int) == 0)) && ((x10.1 : Int) == 9)) && ((x10.2.1 : Int) == 8)) && ((x10.2.2 : Int) == 0)) && ((x11.1 : Int) == 7)) && ((x11.2.1 : Int) == 8)) && ((x11.2.2 : Int) == 0)) && ((x12.2.2 : Int) == 7)) && ((x13.2.2 : Int) == 3))
def M_L_eliasBegun (F : Nat)  : Option Bool :=
  ((M_elias_Gamma F 4).bind fun x1 => ((M_elias_Delta F 9).bind fun x5 => ((M_elias_ReadGamma F x1.1 x1.2.1 0).bind fun x9 => ((M_elias_ReadDelta F x5.1 x5.2.1 0).bind fun x10 => ((M_elias_Long F 9).bind fun x11 => ((M_elias_ReadGamma F x1.1 x1.2.1 5).bind fun x12 => ((M_elias_Gamma F 1099511627777).bind fun x13 => ((M_R_SameBits F x1.1 x1.2.1 5 ([40] : List Int)).bind fun x19 => (if (x19 && ((x1.2.2 : Int) == 0)) then ((M_R_SameBits F x5.1 x5.2.1 8 ([34] : List Int)).bind fun x40 => M_L_eliasBegun_j1 F x5 x9 x10 x11 x12 x13 x40) else M_L_eliasBegun_j1 F x5 x9 x10 x11 x12 x13 false)))))))))
/-! lampwright bits.places -/
def M_bits_places (_F : Nat) (_x1 : Int) (_x2 : List Int) (_x5 : Int) (_x6 : Int) : Option Unit :=
  some ()
/-! lampwright bits.places$1 -/
def M_bits_places_1_b1 {σ τ : Type} (F : Nat) (yy : σ → Int → Option (σ ⊕ τ)) (x4 : Int) (x6 : Int) (x7 : List Int) (rec1 : (Int × σ) → Option (σ ⊕ τ)) (x22 : Int) (x23 : σ) : Option (σ ⊕ τ) :=
  (if (decide (x22 < x4)) then ((M_bits_At F x6 x7 x22).bind fun x44 => ((yy x23 x44).bind (Sum.elim (fun x45 => rec1 (iadd .i64 x22 1, x45)) (fun x46 => some (.inr x46))))) else some (.inl x23))
def M_bits_places_1_l1 {σ τ : Type} (F : Nat) (yy : σ → Int → Option (σ ⊕ τ)) (x4 : Int) (x6 : Int) (x7 : List Int) : Nat → (Int × σ) → Option (σ ⊕ τ)
  | 0 => fun _ => none
  | k + 1 => fun s => M_bits_places_1_b1 F yy x4 x6 x7 (M_bits_places_1_l1 F yy x4 x6 x7 k) s.1 s.2
def M_bits_places_1 {σ τ : Type} (F : Nat) (yy : σ → Int → Option (σ ⊕ τ)) (x2 : Int) (x4 : Int) (x6 : Int) (x7 : List Int) (s0 : σ) : Option (σ ⊕ τ) :=
  M_bits_places_1_l1 F yy x4 x6 x7 F (x2, s0)
/-! lampwright bits.Both -/
def M_bits_Both_r2 (F : Nat) (x45 : Int) (x48 : List Int) (x53 : Int) : Option ((Int × List Int) ⊕ Empty) :=
  ((M_bits_writer_bit F x45 x48 x53).bind fun x54 => some (.inl (x54.1, x54.2)))
def M_bits_Both (F : Nat) (x1 : Int) (x2 : List Int) (x5 : Int) (x6 : List Int) : Option (Int × List Int) :=
  ((M_bits_own F x1 x2).bind fun x12 => ((M_bits_places F x5 x6 0 x5).bind fun _x37 => ((M_bits_places_1 F (fun ((x45, x48) : (Int × List Int)) (x53 : Int) => M_bits_Both_r2 F x45 x48 x53) 0 x5 x5 x6 (x12.1, x12.2)).bind (Sum.elim (fun ((x45, x48) : (Int × List Int)) => some (x45, x48)) (fun t => t.elim)))))
/-! lampwright bits.Join -/
def M_bits_Join_j2 (F : Nat) (x1 : Int) (x2 : List Int) (x5 : Int) (x6 : List Int) (x18 : Int) : Option (Int × List Int × Int) :=
  (if ((x18 : Int) != 0) then some (0, ([] : List Int), x18) else ((M_bits_Both F x1 x2 x5 x6).bind fun x20 => some (x20.1, x20.2, 0)))
def M_bits_Join_j1 (F : Nat) (x1 : Int) (x2 : List Int) (x5 : Int) (x6 : List Int) (x15 : Int) : Option (Int × List Int × Int) :=
  (if (((x15 : Int) == 0) && (decide (8192 < (iadd .i64 x1 x5)))) then M_bits_Join_j2 F x1 x2 x5 x6 8 else M_bits_Join_j2 F x1 x2 x5 x6 x15)
def M_bits_Join (F : Nat) (x1 : Int) (x2 : List Int) (x5 : Int) (x6 : List Int) : Option (Int × List Int × Int) :=
  ((M_bits_Check F x1 x2).bind fun x12 => (if ((x12 : Int) == 0) then ((M_bits_Check F x5 x6).bind fun x26 => M_bits_Join_j1 F x1 x2 x5 x6 x26) else M_bits_Join_j1 F x1 x2 x5 x6 x12))
/-! lampwright bits.Cut -/
def M_bits_Cut_r4 (F : Nat) (x51 : Int) (x54 : List Int) (x59 : Int) : Option ((Int × List Int) ⊕ Empty) :=
  ((M_bits_writer_bit F x51 x54 x59).bind fun x60 => some (.inl (x60.1, x60.2)))
def M_bits_Cut_j2 (F : Nat) (x1 : Int) (x2 : List Int) (x5 : Int) (x6 : Int) (x19 : Int) : Option (Int × List Int × Int) :=
  (if ((x19 : Int) != 0) then some (0, ([] : List Int), x19) else ((M_bits_places F x1 x2 x5 x6).bind fun _x43 => ((M_bits_places_1 F (fun ((x51, x54) : (Int × List Int)) (x59 : Int) => M_bits_Cut_r4 F x51 x54 x59) x5 x6 x1 x2 (0, ([] : List Int))).bind (Sum.elim (fun ((x51, x54) : (Int × List Int)) => some (x51, x54, 0)) (fun t => t.elim)))))
def M_bits_Cut_j5 (F : Nat) (x1 : Int) (x2 : List Int) (x5 : Int) (x6 : Int) (x9 : Int) (x68 : Bool) : Option (Int × List Int × Int) :=
  (if x68 then M_bits_Cut_j2 F x1 x2 x5 x6 3 else M_bits_Cut_j2 F x1 x2 x5 x6 x9)
def M_bits_Cut (F : Nat) (x1 : Int) (x2 : List Int) (x5 : Int) (x6 : Int) : Option (Int × List Int × Int) :=
  ((M_bits_Check F x1 x2).bind fun x9 => (if ((x9 : Int) == 0) then M_bits_Cut_j5 F x1 x2 x5 x6 x9 ((((decide (x5 < 0)) || (decide (x1 < x5))) || (decide (x6 < x5))) || (decide (x1 < x6))) else M_bits_Cut_j5 F x1 x2 x5 x6 x9 false))
/-! lampwright bits.Get -/
def M_bits_Get_j2 (F : Nat) (x1 : Int) (x2 : List Int) (x5 : Int) (x6 : Int) (x18 : Int) : Option (Int × Int) :=
  (if ((x18 : Int) != 0) then some (0, x18) else ((M_bits_Read F x1 x2 x5 x6).bind fun x20 => (if (!x20.2) then some (0, 7) else some (x20.1, 0))))
def M_bits_Get_j3 (F : Nat) (x1 : Int) (x2 : List Int) (x5 : Int) (x6 : Int) (x8 : Int) (x28 : Bool) : Option (Int × Int) :=
  (if x28 then M_bits_Get_j2 F x1 x2 x5 x6 3 else M_bits_Get_j2 F x1 x2 x5 x6 x8)
def M_bits_Get (F : Nat) (x1 : Int) (x2 : List Int) (x5 : Int) (x6 : Int) : Option (Int × Int) :=
  ((M_bits_Check F x1 x2).bind fun x8 => (if ((x8 : Int) == 0) then M_bits_Get_j3 F x1 x2 x5 x6 x8 ((((decide (x6 < 0)) || (decide (64 < x6))) || (decide (x5 < 0))) || (decide (x1 < x5))) else M_bits_Get_j3 F x1 x2 x5 x6 x8 false))
/-! lampwright bits.Put -/
def M_bits_Put_j4 (F : Nat) (x1 : Int) (x2 : List Int) (x5 : Int) (x6 : Int) (x24 : Int) : Option (Int × List Int × Int) :=
  (if ((x24 : Int) != 0) then some (0, ([] : List Int), x24) else ((M_bits_Add F x1 x2 x5 x6).bind fun x26 => some (x26.1, x26.2, 0)))
def M_bits_Put_j6 (F : Nat) (x1 : Int) (x2 : List Int) (x5 : Int) (x6 : Int) (x9 : Int) (x36 : Bool) : Option (Int × List Int × Int) :=
  (if x36 then M_bits_Put_j4 F x1 x2 x5 x6 3 else (if (decide (8192 < (iadd .i64 x1 x6))) then M_bits_Put_j4 F x1 x2 x5 x6 8 else M_bits_Put_j4 F x1 x2 x5 x6 x9))
def M_bits_Put_j7 (F : Nat) (x1 : Int) (x2 : List Int) (x5 : Int) (x6 : Int) (x9 : Int) (x41 : Bool) : Option (Int × List Int × Int) :=
  M_bits_Put_j6 F x1 x2 x5 x6 x9 x41
def M_bits_Put (F : Nat) (x1 : Int) (x2 : List Int) (x5 : Int) (x6 : Int) : Option (Int × List Int × Int) :=
  ((M_bits_Check F x1 x2).bind fun x9 => (if ((x9 : Int) != 0) then M_bits_Put_j4 F x1 x2 x5 x6 x9 else (if ((decide (x6 < 0)) || (decide (64 < x6))) then M_bits_Put_j6 F x1 x2 x5 x6 x9 true else (if (decide (x6 < 64)) then (chk (decide (0 ≤ x6)) (M_bits_Put_j7 F x1 x2 x5 x6 x9 (((ishr .u64 x5 x6) : Int) != 0))) else M_bits_Put_j7 F x1 x2 x5 x6 x9 false))))
/-! lampwright lampwrightlaw.bitsBegun -/
def M_L_bitsBegun_j3 (_F : Nat) (x42 : Bool) : Option Bool :=
  some x42
def M_L_bitsBegun_j2 (F : Nat) (x14 : (Int × List Int × Int)) (x18 : (Int × Int)) (x35 : Bool) : Option Bool :=
  (if ((x35 && ((x14.2.2 : Int) == 0)) && ((x18.2 : Int) == 7)) then ((M_bits_Check F 3 ([1] : List Int)).bind fun x45 => M_L_bitsBegun_j3 F ((x45 : Int) == 1)) else M_L_bitsBegun_j3 F false)
def M_L_bitsBegun_j1 (F : Nat) (x1 : (Int × List Int × Int)) (x5 : (Int × List Int × Int)) (x9 : (Int × Int)) (x10 : (Int × List Int × Int)) (x14 : (Int × List Int × Int)) (x18 : (Int × Int)) (x27 : Bool) : Option Bool :=
  (if (((((x27 && ((x5.2.2 : Int) == 0)) && ((x9.1 : Int) == 9)) && ((x9.2 : Int) == 0)) && ((x10.1 : Int) == 13)) && ((x10.2.2 : Int) == 0)) then ((M_R_SameBits F x14.1 x14.2.1 x1.1 x1.2.1).bind fun x46 => M_L_bitsBegun_j2 F x14 x18 x46) else M_L_bitsBegun_j2 F x14 x18 false)
def M_L_bitsBegun (F : Nat)  : Option Bool :=
  ((M_bits_Put F 0 ([] : List Int) 5 3).bind fun x1 => ((M_bits_Put F x1.1 x1.2.1 9 7).bind fun x5 => ((M_bits_Get F x5.1 x5.2.1 3 7).bind fun x9 => ((M_bits_Join F x1.1 x1.2.1 x5.1 x5.2.1).bind fun x10 => ((M_bits_Cut F x5.1 x5.2.1 0 3).bind fun x14 => ((M_bits_Get F x5.1 x5.2.1 9 2).bind fun x18 => ((M_R_SameBits F x1.1 x1.2.1 3 ([160] : List Int)).bind fun x21 => (if (x21 && ((x1.2.2 : Int) == 0)) then ((M_R_SameBits F x5.1 x5.2.1 10 ([162, 64] : List Int)).bind fun x49 => M_L_bitsBegun_j1 F x1 x5 x9 x10 x14 x18 x49) else M_L_bitsBegun_j1 F x1 x5 x9 x10 x14 x18 false))))))))
/-! lampwright lampwrightlaw.EliasBack -/
def M_L_EliasBack_j25 (_F : Nat) : Option Bool :=
  some true
def M_L_EliasBack_j44 (_F : Nat) (rec40 : Int → Option Bool) (x300 : Int) : Option Bool :=
  rec40 (iadd .i64 x300 1)
def M_L_EliasBack_j46 (F : Nat) (rec40 : Int → Option Bool) (x1 : Int) (x300 : Int) (x401 : (Int × List Int)) (x419 : Int) (x420 : Int) (x421 : Int) : Option Bool :=
  (if ((((x421 : Int) != 0) || ((x419 : Int) != x1)) || ((x420 : Int) != x401.1)) then some false else M_L_EliasBack_j44 F rec40 x300)
def M_L_EliasBack_j47 (F : Nat) (rec40 : Int → Option Bool) (x1 : Int) (x300 : Int) (x401 : (Int × List Int)) (x406 : (Int × List Int × Int)) (x411 : (Int × Int × Int)) (x428 : Bool) : Option Bool :=
  (if x428 then ((M_elias_ReadDelta F x406.1 x406.2.1 0).bind fun x429 => M_L_EliasBack_j46 F rec40 x1 x300 x401 x429.1 x429.2.1 x429.2.2) else M_L_EliasBack_j46 F rec40 x1 x300 x401 x411.1 x411.2.1 x411.2.2)
def M_L_EliasBack_b40 (F : Nat) (x1 : Int) (x2 : Int) (x3 : List Int) (x7 : (Int × List Int × Int)) (x11 : (Int × List Int × Int)) (rec40 : Int → Option Bool) (x300 : Int) : Option Bool :=
  (if (decide (x300 < (([(x7.1, x7.2.1), (x11.1, x11.2.1)] : List (Int × List Int)).length : Int))) then ((idx ([(x7.1, x7.2.1), (x11.1, x11.2.1)] : List (Int × List Int)) x300).bind fun x401 => ((M_bits_Join F x401.1 x401.2 x2 x3).bind fun x406 => (if ((x406.2.2 : Int) != 0) then M_L_EliasBack_j44 F rec40 x300 else ((M_elias_ReadGamma F x406.1 x406.2.1 0).bind fun x411 => ((M_R_SameBits F x401.1 x401.2 x11.1 x11.2.1).bind fun x425 => (if x425 then ((M_R_SameBits F x401.1 x401.2 x7.1 x7.2.1).bind fun x431 => M_L_EliasBack_j47 F rec40 x1 x300 x401 x406 x411 (!x431)) else M_L_EliasBack_j47 F rec40 x1 x300 x401 x406 x411 false)))))) else M_L_EliasBack_j25 F)
def M_L_EliasBack_l40 (F : Nat) (x1 : Int) (x2 : Int) (x3 : List Int) (x7 : (Int × List Int × Int)) (x11 : (Int × List Int × Int)) : Nat → Int → Option Bool
  | 0 => fun _ => none
  | k + 1 => fun s => M_L_EliasBack_b40 F x1 x2 x3 x7 x11 (M_L_EliasBack_l40 F x1 x2 x3 x7 x11 k) s
def M_L_EliasBack_j2 (F : Nat) (x1 : Int) (x2 : Int) (x3 : List Int) (x7 : (Int × List Int × Int)) (x11 : (Int × List Int × Int)) (x24 : Bool) : Option Bool :=
  (if x24 then some false else (if (((x7.2.2 : Int) != 0) || ((x11.2.2 : Int) != 0)) then some (((x7.2.2 : Int) == x11.2.2) && (decide (1099511627776 < x1))) else M_L_EliasBack_l40 F x1 x2 x3 x7 x11 F 0))
def M_L_EliasBack (F : Nat) (x1 : Int) (x2 : Int) (x3 : List Int) : Option Bool :=
  ((M_elias_Gamma F x1).bind fun x7 => ((M_elias_Delta F x1).bind fun x11 => ((M_L_eliasBegun F).bind fun x21 => (if (!x21) then M_L_EliasBack_j2 F x1 x2 x3 x7 x11 true else ((M_L_bitsBegun F).bind fun x436 => M_L_EliasBack_j2 F x1 x2 x3 x7 x11 (!x436))))))
end Go.Proofs.Ytjeaicfjildchaa
