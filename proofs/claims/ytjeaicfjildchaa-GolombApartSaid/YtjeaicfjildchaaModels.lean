/- What each Go function of this seat computes, in plain terms. -/
import Derived.Test.YtjeaicfjildchaaSx
namespace Go.Proofs.Ytjeaicfjildchaa
open Go SX
/-! math bits.Len64 -/
def M_math_bits_Len64_j3 (_F : Nat) (x9 : Int) (x10 : Int) : Option Int :=
  ((idx ([0, 1, 2, 2, 3, 3, 3, 3, 4, 4, 4, 4, 4, 4, 4, 4, 5, 5, 5, 5, 5, 5, 5, 5, 5, 5, 5, 5, 5, 5, 5, 5, 6, 6, 6, 6, 6, 6, 6, 6, 6, 6, 6, 6, 6, 6, 6, 6, 6, 6, 6, 6, 6, 6, 6, 6, 6, 6, 6, 6, 6, 6, 6, 6, 7, 7, 7, 7, 7, 7, 7, 7, 7, 7, 7, 7, 7, 7, 7, 7, 7, 7, 7, 7, 7, 7, 7, 7, 7, 7, 7, 7, 7, 7, 7, 7, 7, 7, 7, 7, 7, 7, 7, 7, 7, 7, 7, 7, 7, 7, 7, 7, 7, 7, 7, 7, 7, 7, 7, 7, 7, 7, 7, 7, 7, 7, 7, 7, 8, 8, 8, 8, 8, 8, 8, 8, 8, 8, 8, 8, 8, 8, 8, 8, 8, 8, 8, 8, 8, 8, 8, 8, 8, 8, 8, 8, 8, 8, 8, 8, 8, 8, 8, 8, 8, 8, 8, 8, 8, 8, 8, 8, 8, 8, 8, 8, 8, 8, 8, 8, 8, 8, 8, 8, 8, 8, 8, 8, 8, 8, 8, 8, 8, 8, 8, 8, 8, 8, 8, 8, 8, 8, 8, 8, 8, 8, 8, 8, 8, 8, 8, 8, 8, 8, 8, 8, 8, 8, 8, 8, 8, 8, 8, 8, 8, 8, 8, 8, 8, 8, 8, 8, 8, 8, 8, 8, 8, 8, 8, 8, 8, 8, 8, 8, 8, 8, 8, 8, 8, 8, 8, 8, 8, 8, 8, 8] : List Int) (iconv .u8 x9)).bind fun x11 => some (iadd .i64 x10 (iconv .i64 x11)))
def M_math_bits_Len64_j2 (F : Nat) (x6 : Int) (x7 : Int) : Option Int :=
  (if (decide (256 ≤ x6)) then M_math_bits_Len64_j3 F (ishr .u64 x6 8) (iadd .i64 x7 8) else M_math_bits_Len64_j3 F x6 x7)
def M_math_bits_Len64_j1 (F : Nat) (x3 : Int) (x4 : Int) : Option Int :=
  (if (decide (65536 ≤ x3)) then M_math_bits_Len64_j2 F (ishr .u64 x3 16) (iadd .i64 x4 16) else M_math_bits_Len64_j2 F x3 x4)
def M_math_bits_Len64 (F : Nat) (x1 : Int) : Option Int :=
  (if (decide (4294967296 ≤ x1)) then M_math_bits_Len64_j1 F (ishr .u64 x1 32) 32 else M_math_bits_Len64_j1 F x1 0)
/-! lampwright elias.rest -/
def M_elias_rest (F : Nat) (x1 : Int) : Option Int :=
  ((M_math_bits_Len64 F (iadd .u64 x1 1)).bind fun x2 => some (isub .i64 x2 1))
/-! slices.Clone[[]byte,byte] -/
def M_slices_Clone_byte_byte (_F : Nat) (x1 : List Int) : Option (List Int) :=
  ((app 70368744177664 ([] : List Int) x1).bind fun x8 => some x8)
/-! lampwright bits.own -/
def M_bits_own (F : Nat) (x1 : Int) (x2 : List Int) : Option (Int × List Int) :=
  ((M_slices_Clone_byte_byte F x2).bind fun x10 => some (x1, x10))
/-! (*lampwright bits.writer).bit -/
def M_bits_writer_bit_j1 (_F : Nat) (x2 : Int) (x6 : Int) (x15 : List Int) : Option (Int × List Int) :=
  ((idx x15 (iquo .i64 x2 8)).bind fun x30 => (chk (decide (0 ≤ (irem x2 8))) (((idx x15 (iquo .i64 x2 8)).bind fun _x36 => (lett (x15.set (iquo .i64 x2 8).toNat (ior .u8 x30 (ishr .u8 (iconv .u8 (ishl .u64 x6 7)) (irem x2 8)))) fun x41 => some (iadd .i64 x2 1, x41))))))
def M_bits_writer_bit (F : Nat) (x2 : Int) (x3 : List Int) (x6 : Int) : Option (Int × List Int) :=
  (if (((irem x2 8) : Int) == 0) then ((app 70368744177664 x3 ([0] : List Int)).bind fun x46 => M_bits_writer_bit_j1 F x2 x6 x46) else M_bits_writer_bit_j1 F x2 x6 x3)
/-! (*lampwright bits.writer).number -/
def M_bits_writer_number_b1 (F : Nat) (x6 : Int) (rec1 : (Int × Int × List Int) → Option (Int × List Int)) (x18 : Int) (x19 : Int) (x22 : List Int) : Option (Int × List Int) :=
  (if (decide (0 ≤ x18)) then (chk (decide (0 ≤ x18)) (((M_bits_writer_bit F x19 x22 (iand .u64 (ishr .u64 x6 x18) 1)).bind fun x40 => rec1 (isub .i64 x18 1, x40.1, x40.2)))) else some (x19, x22))
def M_bits_writer_number_l1 (F : Nat) (x6 : Int) : Nat → (Int × Int × List Int) → Option (Int × List Int)
  | 0 => fun _ => none
  | k + 1 => fun s => M_bits_writer_number_b1 F x6 (M_bits_writer_number_l1 F x6 k) s.1 s.2.1 s.2.2
def M_bits_writer_number (F : Nat) (x2 : Int) (x3 : List Int) (x6 : Int) (x7 : Int) : Option (Int × List Int) :=
  M_bits_writer_number_l1 F x6 F (isub .i64 x7 1, x2, x3)
/-! lampwright bits.Add -/
def M_bits_Add (F : Nat) (x1 : Int) (x2 : List Int) (x5 : Int) (x6 : Int) : Option (Int × List Int) :=
  ((M_bits_own F x1 x2).bind fun x9 => ((M_bits_writer_number F x9.1 x9.2 x5 x6).bind fun x13 => some (x13.1, x13.2)))
/-! lampwright unary.Raw -/
def M_unary_Raw (F : Nat) (x1 : Int) : Option (Int × List Int) :=
  ((mk 140737488355328 (0 : Int) (iquo .u64 (iadd .u64 x1 7) 8)).bind fun x3 => ((M_bits_Add F (iconv .i64 x1) x3 1 1).bind fun x6 => some (x6.1, x6.2)))
/-! lampwright elias.low -/
def M_elias_low (_F : Nat) (x1 : Int) (x2 : Int) : Option Int :=
  (chk (decide (0 ≤ x2)) ((lett (iand .u64 x1 (isub .u64 (ishl .u64 1 x2) 1)) fun x4 => some x4)))
/-! lampwright elias.RawGamma -/
def M_elias_RawGamma (F : Nat) (x1 : Int) : Option (Int × List Int) :=
  ((M_elias_rest F x1).bind fun x3 => ((M_unary_Raw F (iconv .u64 x3)).bind fun x4 => ((M_elias_low F (iadd .u64 x1 1) x3).bind fun x7 => ((M_bits_Add F x4.1 x4.2 x7 x3).bind fun x8 => some (x8.1, x8.2)))))
/-! lampwright elias.code -/
def M_elias_code_elias_RawGamma (F : Nat) (x1 : Int) : Option (Int × List Int × Int) :=
  (if (decide (1099511627776 < x1)) then some (0, ([] : List Int), 3) else ((M_elias_RawGamma F x1).bind fun x4 => some (x4.1, x4.2, 0)))
/-! lampwright elias.Gamma -/
def M_elias_Gamma (F : Nat) (x1 : Int) : Option (Int × List Int × Int) :=
  ((M_elias_code_elias_RawGamma F x1).bind fun x3 => some (x3.1, x3.2.1, x3.2.2))
/-! lampwright elias.RawDelta -/
def M_elias_RawDelta (F : Nat) (x1 : Int) : Option (Int × List Int) :=
  ((M_elias_rest F x1).bind fun x3 => ((M_elias_RawGamma F (iconv .u64 x3)).bind fun x4 => ((M_elias_low F (iadd .u64 x1 1) x3).bind fun x7 => ((M_bits_Add F x4.1 x4.2 x7 x3).bind fun x8 => some (x8.1, x8.2)))))
/-! lampwright elias.code -/
def M_elias_code_elias_RawDelta (F : Nat) (x1 : Int) : Option (Int × List Int × Int) :=
  (if (decide (1099511627776 < x1)) then some (0, ([] : List Int), 3) else ((M_elias_RawDelta F x1).bind fun x4 => some (x4.1, x4.2, 0)))
/-! lampwright elias.Delta -/
def M_elias_Delta (F : Nat) (x1 : Int) : Option (Int × List Int × Int) :=
  ((M_elias_code_elias_RawDelta F x1).bind fun x3 => some (x3.1, x3.2.1, x3.2.2))
/-! lampwright bits.Check -/
def M_bits_Check_j2 (_F : Nat) (x36 : Bool) : Option Int :=
  (if x36 then some 1 else some 0)
def M_bits_Check (F : Nat) (x1 : Int) (x2 : List Int) : Option Int :=
  (if ((decide (x1 < 0)) || (decide (8192 < x1))) then some 3 else (if (((x2.length : Int) : Int) != (iquo .i64 (iadd .i64 x1 7) 8)) then some 1 else (if (((irem x1 8) : Int) != 0) then ((idx x2 (isub .i64 (x2.length : Int) 1)).bind fun x39 => (chk (decide (0 ≤ (irem x1 8))) (M_bits_Check_j2 F (((ishl .u8 x39 (irem x1 8)) : Int) != 0)))) else M_bits_Check_j2 F false)))
/-! lampwright elias.Check -/
def M_elias_Check_j2 (_F : Nat) (x13 : Int) : Option Int :=
  some x13
def M_elias_Check_j3 (F : Nat) (x7 : Int) (x16 : Bool) : Option Int :=
  (if x16 then M_elias_Check_j2 F 3 else M_elias_Check_j2 F x7)
def M_elias_Check (F : Nat) (x1 : Int) (x2 : List Int) (x5 : Int) : Option Int :=
  ((M_bits_Check F x1 x2).bind fun x7 => (if ((x7 : Int) == 0) then M_elias_Check_j3 F x7 ((decide (x5 < 0)) || (decide (x1 < x5))) else M_elias_Check_j3 F x7 false))
/-! lampwright bits.At -/
def M_bits_At (_F : Nat) (_x1 : Int) (x2 : List Int) (x5 : Int) : Option Int :=
  ((idx x2 (iquo .i64 x5 8)).bind fun x7 => (chk (decide (0 ≤ (isub .i64 7 (irem x5 8)))) ((lett (iand .u64 (iconv .u64 (ishr .u8 x7 (isub .i64 7 (irem x5 8)))) 1) fun x11 => some x11))))
/-! lampwright unary.From -/
def M_unary_From_j2 (_F : Nat) : Option (Int × Int × Bool) :=
  some (0, 0, false)
def M_unary_From_b3 (F : Nat) (x1 : Int) (x2 : List Int) (x5 : Int) (rec3 : Int → Option (Int × Int × Bool)) (x33 : Int) : Option (Int × Int × Bool) :=
  (if (decide (x33 < x1)) then ((M_bits_At F x1 x2 x33).bind fun x44 => (if ((x44 : Int) == 1) then some (iconv .u64 (isub .i64 x33 x5), iadd .i64 x33 1, true) else rec3 (iadd .i64 x33 1))) else M_unary_From_j2 F)
def M_unary_From_l3 (F : Nat) (x1 : Int) (x2 : List Int) (x5 : Int) : Nat → Int → Option (Int × Int × Bool)
  | 0 => fun _ => none
  | k + 1 => fun s => M_unary_From_b3 F x1 x2 x5 (M_unary_From_l3 F x1 x2 x5 k) s
def M_unary_From (F : Nat) (x1 : Int) (x2 : List Int) (x5 : Int) : Option (Int × Int × Bool) :=
  M_unary_From_l3 F x1 x2 x5 F x5
/-! lampwright elias.unaryLength -/
def M_elias_unaryLength (F : Nat) (x1 : Int) (x2 : List Int) (x5 : Int) : Option (Int × Int × Int) :=
  ((M_unary_From F x1 x2 x5).bind fun x7 => (if (!x7.2.2) then some (0, 0, 7) else some (x7.1, x7.2.1, 0)))
/-! lampwright bits.Read -/
def M_bits_Read_j2 (_F : Nat) (x24 : Int) : Option (Int × Bool) :=
  some (x24, true)
def M_bits_Read_b3 (F : Nat) (x1 : Int) (x2 : List Int) (x5 : Int) (x6 : Int) (rec3 : (Int × Int) → Option (Int × Bool)) (x29 : Int) (x30 : Int) : Option (Int × Bool) :=
  (if (decide (x30 < x6)) then ((M_bits_At F x1 x2 (iadd .i64 x5 x30)).bind fun x38 => rec3 (ior .u64 (ishl .u64 x29 1) x38, iadd .i64 x30 1)) else M_bits_Read_j2 F x29)
def M_bits_Read_l3 (F : Nat) (x1 : Int) (x2 : List Int) (x5 : Int) (x6 : Int) : Nat → (Int × Int) → Option (Int × Bool)
  | 0 => fun _ => none
  | k + 1 => fun s => M_bits_Read_b3 F x1 x2 x5 x6 (M_bits_Read_l3 F x1 x2 x5 x6 k) s.1 s.2
def M_bits_Read (F : Nat) (x1 : Int) (x2 : List Int) (x5 : Int) (x6 : Int) : Option (Int × Bool) :=
  (if (decide ((isub .i64 x1 x5) < x6)) then some (0, false) else M_bits_Read_l3 F x1 x2 x5 x6 F (0, 0))
/-! (lampwright elias.reader).number -/
def M_elias_reader_number_elias_unaryLength (F : Nat) (x1 : Int) (x2 : List Int) (x5 : Int) : Option (Int × Int × Int) :=
  ((M_elias_unaryLength F x1 x2 x5).bind fun x7 => (if ((x7.2.2 : Int) != 0) then some (0, 0, x7.2.2) else (if (decide (64 ≤ x7.1)) then some (0, 0, 3) else ((M_bits_Read F x1 x2 x7.2.1 (iconv .i64 x7.1)).bind fun x10 => (if (!x10.2) then some (0, 0, 7) else (chk (decide (0 ≤ x7.1)) ((lett (iadd .u64 x10.1 (isub .u64 (ishl .u64 1 x7.1) 1)) fun x16 => (if (decide (1099511627776 < x16)) then some (0, 0, 3) else some (x16, iadd .i64 x7.2.1 (iconv .i64 x7.1), 0))))))))))
/-! lampwright elias.FromGamma -/
def M_elias_FromGamma (F : Nat) (x1 : Int) (x2 : List Int) (x5 : Int) : Option (Int × Int × Int) :=
  ((M_elias_reader_number_elias_unaryLength F x1 x2 x5).bind fun x7 => some (x7.1, x7.2.1, x7.2.2))
/-! lampwright elias.read -/
def M_elias_read_elias_FromGamma (F : Nat) (x1 : Int) (x2 : List Int) (x5 : Int) : Option (Int × Int × Int) :=
  ((M_elias_Check F x1 x2 x5).bind fun x9 => (if ((x9 : Int) != 0) then some (0, 0, x9) else ((M_elias_FromGamma F x1 x2 x5).bind fun x10 => some (x10.1, x10.2.1, x10.2.2))))
/-! lampwright elias.ReadGamma -/
def M_elias_ReadGamma (F : Nat) (x1 : Int) (x2 : List Int) (x5 : Int) : Option (Int × Int × Int) :=
  ((M_elias_read_elias_FromGamma F x1 x2 x5).bind fun x7 => some (x7.1, x7.2.1, x7.2.2))
/-! (lampwright elias.reader).number -/
def M_elias_reader_number_elias_FromGamma (F : Nat) (x1 : Int) (x2 : List Int) (x5 : Int) : Option (Int × Int × Int) :=
  ((M_elias_FromGamma F x1 x2 x5).bind fun x7 => (if ((x7.2.2 : Int) != 0) then some (0, 0, x7.2.2) else (if (decide (64 ≤ x7.1)) then some (0, 0, 3) else ((M_bits_Read F x1 x2 x7.2.1 (iconv .i64 x7.1)).bind fun x10 => (if (!x10.2) then some (0, 0, 7) else (chk (decide (0 ≤ x7.1)) ((lett (iadd .u64 x10.1 (isub .u64 (ishl .u64 1 x7.1) 1)) fun x16 => (if (decide (1099511627776 < x16)) then some (0, 0, 3) else some (x16, iadd .i64 x7.2.1 (iconv .i64 x7.1), 0))))))))))
/-! lampwright elias.FromDelta -/
def M_elias_FromDelta (F : Nat) (x1 : Int) (x2 : List Int) (x5 : Int) : Option (Int × Int × Int) :=
  ((M_elias_reader_number_elias_FromGamma F x1 x2 x5).bind fun x7 => some (x7.1, x7.2.1, x7.2.2))
/-! lampwright elias.read -/
def M_elias_read_elias_FromDelta (F : Nat) (x1 : Int) (x2 : List Int) (x5 : Int) : Option (Int × Int × Int) :=
  ((M_elias_Check F x1 x2 x5).bind fun x9 => (if ((x9 : Int) != 0) then some (0, 0, x9) else ((M_elias_FromDelta F x1 x2 x5).bind fun x10 => some (x10.1, x10.2.1, x10.2.2))))
/-! lampwright elias.ReadDelta -/
def M_elias_ReadDelta (F : Nat) (x1 : Int) (x2 : List Int) (x5 : Int) : Option (Int × Int × Int) :=
  ((M_elias_read_elias_FromDelta F x1 x2 x5).bind fun x7 => some (x7.1, x7.2.1, x7.2.2))
/-! lampwright elias.Long -/
def M_elias_Long (F : Nat) (x1 : Int) : Option (Int × Int × Int) :=
  (if (decide (1099511627776 < x1)) then some (0, 0, 3) else ((M_elias_rest F x1).bind fun x3 => ((M_elias_rest F (iconv .u64 x3)).bind fun x4 => (lett (iadd .i64 (iadd .i64 (imul .i64 2 x4) 1) x3) fun x5 => some (iadd .i64 (imul .i64 2 x3) 1, x5, 0)))))
/-! lampwright lampwrightref.PackBits -/
def M_R_PackBits_j59 (_F : Nat) (x1 : List Int) (x497 : List Int) : Option (Int × List Int) :=
  some ((x1.length : Int), x497)
def M_R_PackBits_j108 (_F : Nat) (rec98 : (Int × List Int) → Option (Int × List Int)) (x660 : Int) (x907 : List Int) : Option (Int × List Int) :=
  rec98 (iadd .i64 x660 8, x907)
def M_R_PackBits_j113 (F : Nat) (rec98 : (Int × List Int) → Option (Int × List Int)) (x660 : Int) (x663 : List Int) (x944 : Int) : Option (Int × List Int) :=
  ((app 70368744177664 x663 ([iconv .u8 x944] : List Int)).bind fun x947 => M_R_PackBits_j108 F rec98 x660 x947)
def M_R_PackBits_j117 (_F : Nat) (rec116 : (Int × Int) → Option (Int × List Int)) (x962 : Int) (x980 : Int) : Option (Int × List Int) :=
  rec116 (x980, iadd .i64 x962 1)
def M_R_PackBits_b116 (F : Nat) (rec98 : (Int × List Int) → Option (Int × List Int)) (x1 : List Int) (x660 : Int) (x663 : List Int) (rec116 : (Int × Int) → Option (Int × List Int)) (x961 : Int) (x962 : Int) : Option (Int × List Int) :=
  (if (decide (x962 < 8)) then (if (decide ((iadd .i64 x660 x962) < (x1.length : Int))) then ((idx x1 (iadd .i64 x660 x962)).bind fun x981 => M_R_PackBits_j117 F rec116 x962 (iadd .i64 (imul .i64 2 x961) x981)) else M_R_PackBits_j117 F rec116 x962 (imul .i64 2 x961)) else M_R_PackBits_j113 F rec98 x660 x663 x961)
def M_R_PackBits_l116 (F : Nat) (rec98 : (Int × List Int) → Option (Int × List Int)) (x1 : List Int) (x660 : Int) (x663 : List Int) : Nat → (Int × Int) → Option (Int × List Int)
  | 0 => fun _ => none
  | k + 1 => fun s => M_R_PackBits_b116 F rec98 x1 x660 x663 (M_R_PackBits_l116 F rec98 x1 x660 x663 k) s.1 s.2
def M_R_PackBits_b98 (F : Nat) (x1 : List Int) (rec98 : (Int × List Int) → Option (Int × List Int)) (x660 : Int) (x663 : List Int) : Option (Int × List Int) :=
  (if (decide (x660 < (x1.length : Int))) then M_R_PackBits_l116 F rec98 x1 x660 x663 F (0, 0) else M_R_PackBits_j59 F x1 x663)
def M_R_PackBits_l98 (F : Nat) (x1 : List Int) : Nat → (Int × List Int) → Option (Int × List Int)
  | 0 => fun _ => none
  | k + 1 => fun s => M_R_PackBits_b98 F x1 (M_R_PackBits_l98 F x1 k) s.1 s.2
def M_R_PackBits (F : Nat) (x1 : List Int) : Option (Int × List Int) :=
  M_R_PackBits_l98 F x1 F (0, ([] : List Int))
/-! lampwright lampwrightref.binary -/
def M_R_binary_j2 (_F : Nat) (x31 : List Int) : Option (List Int) :=
  some x31
def M_R_binary_b3 (F : Nat) (rec3 : (Int × List Int) → Option (List Int)) (x40 : Int) (x43 : List Int) : Option (List Int) :=
  (if (decide (0 < x40)) then ((app 8796093022208 ([iconv .i64 (irem x40 2)] : List Int) x43).bind fun x55 => rec3 (iquo .u64 x40 2, x55)) else M_R_binary_j2 F x43)
def M_R_binary_l3 (F : Nat) : Nat → (Int × List Int) → Option (List Int)
  | 0 => fun _ => none
  | k + 1 => fun s => M_R_binary_b3 F (M_R_binary_l3 F k) s.1 s.2
def M_R_binary (F : Nat) (x1 : Int) : Option (List Int) :=
  M_R_binary_l3 F F (x1, ([] : List Int))
/-! lampwright lampwrightref.GammaList -/
def M_R_GammaList_j2 (_F : Nat) (x2 : List Int) (x48 : List Int) : Option (List Int) :=
  ((app 8796093022208 x48 x2).bind fun x49 => some x49)
def M_R_GammaList_b3 (F : Nat) (x2 : List Int) (rec3 : (List Int × Int) → Option (List Int)) (x66 : List Int) (x67 : Int) : Option (List Int) :=
  (if (decide (x67 < (x2.length : Int))) then ((app 8796093022208 x66 ([0] : List Int)).bind fun x89 => rec3 (x89, iadd .i64 x67 1)) else M_R_GammaList_j2 F x2 x66)
def M_R_GammaList_l3 (F : Nat) (x2 : List Int) : Nat → (List Int × Int) → Option (List Int)
  | 0 => fun _ => none
  | k + 1 => fun s => M_R_GammaList_b3 F x2 (M_R_GammaList_l3 F x2 k) s.1 s.2
def M_R_GammaList (F : Nat) (x1 : Int) : Option (List Int) :=
  ((M_R_binary F (iadd .u64 x1 1)).bind fun x2 => M_R_GammaList_l3 F x2 F (([] : List Int), 1))
/-! lampwright lampwrightref.DeltaList -/
def M_R_DeltaList (F : Nat) (x1 : Int) : Option (List Int) :=
  ((M_R_binary F (iadd .u64 x1 1)).bind fun x2 => ((sub x2 1 (x2.length : Int)).bind fun x16 => ((M_R_GammaList F (iconv .u64 (isub .i64 (x2.length : Int) 1))).bind fun x21 => ((app 8796093022208 x21 x16).bind fun x24 => some x24))))
/-! lampwright lampwrightref.BitList -/
def M_R_BitList_j23 (_F : Nat) (x190 : List Int) : Option (List Int) :=
  some x190
def M_R_BitList_j42 (_F : Nat) (rec38 : (List Int × Int) → Option (List Int)) (x253 : Int) (x344 : List Int) : Option (List Int) :=
  rec38 (x344, iadd .i64 x253 1)
def M_R_BitList_j44 (F : Nat) (rec38 : (List Int × Int) → Option (List Int)) (x252 : List Int) (x253 : Int) (x357 : Int) : Option (List Int) :=
  ((app 8796093022208 x252 ([irem x357 2] : List Int)).bind fun x360 => M_R_BitList_j42 F rec38 x253 x360)
def M_R_BitList_b45 (F : Nat) (rec38 : (List Int × Int) → Option (List Int)) (x252 : List Int) (x253 : Int) (rec45 : (Int × Int) → Option (List Int)) (x365 : Int) (x366 : Int) : Option (List Int) :=
  (if (decide (x366 < (isub .i64 7 (irem x253 8)))) then rec45 (iquo .i64 x365 2, iadd .i64 x366 1) else M_R_BitList_j44 F rec38 x252 x253 x365)
def M_R_BitList_l45 (F : Nat) (rec38 : (List Int × Int) → Option (List Int)) (x252 : List Int) (x253 : Int) : Nat → (Int × Int) → Option (List Int)
  | 0 => fun _ => none
  | k + 1 => fun s => M_R_BitList_b45 F rec38 x252 x253 (M_R_BitList_l45 F rec38 x252 x253 k) s.1 s.2
def M_R_BitList_b38 (F : Nat) (x1 : Int) (x2 : List Int) (rec38 : (List Int × Int) → Option (List Int)) (x252 : List Int) (x253 : Int) : Option (List Int) :=
  (if (decide (x253 < x1)) then ((idx x2 (iquo .i64 x253 8)).bind fun x345 => M_R_BitList_l45 F rec38 x252 x253 F (iconv .i64 x345, 0)) else M_R_BitList_j23 F x252)
def M_R_BitList_l38 (F : Nat) (x1 : Int) (x2 : List Int) : Nat → (List Int × Int) → Option (List Int)
  | 0 => fun _ => none
  | k + 1 => fun s => M_R_BitList_b38 F x1 x2 (M_R_BitList_l38 F x1 x2 k) s.1 s.2
def M_R_BitList (F : Nat) (x1 : Int) (x2 : List Int) : Option (List Int) :=
  M_R_BitList_l38 F x1 x2 F (([] : List Int), 0)
/-! lampwright lampwrightref.between -/
def M_R_between (_F : Nat) (x1 : Int) (x2 : Int) (x3 : Int) : Option Bool :=
  some ((decide (x2 ≤ x1)) && (decide (x1 ≤ x3)))
/-! lampwright lampwrightref.BitsCheck -/
def M_R_BitsCheck_j3 (_F : Nat) : Option Int :=
  some 0
def M_R_BitsCheck_b4 (F : Nat) (x12 : List Int) (rec4 : Int → Option Int) (x57 : Int) : Option Int :=
  (if (decide (x57 < (x12.length : Int))) then ((idx x12 x57).bind fun x74 => (if ((x74 : Int) != 0) then some 1 else rec4 (iadd .i64 x57 1))) else M_R_BitsCheck_j3 F)
def M_R_BitsCheck_l4 (F : Nat) (x12 : List Int) : Nat → Int → Option Int
  | 0 => fun _ => none
  | k + 1 => fun s => M_R_BitsCheck_b4 F x12 (M_R_BitsCheck_l4 F x12 k) s
def M_R_BitsCheck_j1 (F : Nat) (x1 : Int) (x2 : List Int) (x10 : Int) : Option Int :=
  (if (((x2.length : Int) : Int) != x10) then some 1 else ((M_R_BitList F (imul .i64 8 x10) x2).bind fun x12 => M_R_BitsCheck_l4 F x12 F x1))
def M_R_BitsCheck (F : Nat) (x1 : Int) (x2 : List Int) : Option Int :=
  ((M_R_between F x1 0 8192).bind fun x8 => (if (!x8) then some 3 else (if (decide (0 < (irem x1 8))) then M_R_BitsCheck_j1 F x1 x2 (iadd .i64 (iquo .i64 x1 8) 1) else M_R_BitsCheck_j1 F x1 x2 (iquo .i64 x1 8))))
/-! lampwright lampwrightref.ReadErr -/
def M_R_ReadErr_j2 (_F : Nat) (x13 : Int) : Option Int :=
  some x13
def M_R_ReadErr_j3 (F : Nat) (x7 : Int) (x16 : Bool) : Option Int :=
  (if x16 then M_R_ReadErr_j2 F 3 else M_R_ReadErr_j2 F x7)
def M_R_ReadErr (F : Nat) (x1 : Int) (x2 : List Int) (x5 : Int) : Option Int :=
  ((M_R_BitsCheck F x1 x2).bind fun x7 => (if ((x7 : Int) == 0) then ((M_R_between F x5 0 x1).bind fun x18 => M_R_ReadErr_j3 F x7 (!x18)) else M_R_ReadErr_j3 F x7 false))
/-! lampwright lampwrightref.UnaryRead -/
def M_R_UnaryRead_j2 (_F : Nat) : Option (Int × Int) :=
  some (0, -1)
def M_R_UnaryRead_b3 (F : Nat) (x1 : List Int) (rec3 : (Int × Int) → Option (Int × Int)) (x80 : Int) (x81 : Int) : Option (Int × Int) :=
  (if (decide (x81 < (x1.length : Int))) then ((idx x1 x81).bind fun x114 => (if ((x114 : Int) == 1) then some (x80, iadd .i64 x81 1) else rec3 (iadd .u64 x80 1, iadd .i64 x81 1))) else M_R_UnaryRead_j2 F)
def M_R_UnaryRead_l3 (F : Nat) (x1 : List Int) : Nat → (Int × Int) → Option (Int × Int)
  | 0 => fun _ => none
  | k + 1 => fun s => M_R_UnaryRead_b3 F x1 (M_R_UnaryRead_l3 F x1 k) s.1 s.2
def M_R_UnaryRead (F : Nat) (x1 : List Int) (x4 : Int) : Option (Int × Int) :=
  M_R_UnaryRead_l3 F x1 F (0, x4)
/-! lampwright lampwrightref.BitNum -/
def M_R_BitNum_j2 (_F : Nat) (x37 : Int) : Option Int :=
  some x37
def M_R_BitNum_b3 (F : Nat) (x1 : List Int) (rec3 : (Int × Int) → Option Int) (x48 : Int) (x49 : Int) : Option Int :=
  (if (decide (x49 < (x1.length : Int))) then ((idx x1 x49).bind fun x66 => (lett (iadd .u64 (imul .u64 2 x48) (iconv .u64 x66)) fun x69 => rec3 (x69, iadd .i64 x49 1))) else M_R_BitNum_j2 F x48)
def M_R_BitNum_l3 (F : Nat) (x1 : List Int) : Nat → (Int × Int) → Option Int
  | 0 => fun _ => none
  | k + 1 => fun s => M_R_BitNum_b3 F x1 (M_R_BitNum_l3 F x1 k) s.1 s.2
def M_R_BitNum (F : Nat) (x1 : List Int) : Option Int :=
  M_R_BitNum_l3 F x1 F (0, 0)
/-! lampwright lampwrightref.restRead -/
def M_R_restRead (F : Nat) (x1 : List Int) (x4 : Int) (x5 : Int) : Option (Int × Int × Int) :=
  (if (decide (63 < x5)) then some (0, 0, 3) else (if (decide ((x1.length : Int) < (iadd .i64 x4 (iconv .i64 x5)))) then some (0, 0, 7) else ((sub x1 x4 (iadd .i64 x4 (iconv .i64 x5))).bind fun x10 => ((app 8796093022208 ([1] : List Int) x10).bind fun x13 => ((M_R_BitNum F x13).bind fun x16 => (if (decide (1099511627776 < (isub .u64 x16 1))) then some (0, 0, 3) else some (isub .u64 x16 1, iadd .i64 x4 (iconv .i64 x5), 0)))))))
/-! lampwright lampwrightref.GammaRead -/
def M_R_GammaRead (F : Nat) (x1 : List Int) (x4 : Int) : Option (Int × Int × Int) :=
  ((M_R_UnaryRead F x1 x4).bind fun x5 => (if (decide (x5.2 < 0)) then some (0, 0, 7) else ((M_R_restRead F x1 x5.2 x5.1).bind fun x7 => some (x7.1, x7.2.1, x7.2.2))))
/-! lampwright lampwrightref.DeltaRead -/
def M_R_DeltaRead (F : Nat) (x1 : List Int) (x4 : Int) : Option (Int × Int × Int) :=
  ((M_R_GammaRead F x1 x4).bind fun x5 => (if ((x5.2.2 : Int) != 0) then some (0, 0, x5.2.2) else ((M_R_restRead F x1 x5.2.1 x5.1).bind fun x7 => some (x7.1, x7.2.1, x7.2.2))))
/-! lampwright lampwrightref.SameBytes -/
def M_R_SameBytes_j2 (_F : Nat) : Option Bool :=
  some true
def M_R_SameBytes_b3 (F : Nat) (x1 : List Int) (x4 : List Int) (rec3 : Int → Option Bool) (x154 : Int) : Option Bool :=
  (if (decide (x154 < (x1.length : Int))) then ((idx x1 x154).bind fun x218 => ((idx x4 x154).bind fun x222 => (if ((x218 : Int) != x222) then some false else rec3 (iadd .i64 x154 1)))) else M_R_SameBytes_j2 F)
def M_R_SameBytes_l3 (F : Nat) (x1 : List Int) (x4 : List Int) : Nat → Int → Option Bool
  | 0 => fun _ => none
  | k + 1 => fun s => M_R_SameBytes_b3 F x1 x4 (M_R_SameBytes_l3 F x1 x4 k) s
def M_R_SameBytes (F : Nat) (x1 : List Int) (x4 : List Int) : Option Bool :=
  (if (((x1.length : Int) : Int) != (x4.length : Int)) then some false else M_R_SameBytes_l3 F x1 x4 F 0)
/-! lampwright lampwrightref.SameBits -/
def M_R_SameBits_j1 (_F : Nat) (x13 : Bool) : Option Bool :=
  some x13
def M_R_SameBits (F : Nat) (x1 : Int) (x2 : List Int) (x5 : Int) (x6 : List Int) : Option Bool :=
  (if ((x1 : Int) == x5) then ((M_R_SameBytes F x2 x6).bind fun x14 => M_R_SameBits_j1 F x14) else M_R_SameBits_j1 F false)
/-! lampwright lampwrightlaw.eliasBegun -/
def M_L_eliasBegun_j1 (_F : Nat) (x5 : (Int × List Int × Int)) (x9 : (Int × Int × Int)) (x10 : (Int × Int × Int)) (x11 : (Int × Int × Int)) (x12 : (Int × Int × Int)) (x13 : (Int × List Int × Int)) (x25 : Bool) : Option Bool :=
  some ((((((((((((x25 && ((x5.2.2 : Int) == 0)) && ((x9.1 : Int) == 4)) && ((x9.2.1 : Int) == 5)) && ((x9.2.2 : Int) == 0)) && ((x10.1 : Int) == 9)) && ((x10.2.1 : Int) == 8)) && ((x10.2.2 : Int) == 0)) && ((x11.1 : Int) == 7)) && ((x11.2.1 : Int) == 8)) && ((x11.2.2 : Int) == 0)) && ((x12.2.2 : Int) == 7)) && ((x13.2.2 : Int) == 3))
def M_L_eliasBegun (F : Nat)  : Option Bool :=
  ((M_elias_Gamma F 4).bind fun x1 => ((M_elias_Delta F 9).bind fun x5 => ((M_elias_ReadGamma F x1.1 x1.2.1 0).bind fun x9 => ((M_elias_ReadDelta F x5.1 x5.2.1 0).bind fun x10 => ((M_elias_Long F 9).bind fun x11 => ((M_elias_ReadGamma F x1.1 x1.2.1 5).bind fun x12 => ((M_elias_Gamma F 1099511627777).bind fun x13 => ((M_R_SameBits F x1.1 x1.2.1 5 ([40] : List Int)).bind fun x19 => (if (x19 && ((x1.2.2 : Int) == 0)) then ((M_R_SameBits F x5.1 x5.2.1 8 ([34] : List Int)).bind fun x40 => M_L_eliasBegun_j1 F x5 x9 x10 x11 x12 x13 x40) else M_L_eliasBegun_j1 F x5 x9 x10 x11 x12 x13 false)))))))))
/-! lampwright lampwrightlaw.EliasTells -/
def M_L_EliasTells_j4 (_F : Nat) (x12 : (Int × List Int × Int)) (x16 : (Int × Int × Int)) (x17 : (Int × Int × Int)) (x18 : (Int × Int × Int)) (x40 : Int) (x41 : Int) (x45 : Int) (x59 : Int) (x60 : Int) (x61 : Int) (x62 : Int) (x63 : Int) (x64 : Int) (x72 : Bool) : Option Bool :=
  some ((((((((((x72 && ((x12.2.2 : Int) == x40)) && ((x16.1 : Int) == x61)) && ((x16.2.1 : Int) == x62)) && ((x16.2.2 : Int) == x59)) && ((x17.1 : Int) == x63)) && ((x17.2.1 : Int) == x64)) && ((x17.2.2 : Int) == x60)) && ((x18.1 : Int) == x45)) && ((x18.2.1 : Int) == x41)) && ((x18.2.2 : Int) == x40))
def M_L_EliasTells_j3 (F : Nat) (x8 : (Int × List Int × Int)) (x12 : (Int × List Int × Int)) (x16 : (Int × Int × Int)) (x17 : (Int × Int × Int)) (x18 : (Int × Int × Int)) (x40 : Int) (x41 : Int) (x44 : List Int) (x45 : Int) (x59 : Int) (x60 : Int) (x61 : Int) (x62 : Int) (x63 : Int) (x64 : Int) (x68 : Bool) : Option Bool :=
  (if (x68 && ((x8.2.2 : Int) == x40)) then ((M_R_SameBits F x12.1 x12.2.1 x41 x44).bind fun x83 => M_L_EliasTells_j4 F x12 x16 x17 x18 x40 x41 x45 x59 x60 x61 x62 x63 x64 x83) else M_L_EliasTells_j4 F x12 x16 x17 x18 x40 x41 x45 x59 x60 x61 x62 x63 x64 false)
def M_L_EliasTells_j2 (F : Nat) (x8 : (Int × List Int × Int)) (x12 : (Int × List Int × Int)) (x16 : (Int × Int × Int)) (x17 : (Int × Int × Int)) (x18 : (Int × Int × Int)) (x40 : Int) (x41 : Int) (x44 : List Int) (x45 : Int) (x48 : List Int) (x59 : Int) (x60 : Int) (x61 : Int) (x62 : Int) (x63 : Int) (x64 : Int) : Option Bool :=
  ((M_L_eliasBegun F).bind fun x65 => (if x65 then ((M_R_SameBits F x8.1 x8.2.1 x45 x48).bind fun x84 => M_L_EliasTells_j3 F x8 x12 x16 x17 x18 x40 x41 x44 x45 x59 x60 x61 x62 x63 x64 x84) else M_L_EliasTells_j3 F x8 x12 x16 x17 x18 x40 x41 x44 x45 x59 x60 x61 x62 x63 x64 false))
def M_L_EliasTells_j1 (F : Nat) (x2 : Int) (x3 : List Int) (x6 : Int) (x8 : (Int × List Int × Int)) (x12 : (Int × List Int × Int)) (x16 : (Int × Int × Int)) (x17 : (Int × Int × Int)) (x18 : (Int × Int × Int)) (x40 : Int) (x41 : Int) (x44 : List Int) (x45 : Int) (x48 : List Int) : Option Bool :=
  ((M_R_ReadErr F x2 x3 x6).bind fun x51 => ((M_R_ReadErr F x2 x3 x6).bind fun x52 => (if ((x51 : Int) == 0) then ((M_R_BitList F x2 x3).bind fun x85 => ((M_R_GammaRead F x85 x6).bind fun x88 => ((M_R_DeltaRead F x85 x6).bind fun x89 => M_L_EliasTells_j2 F x8 x12 x16 x17 x18 x40 x41 x44 x45 x48 x88.2.2 x89.2.2 x88.1 x88.2.1 x89.1 x89.2.1))) else M_L_EliasTells_j2 F x8 x12 x16 x17 x18 x40 x41 x44 x45 x48 x51 x52 0 0 0 0)))
def M_L_EliasTells (F : Nat) (x1 : Int) (x2 : Int) (x3 : List Int) (x6 : Int) : Option Bool :=
  ((M_elias_Gamma F x1).bind fun x8 => ((M_elias_Delta F x1).bind fun x12 => ((M_elias_ReadGamma F x2 x3 x6).bind fun x16 => ((M_elias_ReadDelta F x2 x3 x6).bind fun x17 => ((M_elias_Long F x1).bind fun x18 => (if (decide (1099511627776 < x1)) then M_L_EliasTells_j1 F x2 x3 x6 x8 x12 x16 x17 x18 3 0 ([] : List Int) 0 ([] : List Int) else ((M_R_GammaList F x1).bind fun x91 => ((M_R_PackBits F x91).bind fun x94 => ((M_R_DeltaList F x1).bind fun x97 => ((M_R_PackBits F x97).bind fun x100 => M_L_EliasTells_j1 F x2 x3 x6 x8 x12 x16 x17 x18 0 x100.1 x100.2 x94.1 x94.2))))))))))
/-! lampwright lampwrightlaw.EliasLong -/
def M_L_EliasLong_j1 (_F : Nat) (x3 : (Int × Int × Int)) (x17 : Bool) : Option Bool :=
  some (x17 && (decide (x3.2.1 ≤ (iadd .i64 x3.1 1))))
def M_L_EliasLong (F : Nat) (x1 : Int) (x2 : Int) : Option Bool :=
  ((M_elias_Long F x1).bind fun x3 => ((M_elias_Long F x2).bind fun x4 => ((M_L_eliasBegun F).bind fun x7 => (if (!x7) then some false else (if ((((x3.2.2 : Int) != 0) || ((x4.2.2 : Int) != 0)) || (decide (x2 < x1))) then some true else (if (((decide (x3.1 ≤ x4.1)) && (decide (x3.2.1 ≤ x4.2.1))) && (((irem x3.1 2) : Int) == 1)) then M_L_EliasLong_j1 F x3 ((decide (x1 < 31)) || (decide (x3.2.1 ≤ x3.1))) else M_L_EliasLong_j1 F x3 false))))))
/-! lampwright golomb.right -/
def M_golomb_right (_F : Nat) (x1 : Int) : Option Bool :=
  some ((decide (1 ≤ x1)) && (decide (x1 ≤ 1099511627776)))
/-! lampwright golomb.shape -/
def M_golomb_shape (F : Nat) (x1 : Int) : Option (Int × Int) :=
  ((M_math_bits_Len64 F (isub .u64 x1 1)).bind fun x2 => (chk (decide (0 ≤ x2)) (some (x2, isub .u64 (ishl .u64 1 x2) x1))))
/-! lampwright golomb.addLeast -/
def M_golomb_addLeast (F : Nat) (x1 : Int) (x2 : List Int) (x5 : Int) (x6 : Int) : Option (Int × List Int) :=
  ((M_golomb_shape F x6).bind fun x9 => (if (decide (x5 < x9.2)) then ((M_bits_Add F x1 x2 x5 (isub .i64 x9.1 1)).bind fun x14 => some (x14.1, x14.2)) else ((M_bits_Add F x1 x2 (iadd .u64 x5 x9.2) x9.1).bind fun x17 => some (x17.1, x17.2))))
/-! lampwright golomb.Least -/
def M_golomb_Least (F : Nat) (x1 : Int) (x2 : Int) : Option (Int × List Int × Int) :=
  ((M_golomb_right F x2).bind fun x7 => (if ((!x7) || (decide (x2 ≤ x1))) then some (0, ([] : List Int), 3) else ((M_golomb_addLeast F 0 ([] : List Int) x1 x2).bind fun x9 => some (x9.1, x9.2, 0))))
/-! lampwright golomb.Code -/
def M_golomb_Code_j2 (F : Nat) (x1 : Int) (x2 : Int) (x15 : Bool) : Option (Int × List Int × Int) :=
  (if x15 then some (0, ([] : List Int), 3) else (chk ((x2 : Int) != 0) ((chk ((x2 : Int) != 0) (((M_unary_Raw F (iquo .u64 x1 x2)).bind fun x34 => ((M_golomb_addLeast F x34.1 x34.2 (irem x1 x2) x2).bind fun x37 => some (x37.1, x37.2, 0))))))))
def M_golomb_Code (F : Nat) (x1 : Int) (x2 : Int) : Option (Int × List Int × Int) :=
  ((M_golomb_right F x2).bind fun x11 => (if ((!x11) || (decide (1099511627776 < x1))) then M_golomb_Code_j2 F x1 x2 true else (chk ((x2 : Int) != 0) (M_golomb_Code_j2 F x1 x2 (decide (8128 ≤ (iquo .u64 x1 x2)))))))
/-! slices.Index[[]bool,bool] -/
def M_slices_Index_bool_bool_j2 (_F : Nat) : Option Int :=
  some (-1)
def M_slices_Index_bool_bool_b3 (F : Nat) (x1 : List Bool) (x4 : Bool) (rec3 : Int → Option Int) (x47 : Int) : Option Int :=
  (if (decide (x47 < (x1.length : Int))) then ((idx x1 x47).bind fun x64 => (if (x4 == x64) then some x47 else rec3 (iadd .i64 x47 1))) else M_slices_Index_bool_bool_j2 F)
def M_slices_Index_bool_bool_l3 (F : Nat) (x1 : List Bool) (x4 : Bool) : Nat → Int → Option Int
  | 0 => fun _ => none
  | k + 1 => fun s => M_slices_Index_bool_bool_b3 F x1 x4 (M_slices_Index_bool_bool_l3 F x1 x4 k) s
def M_slices_Index_bool_bool (F : Nat) (x1 : List Bool) (x4 : Bool) : Option Int :=
  M_slices_Index_bool_bool_l3 F x1 x4 F 0
/-! slices.Contains[[]bool,bool] -/
def M_slices_Contains_bool_bool (F : Nat) (x1 : List Bool) (x4 : Bool) : Option Bool :=
  ((M_slices_Index_bool_bool F x1 x4).bind fun x5 => some (decide (0 ≤ x5)))
/-! lampwright golomb.check -/
def M_golomb_check_j2 (_F : Nat) (x16 : Int) : Option Int :=
  some x16
def M_golomb_check_j3 (F : Nat) (x10 : Int) (x19 : Bool) : Option Int :=
  (if x19 then M_golomb_check_j2 F 3 else M_golomb_check_j2 F x10)
def M_golomb_check (F : Nat) (x1 : Int) (x2 : List Int) (x5 : Int) (x6 : List Bool) : Option Int :=
  ((M_elias_Check F x1 x2 x5).bind fun x10 => (if ((x10 : Int) == 0) then ((M_slices_Contains_bool_bool F x6 false).bind fun x21 => M_golomb_check_j3 F x10 x21) else M_golomb_check_j3 F x10 false))
/-! lampwright golomb.ended -/
def M_golomb_ended (_F : Nat) (x1 : Int) (x2 : Int) (x3 : Bool) : Option (Int × Int × Int) :=
  (if (!x3) then some (0, 0, 7) else (if (decide (1099511627776 < x1)) then some (0, 0, 3) else some (x1, x2, 0)))
/-! lampwright golomb.fromLeast -/
def M_golomb_fromLeast_j1 (F : Nat) (x1 : Int) (x2 : List Int) (x5 : Int) (x8 : (Int × Int)) : Option (Int × Int × Bool) :=
  ((M_bits_Read F x1 x2 x5 x8.1).bind fun x14 => some (isub .u64 x14.1 x8.2, iadd .i64 x5 x8.1, x14.2))
def M_golomb_fromLeast (F : Nat) (x1 : Int) (x2 : List Int) (x5 : Int) (x6 : Int) : Option (Int × Int × Bool) :=
  ((M_golomb_shape F x6).bind fun x8 => (if (decide (0 < x8.2)) then ((M_bits_Read F x1 x2 x5 (isub .i64 x8.1 1)).bind fun x15 => (if (!x15.2) then some (0, 0, false) else (if (decide (x15.1 < x8.2)) then some (x15.1, isub .i64 (iadd .i64 x5 x8.1) 1, true) else M_golomb_fromLeast_j1 F x1 x2 x5 x8))) else M_golomb_fromLeast_j1 F x1 x2 x5 x8))
/-! lampwright golomb.ReadLeast -/
def M_golomb_ReadLeast (F : Nat) (x1 : Int) (x2 : List Int) (x5 : Int) (x6 : Int) : Option (Int × Int × Int) :=
  ((M_golomb_right F x6).bind fun x21 => ((M_golomb_check F x1 x2 x5 ([x21] : List Bool)).bind fun x24 => (if ((x24 : Int) != 0) then some (0, 0, x24) else ((M_golomb_fromLeast F x1 x2 x5 x6).bind fun x25 => ((M_golomb_ended F x25.1 x25.2.1 x25.2.2).bind fun x26 => some (x26.1, x26.2.1, x26.2.2))))))
/-! lampwright golomb.Read -/
def M_golomb_Read (F : Nat) (x1 : Int) (x2 : List Int) (x5 : Int) (x6 : Int) : Option (Int × Int × Int) :=
  ((M_golomb_right F x6).bind fun x21 => ((M_golomb_check F x1 x2 x5 ([x21] : List Bool)).bind fun x24 => (if ((x24 : Int) != 0) then some (0, 0, x24) else ((M_unary_From F x1 x2 x5).bind fun x25 => (if (x25.2.2 && (decide (8128 ≤ x25.1))) then some (0, 0, 3) else (if (!x25.2.2) then some (0, 0, 7) else ((M_golomb_fromLeast F x1 x2 x25.2.1 x6).bind fun x30 => ((M_golomb_ended F (iadd .u64 (imul .u64 x25.1 x6) x30.1) x30.2.1 x30.2.2).bind fun x31 => some (x31.1, x31.2.1, x31.2.2)))))))))
/-! lampwright lampwrightref.NumBits -/
def M_R_NumBits_j2 (_F : Nat) (x56 : List Int) : Option (List Int) :=
  some x56
def M_R_NumBits_b3 (F : Nat) (rec3 : (Int × List Int × Int) → Option (List Int)) (x71 : Int) (x74 : List Int) (x75 : Int) : Option (List Int) :=
  (if (decide (0 ≤ x75)) then ((idx x74 x75).bind fun _x98 => (lett (x74.set x75.toNat (iconv .i64 (irem x71 2))) fun x101 => rec3 (iquo .u64 x71 2, x101, isub .i64 x75 1))) else M_R_NumBits_j2 F x74)
def M_R_NumBits_l3 (F : Nat) : Nat → (Int × List Int × Int) → Option (List Int)
  | 0 => fun _ => none
  | k + 1 => fun s => M_R_NumBits_b3 F (M_R_NumBits_l3 F k) s.1 s.2.1 s.2.2
def M_R_NumBits (F : Nat) (x1 : Int) (x2 : Int) : Option (List Int) :=
  ((mk 17592186044416 (0 : Int) x2).bind fun x3 => M_R_NumBits_l3 F F (x1, x3, isub .i64 x2 1))
/-! lampwright lampwrightref.LeastList -/
def M_R_LeastList_j2 (F : Nat) (x1 : Int) (x2 : Int) (x15 : Int) : Option (List Int) :=
  (chk (decide (0 ≤ x15)) ((if (decide (x1 < (isub .u64 (ishl .u64 1 x15) x2))) then ((M_R_NumBits F x1 (isub .i64 x15 1)).bind fun x21 => some x21) else ((M_R_NumBits F (iadd .u64 x1 (isub .u64 (ishl .u64 1 x15) x2)) x15).bind fun x24 => some x24))))
def M_R_LeastList_b3 (F : Nat) (x1 : Int) (x2 : Int) (rec3 : Int → Option (List Int)) (x30 : Int) : Option (List Int) :=
  (chk (decide (0 ≤ x30)) ((if (decide ((ishl .u64 1 x30) < x2)) then rec3 (iadd .i64 x30 1) else M_R_LeastList_j2 F x1 x2 x30)))
def M_R_LeastList_l3 (F : Nat) (x1 : Int) (x2 : Int) : Nat → Int → Option (List Int)
  | 0 => fun _ => none
  | k + 1 => fun s => M_R_LeastList_b3 F x1 x2 (M_R_LeastList_l3 F x1 x2 k) s
def M_R_LeastList (F : Nat) (x1 : Int) (x2 : Int) : Option (List Int) :=
  M_R_LeastList_l3 F x1 x2 F 0
/-! lampwright lampwrightref.UnaryList -/
def M_R_UnaryList_j2 (_F : Nat) (x45 : List Int) : Option (List Int) :=
  ((app 8796093022208 x45 ([1] : List Int)).bind fun x48 => some x48)
def M_R_UnaryList_b3 (F : Nat) (x1 : Int) (rec3 : (List Int × Int) → Option (List Int)) (x65 : List Int) (x66 : Int) : Option (List Int) :=
  (if (decide (x66 < x1)) then ((app 8796093022208 x65 ([0] : List Int)).bind fun x88 => rec3 (x88, iadd .u64 x66 1)) else M_R_UnaryList_j2 F x65)
def M_R_UnaryList_l3 (F : Nat) (x1 : Int) : Nat → (List Int × Int) → Option (List Int)
  | 0 => fun _ => none
  | k + 1 => fun s => M_R_UnaryList_b3 F x1 (M_R_UnaryList_l3 F x1 k) s.1 s.2
def M_R_UnaryList (F : Nat) (x1 : Int) : Option (List Int) :=
  M_R_UnaryList_l3 F x1 F (([] : List Int), 0)
/-! lampwright lampwrightref.LeastRead -/
def M_R_LeastRead_j4 (_F : Nat) : Option (Int × Int) :=
  some (0, -1)
def M_R_LeastRead_b5 (F : Nat) (x1 : List Int) (x4 : Int) (x5 : Int) (x18 : Int) (rec5 : (Int × Int) → Option (Int × Int)) (x143 : Int) (x144 : Int) : Option (Int × Int) :=
  (if (decide (x144 ≤ x18)) then (if (((x144 : Int) == (isub .i64 x18 1)) && (decide (x143 < (isub .u64 (ishl .u64 1 x18) x5)))) then some (x143, iadd .i64 x4 x144) else (if ((x144 : Int) == x18) then (lett (isub .u64 x143 (isub .u64 (ishl .u64 1 x18) x5)) fun x196 => some (x196, iadd .i64 x4 x144)) else (if (decide ((x1.length : Int) ≤ (iadd .i64 x4 x144))) then some (0, -1) else ((idx x1 (iadd .i64 x4 x144)).bind fun x198 => (lett (iadd .u64 (imul .u64 2 x143) (iconv .u64 x198)) fun x201 => rec5 (x201, iadd .i64 x144 1)))))) else M_R_LeastRead_j4 F)
def M_R_LeastRead_l5 (F : Nat) (x1 : List Int) (x4 : Int) (x5 : Int) (x18 : Int) : Nat → (Int × Int) → Option (Int × Int)
  | 0 => fun _ => none
  | k + 1 => fun s => M_R_LeastRead_b5 F x1 x4 x5 x18 (M_R_LeastRead_l5 F x1 x4 x5 x18 k) s.1 s.2
def M_R_LeastRead_j2 (F : Nat) (x1 : List Int) (x4 : Int) (x5 : Int) (x18 : Int) : Option (Int × Int) :=
  (chk (decide (0 ≤ x18)) (M_R_LeastRead_l5 F x1 x4 x5 x18 F (0, 0)))
def M_R_LeastRead_b6 (F : Nat) (x1 : List Int) (x4 : Int) (x5 : Int) (rec6 : Int → Option (Int × Int)) (x208 : Int) : Option (Int × Int) :=
  (chk (decide (0 ≤ x208)) ((if (decide ((ishl .u64 1 x208) < x5)) then rec6 (iadd .i64 x208 1) else M_R_LeastRead_j2 F x1 x4 x5 x208)))
def M_R_LeastRead_l6 (F : Nat) (x1 : List Int) (x4 : Int) (x5 : Int) : Nat → Int → Option (Int × Int)
  | 0 => fun _ => none
  | k + 1 => fun s => M_R_LeastRead_b6 F x1 x4 x5 (M_R_LeastRead_l6 F x1 x4 x5 k) s
def M_R_LeastRead (F : Nat) (x1 : List Int) (x4 : Int) (x5 : Int) : Option (Int × Int) :=
  M_R_LeastRead_l6 F x1 x4 x5 F 0
/-! lampwright lampwrightref.GolombRead -/
def M_R_GolombRead (F : Nat) (x1 : List Int) (x4 : Int) (x5 : Int) : Option (Int × Int × Int) :=
  ((M_R_UnaryRead F x1 x4).bind fun x6 => (if (decide (x6.2 < 0)) then some (0, 0, 7) else (if (decide (8128 ≤ x6.1)) then some (0, 0, 3) else ((M_R_LeastRead F x1 x6.2 x5).bind fun x9 => (if (decide (x9.2 < 0)) then some (0, 0, 7) else (if (decide (1099511627776 < (iadd .u64 (imul .u64 x6.1 x5) x9.1))) then some (0, 0, 3) else some (iadd .u64 (imul .u64 x6.1 x5) x9.1, x9.2, 0)))))))
/-! lampwright golomb.span -/
def M_golomb_span (F : Nat) (x1 : Int) (x2 : Int) : Option (Int × Int × Int) :=
  ((M_math_bits_Len64 F (iadd .u64 x1 1)).bind fun x3 => (chk ((x2 : Int) != 0) ((chk (decide (0 ≤ (imul .i64 (iquo .i64 (isub .i64 x3 1) x2) x2))) ((chk (decide (0 ≤ (iadd .i64 (imul .i64 (iquo .i64 (isub .i64 x3 1) x2) x2) x2))) (some (iquo .i64 (isub .i64 x3 1) x2, ishl .u64 1 (imul .i64 (iquo .i64 (isub .i64 x3 1) x2) x2), ishl .u64 1 (iadd .i64 (imul .i64 (iquo .i64 (isub .i64 x3 1) x2) x2) x2)))))))))
/-! lampwright golomb.Zeta -/
def M_golomb_Zeta (F : Nat) (x1 : Int) (x2 : Int) : Option (Int × List Int × Int) :=
  (if (((decide (x2 < 1)) || (decide (16 < x2))) || (decide (1099511627776 < x1))) then some (0, ([] : List Int), 3) else ((M_golomb_span F x1 x2).bind fun x9 => ((M_unary_Raw F (iconv .u64 x9.1)).bind fun x10 => ((M_golomb_addLeast F x10.1 x10.2 (isub .u64 (iadd .u64 x1 1) x9.2.1) (isub .u64 x9.2.2 x9.2.1)).bind fun x13 => some (x13.1, x13.2, 0)))))
/-! lampwright golomb.FromZeta -/
def M_golomb_FromZeta (F : Nat) (x1 : Int) (x2 : List Int) (x5 : Int) (x6 : Int) : Option (Int × Int × Int) :=
  ((M_unary_From F x1 x2 x5).bind fun x8 => (if (!x8.2.2) then some (0, 0, 7) else (if (decide (41 ≤ (imul .u64 x8.1 (iconv .u64 x6)))) then some (0, 0, 3) else (chk (decide (0 ≤ (imul .i64 (iconv .i64 x8.1) x6))) ((lett (ishl .u64 1 (imul .i64 (iconv .i64 x8.1) x6)) fun x12 => (chk (decide (0 ≤ x6)) (((M_golomb_fromLeast F x1 x2 x8.2.1 (isub .u64 (ishl .u64 x12 x6) x12)).bind fun x20 => ((M_golomb_ended F (isub .u64 (iadd .u64 x12 x20.1) 1) x20.2.1 x20.2.2).bind fun x21 => some (x21.1, x21.2.1, x21.2.2)))))))))))
/-! lampwright golomb.ReadZeta -/
def M_golomb_ReadZeta (F : Nat) (x1 : Int) (x2 : List Int) (x5 : Int) (x6 : Int) : Option (Int × Int × Int) :=
  ((M_golomb_check F x1 x2 x5 ([(decide (1 ≤ x6)), (decide (x6 ≤ 16))] : List Bool)).bind fun x14 => (if ((x14 : Int) != 0) then some (0, 0, x14) else ((M_golomb_FromZeta F x1 x2 x5 x6).bind fun x15 => some (x15.1, x15.2.1, x15.2.2))))
/-! lampwright lampwrightlaw.golombBegun -/
def M_L_golombBegun_j2 (_F : Nat) (x9 : (Int × List Int × Int)) (x13 : (Int × Int × Int)) (x14 : (Int × Int × Int)) (x15 : (Int × Int × Int)) (x16 : (Int × List Int × Int)) (x34 : Bool) : Option Bool :=
  some (((((((((((x34 && ((x9.2.2 : Int) == 0)) && ((x13.1 : Int) == 9)) && ((x13.2.1 : Int) == 5)) && ((x13.2.2 : Int) == 0)) && ((x14.1 : Int) == 2)) && ((x14.2.1 : Int) == 3)) && ((x14.2.2 : Int) == 0)) && ((x15.1 : Int) == 3)) && ((x15.2.1 : Int) == 3)) && ((x15.2.2 : Int) == 0)) && ((x16.2.2 : Int) == 3))
def M_L_golombBegun_j1 (F : Nat) (x5 : (Int × List Int × Int)) (x9 : (Int × List Int × Int)) (x13 : (Int × Int × Int)) (x14 : (Int × Int × Int)) (x15 : (Int × Int × Int)) (x16 : (Int × List Int × Int)) (x28 : Bool) : Option Bool :=
  (if (x28 && ((x5.2.2 : Int) == 0)) then ((M_R_SameBits F x9.1 x9.2.1 3 ([224] : List Int)).bind fun x48 => M_L_golombBegun_j2 F x9 x13 x14 x15 x16 x48) else M_L_golombBegun_j2 F x9 x13 x14 x15 x16 false)
def M_L_golombBegun (F : Nat)  : Option Bool :=
  ((M_golomb_Least F 3 5).bind fun x1 => ((M_golomb_Code F 9 4).bind fun x5 => ((M_golomb_Zeta F 2 2).bind fun x9 => ((M_golomb_Read F x5.1 x5.2.1 0 4).bind fun x13 => ((M_golomb_ReadZeta F x9.1 x9.2.1 0 2).bind fun x14 => ((M_golomb_ReadLeast F x1.1 x1.2.1 0 5).bind fun x15 => ((M_golomb_Least F 5 5).bind fun x16 => ((M_R_SameBits F x1.1 x1.2.1 3 ([192] : List Int)).bind fun x22 => (if (x22 && ((x1.2.2 : Int) == 0)) then ((M_R_SameBits F x5.1 x5.2.1 5 ([40] : List Int)).bind fun x51 => M_L_golombBegun_j1 F x5 x9 x13 x14 x15 x16 x51) else M_L_golombBegun_j1 F x5 x9 x13 x14 x15 x16 false)))))))))
/-! lampwright lampwrightlaw.GolombTells -/
def M_L_GolombTells_j8 (_F : Nat) (x13 : (Int × List Int × Int)) (x17 : (Int × Int × Int)) (x18 : (Int × Int × Int)) (x61 : Int) (x81 : Int) (x82 : Int) (x83 : Int) (x84 : Int) (x85 : Int) (x86 : Int) (x94 : Bool) : Option Bool :=
  some (((((((x94 && ((x13.2.2 : Int) == x61)) && ((x17.1 : Int) == x83)) && ((x17.2.1 : Int) == x84)) && ((x17.2.2 : Int) == x81)) && ((x18.1 : Int) == x85)) && ((x18.2.1 : Int) == x86)) && ((x18.2.2 : Int) == x82))
def M_L_GolombTells_j7 (F : Nat) (x9 : (Int × List Int × Int)) (x13 : (Int × List Int × Int)) (x17 : (Int × Int × Int)) (x18 : (Int × Int × Int)) (x31 : Int) (x61 : Int) (x62 : Int) (x65 : List Int) (x81 : Int) (x82 : Int) (x83 : Int) (x84 : Int) (x85 : Int) (x86 : Int) (x90 : Bool) : Option Bool :=
  (if (x90 && ((x9.2.2 : Int) == x31)) then ((M_R_SameBits F x13.1 x13.2.1 x62 x65).bind fun x102 => M_L_GolombTells_j8 F x13 x17 x18 x61 x81 x82 x83 x84 x85 x86 x102) else M_L_GolombTells_j8 F x13 x17 x18 x61 x81 x82 x83 x84 x85 x86 false)
def M_L_GolombTells_j6 (F : Nat) (x9 : (Int × List Int × Int)) (x13 : (Int × List Int × Int)) (x17 : (Int × Int × Int)) (x18 : (Int × Int × Int)) (x31 : Int) (x32 : Int) (x35 : List Int) (x61 : Int) (x62 : Int) (x65 : List Int) (x81 : Int) (x82 : Int) (x83 : Int) (x84 : Int) (x85 : Int) (x86 : Int) : Option Bool :=
  ((M_L_golombBegun F).bind fun x87 => (if x87 then ((M_R_SameBits F x9.1 x9.2.1 x32 x35).bind fun x103 => M_L_GolombTells_j7 F x9 x13 x17 x18 x31 x61 x62 x65 x81 x82 x83 x84 x85 x86 x103) else M_L_GolombTells_j7 F x9 x13 x17 x18 x31 x61 x62 x65 x81 x82 x83 x84 x85 x86 false))
def M_L_GolombTells_j9 (F : Nat) (x2 : Int) (x7 : Int) (x9 : (Int × List Int × Int)) (x13 : (Int × List Int × Int)) (x17 : (Int × Int × Int)) (x18 : (Int × Int × Int)) (x31 : Int) (x32 : Int) (x35 : List Int) (x61 : Int) (x62 : Int) (x65 : List Int) (x104 : List Int) (x109 : Int) (x110 : Int) (x111 : Int) : Option Bool :=
  ((M_R_GolombRead F x104 x7 x2).bind fun x112 => M_L_GolombTells_j6 F x9 x13 x17 x18 x31 x32 x35 x61 x62 x65 x109 x112.2.2 x110 x111 x112.1 x112.2.1)
def M_L_GolombTells_j4 (F : Nat) (x2 : Int) (x3 : Int) (x4 : List Int) (x7 : Int) (x9 : (Int × List Int × Int)) (x13 : (Int × List Int × Int)) (x17 : (Int × Int × Int)) (x18 : (Int × Int × Int)) (x31 : Int) (x32 : Int) (x35 : List Int) (x61 : Int) (x62 : Int) (x65 : List Int) (x69 : Int) : Option Bool :=
  (if ((x69 : Int) == 0) then ((M_R_BitList F x3 x4).bind fun x104 => ((M_R_LeastRead F x104 x7 x2).bind fun x107 => (if (decide (x107.2 < 0)) then M_L_GolombTells_j9 F x2 x7 x9 x13 x17 x18 x31 x32 x35 x61 x62 x65 x104 7 0 0 else M_L_GolombTells_j9 F x2 x7 x9 x13 x17 x18 x31 x32 x35 x61 x62 x65 x104 x69 x107.1 x107.2))) else M_L_GolombTells_j6 F x9 x13 x17 x18 x31 x32 x35 x61 x62 x65 x69 x69 0 0 0 0)
def M_L_GolombTells_j3 (F : Nat) (x2 : Int) (x3 : Int) (x4 : List Int) (x7 : Int) (x9 : (Int × List Int × Int)) (x13 : (Int × List Int × Int)) (x17 : (Int × Int × Int)) (x18 : (Int × Int × Int)) (x31 : Int) (x32 : Int) (x35 : List Int) (x61 : Int) (x62 : Int) (x65 : List Int) : Option Bool :=
  ((M_R_ReadErr F x3 x4 x7).bind fun x66 => (if (((x66 : Int) == 0) && (!((decide (1 ≤ x2)) && (decide (x2 ≤ 1099511627776))))) then M_L_GolombTells_j4 F x2 x3 x4 x7 x9 x13 x17 x18 x31 x32 x35 x61 x62 x65 3 else M_L_GolombTells_j4 F x2 x3 x4 x7 x9 x13 x17 x18 x31 x32 x35 x61 x62 x65 x66))
def M_L_GolombTells_j10 (F : Nat) (x1 : Int) (x2 : Int) (x3 : Int) (x4 : List Int) (x7 : Int) (x9 : (Int × List Int × Int)) (x13 : (Int × List Int × Int)) (x17 : (Int × Int × Int)) (x18 : (Int × Int × Int)) (x31 : Int) (x32 : Int) (x35 : List Int) (x120 : Bool) : Option Bool :=
  (if x120 then (chk ((x2 : Int) != 0) ((chk ((x2 : Int) != 0) (((M_R_UnaryList F (iquo .u64 x1 x2)).bind fun x127 => ((M_R_LeastList F (irem x1 x2) x2).bind fun x130 => ((app 8796093022208 x127 x130).bind fun x133 => ((M_R_PackBits F x133).bind fun x136 => M_L_GolombTells_j3 F x2 x3 x4 x7 x9 x13 x17 x18 x31 x32 x35 0 x136.1 x136.2)))))))) else M_L_GolombTells_j3 F x2 x3 x4 x7 x9 x13 x17 x18 x31 x32 x35 3 0 ([] : List Int))
def M_L_GolombTells_j1 (F : Nat) (x1 : Int) (x2 : Int) (x3 : Int) (x4 : List Int) (x7 : Int) (x9 : (Int × List Int × Int)) (x13 : (Int × List Int × Int)) (x17 : (Int × Int × Int)) (x18 : (Int × Int × Int)) (x31 : Int) (x32 : Int) (x35 : List Int) : Option Bool :=
  (if (((decide (1 ≤ x2)) && (decide (x2 ≤ 1099511627776))) && (decide (x1 ≤ 1099511627776))) then (chk ((x2 : Int) != 0) (M_L_GolombTells_j10 F x1 x2 x3 x4 x7 x9 x13 x17 x18 x31 x32 x35 (decide ((iquo .u64 x1 x2) < 8128)))) else M_L_GolombTells_j10 F x1 x2 x3 x4 x7 x9 x13 x17 x18 x31 x32 x35 false)
def M_L_GolombTells (F : Nat) (x1 : Int) (x2 : Int) (x3 : Int) (x4 : List Int) (x7 : Int) : Option Bool :=
  ((M_golomb_Least F x1 x2).bind fun x9 => ((M_golomb_Code F x1 x2).bind fun x13 => ((M_golomb_ReadLeast F x3 x4 x7 x2).bind fun x17 => ((M_golomb_Read F x3 x4 x7 x2).bind fun x18 => (if (((decide (1 ≤ x2)) && (decide (x2 ≤ 1099511627776))) && (decide (x1 < x2))) then ((M_R_LeastList F x1 x2).bind fun x142 => ((M_R_PackBits F x142).bind fun x145 => M_L_GolombTells_j1 F x1 x2 x3 x4 x7 x9 x13 x17 x18 0 x145.1 x145.2)) else M_L_GolombTells_j1 F x1 x2 x3 x4 x7 x9 x13 x17 x18 3 0 ([] : List Int))))))
/-! lampwright lampwrightref.zetaSpan -/
def M_R_zetaSpan_j2 (_F : Nat) (x2 : Int) (x21 : Int) (x22 : Int) : Option (Int × Int × Int) :=
  (chk (decide (0 ≤ x2)) (some (x21, x22, ishl .u64 x22 x2)))
def M_R_zetaSpan_b3 (F : Nat) (x1 : Int) (x2 : Int) (rec3 : (Int × Int) → Option (Int × Int × Int)) (x34 : Int) (x35 : Int) : Option (Int × Int × Int) :=
  (chk (decide (0 ≤ x2)) ((if (decide ((ishl .u64 x35 x2) ≤ (iadd .u64 x1 1))) then (chk (decide (0 ≤ x2)) (rec3 (iadd .u64 x34 1, ishl .u64 x35 x2))) else M_R_zetaSpan_j2 F x2 x34 x35)))
def M_R_zetaSpan_l3 (F : Nat) (x1 : Int) (x2 : Int) : Nat → (Int × Int) → Option (Int × Int × Int)
  | 0 => fun _ => none
  | k + 1 => fun s => M_R_zetaSpan_b3 F x1 x2 (M_R_zetaSpan_l3 F x1 x2 k) s.1 s.2
def M_R_zetaSpan (F : Nat) (x1 : Int) (x2 : Int) : Option (Int × Int × Int) :=
  M_R_zetaSpan_l3 F x1 x2 F (0, 1)
/-! lampwright lampwrightref.ZetaList -/
def M_R_ZetaList (F : Nat) (x1 : Int) (x2 : Int) : Option (List Int) :=
  ((M_R_zetaSpan F x1 x2).bind fun x3 => ((M_R_UnaryList F x3.1).bind fun x4 => ((M_R_LeastList F (isub .u64 (iadd .u64 x1 1) x3.2.1) (isub .u64 x3.2.2 x3.2.1)).bind fun x7 => ((app 8796093022208 x4 x7).bind fun x10 => some x10))))
/-! lampwright lampwrightref.ZetaRead -/
def M_R_ZetaRead_j2 (F : Nat) (x1 : List Int) (x5 : Int) (x6 : (Int × Int)) (x26 : Int) : Option (Int × Int × Int) :=
  (chk (decide (0 ≤ x5)) (((M_R_LeastRead F x1 x6.2 (isub .u64 (ishl .u64 x26 x5) x26)).bind fun x28 => (if (decide (x28.2 < 0)) then some (0, 0, 7) else (if (decide (1099511627776 < (isub .u64 (iadd .u64 x26 x28.1) 1))) then some (0, 0, 3) else some (isub .u64 (iadd .u64 x26 x28.1) 1, x28.2, 0))))))
def M_R_ZetaRead_b3 (F : Nat) (x1 : List Int) (x5 : Int) (x6 : (Int × Int)) (rec3 : (Int × Int) → Option (Int × Int × Int)) (x37 : Int) (x38 : Int) : Option (Int × Int × Int) :=
  (if (decide (x38 < x6.1)) then (chk (decide (0 ≤ x5)) (rec3 (ishl .u64 x37 x5, iadd .u64 x38 1))) else M_R_ZetaRead_j2 F x1 x5 x6 x37)
def M_R_ZetaRead_l3 (F : Nat) (x1 : List Int) (x5 : Int) (x6 : (Int × Int)) : Nat → (Int × Int) → Option (Int × Int × Int)
  | 0 => fun _ => none
  | k + 1 => fun s => M_R_ZetaRead_b3 F x1 x5 x6 (M_R_ZetaRead_l3 F x1 x5 x6 k) s.1 s.2
def M_R_ZetaRead (F : Nat) (x1 : List Int) (x4 : Int) (x5 : Int) : Option (Int × Int × Int) :=
  ((M_R_UnaryRead F x1 x4).bind fun x6 => (if (decide (x6.2 < 0)) then some (0, 0, 7) else (if ((decide (41 ≤ x6.1)) || (decide (41 ≤ (imul .i64 (iconv .i64 x6.1) x5)))) then some (0, 0, 3) else M_R_ZetaRead_l3 F x1 x5 x6 F (1, 0))))
/-! lampwright lampwrightlaw.GolombZeta -/
def M_L_GolombZeta_j4 (_F : Nat) (x9 : (Int × List Int × Int)) (x13 : (Int × Int × Int)) (x25 : Int) (x39 : Int) (x40 : Int) (x41 : Int) (x45 : Bool) : Option Bool :=
  some ((((x45 && ((x9.2.2 : Int) == x25)) && ((x13.1 : Int) == x40)) && ((x13.2.1 : Int) == x41)) && ((x13.2.2 : Int) == x39))
def M_L_GolombZeta_j3 (F : Nat) (x9 : (Int × List Int × Int)) (x13 : (Int × Int × Int)) (x25 : Int) (x26 : Int) (x29 : List Int) (x39 : Int) (x40 : Int) (x41 : Int) : Option Bool :=
  ((M_L_golombBegun F).bind fun x42 => (if x42 then ((M_R_SameBits F x9.1 x9.2.1 x26 x29).bind fun x50 => M_L_GolombZeta_j4 F x9 x13 x25 x39 x40 x41 x50) else M_L_GolombZeta_j4 F x9 x13 x25 x39 x40 x41 false))
def M_L_GolombZeta_j2 (F : Nat) (x2 : Int) (x3 : Int) (x4 : List Int) (x7 : Int) (x9 : (Int × List Int × Int)) (x13 : (Int × Int × Int)) (x25 : Int) (x26 : Int) (x29 : List Int) (x33 : Int) : Option Bool :=
  (if ((x33 : Int) == 0) then ((M_R_BitList F x3 x4).bind fun x51 => ((M_R_ZetaRead F x51 x7 x2).bind fun x54 => M_L_GolombZeta_j3 F x9 x13 x25 x26 x29 x54.2.2 x54.1 x54.2.1)) else M_L_GolombZeta_j3 F x9 x13 x25 x26 x29 x33 0 0)
def M_L_GolombZeta_j1 (F : Nat) (x2 : Int) (x3 : Int) (x4 : List Int) (x7 : Int) (x9 : (Int × List Int × Int)) (x13 : (Int × Int × Int)) (x25 : Int) (x26 : Int) (x29 : List Int) : Option Bool :=
  ((M_R_ReadErr F x3 x4 x7).bind fun x30 => (if (((x30 : Int) == 0) && (!((decide (1 ≤ x2)) && (decide (x2 ≤ 16))))) then M_L_GolombZeta_j2 F x2 x3 x4 x7 x9 x13 x25 x26 x29 3 else M_L_GolombZeta_j2 F x2 x3 x4 x7 x9 x13 x25 x26 x29 x30))
def M_L_GolombZeta (F : Nat) (x1 : Int) (x2 : Int) (x3 : Int) (x4 : List Int) (x7 : Int) : Option Bool :=
  ((M_golomb_Zeta F x1 x2).bind fun x9 => ((M_golomb_ReadZeta F x3 x4 x7 x2).bind fun x13 => (if (((decide (1 ≤ x2)) && (decide (x2 ≤ 16))) && (decide (x1 ≤ 1099511627776))) then ((M_R_ZetaList F x1 x2).bind fun x59 => ((M_R_PackBits F x59).bind fun x62 => M_L_GolombZeta_j1 F x2 x3 x4 x7 x9 x13 0 x62.1 x62.2)) else M_L_GolombZeta_j1 F x2 x3 x4 x7 x9 x13 3 0 ([] : List Int))))
/-! lampwright lampwrightlaw.GolombFull -/
def M_L_GolombFull_j2 (_F : Nat) (x73 : Int) (x74 : Int) (x75 : Int) : Option Bool :=
  some (((x73 : Int) == 512) && (decide ((isub .i64 x75 x74) ≤ 1)))
def M_L_GolombFull_b3 (F : Nat) (x1 : Int) (rec3 : (Int × Int × Int × Int) → Option Bool) (x97 : Int) (x98 : Int) (x99 : Int) (x100 : Int) : Option Bool :=
  (if (decide (x100 < x1)) then ((M_golomb_Least F x100 x1).bind fun x132 => (if (((x132.2.2 : Int) != 0) || (decide (9 < x132.1))) then some false else (chk (decide (0 ≤ x132.1)) (rec3 (iadd .i64 x97 (ishr .i64 512 x132.1), imin x98 x132.1, imax x99 x132.1, iadd .u64 x100 1))))) else M_L_GolombFull_j2 F x97 x98 x99)
def M_L_GolombFull_l3 (F : Nat) (x1 : Int) : Nat → (Int × Int × Int × Int) → Option Bool
  | 0 => fun _ => none
  | k + 1 => fun s => M_L_GolombFull_b3 F x1 (M_L_GolombFull_l3 F x1 k) s.1 s.2.1 s.2.2.1 s.2.2.2
def M_L_GolombFull (F : Nat) (x1 : Int) : Option Bool :=
  ((M_L_golombBegun F).bind fun x4 => (if (!x4) then some false else (if ((decide (x1 < 1)) || (decide (300 < x1))) then some true else M_L_GolombFull_l3 F x1 F (0, 99, 0, 0))))
/-! lampwright lampwrightlaw.GolombRises -/
def M_L_GolombRises_j1 (_F : Nat) (x26 : Bool) : Option Bool :=
  some x26
def M_L_GolombRises (F : Nat) (x1 : Int) (x2 : Int) (x3 : Int) : Option Bool :=
  ((M_golomb_Code F x1 x3).bind fun x4 => ((M_golomb_Code F x2 x3).bind fun x8 => ((M_L_golombBegun F).bind fun x14 => (if (!x14) then some false else (if ((((x4.2.2 : Int) != 0) || ((x8.2.2 : Int) != 0)) || (decide (x2 < x1))) then some true else ((M_golomb_Code F (iadd .u64 x1 x3) x3).bind fun x20 => (if (decide (x4.1 ≤ x8.1)) then M_L_GolombRises_j1 F (((x20.2.2 : Int) != 0) || ((x20.1 : Int) == (iadd .i64 x4.1 1))) else M_L_GolombRises_j1 F false)))))))
/-! lampwright bits.places -/
def M_bits_places (_F : Nat) (_x1 : Int) (_x2 : List Int) (_x5 : Int) (_x6 : Int) : Option Unit :=
  some ()
/-! lampwright bits.places$1 -/
def M_bits_places_1_b1 {σ τ : Type} (F : Nat) (yy : σ → Int → Option (σ ⊕ τ)) (x4 : Int) (x6 : Int) (x7 : List Int) (rec1 : (Int × σ) → Option (σ ⊕ τ)) (x22 : Int) (x23 : σ) : Option (σ ⊕ τ) :=
  (if (decide (x22 < x4)) then ((M_bits_At F x6 x7 x22).bind fun x44 => ((yy x23 x44).bind (Sum.elim (fun x45 => rec1 (iadd .i64 x22 1, x45)) (fun x46 => some (.inr x46))))) else some (.inl x23))
def M_bits_places_1_l1 {σ τ : Type} (F : Nat) (yy : σ → Int → Option (σ ⊕ τ)) (x4 : Int) (x6 : Int) (x7 : List Int) : Nat → (Int × σ) → Option (σ ⊕ τ)
  | 0 => fun _ => none
  | k + 1 => fun s => M_bits_places_1_b1 F yy x4 x6 x7 (M_bits_places_1_l1 F yy x4 x6 x7 k) s.1 s.2
def M_bits_places_1 {σ τ : Type} (F : Nat) (yy : σ → Int → Option (σ ⊕ τ)) (x2 : Int) (x4 : Int) (x6 : Int) (x7 : List Int) (s0 : σ) : Option (σ ⊕ τ) :=
  M_bits_places_1_l1 F yy x4 x6 x7 F (x2, s0)
/-! lampwright bits.Both -/
def M_bits_Both_r2 (F : Nat) (x45 : Int) (x48 : List Int) (x53 : Int) : Option ((Int × List Int) ⊕ Empty) :=
  ((M_bits_writer_bit F x45 x48 x53).bind fun x54 => some (.inl (x54.1, x54.2)))
def M_bits_Both (F : Nat) (x1 : Int) (x2 : List Int) (x5 : Int) (x6 : List Int) : Option (Int × List Int) :=
  ((M_bits_own F x1 x2).bind fun x12 => ((M_bits_places F x5 x6 0 x5).bind fun _x37 => ((M_bits_places_1 F (fun ((x45, x48) : (Int × List Int)) (x53 : Int) => M_bits_Both_r2 F x45 x48 x53) 0 x5 x5 x6 (x12.1, x12.2)).bind (Sum.elim (fun ((x45, x48) : (Int × List Int)) => some (x45, x48)) (fun t => t.elim)))))
/-! lampwright bits.Join -/
def M_bits_Join_j2 (F : Nat) (x1 : Int) (x2 : List Int) (x5 : Int) (x6 : List Int) (x18 : Int) : Option (Int × List Int × Int) :=
  (if ((x18 : Int) != 0) then some (0, ([] : List Int), x18) else ((M_bits_Both F x1 x2 x5 x6).bind fun x20 => some (x20.1, x20.2, 0)))
def M_bits_Join_j1 (F : Nat) (x1 : Int) (x2 : List Int) (x5 : Int) (x6 : List Int) (x15 : Int) : Option (Int × List Int × Int) :=
  (if (((x15 : Int) == 0) && (decide (8192 < (iadd .i64 x1 x5)))) then M_bits_Join_j2 F x1 x2 x5 x6 8 else M_bits_Join_j2 F x1 x2 x5 x6 x15)
def M_bits_Join (F : Nat) (x1 : Int) (x2 : List Int) (x5 : Int) (x6 : List Int) : Option (Int × List Int × Int) :=
  ((M_bits_Check F x1 x2).bind fun x12 => (if ((x12 : Int) == 0) then ((M_bits_Check F x5 x6).bind fun x26 => M_bits_Join_j1 F x1 x2 x5 x6 x26) else M_bits_Join_j1 F x1 x2 x5 x6 x12))
/-! lampwright bits.Cut -/
def M_bits_Cut_r4 (F : Nat) (x51 : Int) (x54 : List Int) (x59 : Int) : Option ((Int × List Int) ⊕ Empty) :=
  ((M_bits_writer_bit F x51 x54 x59).bind fun x60 => some (.inl (x60.1, x60.2)))
def M_bits_Cut_j2 (F : Nat) (x1 : Int) (x2 : List Int) (x5 : Int) (x6 : Int) (x19 : Int) : Option (Int × List Int × Int) :=
  (if ((x19 : Int) != 0) then some (0, ([] : List Int), x19) else ((M_bits_places F x1 x2 x5 x6).bind fun _x43 => ((M_bits_places_1 F (fun ((x51, x54) : (Int × List Int)) (x59 : Int) => M_bits_Cut_r4 F x51 x54 x59) x5 x6 x1 x2 (0, ([] : List Int))).bind (Sum.elim (fun ((x51, x54) : (Int × List Int)) => some (x51, x54, 0)) (fun t => t.elim)))))
def M_bits_Cut_j5 (F : Nat) (x1 : Int) (x2 : List Int) (x5 : Int) (x6 : Int) (x9 : Int) (x68 : Bool) : Option (Int × List Int × Int) :=
  (if x68 then M_bits_Cut_j2 F x1 x2 x5 x6 3 else M_bits_Cut_j2 F x1 x2 x5 x6 x9)
def M_bits_Cut (F : Nat) (x1 : Int) (x2 : List Int) (x5 : Int) (x6 : Int) : Option (Int × List Int × Int) :=
  ((M_bits_Check F x1 x2).bind fun x9 => (if ((x9 : Int) == 0) then M_bits_Cut_j5 F x1 x2 x5 x6 x9 ((((decide (x5 < 0)) || (decide (x1 < x5))) || (decide (x6 < x5))) || (decide (x1 < x6))) else M_bits_Cut_j5 F x1 x2 x5 x6 x9 false))
/-! lampwright bits.Get -/
def M_bits_Get_j2 (F : Nat) (x1 : Int) (x2 : List Int) (x5 : Int) (x6 : Int) (x18 : Int) : Option (Int × Int) :=
  (if ((x18 : Int) != 0) then some (0, x18) else ((M_bits_Read F x1 x2 x5 x6).bind fun x20 => (if (!x20.2) then some (0, 7) else some (x20.1, 0))))
def M_bits_Get_j3 (F : Nat) (x1 : Int) (x2 : List Int) (x5 : Int) (x6 : Int) (x8 : Int) (x28 : Bool) : Option (Int × Int) :=
  (if x28 then M_bits_Get_j2 F x1 x2 x5 x6 3 else M_bits_Get_j2 F x1 x2 x5 x6 x8)
def M_bits_Get (F : Nat) (x1 : Int) (x2 : List Int) (x5 : Int) (x6 : Int) : Option (Int × Int) :=
  ((M_bits_Check F x1 x2).bind fun x8 => (if ((x8 : Int) == 0) then M_bits_Get_j3 F x1 x2 x5 x6 x8 ((((decide (x6 < 0)) || (decide (64 < x6))) || (decide (x5 < 0))) || (decide (x1 < x5))) else M_bits_Get_j3 F x1 x2 x5 x6 x8 false))
/-! lampwright bits.Put -/
def M_bits_Put_j4 (F : Nat) (x1 : Int) (x2 : List Int) (x5 : Int) (x6 : Int) (x24 : Int) : Option (Int × List Int × Int) :=
  (if ((x24 : Int) != 0) then some (0, ([] : List Int), x24) else ((M_bits_Add F x1 x2 x5 x6).bind fun x26 => some (x26.1, x26.2, 0)))
def M_bits_Put_j6 (F : Nat) (x1 : Int) (x2 : List Int) (x5 : Int) (x6 : Int) (x9 : Int) (x36 : Bool) : Option (Int × List Int × Int) :=
  (if x36 then M_bits_Put_j4 F x1 x2 x5 x6 3 else (if (decide (8192 < (iadd .i64 x1 x6))) then M_bits_Put_j4 F x1 x2 x5 x6 8 else M_bits_Put_j4 F x1 x2 x5 x6 x9))
def M_bits_Put_j7 (F : Nat) (x1 : Int) (x2 : List Int) (x5 : Int) (x6 : Int) (x9 : Int) (x41 : Bool) : Option (Int × List Int × Int) :=
  M_bits_Put_j6 F x1 x2 x5 x6 x9 x41
def M_bits_Put (F : Nat) (x1 : Int) (x2 : List Int) (x5 : Int) (x6 : Int) : Option (Int × List Int × Int) :=
  ((M_bits_Check F x1 x2).bind fun x9 => (if ((x9 : Int) != 0) then M_bits_Put_j4 F x1 x2 x5 x6 x9 else (if ((decide (x6 < 0)) || (decide (64 < x6))) then M_bits_Put_j6 F x1 x2 x5 x6 x9 true else (if (decide (x6 < 64)) then (chk (decide (0 ≤ x6)) (M_bits_Put_j7 F x1 x2 x5 x6 x9 (((ishr .u64 x5 x6) : Int) != 0))) else M_bits_Put_j7 F x1 x2 x5 x6 x9 false))))
/-! lampwright lampwrightlaw.bitsBegun -/
def M_L_bitsBegun_j3 (_F : Nat) (x42 : Bool) : Option Bool :=
  some x42
def M_L_bitsBegun_j2 (F : Nat) (x14 : (Int × List Int × Int)) (x18 : (Int × Int)) (x35 : Bool) : Option Bool :=
  (if ((x35 && ((x14.2.2 : Int) == 0)) && ((x18.2 : Int) == 7)) then ((M_bits_Check F 3 ([1] : List Int)).bind fun x45 => M_L_bitsBegun_j3 F ((x45 : Int) == 1)) else M_L_bitsBegun_j3 F false)
def M_L_bitsBegun_j1 (F : Nat) (x1 : (Int × List Int × Int)) (x5 : (Int × List Int × Int)) (x9 : (Int × Int)) (x10 : (Int × List Int × Int)) (x14 : (Int × List Int × Int)) (x18 : (Int × Int)) (x27 : Bool) : Option Bool :=
  (if (((((x27 && ((x5.2.2 : Int) == 0)) && ((x9.1 : Int) == 9)) && ((x9.2 : Int) == 0)) && ((x10.1 : Int) == 13)) && ((x10.2.2 : Int) == 0)) then ((M_R_SameBits F x14.1 x14.2.1 x1.1 x1.2.1).bind fun x46 => M_L_bitsBegun_j2 F x14 x18 x46) else M_L_bitsBegun_j2 F x14 x18 false)
def M_L_bitsBegun (F : Nat)  : Option Bool :=
  ((M_bits_Put F 0 ([] : List Int) 5 3).bind fun x1 => ((M_bits_Put F x1.1 x1.2.1 9 7).bind fun x5 => ((M_bits_Get F x5.1 x5.2.1 3 7).bind fun x9 => ((M_bits_Join F x1.1 x1.2.1 x5.1 x5.2.1).bind fun x10 => ((M_bits_Cut F x5.1 x5.2.1 0 3).bind fun x14 => ((M_bits_Get F x5.1 x5.2.1 9 2).bind fun x18 => ((M_R_SameBits F x1.1 x1.2.1 3 ([160] : List Int)).bind fun x21 => (if (x21 && ((x1.2.2 : Int) == 0)) then ((M_R_SameBits F x5.1 x5.2.1 10 ([162, 64] : List Int)).bind fun x49 => M_L_bitsBegun_j1 F x1 x5 x9 x10 x14 x18 x49) else M_L_bitsBegun_j1 F x1 x5 x9 x10 x14 x18 false))))))))
/-! lampwright lampwrightlaw.EliasApart -/
def M_L_EliasApart_j7 (_F : Nat) (x74 : Bool) : Option Bool :=
  some x74
def M_L_EliasApart_j6 (F : Nat) (x16 : (Int × List Int × Int)) (x20 : (Int × List Int × Int)) (x67 : Bool) : Option Bool :=
  (if x67 then some false else ((M_bits_Get F x16.1 x16.2.1 0 (imin x16.1 64)).bind fun x68 => ((M_bits_Get F x20.1 x20.2.1 0 (imin x16.1 64)).bind fun x69 => (if (((x68.2 : Int) == 0) && ((x69.2 : Int) == 0)) then M_L_EliasApart_j7 F ((((x16.1 : Int) != x20.1) || (decide (64 < x16.1))) || (decide (x68.1 < x69.1))) else M_L_EliasApart_j7 F false))))
def M_L_EliasApart_j5 (F : Nat) (x16 : (Int × List Int × Int)) (x20 : (Int × List Int × Int)) (x24 : (Int × List Int × Int)) (x47 : (Int × List Int × Int)) (x64 : Bool) : Option Bool :=
  (if x64 then M_L_EliasApart_j6 F x16 x20 true else ((M_R_SameBits F x47.1 x47.2.1 x24.1 x24.2.1).bind fun x78 => M_L_EliasApart_j6 F x16 x20 x78))
def M_L_EliasApart_j2 (F : Nat) (x1 : Int) (x2 : Int) (x12 : Bool) : Option Bool :=
  (if x12 then some false else (if ((decide (x2 ≤ x1)) || (decide (1099511627776 < x2))) then some true else ((M_elias_Gamma F x1).bind fun x16 => ((M_elias_Gamma F x2).bind fun x20 => ((M_elias_Delta F x1).bind fun x24 => ((M_elias_Delta F x2).bind fun x28 => (if (((((((x16.2.2 : Int) != 0) || ((x20.2.2 : Int) != 0)) || ((x24.2.2 : Int) != 0)) || ((x28.2.2 : Int) != 0)) || (decide (x20.1 < x16.1))) || (decide (x28.1 < x24.1))) then some false else ((M_bits_Cut F x20.1 x20.2.1 0 x16.1).bind fun x43 => ((M_bits_Cut F x28.1 x28.2.1 0 x24.1).bind fun x47 => (if (((x43.2.2 : Int) != 0) || ((x47.2.2 : Int) != 0)) then M_L_EliasApart_j5 F x16 x20 x24 x47 true else ((M_R_SameBits F x43.1 x43.2.1 x16.1 x16.2.1).bind fun x79 => M_L_EliasApart_j5 F x16 x20 x24 x47 x79)))))))))))
def M_L_EliasApart (F : Nat) (x1 : Int) (x2 : Int) : Option Bool :=
  ((M_L_eliasBegun F).bind fun x9 => (if (!x9) then M_L_EliasApart_j2 F x1 x2 true else ((M_L_bitsBegun F).bind fun x83 => M_L_EliasApart_j2 F x1 x2 (!x83))))
/-! lampwright lampwrightlaw.GolombSame -/
def M_L_GolombSame_j3 (_F : Nat) (x47 : Bool) : Option Bool :=
  some x47
def M_L_GolombSame_j2 (F : Nat) (x1 : Int) (x2 : (Int × List Int × Int)) (x6 : (Int × List Int × Int)) (x10 : (Int × List Int × Int)) (x23 : Bool) : Option Bool :=
  (if x23 then some false else (if (((x2.2.2 : Int) != 0) || ((x6.2.2 : Int) != 0)) then some ((x2.2.2 : Int) == x6.2.2) else ((M_R_SameBits F x2.1 x2.2.1 x6.1 x6.2.1).bind fun x48 => (if x48 then (if ((x10.2.2 : Int) != 0) then (if (decide (8128 ≤ x1)) then M_L_GolombSame_j3 F true else (if ((x10.2.2 : Int) == 0) then ((M_R_UnaryList F x1).bind fun x53 => ((M_R_PackBits F x53).bind fun x56 => ((M_R_SameBits F x10.1 x10.2.1 x56.1 x56.2).bind fun x59 => M_L_GolombSame_j3 F x59))) else M_L_GolombSame_j3 F false)) else (if ((x10.2.2 : Int) == 0) then ((M_R_UnaryList F x1).bind fun x61 => ((M_R_PackBits F x61).bind fun x64 => ((M_R_SameBits F x10.1 x10.2.1 x64.1 x64.2).bind fun x67 => M_L_GolombSame_j3 F x67))) else M_L_GolombSame_j3 F false)) else M_L_GolombSame_j3 F false))))
def M_L_GolombSame (F : Nat) (x1 : Int) : Option Bool :=
  ((M_golomb_Zeta F x1 1).bind fun x2 => ((M_elias_Gamma F x1).bind fun x6 => ((M_golomb_Code F x1 1).bind fun x10 => ((M_L_golombBegun F).bind fun x20 => (if (!x20) then M_L_GolombSame_j2 F x1 x2 x6 x10 true else ((M_L_eliasBegun F).bind fun x70 => M_L_GolombSame_j2 F x1 x2 x6 x10 (!x70)))))))
/-! lampwright lampwrightlaw.GolombApart$1 -/
def M_L_GolombApart_1_j1 (_F : Nat) (x24 : Bool) : Option Bool :=
  some x24
def M_L_GolombApart_1 (F : Nat) (x1 : Int) (x2 : List Int) (x5 : Int) (x6 : List Int) (x9 : Int) (x10 : Int) : Option Bool :=
  (if ((((x9 : Int) != 0) || ((x10 : Int) != 0)) || (decide (x5 < x1))) then some true else ((M_bits_Cut F x5 x6 0 x1).bind fun x18 => (if ((x18.2.2 : Int) == 0) then ((M_R_SameBits F x18.1 x18.2.1 x1 x2).bind fun x25 => M_L_GolombApart_1_j1 F (!x25)) else M_L_GolombApart_1_j1 F false)))
/-! lampwright lampwrightlaw.GolombApart -/
def M_L_GolombApart_j4 (_F : Nat) (x46 : Bool) : Option Bool :=
  some x46
def M_L_GolombApart_j3 (F : Nat) (x32 : (Int × List Int × Int)) (x36 : (Int × List Int × Int)) (x43 : Bool) : Option Bool :=
  (if x43 then ((M_L_GolombApart_1 F x32.1 x32.2.1 x36.1 x36.2.1 x32.2.2 x36.2.2).bind fun x47 => M_L_GolombApart_j4 F x47) else M_L_GolombApart_j4 F false)
def M_L_GolombApart_j2 (F : Nat) (x1 : Int) (x2 : Int) (x3 : Int) (x4 : Int) (x14 : Bool) : Option Bool :=
  (if x14 then some false else (if ((x1 : Int) == x2) then some true else ((M_golomb_Least F x1 x3).bind fun x16 => ((M_golomb_Least F x2 x3).bind fun x20 => ((M_golomb_Code F x1 x3).bind fun x24 => ((M_golomb_Code F x2 x3).bind fun x28 => ((M_golomb_Zeta F x1 x4).bind fun x32 => ((M_golomb_Zeta F x2 x4).bind fun x36 => ((M_L_GolombApart_1 F x16.1 x16.2.1 x20.1 x20.2.1 x16.2.2 x20.2.2).bind fun x40 => (if x40 then ((M_L_GolombApart_1 F x24.1 x24.2.1 x28.1 x28.2.1 x24.2.2 x28.2.2).bind fun x48 => M_L_GolombApart_j3 F x32 x36 x48) else M_L_GolombApart_j3 F x32 x36 false))))))))))
def M_L_GolombApart (F : Nat) (x1 : Int) (x2 : Int) (x3 : Int) (x4 : Int) : Option Bool :=
  ((M_L_golombBegun F).bind fun x11 => (if (!x11) then M_L_GolombApart_j2 F x1 x2 x3 x4 true else ((M_L_bitsBegun F).bind fun x51 => M_L_GolombApart_j2 F x1 x2 x3 x4 (!x51))))
/-! lampwright unary.Read -/
def M_unary_Read_j2 (F : Nat) (x1 : Int) (x2 : List Int) (x5 : Int) (x13 : Int) : Option (Int × Int × Int) :=
  (if ((x13 : Int) != 0) then some (0, 0, x13) else ((M_unary_From F x1 x2 x5).bind fun x15 => (if (!x15.2.2) then some (0, 0, 7) else some (x15.1, x15.2.1, 0))))
def M_unary_Read_j3 (F : Nat) (x1 : Int) (x2 : List Int) (x5 : Int) (x7 : Int) (x21 : Bool) : Option (Int × Int × Int) :=
  (if x21 then M_unary_Read_j2 F x1 x2 x5 3 else M_unary_Read_j2 F x1 x2 x5 x7)
def M_unary_Read (F : Nat) (x1 : Int) (x2 : List Int) (x5 : Int) : Option (Int × Int × Int) :=
  ((M_bits_Check F x1 x2).bind fun x7 => (if ((x7 : Int) == 0) then M_unary_Read_j3 F x1 x2 x5 x7 ((decide (x5 < 0)) || (decide (x1 < x5))) else M_unary_Read_j3 F x1 x2 x5 x7 false))
/-! lampwright unary.Code -/
def M_unary_Code (F : Nat) (x1 : Int) : Option (Int × List Int × Int) :=
  (if (decide (8192 ≤ x1)) then some (0, ([] : List Int), 3) else ((M_unary_Raw F x1).bind fun x4 => some (x4.1, x4.2, 0)))
/-! lampwright unary.Many -/
def M_unary_Many_j4 (_F : Nat) (x119 : Int) (x122 : List Int) : Option (Int × List Int × Int) :=
  some (x119, x122, 0)
def M_unary_Many_b5 (F : Nat) (x1 : List Int) (rec5 : (Int × Int × List Int) → Option (Int × List Int × Int)) (x144 : Int) (x145 : Int) (x148 : List Int) : Option (Int × List Int × Int) :=
  (if (decide (x144 < (x1.length : Int))) then ((idx x1 x144).bind fun x180 => ((M_unary_Raw F x180).bind fun x183 => ((M_bits_Both F x145 x148 x183.1 x183.2).bind fun x186 => rec5 (iadd .i64 x144 1, x186.1, x186.2)))) else M_unary_Many_j4 F x145 x148)
def M_unary_Many_l5 (F : Nat) (x1 : List Int) : Nat → (Int × Int × List Int) → Option (Int × List Int × Int)
  | 0 => fun _ => none
  | k + 1 => fun s => M_unary_Many_b5 F x1 (M_unary_Many_l5 F x1 k) s.1 s.2.1 s.2.2
def M_unary_Many_j2 (F : Nat) (x1 : List Int) (x49 : Int) : Option (Int × List Int × Int) :=
  (if (decide (8192 < x49)) then some (0, ([] : List Int), 8) else M_unary_Many_l5 F x1 F (0, 0, ([] : List Int)))
def M_unary_Many_b6 (F : Nat) (x1 : List Int) (rec6 : (Int × Int) → Option (Int × List Int × Int)) (x205 : Int) (x206 : Int) : Option (Int × List Int × Int) :=
  (if (decide (x206 < (x1.length : Int))) then ((idx x1 x206).bind fun x229 => (if (decide (8192 ≤ x229)) then some (0, ([] : List Int), 3) else (lett (imin (iadd .u64 (iadd .u64 x205 x229) 1) 8193) fun x233 => rec6 (x233, iadd .i64 x206 1)))) else M_unary_Many_j2 F x1 x205)
def M_unary_Many_l6 (F : Nat) (x1 : List Int) : Nat → (Int × Int) → Option (Int × List Int × Int)
  | 0 => fun _ => none
  | k + 1 => fun s => M_unary_Many_b6 F x1 (M_unary_Many_l6 F x1 k) s.1 s.2
def M_unary_Many (F : Nat) (x1 : List Int) : Option (Int × List Int × Int) :=
  M_unary_Many_l6 F x1 F (0, 0)
/-! lampwright unary.All -/
def M_unary_All_j10 (_F : Nat) (x90 : List Int) (x91 : Int) (x92 : Int) : Option (List Int × Int × Int) :=
  (if ((x92 : Int) != 0) then some (([] : List Int), 0, x92) else some (x90, x91, 0))
def M_unary_All_j17 (_F : Nat) (rec15 : (Int × List Int × Int × Int) → Option (List Int × Int × Int)) (x118 : Int) (x121 : List Int) (x159 : (Int × Int × Bool)) (x161 : Int) : Option (List Int × Int × Int) :=
  ((app 8796093022208 x121 ([x159.1] : List Int)).bind fun x164 => rec15 (isub .i64 x118 1, x164, x159.2.1, x161))
def M_unary_All_b15 (F : Nat) (x1 : Int) (x2 : List Int) (rec15 : (Int × List Int × Int × Int) → Option (List Int × Int × Int)) (x118 : Int) (x121 : List Int) (x122 : Int) (x123 : Int) : Option (List Int × Int × Int) :=
  (if (((x123 : Int) == 0) && (decide (0 < x118))) then ((M_unary_From F x1 x2 x122).bind fun x159 => (if (!x159.2.2) then M_unary_All_j17 F rec15 x118 x121 x159 7 else M_unary_All_j17 F rec15 x118 x121 x159 x123)) else M_unary_All_j10 F x121 x122 x123)
def M_unary_All_l15 (F : Nat) (x1 : Int) (x2 : List Int) : Nat → (Int × List Int × Int × Int) → Option (List Int × Int × Int)
  | 0 => fun _ => none
  | k + 1 => fun s => M_unary_All_b15 F x1 x2 (M_unary_All_l15 F x1 x2 k) s.1 s.2.1 s.2.2.1 s.2.2.2
def M_unary_All_j2 (F : Nat) (x1 : Int) (x2 : List Int) (x5 : Int) (x13 : Int) : Option (List Int × Int × Int) :=
  M_unary_All_l15 F x1 x2 F (x5, ([] : List Int), 0, x13)
def M_unary_All_j18 (F : Nat) (x1 : Int) (x2 : List Int) (x5 : Int) (x7 : Int) (x171 : Bool) : Option (List Int × Int × Int) :=
  (if x171 then M_unary_All_j2 F x1 x2 x5 3 else M_unary_All_j2 F x1 x2 x5 x7)
def M_unary_All (F : Nat) (x1 : Int) (x2 : List Int) (x5 : Int) : Option (List Int × Int × Int) :=
  ((M_bits_Check F x1 x2).bind fun x7 => (if ((x7 : Int) == 0) then M_unary_All_j18 F x1 x2 x5 x7 ((decide (x5 < 0)) || (decide (8192 < x5))) else M_unary_All_j18 F x1 x2 x5 x7 false))
/-! lampwright lampwrightref.SameNums -/
def M_R_SameNums_j2 (_F : Nat) : Option Bool :=
  some true
def M_R_SameNums_b3 (F : Nat) (x1 : List Int) (x4 : List Int) (rec3 : Int → Option Bool) (x154 : Int) : Option Bool :=
  (if (decide (x154 < (x1.length : Int))) then ((idx x1 x154).bind fun x218 => ((idx x4 x154).bind fun x222 => (if ((x218 : Int) != x222) then some false else rec3 (iadd .i64 x154 1)))) else M_R_SameNums_j2 F)
def M_R_SameNums_l3 (F : Nat) (x1 : List Int) (x4 : List Int) : Nat → Int → Option Bool
  | 0 => fun _ => none
  | k + 1 => fun s => M_R_SameNums_b3 F x1 x4 (M_R_SameNums_l3 F x1 x4 k) s
def M_R_SameNums (F : Nat) (x1 : List Int) (x4 : List Int) : Option Bool :=
  (if (((x1.length : Int) : Int) != (x4.length : Int)) then some false else M_R_SameNums_l3 F x1 x4 F 0)
/-! lampwright lampwrightlaw.unaryBegun -/
def M_L_unaryBegun_j2 (_F : Nat) (x12 : (List Int × Int × Int)) (x15 : (Int × Int × Int)) (x33 : Bool) : Option Bool :=
  some (((x33 && ((x12.2.1 : Int) == 4)) && ((x12.2.2 : Int) == 0)) && ((x15.2.2 : Int) == 7))
def M_L_unaryBegun_j1 (F : Nat) (x8 : (Int × List Int × Int)) (x12 : (List Int × Int × Int)) (x15 : (Int × Int × Int)) (x27 : Bool) : Option Bool :=
  (if (x27 && ((x8.2.2 : Int) == 0)) then ((M_R_SameNums F x12.1 ([0, 2] : List Int)).bind fun x39 => M_L_unaryBegun_j2 F x12 x15 x39) else M_L_unaryBegun_j2 F x12 x15 false)
def M_L_unaryBegun (F : Nat)  : Option Bool :=
  ((M_unary_Code F 3).bind fun x1 => ((M_unary_Read F x1.1 x1.2.1 1).bind fun x5 => ((M_unary_Many F ([0, 2, 1] : List Int)).bind fun x8 => ((M_unary_All F x8.1 x8.2.1 2).bind fun x12 => ((M_unary_Read F 0 ([] : List Int) 0).bind fun x15 => ((M_R_SameBits F x1.1 x1.2.1 4 ([16] : List Int)).bind fun x18 => (if ((((x18 && ((x1.2.2 : Int) == 0)) && ((x5.1 : Int) == 2)) && ((x5.2.1 : Int) == 4)) && ((x5.2.2 : Int) == 0)) then ((M_R_SameBits F x8.1 x8.2.1 6 ([148] : List Int)).bind fun x42 => M_L_unaryBegun_j1 F x8 x12 x15 x42) else M_L_unaryBegun_j1 F x8 x12 x15 false)))))))
/-! lampwright lampwrightlaw.EliasShape -/
def M_L_EliasShape_j5 (_F : Nat) (x52 : Bool) : Option Bool :=
  some x52
def M_L_EliasShape_j4 (F : Nat) (x2 : (Int × List Int × Int)) (x6 : (Int × List Int × Int)) (x26 : Bool) : Option Bool :=
  (if x26 then some false else (if (((x2.2.2 : Int) != 0) || ((x6.2.2 : Int) != 0)) then some ((x2.2.2 : Int) == x6.2.2) else ((M_unary_Read F x2.1 x2.2.1 0).bind fun x30 => ((M_elias_ReadGamma F x6.1 x6.2.1 0).bind fun x31 => (if ((((((x30.2.2 : Int) != 0) || ((x31.2.2 : Int) != 0)) || (((iconv .u64 (isub .i64 x2.1 x30.2.1)) : Int) != x30.1)) || ((x31.1 : Int) != x30.1)) || (((iconv .u64 (isub .i64 x6.1 x31.2.1)) : Int) != x30.1)) then some false else ((M_bits_Cut F x2.1 x2.2.1 x30.2.1 x2.1).bind fun x41 => ((M_bits_Cut F x6.1 x6.2.1 x31.2.1 x6.1).bind fun x45 => (if (((x41.2.2 : Int) == 0) && ((x45.2.2 : Int) == 0)) then ((M_R_SameBits F x41.1 x41.2.1 x45.1 x45.2.1).bind fun x53 => M_L_EliasShape_j5 F x53) else M_L_EliasShape_j5 F false))))))))
def M_L_EliasShape_j3 (F : Nat) (x2 : (Int × List Int × Int)) (x6 : (Int × List Int × Int)) (x23 : Bool) : Option Bool :=
  (if x23 then M_L_EliasShape_j4 F x2 x6 true else ((M_L_bitsBegun F).bind fun x57 => M_L_EliasShape_j4 F x2 x6 (!x57)))
def M_L_EliasShape (F : Nat) (x1 : Int) : Option Bool :=
  ((M_elias_Gamma F x1).bind fun x2 => ((M_elias_Delta F x1).bind fun x6 => ((M_L_eliasBegun F).bind fun x20 => (if (!x20) then M_L_EliasShape_j3 F x2 x6 true else ((M_L_unaryBegun F).bind fun x58 => M_L_EliasShape_j3 F x2 x6 (!x58))))))
end Go.Proofs.Ytjeaicfjildchaa
