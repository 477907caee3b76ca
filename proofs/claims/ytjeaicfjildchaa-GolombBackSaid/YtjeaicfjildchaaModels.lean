/- What each Go function of this seat computes, in plain terms. -/
import Derived.Test.YtjeaicfjildchaaSx
namespace Go.Proofs.Ytjeaicfjildchaa
open Go SX
/-! lampwright golomb.right -/
def M_golomb_right (_F : Nat) (x1 : Int) : Option Bool :=
  some ((decide (1 ≤ x1)) && (decide (x1 ≤ 1099511627776)))
/-! slices.Clone[[]byte,byte] -/
def M_slices_Clone_byte_byte (_F : Nat) (x1 : List Int) : Option (List Int) :=
  ((app 70368744177664 ([] : List Int) x1).bind fun x8 => some x8)
/-! lampwright bits.own -/
def M_bits_own (F : Nat) (x1 : Int) (x2 : List Int) : Option (Int × List Int) :=
  ((M_slices_Clone_byte_byte F x2).bind fun x10 => some (x1, x10))
/-! (*lampwright bits.writer).bit -/
def M_bits_writer_bit_j1 (_F : Nat) (x2 : Int) (x6 : Int) (x15 : List Int) : Option (Int × List Int) :=
  ((idx x15 (iquo .i64 x2 8)).bind fun x30 => (chk (decide (0 ≤ (irem x2 8))) (((idx x15 (iquo .i64 x2 8)).bind fun _x36 => (lett (x15.set (iquo .i64 x2 8).toNat (ior .u8 x30 (ishr .u8 (iconv .u8 (ishl .u64 x6 7)) (irem x2 8)))) fun x41 => some (iadd .i64 x2 1, x41))))))
def M_bits_writer_bit (F : Nat) (x2 : Int) (x3 : List Int) (x6 : Int) : Option (Int × List Int) :=
  (if (((irem x2 8) : Int) == 0) then ((app 70368744177664 x3 ([0] : List Int)).bind fun x46 => M_bits_writer_bit_j1 F x2 x6 x46) else M_bits_writer_bit_j1 F x2 x6 x3)
/-! (*lampwright bits.writer).number -/
def M_bits_writer_number_b1 (F : Nat) (x6 : Int) (rec1 : (Int × Int × List Int) → Option (Int × List Int)) (x18 : Int) (x19 : Int) (x22 : List Int) : Option (Int × List Int) :=
  (if (decide (0 ≤ x18)) then (chk (decide (0 ≤ x18)) (((M_bits_writer_bit F x19 x22 (iand .u64 (ishr .u64 x6 x18) 1)).bind fun x40 => rec1 (isub .i64 x18 1, x40.1, x40.2)))) else some (x19, x22))
def M_bits_writer_number_l1 (F : Nat) (x6 : Int) : Nat → (Int × Int × List Int) → Option (Int × List Int)
  | 0 => fun _ => none
  | k + 1 => fun s => M_bits_writer_number_b1 F x6 (M_bits_writer_number_l1 F x6 k) s.1 s.2.1 s.2.2
def M_bits_writer_number (F : Nat) (x2 : Int) (x3 : List Int) (x6 : Int) (x7 : Int) : Option (Int × List Int) :=
  M_bits_writer_number_l1 F x6 F (isub .i64 x7 1, x2, x3)
/-! lampwright bits.Add -/
def M_bits_Add (F : Nat) (x1 : Int) (x2 : List Int) (x5 : Int) (x6 : Int) : Option (Int × List Int) :=
  ((M_bits_own F x1 x2).bind fun x9 => ((M_bits_writer_number F x9.1 x9.2 x5 x6).bind fun x13 => some (x13.1, x13.2)))
/-! math bits.Len64 -/
def M_math_bits_Len64_j3 (_F : Nat) (x9 : Int) (x10 : Int) : Option Int :=
  ((idx ([0, 1, 2, 2, 3, 3, 3, 3, 4, 4, 4, 4, 4, 4, 4, 4, 5, 5, 5, 5, 5, 5, 5, 5, 5, 5, 5, 5, 5, 5, 5, 5, 6, 6, 6, 6, 6, 6, 6, 6, 6, 6, 6, 6, 6, 6, 6, 6, 6, 6, 6, 6, 6, 6, 6, 6, 6, 6, 6, 6, 6, 6, 6, 6, 7, 7, 7, 7, 7, 7, 7, 7, 7, 7, 7, 7, 7, 7, 7, 7, 7, 7, 7, 7, 7, 7, 7, 7, 7, 7, 7, 7, 7, 7, 7, 7, 7, 7, 7, 7, 7, 7, 7, 7, 7, 7, 7, 7, 7, 7, 7, 7, 7, 7, 7, 7, 7, 7, 7, 7, 7, 7, 7, 7, 7, 7, 7, 7, 8, 8, 8, 8, 8, 8, 8, 8, 8, 8, 8, 8, 8, 8, 8, 8, 8, 8, 8, 8, 8, 8, 8, 8, 8, 8, 8, 8, 8, 8, 8, 8, 8, 8, 8, 8, 8, 8, 8, 8, 8, 8, 8, 8, 8, 8, 8, 8, 8, 8, 8, 8, 8, 8, 8, 8, 8, 8, 8, 8, 8, 8, 8, 8, 8, 8, 8, 8, 8, 8, 8, 8, 8, 8, 8, 8, 8, 8, 8, 8, 8, 8, 8, 8, 8, 8, 8, 8, 8, 8, 8, 8, 8, 8, 8, 8, 8, 8, 8, 8, 8, 8, 8, 8, 8, 8, 8, 8, 8, 8, 8, 8, 8, 8, 8, 8, 8, 8, 8, 8, 8, 8, 8, 8, 8, 8, 8, 8] : List Int) (iconv .u8 x9)).bind fun x11 => some (iadd .i64 x10 (iconv .i64 x11)))
def M_math_bits_Len64_j2 (F : Nat) (x6 : Int) (x7 : Int) : Option Int :=
  (if (decide (256 ≤ x6)) then M_math_bits_Len64_j3 F (ishr .u64 x6 8) (iadd .i64 x7 8) else M_math_bits_Len64_j3 F x6 x7)
def M_math_bits_Len64_j1 (F : Nat) (x3 : Int) (x4 : Int) : Option Int :=
  (if (decide (65536 ≤ x3)) then M_math_bits_Len64_j2 F (ishr .u64 x3 16) (iadd .i64 x4 16) else M_math_bits_Len64_j2 F x3 x4)
def M_math_bits_Len64 (F : Nat) (x1 : Int) : Option Int :=
  (if (decide (4294967296 ≤ x1)) then M_math_bits_Len64_j1 F (ishr .u64 x1 32) 32 else M_math_bits_Len64_j1 F x1 0)
/-! lampwright golomb.shape -/
def M_golomb_shape (F : Nat) (x1 : Int) : Option (Int × Int) :=
  ((M_math_bits_Len64 F (isub .u64 x1 1)).bind fun x2 => (chk (decide (0 ≤ x2)) (some (x2, isub .u64 (ishl .u64 1 x2) x1))))
/-! lampwright golomb.addLeast -/
def M_golomb_addLeast (F : Nat) (x1 : Int) (x2 : List Int) (x5 : Int) (x6 : Int) : Option (Int × List Int) :=
  ((M_golomb_shape F x6).bind fun x9 => (if (decide (x5 < x9.2)) then ((M_bits_Add F x1 x2 x5 (isub .i64 x9.1 1)).bind fun x14 => some (x14.1, x14.2)) else ((M_bits_Add F x1 x2 (iadd .u64 x5 x9.2) x9.1).bind fun x17 => some (x17.1, x17.2))))
/-! lampwright golomb.Least -/
def M_golomb_Least (F : Nat) (x1 : Int) (x2 : Int) : Option (Int × List Int × Int) :=
  ((M_golomb_right F x2).bind fun x7 => (if ((!x7) || (decide (x2 ≤ x1))) then some (0, ([] : List Int), 3) else ((M_golomb_addLeast F 0 ([] : List Int) x1 x2).bind fun x9 => some (x9.1, x9.2, 0))))
/-! lampwright unary.Raw -/
def M_unary_Raw (F : Nat) (x1 : Int) : Option (Int × List Int) :=
  ((mk 140737488355328 (0 : Int) (iquo .u64 (iadd .u64 x1 7) 8)).bind fun x3 => ((M_bits_Add F (iconv .i64 x1) x3 1 1).bind fun x6 => some (x6.1, x6.2)))
/-! lampwright golomb.Code -/
def M_golomb_Code_j2 (F : Nat) (x1 : Int) (x2 : Int) (x15 : Bool) : Option (Int × List Int × Int) :=
  (if x15 then some (0, ([] : List Int), 3) else (chk ((x2 : Int) != 0) ((chk ((x2 : Int) != 0) (((M_unary_Raw F (iquo .u64 x1 x2)).bind fun x34 => ((M_golomb_addLeast F x34.1 x34.2 (irem x1 x2) x2).bind fun x37 => some (x37.1, x37.2, 0))))))))
def M_golomb_Code (F : Nat) (x1 : Int) (x2 : Int) : Option (Int × List Int × Int) :=
  ((M_golomb_right F x2).bind fun x11 => (if ((!x11) || (decide (1099511627776 < x1))) then M_golomb_Code_j2 F x1 x2 true else (chk ((x2 : Int) != 0) (M_golomb_Code_j2 F x1 x2 (decide (8128 ≤ (iquo .u64 x1 x2)))))))
/-! lampwright lampwrightref.SameBytes -/
def M_R_SameBytes_j2 (_F : Nat) : Option Bool :=
  some true
def M_R_SameBytes_b3 (F : Nat) (x1 : List Int) (x4 : List Int) (rec3 : Int → Option Bool) (x154 : Int) : Option Bool :=
  (if (decide (x154 < (x1.length : Int))) then ((idx x1 x154).bind fun x218 => ((idx x4 x154).bind fun x222 => (if ((x218 : Int) != x222) then some false else rec3 (iadd .i64 x154 1)))) else M_R_SameBytes_j2 F)
def M_R_SameBytes_l3 (F : Nat) (x1 : List Int) (x4 : List Int) : Nat → Int → Option Bool
  | 0 => fun _ => none
  | k + 1 => fun s => M_R_SameBytes_b3 F x1 x4 (M_R_SameBytes_l3 F x1 x4 k) s
def M_R_SameBytes (F : Nat) (x1 : List Int) (x4 : List Int) : Option Bool :=
  (if (((x1.length : Int) : Int) != (x4.length : Int)) then some false else M_R_SameBytes_l3 F x1 x4 F 0)
/-! lampwright lampwrightref.SameBits -/
def M_R_SameBits_j1 (_F : Nat) (x13 : Bool) : Option Bool :=
  some x13
def M_R_SameBits (F : Nat) (x1 : Int) (x2 : List Int) (x5 : Int) (x6 : List Int) : Option Bool :=
  (if ((x1 : Int) == x5) then ((M_R_SameBytes F x2 x6).bind fun x14 => M_R_SameBits_j1 F x14) else M_R_SameBits_j1 F false)
/-! lampwright bits.Check -/
def M_bits_Check_j2 (_F : Nat) (x36 : Bool) : Option Int :=
  (if x36 then some 1 else some 0)
def M_bits_Check (F : Nat) (x1 : Int) (x2 : List Int) : Option Int :=
  (if ((decide (x1 < 0)) || (decide (8192 < x1))) then some 3 else (if (((x2.length : Int) : Int) != (iquo .i64 (iadd .i64 x1 7) 8)) then some 1 else (if (((irem x1 8) : Int) != 0) then ((idx x2 (isub .i64 (x2.length : Int) 1)).bind fun x39 => (chk (decide (0 ≤ (irem x1 8))) (M_bits_Check_j2 F (((ishl .u8 x39 (irem x1 8)) : Int) != 0)))) else M_bits_Check_j2 F false)))
/-! lampwright elias.Check -/
def M_elias_Check_j2 (_F : Nat) (x13 : Int) : Option Int :=
  some x13
def M_elias_Check_j3 (F : Nat) (x7 : Int) (x16 : Bool) : Option Int :=
  (if x16 then M_elias_Check_j2 F 3 else M_elias_Check_j2 F x7)
def M_elias_Check (F : Nat) (x1 : Int) (x2 : List Int) (x5 : Int) : Option Int :=
  ((M_bits_Check F x1 x2).bind fun x7 => (if ((x7 : Int) == 0) then M_elias_Check_j3 F x7 ((decide (x5 < 0)) || (decide (x1 < x5))) else M_elias_Check_j3 F x7 false))
/-! slices.Index[[]bool,bool] -/
def M_slices_Index_bool_bool_j2 (_F : Nat) : Option Int :=
  some (-1)
def M_slices_Index_bool_bool_b3 (F : Nat) (x1 : List Bool) (x4 : Bool) (rec3 : Int → Option Int) (x47 : Int) : Option Int :=
  (if (decide (x47 < (x1.length : Int))) then ((idx x1 x47).bind fun x64 => (if (x4 == x64) then some x47 else rec3 (iadd .i64 x47 1))) else M_slices_Index_bool_bool_j2 F)
def M_slices_Index_bool_bool_l3 (F : Nat) (x1 : List Bool) (x4 : Bool) : Nat → Int → Option Int
  | 0 => fun _ => none
  | k + 1 => fun s => M_slices_Index_bool_bool_b3 F x1 x4 (M_slices_Index_bool_bool_l3 F x1 x4 k) s
def M_slices_Index_bool_bool (F : Nat) (x1 : List Bool) (x4 : Bool) : Option Int :=
  M_slices_Index_bool_bool_l3 F x1 x4 F 0
/-! slices.Contains[[]bool,bool] -/
def M_slices_Contains_bool_bool (F : Nat) (x1 : List Bool) (x4 : Bool) : Option Bool :=
  ((M_slices_Index_bool_bool F x1 x4).bind fun x5 => some (decide (0 ≤ x5)))
/-! lampwright golomb.check -/
def M_golomb_check_j2 (_F : Nat) (x16 : Int) : Option Int :=
  some x16
def M_golomb_check_j3 (F : Nat) (x10 : Int) (x19 : Bool) : Option Int :=
  (if x19 then M_golomb_check_j2 F 3 else M_golomb_check_j2 F x10)
def M_golomb_check (F : Nat) (x1 : Int) (x2 : List Int) (x5 : Int) (x6 : List Bool) : Option Int :=
  ((M_elias_Check F x1 x2 x5).bind fun x10 => (if ((x10 : Int) == 0) then ((M_slices_Contains_bool_bool F x6 false).bind fun x21 => M_golomb_check_j3 F x10 x21) else M_golomb_check_j3 F x10 false))
/-! lampwright golomb.ended -/
def M_golomb_ended (_F : Nat) (x1 : Int) (x2 : Int) (x3 : Bool) : Option (Int × Int × Int) :=
  (if (!x3) then some (0, 0, 7) else (if (decide (1099511627776 < x1)) then some (0, 0, 3) else some (x1, x2, 0)))
/-! lampwright bits.At -/
def M_bits_At (_F : Nat) (_x1 : Int) (x2 : List Int) (x5 : Int) : Option Int :=
  ((idx x2 (iquo .i64 x5 8)).bind fun x7 => (chk (decide (0 ≤ (isub .i64 7 (irem x5 8)))) ((lett (iand .u64 (iconv .u64 (ishr .u8 x7 (isub .i64 7 (irem x5 8)))) 1) fun x11 => some x11))))
/-! lampwright bits.Read -/
def M_bits_Read_j2 (_F : Nat) (x24 : Int) : Option (Int × Bool) :=
  some (x24, true)
def M_bits_Read_b3 (F : Nat) (x1 : Int) (x2 : List Int) (x5 : Int) (x6 : Int) (rec3 : (Int × Int) → Option (Int × Bool)) (x29 : Int) (x30 : Int) : Option (Int × Bool) :=
  (if (decide (x30 < x6)) then ((M_bits_At F x1 x2 (iadd .i64 x5 x30)).bind fun x38 => rec3 (ior .u64 (ishl .u64 x29 1) x38, iadd .i64 x30 1)) else M_bits_Read_j2 F x29)
def M_bits_Read_l3 (F : Nat) (x1 : Int) (x2 : List Int) (x5 : Int) (x6 : Int) : Nat → (Int × Int) → Option (Int × Bool)
  | 0 => fun _ => none
  | k + 1 => fun s => M_bits_Read_b3 F x1 x2 x5 x6 (M_bits_Read_l3 F x1 x2 x5 x6 k) s.1 s.2
def M_bits_Read (F : Nat) (x1 : Int) (x2 : List Int) (x5 : Int) (x6 : Int) : Option (Int × Bool) :=
  (if (decide ((isub .i64 x1 x5) < x6)) then some (0, false) else M_bits_Read_l3 F x1 x2 x5 x6 F (0, 0))
/-! lampwright golomb.fromLeast -/
def M_golomb_fromLeast_j1 (F : Nat) (x1 : Int) (x2 : List Int) (x5 : Int) (x8 : (Int × Int)) : Option (Int × Int × Bool) :=
  ((M_bits_Read F x1 x2 x5 x8.1).bind fun x14 => some (isub .u64 x14.1 x8.2, iadd .i64 x5 x8.1, x14.2))
def M_golomb_fromLeast (F : Nat) (x1 : Int) (x2 : List Int) (x5 : Int) (x6 : Int) : Option (Int × Int × Bool) :=
  ((M_golomb_shape F x6).bind fun x8 => (if (decide (0 < x8.2)) then ((M_bits_Read F x1 x2 x5 (isub .i64 x8.1 1)).bind fun x15 => (if (!x15.2) then some (0, 0, false) else (if (decide (x15.1 < x8.2)) then some (x15.1, isub .i64 (iadd .i64 x5 x8.1) 1, true) else M_golomb_fromLeast_j1 F x1 x2 x5 x8))) else M_golomb_fromLeast_j1 F x1 x2 x5 x8))
/-! lampwright golomb.ReadLeast -/
def M_golomb_ReadLeast (F : Nat) (x1 : Int) (x2 : List Int) (x5 : Int) (x6 : Int) : Option (Int × Int × Int) :=
  ((M_golomb_right F x6).bind fun x21 => ((M_golomb_check F x1 x2 x5 ([x21] : List Bool)).bind fun x24 => (if ((x24 : Int) != 0) then some (0, 0, x24) else ((M_golomb_fromLeast F x1 x2 x5 x6).bind fun x25 => ((M_golomb_ended F x25.1 x25.2.1 x25.2.2).bind fun x26 => some (x26.1, x26.2.1, x26.2.2))))))
/-! lampwright unary.From -/
def M_unary_From_j2 (_F : Nat) : Option (Int × Int × Bool) :=
  some (0, 0, false)
def M_unary_From_b3 (F : Nat) (x1 : Int) (x2 : List Int) (x5 : Int) (rec3 : Int → Option (Int × Int × Bool)) (x33 : Int) : Option (Int × Int × Bool) :=
  (if (decide (x33 < x1)) then ((M_bits_At F x1 x2 x33).bind fun x44 => (if ((x44 : Int) == 1) then some (iconv .u64 (isub .i64 x33 x5), iadd .i64 x33 1, true) else rec3 (iadd .i64 x33 1))) else M_unary_From_j2 F)
def M_unary_From_l3 (F : Nat) (x1 : Int) (x2 : List Int) (x5 : Int) : Nat → Int → Option (Int × Int × Bool)
  | 0 => fun _ => none
  | k + 1 => fun s => M_unary_From_b3 F x1 x2 x5 (M_unary_From_l3 F x1 x2 x5 k) s
def M_unary_From (F : Nat) (x1 : Int) (x2 : List Int) (x5 : Int) : Option (Int × Int × Bool) :=
  M_unary_From_l3 F x1 x2 x5 F x5
/-! lampwright golomb.Read -/
def M_golomb_Read (F : Nat) (x1 : Int) (x2 : List Int) (x5 : Int) (x6 : Int) : Option (Int × Int × Int) :=
  ((M_golomb_right F x6).bind fun x21 => ((M_golomb_check F x1 x2 x5 ([x21] : List Bool)).bind fun x24 => (if ((x24 : Int) != 0) then some (0, 0, x24) else ((M_unary_From F x1 x2 x5).bind fun x25 => (if (x25.2.2 && (decide (8128 ≤ x25.1))) then some (0, 0, 3) else (if (!x25.2.2) then some (0, 0, 7) else ((M_golomb_fromLeast F x1 x2 x25.2.1 x6).bind fun x30 => ((M_golomb_ended F (iadd .u64 (imul .u64 x25.1 x6) x30.1) x30.2.1 x30.2.2).bind fun x31 => some (x31.1, x31.2.1, x31.2.2)))))))))
/-! lampwright golomb.span -/
def M_golomb_span (F : Nat) (x1 : Int) (x2 : Int) : Option (Int × Int × Int) :=
  ((M_math_bits_Len64 F (iadd .u64 x1 1)).bind fun x3 => (chk ((x2 : Int) != 0) ((chk (decide (0 ≤ (imul .i64 (iquo .i64 (isub .i64 x3 1) x2) x2))) ((chk (decide (0 ≤ (iadd .i64 (imul .i64 (iquo .i64 (isub .i64 x3 1) x2) x2) x2))) (some (iquo .i64 (isub .i64 x3 1) x2, ishl .u64 1 (imul .i64 (iquo .i64 (isub .i64 x3 1) x2) x2), ishl .u64 1 (iadd .i64 (imul .i64 (iquo .i64 (isub .i64 x3 1) x2) x2) x2)))))))))
/-! lampwright golomb.Zeta -/
def M_golomb_Zeta (F : Nat) (x1 : Int) (x2 : Int) : Option (Int × List Int × Int) :=
  (if (((decide (x2 < 1)) || (decide (16 < x2))) || (decide (1099511627776 < x1))) then some (0, ([] : List Int), 3) else ((M_golomb_span F x1 x2).bind fun x9 => ((M_unary_Raw F (iconv .u64 x9.1)).bind fun x10 => ((M_golomb_addLeast F x10.1 x10.2 (isub .u64 (iadd .u64 x1 1) x9.2.1) (isub .u64 x9.2.2 x9.2.1)).bind fun x13 => some (x13.1, x13.2, 0)))))
/-! lampwright golomb.FromZeta -/
def M_golomb_FromZeta (F : Nat) (x1 : Int) (x2 : List Int) (x5 : Int) (x6 : Int) : Option (Int × Int × Int) :=
  ((M_unary_From F x1 x2 x5).bind fun x8 => (if (!x8.2.2) then some (0, 0, 7) else (if (decide (41 ≤ (imul .u64 x8.1 (iconv .u64 x6)))) then some (0, 0, 3) else (chk (decide (0 ≤ (imul .i64 (iconv .i64 x8.1) x6))) ((lett (ishl .u64 1 (imul .i64 (iconv .i64 x8.1) x6)) fun x12 => (chk (decide (0 ≤ x6)) (((M_golomb_fromLeast F x1 x2 x8.2.1 (isub .u64 (ishl .u64 x12 x6) x12)).bind fun x20 => ((M_golomb_ended F (isub .u64 (iadd .u64 x12 x20.1) 1) x20.2.1 x20.2.2).bind fun x21 => some (x21.1, x21.2.1, x21.2.2)))))))))))
/-! lampwright golomb.ReadZeta -/
def M_golomb_ReadZeta (F : Nat) (x1 : Int) (x2 : List Int) (x5 : Int) (x6 : Int) : Option (Int × Int × Int) :=
  ((M_golomb_check F x1 x2 x5 ([(decide (1 ≤ x6)), (decide (x6 ≤ 16))] : List Bool)).bind fun x14 => (if ((x14 : Int) != 0) then some (0, 0, x14) else ((M_golomb_FromZeta F x1 x2 x5 x6).bind fun x15 => some (x15.1, x15.2.1, x15.2.2))))
/-! lampwright lampwrightlaw.golombBegun -/
def M_L_golombBegun_j2 (_F : Nat) (x9 : (Int × List Int × Int)) (x13 : (Int × Int × Int)) (x14 : (Int × Int × Int)) (x15 : (Int × Int × Int)) (x16 : (Int × List Int × Int)) (x34 : Bool) : Option Bool :=
  some (((((((((((x34 && ((x9.2.2 : Int) == 0)) && ((x13.1 : Int) == 9)) && ((x13.2.1 : Int) == 5)) && ((x13.2.2 : Int) == 0)) && ((x14.1 : Int) == 2)) && ((x14.2.1 : Int) == 3)) && ((x14.2.2 : Int) == 0)) && ((x15.1 : Int) == 3)) && ((x15.2.1 : Int) == 3)) && ((x15.2.2 : Int) == 0)) && ((x16.2.2 : Int) == 3))
def M_L_golombBegun_j1 (F : Nat) (x5 : (Int × List Int × Int)) (x9 : (Int × List Int × Int)) (x13 : (Int × Int × Int)) (x14 : (Int × Int × Int)) (x15 : (Int × Int × Int)) (x16 : (Int × List Int × Int)) (x28 : Bool) : Option Bool :=
  (if (x28 && ((x5.2.2 : Int) == 0)) then ((M_R_SameBits F x9.1 x9.2.1 3 ([224] : List Int)).bind fun x48 => M_L_golombBegun_j2 F x9 x13 x14 x15 x16 x48) else M_L_golombBegun_j2 F x9 x13 x14 x15 x16 false)
def M_L_golombBegun (F : Nat)  : Option Bool :=
  ((M_golomb_Least F 3 5).bind fun x1 => ((M_golomb_Code F 9 4).bind fun x5 => ((M_golomb_Zeta F 2 2).bind fun x9 => ((M_golomb_Read F x5.1 x5.2.1 0 4).bind fun x13 => ((M_golomb_ReadZeta F x9.1 x9.2.1 0 2).bind fun x14 => ((M_golomb_ReadLeast F x1.1 x1.2.1 0 5).bind fun x15 => ((M_golomb_Least F 5 5).bind fun x16 => ((M_R_SameBits F x1.1 x1.2.1 3 ([192] : List Int)).bind fun x22 => (if (x22 && ((x1.2.2 : Int) == 0)) then ((M_R_SameBits F x5.1 x5.2.1 5 ([40] : List Int)).bind fun x51 => M_L_golombBegun_j1 F x5 x9 x13 x14 x15 x16 x51) else M_L_golombBegun_j1 F x5 x9 x13 x14 x15 x16 false)))))))))
/-! lampwright bits.places -/
def M_bits_places (_F : Nat) (_x1 : Int) (_x2 : List Int) (_x5 : Int) (_x6 : Int) : Option Unit :=
  some ()
/-! lampwright bits.places$1 -/
def M_bits_places_1_b1 {σ τ : Type} (F : Nat) (yy : σ → Int → Option (σ ⊕ τ)) (x4 : Int) (x6 : Int) (x7 : List Int) (rec1 : (Int × σ) → Option (σ ⊕ τ)) (x22 : Int) (x23 : σ) : Option (σ ⊕ τ) :=
  (if (decide (x22 < x4)) then ((M_bits_At F x6 x7 x22).bind fun x44 => ((yy x23 x44).bind (Sum.elim (fun x45 => rec1 (iadd .i64 x22 1, x45)) (fun x46 => some (.inr x46))))) else some (.inl x23))
def M_bits_places_1_l1 {σ τ : Type} (F : Nat) (yy : σ → Int → Option (σ ⊕ τ)) (x4 : Int) (x6 : Int) (x7 : List Int) : Nat → (Int × σ) → Option (σ ⊕ τ)
  | 0 => fun _ => none
  | k + 1 => fun s => M_bits_places_1_b1 F yy x4 x6 x7 (M_bits_places_1_l1 F yy x4 x6 x7 k) s.1 s.2
def M_bits_places_1 {σ τ : Type} (F : Nat) (yy : σ → Int → Option (σ ⊕ τ)) (x2 : Int) (x4 : Int) (x6 : Int) (x7 : List Int) (s0 : σ) : Option (σ ⊕ τ) :=
  M_bits_places_1_l1 F yy x4 x6 x7 F (x2, s0)
/-! lampwright bits.Both -/
def M_bits_Both_r2 (F : Nat) (x45 : Int) (x48 : List Int) (x53 : Int) : Option ((Int × List Int) ⊕ Empty) :=
  ((M_bits_writer_bit F x45 x48 x53).bind fun x54 => some (.inl (x54.1, x54.2)))
def M_bits_Both (F : Nat) (x1 : Int) (x2 : List Int) (x5 : Int) (x6 : List Int) : Option (Int × List Int) :=
  ((M_bits_own F x1 x2).bind fun x12 => ((M_bits_places F x5 x6 0 x5).bind fun _x37 => ((M_bits_places_1 F (fun ((x45, x48) : (Int × List Int)) (x53 : Int) => M_bits_Both_r2 F x45 x48 x53) 0 x5 x5 x6 (x12.1, x12.2)).bind (Sum.elim (fun ((x45, x48) : (Int × List Int)) => some (x45, x48)) (fun t => t.elim)))))
/-! lampwright bits.Join -/
def M_bits_Join_j2 (F : Nat) (x1 : Int) (x2 : List Int) (x5 : Int) (x6 : List Int) (x18 : Int) : Option (Int × List Int × Int) :=
  (if ((x18 : Int) != 0) then some (0, ([] : List Int), x18) else ((M_bits_Both F x1 x2 x5 x6).bind fun x20 => some (x20.1, x20.2, 0)))
def M_bits_Join_j1 (F : Nat) (x1 : Int) (x2 : List Int) (x5 : Int) (x6 : List Int) (x15 : Int) : Option (Int × List Int × Int) :=
  (if (((x15 : Int) == 0) && (decide (8192 < (iadd .i64 x1 x5)))) then M_bits_Join_j2 F x1 x2 x5 x6 8 else M_bits_Join_j2 F x1 x2 x5 x6 x15)
def M_bits_Join (F : Nat) (x1 : Int) (x2 : List Int) (x5 : Int) (x6 : List Int) : Option (Int × List Int × Int) :=
  ((M_bits_Check F x1 x2).bind fun x12 => (if ((x12 : Int) == 0) then ((M_bits_Check F x5 x6).bind fun x26 => M_bits_Join_j1 F x1 x2 x5 x6 x26) else M_bits_Join_j1 F x1 x2 x5 x6 x12))
/-! lampwright bits.Cut -/
def M_bits_Cut_r4 (F : Nat) (x51 : Int) (x54 : List Int) (x59 : Int) : Option ((Int × List Int) ⊕ Empty) :=
  ((M_bits_writer_bit F x51 x54 x59).bind fun x60 => some (.inl (x60.1, x60.2)))
def M_bits_Cut_j2 (F : Nat) (x1 : Int) (x2 : List Int) (x5 : Int) (x6 : Int) (x19 : Int) : Option (Int × List Int × Int) :=
  (if ((x19 : Int) != 0) then some (0, ([] : List Int), x19) else ((M_bits_places F x1 x2 x5 x6).bind fun _x43 => ((M_bits_places_1 F (fun ((x51, x54) : (Int × List Int)) (x59 : Int) => M_bits_Cut_r4 F x51 x54 x59) x5 x6 x1 x2 (0, ([] : List Int))).bind (Sum.elim (fun ((x51, x54) : (Int × List Int)) => some (x51, x54, 0)) (fun t => t.elim)))))
def M_bits_Cut_j5 (F : Nat) (x1 : Int) (x2 : List Int) (x5 : Int) (x6 : Int) (x9 : Int) (x68 : Bool) : Option (Int × List Int × Int) :=
  (if x68 then M_bits_Cut_j2 F x1 x2 x5 x6 3 else M_bits_Cut_j2 F x1 x2 x5 x6 x9)
def M_bits_Cut (F : Nat) (x1 : Int) (x2 : List Int) (x5 : Int) (x6 : Int) : Option (Int × List Int × Int) :=
  ((M_bits_Check F x1 x2).bind fun x9 => (if ((x9 : Int) == 0) then M_bits_Cut_j5 F x1 x2 x5 x6 x9 ((((decide (x5 < 0)) || (decide (x1 < x5))) || (decide (x6 < x5))) || (decide (x1 < x6))) else M_bits_Cut_j5 F x1 x2 x5 x6 x9 false))
/-! lampwright bits.Get -/
def M_bits_Get_j2 (F : Nat) (x1 : Int) (x2 : List Int) (x5 : Int) (x6 : Int) (x18 : Int) : Option (Int × Int) :=
  (if ((x18 : Int) != 0) then some (0, x18) else ((M_bits_Read F x1 x2 x5 x6).bind fun x20 => (if (!x20.2) then some (0, 7) else some (x20.1, 0))))
def M_bits_Get_j3 (F : Nat) (x1 : Int) (x2 : List Int) (x5 : Int) (x6 : Int) (x8 : Int) (x28 : Bool) : Option (Int × Int) :=
  (if x28 then M_bits_Get_j2 F x1 x2 x5 x6 3 else M_bits_Get_j2 F x1 x2 x5 x6 x8)
def M_bits_Get (F : Nat) (x1 : Int) (x2 : List Int) (x5 : Int) (x6 : Int) : Option (Int × Int) :=
  ((M_bits_Check F x1 x2).bind fun x8 => (if ((x8 : Int) == 0) then M_bits_Get_j3 F x1 x2 x5 x6 x8 ((((decide (x6 < 0)) || (decide (64 < x6))) || (decide (x5 < 0))) || (decide (x1 < x5))) else M_bits_Get_j3 F x1 x2 x5 x6 x8 false))
/-! lampwright bits.Put -/
def M_bits_Put_j4 (F : Nat) (x1 : Int) (x2 : List Int) (x5 : Int) (x6 : Int) (x24 : Int) : Option (Int × List Int × Int) :=
  (if ((x24 : Int) != 0) then some (0, ([] : List Int), x24) else ((M_bits_Add F x1 x2 x5 x6).bind fun x26 => some (x26.1, x26.2, 0)))
def M_bits_Put_j6 (F : Nat) (x1 : Int) (x2 : List Int) (x5 : Int) (x6 : Int) (x9 : Int) (x36 : Bool) : Option (Int × List Int × Int) :=
  (if x36 then M_bits_Put_j4 F x1 x2 x5 x6 3 else (if (decide (8192 < (iadd .i64 x1 x6))) then M_bits_Put_j4 F x1 x2 x5 x6 8 else M_bits_Put_j4 F x1 x2 x5 x6 x9))
def M_bits_Put_j7 (F : Nat) (x1 : Int) (x2 : List Int) (x5 : Int) (x6 : Int) (x9 : Int) (x41 : Bool) : Option (Int × List Int × Int) :=
  M_bits_Put_j6 F x1 x2 x5 x6 x9 x41
def M_bits_Put (F : Nat) (x1 : Int) (x2 : List Int) (x5 : Int) (x6 : Int) : Option (Int × List Int × Int) :=
  ((M_bits_Check F x1 x2).bind fun x9 => (if ((x9 : Int) != 0) then M_bits_Put_j4 F x1 x2 x5 x6 x9 else (if ((decide (x6 < 0)) || (decide (64 < x6))) then M_bits_Put_j6 F x1 x2 x5 x6 x9 true else (if (decide (x6 < 64)) then (chk (decide (0 ≤ x6)) (M_bits_Put_j7 F x1 x2 x5 x6 x9 (((ishr .u64 x5 x6) : Int) != 0))) else M_bits_Put_j7 F x1 x2 x5 x6 x9 false))))
/-! lampwright lampwrightlaw.bitsBegun -/
def M_L_bitsBegun_j3 (_F : Nat) (x42 : Bool) : Option Bool :=
  some x42
def M_L_bitsBegun_j2 (F : Nat) (x14 : (Int × List Int × Int)) (x18 : (Int × Int)) (x35 : Bool) : Option Bool :=
  (if ((x35 && ((x14.2.2 : Int) == 0)) && ((x18.2 : Int) == 7)) then ((M_bits_Check F 3 ([1] : List Int)).bind fun x45 => M_L_bitsBegun_j3 F ((x45 : Int) == 1)) else M_L_bitsBegun_j3 F false)
def M_L_bitsBegun_j1 (F : Nat) (x1 : (Int × List Int × Int)) (x5 : (Int × List Int × Int)) (x9 : (Int × Int)) (x10 : (Int × List Int × Int)) (x14 : (Int × List Int × Int)) (x18 : (Int × Int)) (x27 : Bool) : Option Bool :=
  (if (((((x27 && ((x5.2.2 : Int) == 0)) && ((x9.1 : Int) == 9)) && ((x9.2 : Int) == 0)) && ((x10.1 : Int) == 13)) && ((x10.2.2 : Int) == 0)) then ((M_R_SameBits F x14.1 x14.2.1 x1.1 x1.2.1).bind fun x46 => M_L_bitsBegun_j2 F x14 x18 x46) else M_L_bitsBegun_j2 F x14 x18 false)
def M_L_bitsBegun (F : Nat)  : Option Bool :=
  ((M_bits_Put F 0 ([] : List Int) 5 3).bind fun x1 => ((M_bits_Put F x1.1 x1.2.1 9 7).bind fun x5 => ((M_bits_Get F x5.1 x5.2.1 3 7).bind fun x9 => ((M_bits_Join F x1.1 x1.2.1 x5.1 x5.2.1).bind fun x10 => ((M_bits_Cut F x5.1 x5.2.1 0 3).bind fun x14 => ((M_bits_Get F x5.1 x5.2.1 9 2).bind fun x18 => ((M_R_SameBits F x1.1 x1.2.1 3 ([160] : List Int)).bind fun x21 => (if (x21 && ((x1.2.2 : Int) == 0)) then ((M_R_SameBits F x5.1 x5.2.1 10 ([162, 64] : List Int)).bind fun x49 => M_L_bitsBegun_j1 F x1 x5 x9 x10 x14 x18 x49) else M_L_bitsBegun_j1 F x1 x5 x9 x10 x14 x18 false))))))))
/-! lampwright lampwrightlaw.GolombBack$2 -/
def M_L_GolombBack_2 (F : Nat) (x1 : Int) (x2 : List Int) (x6 : Int) : Option (Int × Int × Int) :=
  ((M_golomb_ReadLeast F x1 x2 0 x6).bind fun x8 => some (x8.1, x8.2.1, x8.2.2))
/-! lampwright lampwrightlaw.GolombBack$1 -/
def M_L_GolombBack_1_L_GolombBack_2_j2 (_F : Nat) (x29 : Bool) : Option Bool :=
  some x29
def M_L_GolombBack_1_L_GolombBack_2 (F : Nat) (x1 : Int) (x2 : List Int) (x5 : Int) (x7 : Int) (x9 : Int) (x10 : List Int) (x14 : Int) : Option Bool :=
  ((M_bits_Join F x1 x2 x9 x10).bind fun x16 => (if (((x5 : Int) != 0) || ((x16.2.2 : Int) != 0)) then (if ((x5 : Int) == 0) then M_L_GolombBack_1_L_GolombBack_2_j2 F true else ((M_R_SameBits F x1 x2 0 ([] : List Int)).bind fun x30 => M_L_GolombBack_1_L_GolombBack_2_j2 F x30)) else ((M_L_GolombBack_2 F x16.1 x16.2.1 x7).bind fun x31 => some ((((x31.2.2 : Int) == 0) && ((x31.1 : Int) == x14)) && ((x31.2.1 : Int) == x1)))))
/-! lampwright lampwrightlaw.GolombBack$3 -/
def M_L_GolombBack_3 (F : Nat) (x1 : Int) (x2 : List Int) (x6 : Int) : Option (Int × Int × Int) :=
  ((M_golomb_Read F x1 x2 0 x6).bind fun x8 => some (x8.1, x8.2.1, x8.2.2))
/-! lampwright lampwrightlaw.GolombBack$1 -/
def M_L_GolombBack_1_L_GolombBack_3_j2 (_F : Nat) (x29 : Bool) : Option Bool :=
  some x29
def M_L_GolombBack_1_L_GolombBack_3 (F : Nat) (x1 : Int) (x2 : List Int) (x5 : Int) (x7 : Int) (x9 : Int) (x10 : List Int) (x14 : Int) : Option Bool :=
  ((M_bits_Join F x1 x2 x9 x10).bind fun x16 => (if (((x5 : Int) != 0) || ((x16.2.2 : Int) != 0)) then (if ((x5 : Int) == 0) then M_L_GolombBack_1_L_GolombBack_3_j2 F true else ((M_R_SameBits F x1 x2 0 ([] : List Int)).bind fun x30 => M_L_GolombBack_1_L_GolombBack_3_j2 F x30)) else ((M_L_GolombBack_3 F x16.1 x16.2.1 x7).bind fun x31 => some ((((x31.2.2 : Int) == 0) && ((x31.1 : Int) == x14)) && ((x31.2.1 : Int) == x1)))))
/-! lampwright lampwrightlaw.GolombBack$4 -/
def M_L_GolombBack_4 (F : Nat) (x1 : Int) (x2 : List Int) (x6 : Int) : Option (Int × Int × Int) :=
  ((M_golomb_ReadZeta F x1 x2 0 x6).bind fun x8 => some (x8.1, x8.2.1, x8.2.2))
/-! lampwright lampwrightlaw.GolombBack$1 -/
def M_L_GolombBack_1_L_GolombBack_4_j2 (_F : Nat) (x29 : Bool) : Option Bool :=
  some x29
def M_L_GolombBack_1_L_GolombBack_4 (F : Nat) (x1 : Int) (x2 : List Int) (x5 : Int) (x7 : Int) (x9 : Int) (x10 : List Int) (x14 : Int) : Option Bool :=
  ((M_bits_Join F x1 x2 x9 x10).bind fun x16 => (if (((x5 : Int) != 0) || ((x16.2.2 : Int) != 0)) then (if ((x5 : Int) == 0) then M_L_GolombBack_1_L_GolombBack_4_j2 F true else ((M_R_SameBits F x1 x2 0 ([] : List Int)).bind fun x30 => M_L_GolombBack_1_L_GolombBack_4_j2 F x30)) else ((M_L_GolombBack_4 F x16.1 x16.2.1 x7).bind fun x31 => some ((((x31.2.2 : Int) == 0) && ((x31.1 : Int) == x14)) && ((x31.2.1 : Int) == x1)))))
/-! lampwright lampwrightlaw.GolombBack -/
def M_L_GolombBack_j4 (_F : Nat) (x40 : Bool) : Option Bool :=
  some x40
def M_L_GolombBack_j3 (F : Nat) (x1 : Int) (x3 : Int) (x4 : Int) (x5 : List Int) (x30 : (Int × List Int × Int)) (x37 : Bool) : Option Bool :=
  (if x37 then ((M_L_GolombBack_1_L_GolombBack_4 F x30.1 x30.2.1 x30.2.2 x3 x4 x5 x1).bind fun x41 => M_L_GolombBack_j4 F x41) else M_L_GolombBack_j4 F false)
def M_L_GolombBack_j2 (F : Nat) (x1 : Int) (x2 : Int) (x3 : Int) (x4 : Int) (x5 : List Int) (x21 : Bool) : Option Bool :=
  (if x21 then some false else ((M_golomb_Least F x1 x2).bind fun x22 => ((M_golomb_Code F x1 x2).bind fun x26 => ((M_golomb_Zeta F x1 x3).bind fun x30 => ((M_L_GolombBack_1_L_GolombBack_2 F x22.1 x22.2.1 x22.2.2 x2 x4 x5 x1).bind fun x34 => (if x34 then ((M_L_GolombBack_1_L_GolombBack_3 F x26.1 x26.2.1 x26.2.2 x2 x4 x5 x1).bind fun x42 => M_L_GolombBack_j3 F x1 x3 x4 x5 x30 x42) else M_L_GolombBack_j3 F x1 x3 x4 x5 x30 false))))))
def M_L_GolombBack (F : Nat) (x1 : Int) (x2 : Int) (x3 : Int) (x4 : Int) (x5 : List Int) : Option Bool :=
  ((M_L_golombBegun F).bind fun x18 => (if (!x18) then M_L_GolombBack_j2 F x1 x2 x3 x4 x5 true else ((M_L_bitsBegun F).bind fun x44 => M_L_GolombBack_j2 F x1 x2 x3 x4 x5 (!x44))))
end Go.Proofs.Ytjeaicfjildchaa
