/- What each Go function of this seat computes, in plain terms. -/
import Derived.Test.YtecangnmnkejfaaSx
namespace Go.Proofs.Ytecangnmnkejfaa
open Go SX
/-! lampwright fib.numbers -/
def M_fib_numbers_j2 (_F : Nat) (x73 : List Int) : Option (List Int) :=
  (chk (decide (x73.length = 64)) ((chk (decide (x73.length = 64)) ((chk (decide (x73.length = 64)) (some x73))))))
def M_fib_numbers_b3 (F : Nat) (rec3 : (List Int × Int) → Option (List Int)) (x97 : List Int) (x98 : Int) : Option (List Int) :=
  (if (decide (x98 < 64)) then ((idx x97 (isub .i64 x98 1)).bind fun x130 => ((idx x97 (isub .i64 x98 2)).bind fun x132 => ((idx x97 x98).bind fun _x134 => (lett (x97.set x98.toNat (iadd .u64 x130 x132)) fun x136 => rec3 (x136, iadd .i64 x98 1))))) else M_fib_numbers_j2 F x97)
def M_fib_numbers_l3 (F : Nat) : Nat → (List Int × Int) → Option (List Int)
  | 0 => fun _ => none
  | k + 1 => fun s => M_fib_numbers_b3 F (M_fib_numbers_l3 F k) s.1 s.2
def M_fib_numbers (F : Nat)  : Option (List Int) :=
  ((idx (List.replicate 64 (0 : Int)) 0).bind fun _x2 => (lett ((List.replicate 64 (0 : Int)).set (0 : Int).toNat 1) fun x3 => ((idx x3 1).bind fun _x6 => (lett (x3.set (1 : Int).toNat 2) fun x7 => M_fib_numbers_l3 F F (x7, 2)))))
/-! lampwright fib.Number -/
def M_fib_Number (F : Nat) (x1 : Int) : Option (Int × Int) :=
  (if ((decide (x1 < 0)) || (decide (64 ≤ x1))) then some (0, 3) else ((M_fib_numbers F).bind fun x5 => (chk (decide (x5.length = 64)) (((idx x5 x1).bind fun x7 => some (x7, 0))))))
/-! slices.Reverse[[]int,int] -/
def M_slices_Reverse_int_int_b1 (_F : Nat) (rec1 : (List Int × Int × Int) → Option (List Int)) (x51 : List Int) (x52 : Int) (x53 : Int) : Option (List Int) :=
  (if (decide (x52 < x53)) then ((idx x51 x53).bind fun x124 => ((idx x51 x52).bind fun x128 => ((idx x51 x52).bind fun _x132 => ((idx x51 x53).bind fun _x136 => (lett (x51.set x52.toNat x124) fun x140 => (lett (x140.set x53.toNat x128) fun x143 => rec1 (x143, iadd .i64 x52 1, isub .i64 x53 1))))))) else some x51)
def M_slices_Reverse_int_int_l1 (F : Nat) : Nat → (List Int × Int × Int) → Option (List Int)
  | 0 => fun _ => none
  | k + 1 => fun s => M_slices_Reverse_int_int_b1 F (M_slices_Reverse_int_int_l1 F k) s.1 s.2.1 s.2.2
def M_slices_Reverse_int_int (F : Nat) (x1 : List Int) : Option (List Int) :=
  M_slices_Reverse_int_int_l1 F F (x1, 0, isub .i64 (x1.length : Int) 1)
/-! lampwright fib.parts -/
def M_fib_parts_j5 (F : Nat) (x81 : List Int) : Option (List Int) :=
  ((M_slices_Reverse_int_int F x81).bind fun x82 => (chk (decide (x82.length = x81.length)) (some x82)))
def M_fib_parts_j9 (_F : Nat) (rec8 : (Int × List Int × Int) → Option (List Int)) (x112 : Int) (x145 : Int) (x148 : List Int) : Option (List Int) :=
  rec8 (x145, x148, isub .i64 x112 1)
def M_fib_parts_b8 (F : Nat) (x2 : List Int) (rec8 : (Int × List Int × Int) → Option (List Int)) (x108 : Int) (x111 : List Int) (x112 : Int) : Option (List Int) :=
  (if (decide (0 ≤ x112)) then ((idx x2 x112).bind fun x149 => (if (decide (x149 ≤ x108)) then ((idx x2 x112).bind fun x150 => ((app 8796093022208 x111 ([x112] : List Int)).bind fun x153 => M_fib_parts_j9 F rec8 x112 (isub .u64 x108 x150) x153)) else M_fib_parts_j9 F rec8 x112 x108 x111)) else M_fib_parts_j5 F x111)
def M_fib_parts_l8 (F : Nat) (x2 : List Int) : Nat → (Int × List Int × Int) → Option (List Int)
  | 0 => fun _ => none
  | k + 1 => fun s => M_fib_parts_b8 F x2 (M_fib_parts_l8 F x2 k) s.1 s.2.1 s.2.2
def M_fib_parts (F : Nat) (x1 : Int) : Option (List Int) :=
  ((M_fib_numbers F).bind fun x2 => (chk (decide (x2.length = 64)) (M_fib_parts_l8 F x2 F (x1, ([] : List Int), 63))))
/-! lampwright fib.Parts -/
def M_fib_Parts (F : Nat) (x1 : Int) : Option (List Int × Int) :=
  (if (decide (1099511627776 < x1)) then some (([] : List Int), 3) else ((M_fib_parts F x1).bind fun x3 => some (x3, 0)))
/-! lampwright fib.Sum -/
def M_fib_Sum_j2 (_F : Nat) (x77 : Int) : Option (Int × Int) :=
  some (x77, 0)
def M_fib_Sum_b3 (F : Nat) (x1 : List Int) (x4 : List Int) (rec3 : (Int × Int × Int) → Option (Int × Int)) (x100 : Int) (x101 : Int) (x102 : Int) : Option (Int × Int) :=
  (if (decide (x102 < (x1.length : Int))) then ((idx x1 x102).bind fun x137 => (if ((decide (x137 < 0)) || (decide (64 ≤ x137))) then some (0, 3) else (if (decide (x137 ≤ (iadd .i64 x101 1))) then some (0, 4) else ((idx x4 x137).bind fun x144 => rec3 (iadd .u64 x100 x144, x137, iadd .i64 x102 1))))) else M_fib_Sum_j2 F x100)
def M_fib_Sum_l3 (F : Nat) (x1 : List Int) (x4 : List Int) : Nat → (Int × Int × Int) → Option (Int × Int)
  | 0 => fun _ => none
  | k + 1 => fun s => M_fib_Sum_b3 F x1 x4 (M_fib_Sum_l3 F x1 x4 k) s.1 s.2.1 s.2.2
def M_fib_Sum (F : Nat) (x1 : List Int) : Option (Int × Int) :=
  ((M_fib_numbers F).bind fun x4 => (chk (decide (x4.length = 64)) (M_fib_Sum_l3 F x1 x4 F (0, -2, 0))))
/-! slices.Clone[[]byte,byte] -/
def M_slices_Clone_byte_byte (_F : Nat) (x1 : List Int) : Option (List Int) :=
  ((app 70368744177664 ([] : List Int) x1).bind fun x8 => some x8)
/-! lampwright bits.own -/
def M_bits_own (F : Nat) (x1 : Int) (x2 : List Int) : Option (Int × List Int) :=
  ((M_slices_Clone_byte_byte F x2).bind fun x10 => some (x1, x10))
/-! (*lampwright bits.writer).bit -/
def M_bits_writer_bit_j1 (_F : Nat) (x2 : Int) (x6 : Int) (x15 : List Int) : Option (Int × List Int) :=
  ((idx x15 (iquo .i64 x2 8)).bind fun x30 => (chk (decide (0 ≤ (irem x2 8))) (((idx x15 (iquo .i64 x2 8)).bind fun _x36 => (lett (x15.set (iquo .i64 x2 8).toNat (ior .u8 x30 (ishr .u8 (iconv .u8 (ishl .u64 x6 7)) (irem x2 8)))) fun x41 => some (iadd .i64 x2 1, x41))))))
def M_bits_writer_bit (F : Nat) (x2 : Int) (x3 : List Int) (x6 : Int) : Option (Int × List Int) :=
  (if (((irem x2 8) : Int) == 0) then ((app 70368744177664 x3 ([0] : List Int)).bind fun x46 => M_bits_writer_bit_j1 F x2 x6 x46) else M_bits_writer_bit_j1 F x2 x6 x3)
/-! (*lampwright bits.writer).number -/
def M_bits_writer_number_b1 (F : Nat) (x6 : Int) (rec1 : (Int × Int × List Int) → Option (Int × List Int)) (x18 : Int) (x19 : Int) (x22 : List Int) : Option (Int × List Int) :=
  (if (decide (0 ≤ x18)) then (chk (decide (0 ≤ x18)) (((M_bits_writer_bit F x19 x22 (iand .u64 (ishr .u64 x6 x18) 1)).bind fun x40 => rec1 (isub .i64 x18 1, x40.1, x40.2)))) else some (x19, x22))
def M_bits_writer_number_l1 (F : Nat) (x6 : Int) : Nat → (Int × Int × List Int) → Option (Int × List Int)
  | 0 => fun _ => none
  | k + 1 => fun s => M_bits_writer_number_b1 F x6 (M_bits_writer_number_l1 F x6 k) s.1 s.2.1 s.2.2
def M_bits_writer_number (F : Nat) (x2 : Int) (x3 : List Int) (x6 : Int) (x7 : Int) : Option (Int × List Int) :=
  M_bits_writer_number_l1 F x6 F (isub .i64 x7 1, x2, x3)
/-! lampwright bits.Add -/
def M_bits_Add (F : Nat) (x1 : Int) (x2 : List Int) (x5 : Int) (x6 : Int) : Option (Int × List Int) :=
  ((M_bits_own F x1 x2).bind fun x9 => ((M_bits_writer_number F x9.1 x9.2 x5 x6).bind fun x13 => some (x13.1, x13.2)))
/-! slices.Index[[]int,int] -/
def M_slices_Index_int_int_j2 (_F : Nat) : Option Int :=
  some (-1)
def M_slices_Index_int_int_b3 (F : Nat) (x1 : List Int) (x4 : Int) (rec3 : Int → Option Int) (x47 : Int) : Option Int :=
  (if (decide (x47 < (x1.length : Int))) then ((idx x1 x47).bind fun x64 => (if ((x4 : Int) == x64) then some x47 else rec3 (iadd .i64 x47 1))) else M_slices_Index_int_int_j2 F)
def M_slices_Index_int_int_l3 (F : Nat) (x1 : List Int) (x4 : Int) : Nat → Int → Option Int
  | 0 => fun _ => none
  | k + 1 => fun s => M_slices_Index_int_int_b3 F x1 x4 (M_slices_Index_int_int_l3 F x1 x4 k) s
def M_slices_Index_int_int (F : Nat) (x1 : List Int) (x4 : Int) : Option Int :=
  M_slices_Index_int_int_l3 F x1 x4 F 0
/-! slices.Contains[[]int,int] -/
def M_slices_Contains_int_int (F : Nat) (x1 : List Int) (x4 : Int) : Option Bool :=
  ((M_slices_Index_int_int F x1 x4).bind fun x5 => some (decide (0 ≤ x5)))
/-! lampwright fib.Raw -/
def M_fib_Raw_j8 (F : Nat) (x71 : Int) (x74 : List Int) : Option (Int × List Int) :=
  ((M_bits_Add F x71 x74 1 1).bind fun x75 => some (x75.1, x75.2))
def M_fib_Raw_j15 (F : Nat) (rec13 : (Int × Int × List Int) → Option (Int × List Int)) (x100 : Int) (x101 : Int) (x104 : List Int) (x135 : Int) : Option (Int × List Int) :=
  ((M_bits_Add F x101 x104 x135 1).bind fun x136 => rec13 (iadd .i64 x100 1, x136.1, x136.2))
def M_fib_Raw_b13 (F : Nat) (x3 : List Int) (x78 : Int) (rec13 : (Int × Int × List Int) → Option (Int × List Int)) (x100 : Int) (x101 : Int) (x104 : List Int) : Option (Int × List Int) :=
  (if (decide (x100 < (iadd .i64 x78 1))) then ((M_slices_Contains_int_int F x3 x100).bind fun x139 => (if x139 then M_fib_Raw_j15 F rec13 x100 x101 x104 1 else M_fib_Raw_j15 F rec13 x100 x101 x104 0)) else M_fib_Raw_j8 F x101 x104)
def M_fib_Raw_l13 (F : Nat) (x3 : List Int) (x78 : Int) : Nat → (Int × Int × List Int) → Option (Int × List Int)
  | 0 => fun _ => none
  | k + 1 => fun s => M_fib_Raw_b13 F x3 x78 (M_fib_Raw_l13 F x3 x78 k) s.1 s.2.1 s.2.2
def M_fib_Raw (F : Nat) (x1 : Int) : Option (Int × List Int) :=
  ((M_fib_parts F (iadd .u64 x1 1)).bind fun x3 => ((idx x3 (isub .i64 (x3.length : Int) 1)).bind fun x78 => M_fib_Raw_l13 F x3 x78 F (0, 0, ([] : List Int))))
/-! lampwright fib.Code -/
def M_fib_Code (F : Nat) (x1 : Int) : Option (Int × List Int × Int) :=
  (if (decide (1099511627776 < x1)) then some (0, ([] : List Int), 3) else ((M_fib_Raw F x1).bind fun x4 => some (x4.1, x4.2, 0)))
/-! lampwright bits.Check -/
def M_bits_Check_j2 (_F : Nat) (x36 : Bool) : Option Int :=
  (if x36 then some 1 else some 0)
def M_bits_Check (F : Nat) (x1 : Int) (x2 : List Int) : Option Int :=
  (if ((decide (x1 < 0)) || (decide (8192 < x1))) then some 3 else (if (((x2.length : Int) : Int) != (iquo .i64 (iadd .i64 x1 7) 8)) then some 1 else (if (((irem x1 8) : Int) != 0) then ((idx x2 (isub .i64 (x2.length : Int) 1)).bind fun x39 => (chk (decide (0 ≤ (irem x1 8))) (M_bits_Check_j2 F (((ishl .u8 x39 (irem x1 8)) : Int) != 0)))) else M_bits_Check_j2 F false)))
/-! lampwright elias.Check -/
def M_elias_Check_j2 (_F : Nat) (x13 : Int) : Option Int :=
  some x13
def M_elias_Check_j3 (F : Nat) (x7 : Int) (x16 : Bool) : Option Int :=
  (if x16 then M_elias_Check_j2 F 3 else M_elias_Check_j2 F x7)
def M_elias_Check (F : Nat) (x1 : Int) (x2 : List Int) (x5 : Int) : Option Int :=
  ((M_bits_Check F x1 x2).bind fun x7 => (if ((x7 : Int) == 0) then M_elias_Check_j3 F x7 ((decide (x5 < 0)) || (decide (x1 < x5))) else M_elias_Check_j3 F x7 false))
/-! lampwright bits.At -/
def M_bits_At (_F : Nat) (_x1 : Int) (x2 : List Int) (x5 : Int) : Option Int :=
  ((idx x2 (iquo .i64 x5 8)).bind fun x7 => (chk (decide (0 ≤ (isub .i64 7 (irem x5 8)))) ((lett (iand .u64 (iconv .u64 (ishr .u8 x7 (isub .i64 7 (irem x5 8)))) 1) fun x11 => some x11))))
/-! lampwright fib.From -/
def M_fib_From_j16 (_F : Nat) : Option (Int × Int × Int) :=
  some (0, 0, 7)
def M_fib_From_j30 (_F : Nat) (rec25 : (Int × Int × Bool × Int) → Option (Int × Int × Int)) (x226 : Int) (x318 : Int) (x332 : Int) (x333 : Bool) : Option (Int × Int × Int) :=
  rec25 (x332, x318, x333, iadd .i64 x226 1)
def M_fib_From_j31 (F : Nat) (rec25 : (Int × Int × Bool × Int) → Option (Int × Int × Int)) (x5 : Int) (x7 : List Int) (x223 : Int) (x224 : Int) (x225 : Bool) (x226 : Int) (x318 : Int) (x337 : Bool) : Option (Int × Int × Int) :=
  (if x337 then some (0, 0, 3) else (if (((x318 : Int) == 1) && ((x224 : Int) == 1)) then some (isub .u64 x223 1, iadd .i64 x226 1, 0) else (if (((x318 : Int) == 1) && (decide (64 ≤ (isub .i64 x226 x5)))) then M_fib_From_j30 F rec25 x226 x318 x223 true else (if ((x318 : Int) == 1) then ((idx x7 (isub .i64 x226 x5)).bind fun x340 => M_fib_From_j30 F rec25 x226 x318 (iadd .u64 x223 x340) (x225 || (decide (2199023255552 < (iadd .u64 x223 x340))))) else M_fib_From_j30 F rec25 x226 x318 x223 x225))))
def M_fib_From_b25 (F : Nat) (x1 : Int) (x2 : List Int) (x5 : Int) (x7 : List Int) (rec25 : (Int × Int × Bool × Int) → Option (Int × Int × Int)) (x223 : Int) (x224 : Int) (x225 : Bool) (x226 : Int) : Option (Int × Int × Int) :=
  (if (decide (x226 < x1)) then ((M_bits_At F x1 x2 x226).bind fun x318 => (if (((x318 : Int) == 1) && ((x224 : Int) == 1)) then M_fib_From_j31 F rec25 x5 x7 x223 x224 x225 x226 x318 (x225 || (decide (1099511627776 < (isub .u64 x223 1)))) else M_fib_From_j31 F rec25 x5 x7 x223 x224 x225 x226 x318 false)) else M_fib_From_j16 F)
def M_fib_From_l25 (F : Nat) (x1 : Int) (x2 : List Int) (x5 : Int) (x7 : List Int) : Nat → (Int × Int × Bool × Int) → Option (Int × Int × Int)
  | 0 => fun _ => none
  | k + 1 => fun s => M_fib_From_b25 F x1 x2 x5 x7 (M_fib_From_l25 F x1 x2 x5 x7 k) s.1 s.2.1 s.2.2.1 s.2.2.2
def M_fib_From (F : Nat) (x1 : Int) (x2 : List Int) (x5 : Int) : Option (Int × Int × Int) :=
  ((M_fib_numbers F).bind fun x7 => (chk (decide (x7.length = 64)) (M_fib_From_l25 F x1 x2 x5 x7 F (0, 0, false, x5))))
/-! lampwright fib.Read -/
def M_fib_Read (F : Nat) (x1 : Int) (x2 : List Int) (x5 : Int) : Option (Int × Int × Int) :=
  ((M_elias_Check F x1 x2 x5).bind fun x9 => (if ((x9 : Int) != 0) then some (0, 0, x9) else ((M_fib_From F x1 x2 x5).bind fun x10 => some (x10.1, x10.2.1, x10.2.2))))
/-! lampwright lampwrightref.FibNum -/
def M_R_FibNum_j2 (_F : Nat) (x16 : Int) : Option Int :=
  some x16
def M_R_FibNum_b3 (F : Nat) (x1 : Int) (rec3 : (Int × Int × Int) → Option Int) (x23 : Int) (x24 : Int) (x25 : Int) : Option Int :=
  (if (decide (x25 < x1)) then rec3 (iadd .u64 x23 x24, x23, iadd .i64 x25 1) else M_R_FibNum_j2 F x23)
def M_R_FibNum_l3 (F : Nat) (x1 : Int) : Nat → (Int × Int × Int) → Option Int
  | 0 => fun _ => none
  | k + 1 => fun s => M_R_FibNum_b3 F x1 (M_R_FibNum_l3 F x1 k) s.1 s.2.1 s.2.2
def M_R_FibNum (F : Nat) (x1 : Int) : Option Int :=
  M_R_FibNum_l3 F x1 F (1, 1, 0)
/-! lampwright lampwrightref.FibParts -/
def M_R_FibParts_j2 (F : Nat) (self : Int → Option (List Int)) (x1 : Int) (x17 : Int) : Option (List Int) :=
  ((M_R_FibNum F x17).bind fun x18 => ((self (isub .u64 x1 x18)).bind fun x19 => ((app 8796093022208 x19 ([x17] : List Int)).bind fun x24 => some x24)))
def M_R_FibParts_b3 (F : Nat) (self : Int → Option (List Int)) (x1 : Int) (rec3 : Int → Option (List Int)) (x31 : Int) : Option (List Int) :=
  ((M_R_FibNum F (iadd .i64 x31 1)).bind fun x39 => (if (decide (x39 ≤ x1)) then rec3 (iadd .i64 x31 1) else M_R_FibParts_j2 F self x1 x31))
def M_R_FibParts_l3 (F : Nat) (self : Int → Option (List Int)) (x1 : Int) : Nat → Int → Option (List Int)
  | 0 => fun _ => none
  | k + 1 => fun s => M_R_FibParts_b3 F self x1 (M_R_FibParts_l3 F self x1 k) s
def M_R_FibParts : Nat → Int → Option (List Int)
  | 0 => fun _ => none
  | F + 1 => fun x1 =>
    let self := M_R_FibParts F
    (if ((x1 : Int) == 0) then some ([] : List Int) else M_R_FibParts_l3 F self x1 F 0)
/-! lampwright lampwrightref.PackBits -/
def M_R_PackBits_j59 (_F : Nat) (x1 : List Int) (x497 : List Int) : Option (Int × List Int) :=
  some ((x1.length : Int), x497)
def M_R_PackBits_j108 (_F : Nat) (rec98 : (Int × List Int) → Option (Int × List Int)) (x660 : Int) (x907 : List Int) : Option (Int × List Int) :=
  rec98 (iadd .i64 x660 8, x907)
def M_R_PackBits_j113 (F : Nat) (rec98 : (Int × List Int) → Option (Int × List Int)) (x660 : Int) (x663 : List Int) (x944 : Int) : Option (Int × List Int) :=
  ((app 70368744177664 x663 ([iconv .u8 x944] : List Int)).bind fun x947 => M_R_PackBits_j108 F rec98 x660 x947)
def M_R_PackBits_j117 (_F : Nat) (rec116 : (Int × Int) → Option (Int × List Int)) (x962 : Int) (x980 : Int) : Option (Int × List Int) :=
  rec116 (x980, iadd .i64 x962 1)
def M_R_PackBits_b116 (F : Nat) (rec98 : (Int × List Int) → Option (Int × List Int)) (x1 : List Int) (x660 : Int) (x663 : List Int) (rec116 : (Int × Int) → Option (Int × List Int)) (x961 : Int) (x962 : Int) : Option (Int × List Int) :=
  (if (decide (x962 < 8)) then (if (decide ((iadd .i64 x660 x962) < (x1.length : Int))) then ((idx x1 (iadd .i64 x660 x962)).bind fun x981 => M_R_PackBits_j117 F rec116 x962 (iadd .i64 (imul .i64 2 x961) x981)) else M_R_PackBits_j117 F rec116 x962 (imul .i64 2 x961)) else M_R_PackBits_j113 F rec98 x660 x663 x961)
def M_R_PackBits_l116 (F : Nat) (rec98 : (Int × List Int) → Option (Int × List Int)) (x1 : List Int) (x660 : Int) (x663 : List Int) : Nat → (Int × Int) → Option (Int × List Int)
  | 0 => fun _ => none
  | k + 1 => fun s => M_R_PackBits_b116 F rec98 x1 x660 x663 (M_R_PackBits_l116 F rec98 x1 x660 x663 k) s.1 s.2
def M_R_PackBits_b98 (F : Nat) (x1 : List Int) (rec98 : (Int × List Int) → Option (Int × List Int)) (x660 : Int) (x663 : List Int) : Option (Int × List Int) :=
  (if (decide (x660 < (x1.length : Int))) then M_R_PackBits_l116 F rec98 x1 x660 x663 F (0, 0) else M_R_PackBits_j59 F x1 x663)
def M_R_PackBits_l98 (F : Nat) (x1 : List Int) : Nat → (Int × List Int) → Option (Int × List Int)
  | 0 => fun _ => none
  | k + 1 => fun s => M_R_PackBits_b98 F x1 (M_R_PackBits_l98 F x1 k) s.1 s.2
def M_R_PackBits (F : Nat) (x1 : List Int) : Option (Int × List Int) :=
  M_R_PackBits_l98 F x1 F (0, ([] : List Int))
/-! lampwright lampwrightref.FibList -/
def M_R_FibList_j2 (_F : Nat) (x74 : List Int) : Option (List Int) :=
  ((app 8796093022208 x74 ([1] : List Int)).bind fun x77 => some x77)
def M_R_FibList_b3 (F : Nat) (x2 : List Int) (rec3 : (List Int × Int) → Option (List Int)) (x100 : List Int) (x101 : Int) : Option (List Int) :=
  (if (decide (x101 < (x2.length : Int))) then ((idx x2 x101).bind fun x133 => ((idx x100 x133).bind fun _x136 => (lett (x100.set x133.toNat 1) fun x139 => rec3 (x139, iadd .i64 x101 1)))) else M_R_FibList_j2 F x100)
def M_R_FibList_l3 (F : Nat) (x2 : List Int) : Nat → (List Int × Int) → Option (List Int)
  | 0 => fun _ => none
  | k + 1 => fun s => M_R_FibList_b3 F x2 (M_R_FibList_l3 F x2 k) s.1 s.2
def M_R_FibList (F : Nat) (x1 : Int) : Option (List Int) :=
  ((M_R_FibParts F (iadd .u64 x1 1)).bind fun x2 => ((idx x2 (isub .i64 (x2.length : Int) 1)).bind fun x5 => ((mk 17592186044416 (0 : Int) (iadd .i64 x5 1)).bind fun x8 => M_R_FibList_l3 F x2 F (x8, 0))))
/-! lampwright lampwrightref.between -/
def M_R_between (_F : Nat) (x1 : Int) (x2 : Int) (x3 : Int) : Option Bool :=
  some ((decide (x2 ≤ x1)) && (decide (x1 ≤ x3)))
/-! lampwright lampwrightref.FibSum -/
def M_R_FibSum_j14 (_F : Nat) (x337 : Int) : Option (Int × Int) :=
  some (x337, 0)
def M_R_FibSum_j27 (F : Nat) (rec23 : (Int × Int) → Option (Int × Int)) (x1 : List Int) (x448 : Int) (x449 : Int) (x654 : Bool) : Option (Int × Int) :=
  (if x654 then some (0, 4) else ((idx x1 x449).bind fun x655 => ((M_R_FibNum F x655).bind fun x658 => rec23 (iadd .u64 x448 x658, iadd .i64 x449 1))))
def M_R_FibSum_b23 (F : Nat) (x1 : List Int) (rec23 : (Int × Int) → Option (Int × Int)) (x448 : Int) (x449 : Int) : Option (Int × Int) :=
  (if (decide (x449 < (x1.length : Int))) then ((idx x1 x449).bind fun x621 => ((M_R_between F x621 0 63).bind fun x624 => (if (!x624) then some (0, 3) else (if (decide (0 < x449)) then ((idx x1 x449).bind fun x661 => ((idx x1 (isub .i64 x449 1)).bind fun x665 => M_R_FibSum_j27 F rec23 x1 x448 x449 (decide (x661 < (iadd .i64 x665 2))))) else M_R_FibSum_j27 F rec23 x1 x448 x449 false)))) else M_R_FibSum_j14 F x448)
def M_R_FibSum_l23 (F : Nat) (x1 : List Int) : Nat → (Int × Int) → Option (Int × Int)
  | 0 => fun _ => none
  | k + 1 => fun s => M_R_FibSum_b23 F x1 (M_R_FibSum_l23 F x1 k) s.1 s.2
def M_R_FibSum (F : Nat) (x1 : List Int) : Option (Int × Int) :=
  M_R_FibSum_l23 F x1 F (0, 0)
/-! lampwright lampwrightref.BitList -/
def M_R_BitList_j23 (_F : Nat) (x190 : List Int) : Option (List Int) :=
  some x190
def M_R_BitList_j42 (_F : Nat) (rec38 : (List Int × Int) → Option (List Int)) (x253 : Int) (x344 : List Int) : Option (List Int) :=
  rec38 (x344, iadd .i64 x253 1)
def M_R_BitList_j44 (F : Nat) (rec38 : (List Int × Int) → Option (List Int)) (x252 : List Int) (x253 : Int) (x357 : Int) : Option (List Int) :=
  ((app 8796093022208 x252 ([irem x357 2] : List Int)).bind fun x360 => M_R_BitList_j42 F rec38 x253 x360)
def M_R_BitList_b45 (F : Nat) (rec38 : (List Int × Int) → Option (List Int)) (x252 : List Int) (x253 : Int) (rec45 : (Int × Int) → Option (List Int)) (x365 : Int) (x366 : Int) : Option (List Int) :=
  (if (decide (x366 < (isub .i64 7 (irem x253 8)))) then rec45 (iquo .i64 x365 2, iadd .i64 x366 1) else M_R_BitList_j44 F rec38 x252 x253 x365)
def M_R_BitList_l45 (F : Nat) (rec38 : (List Int × Int) → Option (List Int)) (x252 : List Int) (x253 : Int) : Nat → (Int × Int) → Option (List Int)
  | 0 => fun _ => none
  | k + 1 => fun s => M_R_BitList_b45 F rec38 x252 x253 (M_R_BitList_l45 F rec38 x252 x253 k) s.1 s.2
def M_R_BitList_b38 (F : Nat) (x1 : Int) (x2 : List Int) (rec38 : (List Int × Int) → Option (List Int)) (x252 : List Int) (x253 : Int) : Option (List Int) :=
  (if (decide (x253 < x1)) then ((idx x2 (iquo .i64 x253 8)).bind fun x345 => M_R_BitList_l45 F rec38 x252 x253 F (iconv .i64 x345, 0)) else M_R_BitList_j23 F x252)
def M_R_BitList_l38 (F : Nat) (x1 : Int) (x2 : List Int) : Nat → (List Int × Int) → Option (List Int)
  | 0 => fun _ => none
  | k + 1 => fun s => M_R_BitList_b38 F x1 x2 (M_R_BitList_l38 F x1 x2 k) s.1 s.2
def M_R_BitList (F : Nat) (x1 : Int) (x2 : List Int) : Option (List Int) :=
  M_R_BitList_l38 F x1 x2 F (([] : List Int), 0)
/-! lampwright lampwrightref.BitsCheck -/
def M_R_BitsCheck_j3 (_F : Nat) : Option Int :=
  some 0
def M_R_BitsCheck_b4 (F : Nat) (x12 : List Int) (rec4 : Int → Option Int) (x57 : Int) : Option Int :=
  (if (decide (x57 < (x12.length : Int))) then ((idx x12 x57).bind fun x74 => (if ((x74 : Int) != 0) then some 1 else rec4 (iadd .i64 x57 1))) else M_R_BitsCheck_j3 F)
def M_R_BitsCheck_l4 (F : Nat) (x12 : List Int) : Nat → Int → Option Int
  | 0 => fun _ => none
  | k + 1 => fun s => M_R_BitsCheck_b4 F x12 (M_R_BitsCheck_l4 F x12 k) s
def M_R_BitsCheck_j1 (F : Nat) (x1 : Int) (x2 : List Int) (x10 : Int) : Option Int :=
  (if (((x2.length : Int) : Int) != x10) then some 1 else ((M_R_BitList F (imul .i64 8 x10) x2).bind fun x12 => M_R_BitsCheck_l4 F x12 F x1))
def M_R_BitsCheck (F : Nat) (x1 : Int) (x2 : List Int) : Option Int :=
  ((M_R_between F x1 0 8192).bind fun x8 => (if (!x8) then some 3 else (if (decide (0 < (irem x1 8))) then M_R_BitsCheck_j1 F x1 x2 (iadd .i64 (iquo .i64 x1 8) 1) else M_R_BitsCheck_j1 F x1 x2 (iquo .i64 x1 8))))
/-! lampwright lampwrightref.ReadErr -/
def M_R_ReadErr_j2 (_F : Nat) (x13 : Int) : Option Int :=
  some x13
def M_R_ReadErr_j3 (F : Nat) (x7 : Int) (x16 : Bool) : Option Int :=
  (if x16 then M_R_ReadErr_j2 F 3 else M_R_ReadErr_j2 F x7)
def M_R_ReadErr (F : Nat) (x1 : Int) (x2 : List Int) (x5 : Int) : Option Int :=
  ((M_R_BitsCheck F x1 x2).bind fun x7 => (if ((x7 : Int) == 0) then ((M_R_between F x5 0 x1).bind fun x18 => M_R_ReadErr_j3 F x7 (!x18)) else M_R_ReadErr_j3 F x7 false))
/-! lampwright lampwrightref.FibRead -/
def M_R_FibRead_j22 (_F : Nat) (x169 : Int) (x211 : Int) : Option (Int × Int × Int) :=
  (if (decide (1099511627776 < (isub .u64 x211 1))) then some (0, 0, 3) else some (isub .u64 x211 1, iadd .i64 x169 2, 0))
def M_R_FibRead_b23 (F : Nat) (x1 : List Int) (x4 : Int) (x169 : Int) (rec23 : (Int × Int) → Option (Int × Int × Int)) (x226 : Int) (x227 : Int) : Option (Int × Int × Int) :=
  (if (decide (x227 ≤ x169)) then ((idx x1 x227).bind fun x247 => ((M_R_FibNum F (isub .i64 x227 x4)).bind fun x251 => rec23 (iadd .u64 x226 (imul .u64 (iconv .u64 x247) x251), iadd .i64 x227 1))) else M_R_FibRead_j22 F x169 x226)
def M_R_FibRead_l23 (F : Nat) (x1 : List Int) (x4 : Int) (x169 : Int) : Nat → (Int × Int) → Option (Int × Int × Int)
  | 0 => fun _ => none
  | k + 1 => fun s => M_R_FibRead_b23 F x1 x4 x169 (M_R_FibRead_l23 F x1 x4 x169 k) s.1 s.2
def M_R_FibRead_j20 (F : Nat) (x1 : List Int) (x4 : Int) (x169 : Int) : Option (Int × Int × Int) :=
  (if (decide ((x1.length : Int) ≤ (iadd .i64 x169 1))) then some (0, 0, 7) else (if (decide (60 < (isub .i64 x169 x4))) then some (0, 0, 3) else M_R_FibRead_l23 F x1 x4 x169 F (0, x4)))
def M_R_FibRead_j41 (F : Nat) (rec36 : Int → Option (Int × Int × Int)) (x1 : List Int) (x4 : Int) (x309 : Int) (x405 : Bool) : Option (Int × Int × Int) :=
  (if x405 then rec36 (iadd .i64 x309 1) else M_R_FibRead_j20 F x1 x4 x309)
def M_R_FibRead_j42 (F : Nat) (rec36 : Int → Option (Int × Int × Int)) (x1 : List Int) (x4 : Int) (x309 : Int) (_x414 : Bool) (x415 : Bool) : Option (Int × Int × Int) :=
  M_R_FibRead_j41 F rec36 x1 x4 x309 (!x415)
def M_R_FibRead_b36 (F : Nat) (x1 : List Int) (x4 : Int) (rec36 : Int → Option (Int × Int × Int)) (x309 : Int) : Option (Int × Int × Int) :=
  (if (decide ((iadd .i64 x309 1) < (x1.length : Int))) then ((idx x1 x309).bind fun x407 => (if ((x407 : Int) == 1) then ((idx x1 (iadd .i64 x309 1)).bind fun x416 => M_R_FibRead_j42 F rec36 x1 x4 x309 true ((x416 : Int) == 1)) else M_R_FibRead_j42 F rec36 x1 x4 x309 false false)) else M_R_FibRead_j41 F rec36 x1 x4 x309 false)
def M_R_FibRead_l36 (F : Nat) (x1 : List Int) (x4 : Int) : Nat → Int → Option (Int × Int × Int)
  | 0 => fun _ => none
  | k + 1 => fun s => M_R_FibRead_b36 F x1 x4 (M_R_FibRead_l36 F x1 x4 k) s
def M_R_FibRead (F : Nat) (x1 : List Int) (x4 : Int) : Option (Int × Int × Int) :=
  M_R_FibRead_l36 F x1 x4 F x4
/-! lampwright lampwrightref.SameInts -/
def M_R_SameInts_j2 (_F : Nat) : Option Bool :=
  some true
def M_R_SameInts_b3 (F : Nat) (x1 : List Int) (x4 : List Int) (rec3 : Int → Option Bool) (x154 : Int) : Option Bool :=
  (if (decide (x154 < (x1.length : Int))) then ((idx x1 x154).bind fun x218 => ((idx x4 x154).bind fun x222 => (if ((x218 : Int) != x222) then some false else rec3 (iadd .i64 x154 1)))) else M_R_SameInts_j2 F)
def M_R_SameInts_l3 (F : Nat) (x1 : List Int) (x4 : List Int) : Nat → Int → Option Bool
  | 0 => fun _ => none
  | k + 1 => fun s => M_R_SameInts_b3 F x1 x4 (M_R_SameInts_l3 F x1 x4 k) s
def M_R_SameInts (F : Nat) (x1 : List Int) (x4 : List Int) : Option Bool :=
  (if (((x1.length : Int) : Int) != (x4.length : Int)) then some false else M_R_SameInts_l3 F x1 x4 F 0)
/-! lampwright lampwrightref.SameBytes -/
def M_R_SameBytes_j2 (_F : Nat) : Option Bool :=
  some true
def M_R_SameBytes_b3 (F : Nat) (x1 : List Int) (x4 : List Int) (rec3 : Int → Option Bool) (x154 : Int) : Option Bool :=
  (if (decide (x154 < (x1.length : Int))) then ((idx x1 x154).bind fun x218 => ((idx x4 x154).bind fun x222 => (if ((x218 : Int) != x222) then some false else rec3 (iadd .i64 x154 1)))) else M_R_SameBytes_j2 F)
def M_R_SameBytes_l3 (F : Nat) (x1 : List Int) (x4 : List Int) : Nat → Int → Option Bool
  | 0 => fun _ => none
  | k + 1 => fun s => M_R_SameBytes_b3 F x1 x4 (M_R_SameBytes_l3 F x1 x4 k) s
def M_R_SameBytes (F : Nat) (x1 : List Int) (x4 : List Int) : Option Bool :=
  (if (((x1.length : Int) : Int) != (x4.length : Int)) then some false else M_R_SameBytes_l3 F x1 x4 F 0)
/-! lampwright lampwrightref.SameBits -/
def M_R_SameBits_j1 (_F : Nat) (x13 : Bool) : Option Bool :=
  some x13
def M_R_SameBits (F : Nat) (x1 : Int) (x2 : List Int) (x5 : Int) (x6 : List Int) : Option Bool :=
  (if ((x1 : Int) == x5) then ((M_R_SameBytes F x2 x6).bind fun x14 => M_R_SameBits_j1 F x14) else M_R_SameBits_j1 F false)
/-! lampwright lampwrightlaw.fibBegun -/
def M_L_fibBegun_j2 (_F : Nat) (x8 : (Int × List Int × Int)) (x12 : (Int × Int × Int)) (x15 : (Int × Int)) (x16 : (Int × Int × Int)) (x30 : Bool) : Option Bool :=
  some ((((((x30 && ((x8.2.2 : Int) == 0)) && ((x12.1 : Int) == 11)) && ((x12.2.1 : Int) == 6)) && ((x12.2.2 : Int) == 0)) && ((x15.2 : Int) == 4)) && ((x16.2.2 : Int) == 0))
def M_L_fibBegun_j1 (F : Nat) (x2 : (List Int × Int)) (x7 : (Int × Int)) (x8 : (Int × List Int × Int)) (x12 : (Int × Int × Int)) (x15 : (Int × Int)) (x16 : (Int × Int × Int)) (x22 : Bool) : Option Bool :=
  (if (((x22 && ((x2.2 : Int) == 0)) && ((x7.1 : Int) == 12)) && ((x7.2 : Int) == 0)) then ((M_R_SameBits F x8.1 x8.2.1 6 ([172] : List Int)).bind fun x39 => M_L_fibBegun_j2 F x8 x12 x15 x16 x39) else M_L_fibBegun_j2 F x8 x12 x15 x16 false)
def M_L_fibBegun (F : Nat)  : Option Bool :=
  ((M_fib_Number F 4).bind fun x1 => ((M_fib_Parts F 12).bind fun x2 => ((M_fib_Sum F ([0, 2, 4] : List Int)).bind fun x7 => ((M_fib_Code F 11).bind fun x8 => ((M_fib_Read F x8.1 x8.2.1 0).bind fun x12 => ((M_fib_Sum F ([2, 3] : List Int)).bind fun x15 => ((M_fib_Read F x8.1 x8.2.1 4).bind fun x16 => (if (((x1.1 : Int) == 8) && ((x1.2 : Int) == 0)) then ((M_R_SameInts F x2.1 ([0, 2, 4] : List Int)).bind fun x42 => M_L_fibBegun_j1 F x2 x7 x8 x12 x15 x16 x42) else M_L_fibBegun_j1 F x2 x7 x8 x12 x15 x16 false))))))))
/-! lampwright lampwrightlaw.FibTells -/
def M_L_FibTells_j5 (_F : Nat) (x17 : (Int × List Int × Int)) (x21 : (Int × Int × Int)) (x43 : Int) (x58 : Int) (x59 : Int) (x60 : Int) (x72 : Bool) : Option Bool :=
  some ((((x72 && ((x17.2.2 : Int) == x43)) && ((x21.1 : Int) == x59)) && ((x21.2.1 : Int) == x60)) && ((x21.2.2 : Int) == x58))
def M_L_FibTells_j4 (F : Nat) (x13 : (List Int × Int)) (x16 : (Int × Int)) (x17 : (Int × List Int × Int)) (x21 : (Int × Int × Int)) (x43 : Int) (x47 : Int) (x50 : List Int) (x51 : (Int × Int)) (x58 : Int) (x59 : Int) (x60 : Int) (x66 : Bool) : Option Bool :=
  (if (((x66 && ((x13.2 : Int) == x43)) && ((x16.1 : Int) == x51.1)) && ((x16.2 : Int) == x51.2)) then ((M_R_SameBits F x17.1 x17.2.1 x47 x50).bind fun x77 => M_L_FibTells_j5 F x17 x21 x43 x58 x59 x60 x77) else M_L_FibTells_j5 F x17 x21 x43 x58 x59 x60 false)
def M_L_FibTells_j3 (F : Nat) (x12 : (Int × Int)) (x13 : (List Int × Int)) (x16 : (Int × Int)) (x17 : (Int × List Int × Int)) (x21 : (Int × Int × Int)) (x25 : Int) (x26 : Int) (x43 : Int) (x46 : List Int) (x47 : Int) (x50 : List Int) (x51 : (Int × Int)) (x58 : Int) (x59 : Int) (x60 : Int) : Option Bool :=
  ((M_L_fibBegun F).bind fun x61 => (if ((x61 && ((x12.1 : Int) == x26)) && ((x12.2 : Int) == x25)) then ((M_R_SameInts F x13.1 x46).bind fun x78 => M_L_FibTells_j4 F x13 x16 x17 x21 x43 x47 x50 x51 x58 x59 x60 x78) else M_L_FibTells_j4 F x13 x16 x17 x21 x43 x47 x50 x51 x58 x59 x60 false))
def M_L_FibTells_j2 (F : Nat) (x3 : List Int) (x6 : Int) (x7 : List Int) (x10 : Int) (x12 : (Int × Int)) (x13 : (List Int × Int)) (x16 : (Int × Int)) (x17 : (Int × List Int × Int)) (x21 : (Int × Int × Int)) (x25 : Int) (x26 : Int) (x43 : Int) (x46 : List Int) (x47 : Int) (x50 : List Int) : Option Bool :=
  ((M_R_FibSum F x3).bind fun x51 => ((M_R_ReadErr F x6 x7 x10).bind fun x52 => (if ((x52 : Int) == 0) then ((M_R_BitList F x6 x7).bind fun x79 => ((M_R_FibRead F x79 x10).bind fun x82 => M_L_FibTells_j3 F x12 x13 x16 x17 x21 x25 x26 x43 x46 x47 x50 x51 x82.2.2 x82.1 x82.2.1)) else M_L_FibTells_j3 F x12 x13 x16 x17 x21 x25 x26 x43 x46 x47 x50 x51 x52 0 0)))
def M_L_FibTells_j1 (F : Nat) (x2 : Int) (x3 : List Int) (x6 : Int) (x7 : List Int) (x10 : Int) (x12 : (Int × Int)) (x13 : (List Int × Int)) (x16 : (Int × Int)) (x17 : (Int × List Int × Int)) (x21 : (Int × Int × Int)) (x25 : Int) (x26 : Int) : Option Bool :=
  (if (decide (1099511627776 < x2)) then M_L_FibTells_j2 F x3 x6 x7 x10 x12 x13 x16 x17 x21 x25 x26 3 ([] : List Int) 0 ([] : List Int) else ((M_R_FibParts F x2).bind fun x84 => ((M_R_FibList F x2).bind fun x87 => ((M_R_PackBits F x87).bind fun x90 => M_L_FibTells_j2 F x3 x6 x7 x10 x12 x13 x16 x17 x21 x25 x26 0 x84 x90.1 x90.2))))
def M_L_FibTells (F : Nat) (x1 : Int) (x2 : Int) (x3 : List Int) (x6 : Int) (x7 : List Int) (x10 : Int) : Option Bool :=
  ((M_fib_Number F x1).bind fun x12 => ((M_fib_Parts F x2).bind fun x13 => ((M_fib_Sum F x3).bind fun x16 => ((M_fib_Code F x2).bind fun x17 => ((M_fib_Read F x6 x7 x10).bind fun x21 => (if ((decide (x1 < 0)) || (decide (63 < x1))) then M_L_FibTells_j1 F x2 x3 x6 x7 x10 x12 x13 x16 x17 x21 3 0 else ((M_R_FibNum F x1).bind fun x95 => M_L_FibTells_j1 F x2 x3 x6 x7 x10 x12 x13 x16 x17 x21 0 x95)))))))
/-! lampwright lampwrightlaw.FibOnly -/
def M_L_FibOnly_j1 (_F : Nat) (x22 : Bool) : Option Bool :=
  some x22
def M_L_FibOnly (F : Nat) (x1 : Int) (x2 : List Int) : Option Bool :=
  ((M_fib_Parts F x1).bind fun x5 => ((M_L_fibBegun F).bind fun x10 => (if (!x10) then some false else (if ((x5.2 : Int) != 0) then some ((decide (1099511627776 < x1)) && (((x5.1.length : Int) : Int) == 0)) else ((M_fib_Sum F x5.1).bind fun x14 => (if (((x14.2 : Int) != 0) || ((x14.1 : Int) != x1)) then some false else ((M_fib_Sum F x2).bind fun x18 => (if (((x18.2 : Int) != 0) || ((x18.1 : Int) != x1)) then M_L_FibOnly_j1 F true else ((M_R_SameInts F x2 x5.1).bind fun x23 => M_L_FibOnly_j1 F x23)))))))))
/-! lampwright lampwrightlaw.FibNumbers -/
def M_L_FibNumbers_j2 (F : Nat) (x12 : (Int × Int)) (x13 : (Int × Int)) (x14 : (Int × Int)) (x58 : List Int) : Option Bool :=
  ((M_fib_Sum F x58).bind fun x59 => some (((((((x12.2 : Int) == 0) && ((x13.2 : Int) == 0)) && ((x14.2 : Int) == 0)) && ((x59.2 : Int) == 0)) && ((x14.1 : Int) == (iadd .u64 x12.1 x13.1))) && (((iadd .u64 x59.1 1) : Int) == x13.1)))
def M_L_FibNumbers_b3 (F : Nat) (x1 : Int) (x12 : (Int × Int)) (x13 : (Int × Int)) (x14 : (Int × Int)) (rec3 : (List Int × Int) → Option Bool) (x79 : List Int) (x80 : Int) : Option Bool :=
  (if (decide (x80 ≤ x1)) then ((app 8796093022208 x79 ([x80] : List Int)).bind fun x102 => rec3 (x102, iadd .i64 x80 2)) else M_L_FibNumbers_j2 F x12 x13 x14 x79)
def M_L_FibNumbers_l3 (F : Nat) (x1 : Int) (x12 : (Int × Int)) (x13 : (Int × Int)) (x14 : (Int × Int)) : Nat → (List Int × Int) → Option Bool
  | 0 => fun _ => none
  | k + 1 => fun s => M_L_FibNumbers_b3 F x1 x12 x13 x14 (M_L_FibNumbers_l3 F x1 x12 x13 x14 k) s.1 s.2
def M_L_FibNumbers (F : Nat) (x1 : Int) : Option Bool :=
  ((M_L_fibBegun F).bind fun x4 => (if (!x4) then some false else (if ((decide (x1 < 0)) || (decide (61 < x1))) then ((M_fib_Number F x1).bind fun x10 => some (((x10.2 : Int) == 0) == ((decide (0 ≤ x1)) && (decide (x1 ≤ 63))))) else ((M_fib_Number F x1).bind fun x12 => ((M_fib_Number F (iadd .i64 x1 1)).bind fun x13 => ((M_fib_Number F (iadd .i64 x1 2)).bind fun x14 => M_L_FibNumbers_l3 F x1 x12 x13 x14 F (([] : List Int), irem x1 2)))))))
/-! lampwright lampwrightlaw.FibLong -/
def M_L_FibLong (F : Nat) (x1 : Int) (x2 : Int) : Option Bool :=
  ((M_fib_Code F x1).bind fun x3 => ((M_fib_Code F x2).bind fun x7 => ((M_L_fibBegun F).bind fun x13 => (if (!x13) then some false else (if ((((x3.2.2 : Int) != 0) || ((x7.2.2 : Int) != 0)) || (decide (x2 < x1))) then some true else ((M_fib_Number F (isub .i64 x3.1 2)).bind fun x19 => ((M_fib_Number F (isub .i64 x3.1 1)).bind fun x20 => some (((((decide (x3.1 ≤ x7.1)) && ((x19.2 : Int) == 0)) && ((x20.2 : Int) == 0)) && (decide (x19.1 ≤ (iadd .u64 x1 1)))) && (decide ((iadd .u64 x1 1) < x20.1))))))))))
/-! lampwright bits.places -/
def M_bits_places (_F : Nat) (_x1 : Int) (_x2 : List Int) (_x5 : Int) (_x6 : Int) : Option Unit :=
  some ()
/-! lampwright bits.places$1 -/
def M_bits_places_1_b1 {σ τ : Type} (F : Nat) (yy : σ → Int → Option (σ ⊕ τ)) (x4 : Int) (x6 : Int) (x7 : List Int) (rec1 : (Int × σ) → Option (σ ⊕ τ)) (x22 : Int) (x23 : σ) : Option (σ ⊕ τ) :=
  (if (decide (x22 < x4)) then ((M_bits_At F x6 x7 x22).bind fun x44 => ((yy x23 x44).bind (Sum.elim (fun x45 => rec1 (iadd .i64 x22 1, x45)) (fun x46 => some (.inr x46))))) else some (.inl x23))
def M_bits_places_1_l1 {σ τ : Type} (F : Nat) (yy : σ → Int → Option (σ ⊕ τ)) (x4 : Int) (x6 : Int) (x7 : List Int) : Nat → (Int × σ) → Option (σ ⊕ τ)
  | 0 => fun _ => none
  | k + 1 => fun s => M_bits_places_1_b1 F yy x4 x6 x7 (M_bits_places_1_l1 F yy x4 x6 x7 k) s.1 s.2
def M_bits_places_1 {σ τ : Type} (F : Nat) (yy : σ → Int → Option (σ ⊕ τ)) (x2 : Int) (x4 : Int) (x6 : Int) (x7 : List Int) (s0 : σ) : Option (σ ⊕ τ) :=
  M_bits_places_1_l1 F yy x4 x6 x7 F (x2, s0)
/-! lampwright bits.Both -/
def M_bits_Both_r2 (F : Nat) (x45 : Int) (x48 : List Int) (x53 : Int) : Option ((Int × List Int) ⊕ Empty) :=
  ((M_bits_writer_bit F x45 x48 x53).bind fun x54 => some (.inl (x54.1, x54.2)))
def M_bits_Both (F : Nat) (x1 : Int) (x2 : List Int) (x5 : Int) (x6 : List Int) : Option (Int × List Int) :=
  ((M_bits_own F x1 x2).bind fun x12 => ((M_bits_places F x5 x6 0 x5).bind fun _x37 => ((M_bits_places_1 F (fun ((x45, x48) : (Int × List Int)) (x53 : Int) => M_bits_Both_r2 F x45 x48 x53) 0 x5 x5 x6 (x12.1, x12.2)).bind (Sum.elim (fun ((x45, x48) : (Int × List Int)) => some (x45, x48)) (fun t => t.elim)))))
/-! lampwright bits.Join -/
def M_bits_Join_j2 (F : Nat) (x1 : Int) (x2 : List Int) (x5 : Int) (x6 : List Int) (x18 : Int) : Option (Int × List Int × Int) :=
  (if ((x18 : Int) != 0) then some (0, ([] : List Int), x18) else ((M_bits_Both F x1 x2 x5 x6).bind fun x20 => some (x20.1, x20.2, 0)))
def M_bits_Join_j1 (F : Nat) (x1 : Int) (x2 : List Int) (x5 : Int) (x6 : List Int) (x15 : Int) : Option (Int × List Int × Int) :=
  (if (((x15 : Int) == 0) && (decide (8192 < (iadd .i64 x1 x5)))) then M_bits_Join_j2 F x1 x2 x5 x6 8 else M_bits_Join_j2 F x1 x2 x5 x6 x15)
def M_bits_Join (F : Nat) (x1 : Int) (x2 : List Int) (x5 : Int) (x6 : List Int) : Option (Int × List Int × Int) :=
  ((M_bits_Check F x1 x2).bind fun x12 => (if ((x12 : Int) == 0) then ((M_bits_Check F x5 x6).bind fun x26 => M_bits_Join_j1 F x1 x2 x5 x6 x26) else M_bits_Join_j1 F x1 x2 x5 x6 x12))
/-! lampwright bits.Read -/
def M_bits_Read_j2 (_F : Nat) (x24 : Int) : Option (Int × Bool) :=
  some (x24, true)
def M_bits_Read_b3 (F : Nat) (x1 : Int) (x2 : List Int) (x5 : Int) (x6 : Int) (rec3 : (Int × Int) → Option (Int × Bool)) (x29 : Int) (x30 : Int) : Option (Int × Bool) :=
  (if (decide (x30 < x6)) then ((M_bits_At F x1 x2 (iadd .i64 x5 x30)).bind fun x38 => rec3 (ior .u64 (ishl .u64 x29 1) x38, iadd .i64 x30 1)) else M_bits_Read_j2 F x29)
def M_bits_Read_l3 (F : Nat) (x1 : Int) (x2 : List Int) (x5 : Int) (x6 : Int) : Nat → (Int × Int) → Option (Int × Bool)
  | 0 => fun _ => none
  | k + 1 => fun s => M_bits_Read_b3 F x1 x2 x5 x6 (M_bits_Read_l3 F x1 x2 x5 x6 k) s.1 s.2
def M_bits_Read (F : Nat) (x1 : Int) (x2 : List Int) (x5 : Int) (x6 : Int) : Option (Int × Bool) :=
  (if (decide ((isub .i64 x1 x5) < x6)) then some (0, false) else M_bits_Read_l3 F x1 x2 x5 x6 F (0, 0))
/-! lampwright bits.Get -/
def M_bits_Get_j2 (F : Nat) (x1 : Int) (x2 : List Int) (x5 : Int) (x6 : Int) (x18 : Int) : Option (Int × Int) :=
  (if ((x18 : Int) != 0) then some (0, x18) else ((M_bits_Read F x1 x2 x5 x6).bind fun x20 => (if (!x20.2) then some (0, 7) else some (x20.1, 0))))
def M_bits_Get_j3 (F : Nat) (x1 : Int) (x2 : List Int) (x5 : Int) (x6 : Int) (x8 : Int) (x28 : Bool) : Option (Int × Int) :=
  (if x28 then M_bits_Get_j2 F x1 x2 x5 x6 3 else M_bits_Get_j2 F x1 x2 x5 x6 x8)
def M_bits_Get (F : Nat) (x1 : Int) (x2 : List Int) (x5 : Int) (x6 : Int) : Option (Int × Int) :=
  ((M_bits_Check F x1 x2).bind fun x8 => (if ((x8 : Int) == 0) then M_bits_Get_j3 F x1 x2 x5 x6 x8 ((((decide (x6 < 0)) || (decide (64 < x6))) || (decide (x5 < 0))) || (decide (x1 < x5))) else M_bits_Get_j3 F x1 x2 x5 x6 x8 false))
/-! lampwright bits.Cut -/
def M_bits_Cut_r4 (F : Nat) (x51 : Int) (x54 : List Int) (x59 : Int) : Option ((Int × List Int) ⊕ Empty) :=
  ((M_bits_writer_bit F x51 x54 x59).bind fun x60 => some (.inl (x60.1, x60.2)))
def M_bits_Cut_j2 (F : Nat) (x1 : Int) (x2 : List Int) (x5 : Int) (x6 : Int) (x19 : Int) : Option (Int × List Int × Int) :=
  (if ((x19 : Int) != 0) then some (0, ([] : List Int), x19) else ((M_bits_places F x1 x2 x5 x6).bind fun _x43 => ((M_bits_places_1 F (fun ((x51, x54) : (Int × List Int)) (x59 : Int) => M_bits_Cut_r4 F x51 x54 x59) x5 x6 x1 x2 (0, ([] : List Int))).bind (Sum.elim (fun ((x51, x54) : (Int × List Int)) => some (x51, x54, 0)) (fun t => t.elim)))))
def M_bits_Cut_j5 (F : Nat) (x1 : Int) (x2 : List Int) (x5 : Int) (x6 : Int) (x9 : Int) (x68 : Bool) : Option (Int × List Int × Int) :=
  (if x68 then M_bits_Cut_j2 F x1 x2 x5 x6 3 else M_bits_Cut_j2 F x1 x2 x5 x6 x9)
def M_bits_Cut (F : Nat) (x1 : Int) (x2 : List Int) (x5 : Int) (x6 : Int) : Option (Int × List Int × Int) :=
  ((M_bits_Check F x1 x2).bind fun x9 => (if ((x9 : Int) == 0) then M_bits_Cut_j5 F x1 x2 x5 x6 x9 ((((decide (x5 < 0)) || (decide (x1 < x5))) || (decide (x6 < x5))) || (decide (x1 < x6))) else M_bits_Cut_j5 F x1 x2 x5 x6 x9 false))
/-! lampwright bits.Put -/
def M_bits_Put_j4 (F : Nat) (x1 : Int) (x2 : List Int) (x5 : Int) (x6 : Int) (x24 : Int) : Option (Int × List Int × Int) :=
  (if ((x24 : Int) != 0) then some (0, ([] : List Int), x24) else ((M_bits_Add F x1 x2 x5 x6).bind fun x26 => some (x26.1, x26.2, 0)))
def M_bits_Put_j6 (F : Nat) (x1 : Int) (x2 : List Int) (x5 : Int) (x6 : Int) (x9 : Int) (x36 : Bool) : Option (Int × List Int × Int) :=
  (if x36 then M_bits_Put_j4 F x1 x2 x5 x6 3 else (if (decide (8192 < (iadd .i64 x1 x6))) then M_bits_Put_j4 F x1 x2 x5 x6 8 else M_bits_Put_j4 F x1 x2 x5 x6 x9))
def M_bits_Put_j7 (F : Nat) (x1 : Int) (x2 : List Int) (x5 : Int) (x6 : Int) (x9 : Int) (x41 : Bool) : Option (Int × List Int × Int) :=
  M_bits_Put_j6 F x1 x2 x5 x6 x9 x41
def M_bits_Put (F : Nat) (x1 : Int) (x2 : List Int) (x5 : Int) (x6 : Int) : Option (Int × List Int × Int) :=
  ((M_bits_Check F x1 x2).bind fun x9 => (if ((x9 : Int) != 0) then M_bits_Put_j4 F x1 x2 x5 x6 x9 else (if ((decide (x6 < 0)) || (decide (64 < x6))) then M_bits_Put_j6 F x1 x2 x5 x6 x9 true else (if (decide (x6 < 64)) then (chk (decide (0 ≤ x6)) (M_bits_Put_j7 F x1 x2 x5 x6 x9 (((ishr .u64 x5 x6) : Int) != 0))) else M_bits_Put_j7 F x1 x2 x5 x6 x9 false))))
/-! lampwright lampwrightlaw.bitsBegun -/
def M_L_bitsBegun_j3 (_F : Nat) (x42 : Bool) : Option Bool :=
  some x42
def M_L_bitsBegun_j2 (F : Nat) (x14 : (Int × List Int × Int)) (x18 : (Int × Int)) (x35 : Bool) : Option Bool :=
  (if ((x35 && ((x14.2.2 : Int) == 0)) && ((x18.2 : Int) == 7)) then ((M_bits_Check F 3 ([1] : List Int)).bind fun x45 => M_L_bitsBegun_j3 F ((x45 : Int) == 1)) else M_L_bitsBegun_j3 F false)
def M_L_bitsBegun_j1 (F : Nat) (x1 : (Int × List Int × Int)) (x5 : (Int × List Int × Int)) (x9 : (Int × Int)) (x10 : (Int × List Int × Int)) (x14 : (Int × List Int × Int)) (x18 : (Int × Int)) (x27 : Bool) : Option Bool :=
  (if (((((x27 && ((x5.2.2 : Int) == 0)) && ((x9.1 : Int) == 9)) && ((x9.2 : Int) == 0)) && ((x10.1 : Int) == 13)) && ((x10.2.2 : Int) == 0)) then ((M_R_SameBits F x14.1 x14.2.1 x1.1 x1.2.1).bind fun x46 => M_L_bitsBegun_j2 F x14 x18 x46) else M_L_bitsBegun_j2 F x14 x18 false)
def M_L_bitsBegun (F : Nat)  : Option Bool :=
  ((M_bits_Put F 0 ([] : List Int) 5 3).bind fun x1 => ((M_bits_Put F x1.1 x1.2.1 9 7).bind fun x5 => ((M_bits_Get F x5.1 x5.2.1 3 7).bind fun x9 => ((M_bits_Join F x1.1 x1.2.1 x5.1 x5.2.1).bind fun x10 => ((M_bits_Cut F x5.1 x5.2.1 0 3).bind fun x14 => ((M_bits_Get F x5.1 x5.2.1 9 2).bind fun x18 => ((M_R_SameBits F x1.1 x1.2.1 3 ([160] : List Int)).bind fun x21 => (if (x21 && ((x1.2.2 : Int) == 0)) then ((M_R_SameBits F x5.1 x5.2.1 10 ([162, 64] : List Int)).bind fun x49 => M_L_bitsBegun_j1 F x1 x5 x9 x10 x14 x18 x49) else M_L_bitsBegun_j1 F x1 x5 x9 x10 x14 x18 false))))))))
/-! lampwright lampwrightlaw.FibBack -/
def M_L_FibBack_j2 (F : Nat) (x1 : Int) (x2 : Int) (x3 : List Int) (x7 : (Int × List Int × Int)) (x20 : Bool) : Option Bool :=
  (if x20 then some false else (if ((x7.2.2 : Int) != 0) then ((M_R_SameBits F x7.1 x7.2.1 0 ([] : List Int)).bind fun x23 => some x23) else ((M_bits_Join F x7.1 x7.2.1 x2 x3).bind fun x24 => (if ((x24.2.2 : Int) != 0) then some true else ((M_fib_Read F x24.1 x24.2.1 0).bind fun x29 => some ((((x29.2.2 : Int) == 0) && ((x29.1 : Int) == x1)) && ((x29.2.1 : Int) == x7.1)))))))
def M_L_FibBack (F : Nat) (x1 : Int) (x2 : Int) (x3 : List Int) : Option Bool :=
  ((M_fib_Code F x1).bind fun x7 => ((M_L_fibBegun F).bind fun x17 => (if (!x17) then M_L_FibBack_j2 F x1 x2 x3 x7 true else ((M_L_bitsBegun F).bind fun x35 => M_L_FibBack_j2 F x1 x2 x3 x7 (!x35)))))
/-! lampwright lampwrightlaw.FibNext -/
def M_L_FibNext_j4 (_F : Nat) : Option Bool :=
  some false
def M_L_FibNext_b5 (F : Nat) (x2 : Int) (x4 : (Int × List Int × Int)) (x47 : (Int × List Int × Int)) (rec5 : Int → Option Bool) (x108 : Int) : Option Bool :=
  (if (decide (x108 < x4.1)) then ((M_fib_Read F x47.1 x47.2.1 x108).bind fun x122 => (if (((x122.2.2 : Int) != 0) || (decide (x122.2.1 ≤ x108))) then some false else (if ((x122.2.1 : Int) == x4.1) then ((M_fib_Read F x47.1 x47.2.1 x122.2.1).bind fun x126 => some ((((x126.2.2 : Int) == 0) && ((x126.1 : Int) == x2)) && ((x126.2.1 : Int) == x47.1))) else rec5 x122.2.1))) else M_L_FibNext_j4 F)
def M_L_FibNext_l5 (F : Nat) (x2 : Int) (x4 : (Int × List Int × Int)) (x47 : (Int × List Int × Int)) : Nat → Int → Option Bool
  | 0 => fun _ => none
  | k + 1 => fun s => M_L_FibNext_b5 F x2 x4 x47 (M_L_FibNext_l5 F x2 x4 x47 k) s
def M_L_FibNext_j2 (F : Nat) (x1 : Int) (x2 : Int) (x3 : Int) (x4 : (Int × List Int × Int)) (x8 : (Int × List Int × Int)) (x21 : Bool) : Option Bool :=
  (if x21 then some false else (if ((((((x4.2.2 : Int) != 0) || ((x8.2.2 : Int) != 0)) || (decide (274877906944 < x1))) || (decide (x3 < 0))) || (decide ((isub .i64 x4.1 3) ≤ x3))) then some true else ((M_bits_Get F x4.1 x4.2.1 x3 1).bind fun x31 => ((M_bits_Cut F x4.1 x4.2.1 0 x3).bind fun x32 => ((M_bits_Cut F x4.1 x4.2.1 (iadd .i64 x3 1) x4.1).bind fun x36 => ((M_bits_Put F x32.1 x32.2.1 (isub .u64 1 x31.1) 1).bind fun x40 => ((M_bits_Join F x40.1 x40.2.1 x36.1 x36.2.1).bind fun x43 => ((M_bits_Join F x43.1 x43.2.1 x8.1 x8.2.1).bind fun x47 => (if (((((((x31.2 : Int) != 0) || ((x32.2.2 : Int) != 0)) || ((x36.2.2 : Int) != 0)) || ((x40.2.2 : Int) != 0)) || ((x43.2.2 : Int) != 0)) || ((x47.2.2 : Int) != 0)) then some false else M_L_FibNext_l5 F x2 x4 x47 F 0)))))))))
def M_L_FibNext (F : Nat) (x1 : Int) (x2 : Int) (x3 : Int) : Option Bool :=
  ((M_fib_Code F x1).bind fun x4 => ((M_fib_Code F x2).bind fun x8 => ((M_L_fibBegun F).bind fun x18 => (if (!x18) then M_L_FibNext_j2 F x1 x2 x3 x4 x8 true else ((M_L_bitsBegun F).bind fun x135 => M_L_FibNext_j2 F x1 x2 x3 x4 x8 (!x135))))))
end Go.Proofs.Ytecangnmnkejfaa
