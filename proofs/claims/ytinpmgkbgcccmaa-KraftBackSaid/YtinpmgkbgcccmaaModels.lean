/- What each Go function of this seat computes, in plain terms. -/
import Derived.Test.YtinpmgkbgcccmaaSx
namespace Go.Proofs.Ytinpmgkbgcccmaa
open Go SX
/-! lampwright kraft.Check$1 -/
def M_kraft_Check_1 (_F : Nat) (x1 : Int) : Option Bool :=
  some ((decide (x1 < 0)) || (decide (24 < x1)))
/-! slices.IndexFunc[[]int,int] -/
def M_slices_IndexFunc_int_int_kraft_Check_1_j2 (_F : Nat) : Option Int :=
  some (-1)
def M_slices_IndexFunc_int_int_kraft_Check_1_b3 (F : Nat) (x1 : List Int) (rec3 : Int → Option Int) (x54 : Int) : Option Int :=
  (if (decide (x54 < (x1.length : Int))) then ((idx x1 x54).bind fun x74 => ((M_kraft_Check_1 F x74).bind fun x77 => (if x77 then some x54 else rec3 (iadd .i64 x54 1)))) else M_slices_IndexFunc_int_int_kraft_Check_1_j2 F)
def M_slices_IndexFunc_int_int_kraft_Check_1_l3 (F : Nat) (x1 : List Int) : Nat → Int → Option Int
  | 0 => fun _ => none
  | k + 1 => fun s => M_slices_IndexFunc_int_int_kraft_Check_1_b3 F x1 (M_slices_IndexFunc_int_int_kraft_Check_1_l3 F x1 k) s
def M_slices_IndexFunc_int_int_kraft_Check_1 (F : Nat) (x1 : List Int) : Option Int :=
  M_slices_IndexFunc_int_int_kraft_Check_1_l3 F x1 F 0
/-! slices.ContainsFunc[[]int,int] -/
def M_slices_ContainsFunc_int_int_kraft_Check_1 (F : Nat) (x1 : List Int) : Option Bool :=
  ((M_slices_IndexFunc_int_int_kraft_Check_1 F x1).bind fun x4 => some (decide (0 ≤ x4)))
/-! lampwright kraft.Check -/
def M_kraft_Check (F : Nat) (x1 : List Int) : Option Int :=
  (if (decide (64 < (x1.length : Int))) then some 2 else ((M_slices_ContainsFunc_int_int_kraft_Check_1 F x1).bind fun x7 => (if x7 then some 3 else some 0)))
/-! lampwright kraft.room -/
def M_kraft_room_j5 (_F : Nat) (x52 : Int) : Option Int :=
  some x52
def M_kraft_room_j9 (_F : Nat) (rec8 : (Int × Int) → Option Int) (x69 : Int) (x93 : Int) : Option Int :=
  rec8 (x93, iadd .i64 x69 1)
def M_kraft_room_b8 (F : Nat) (x1 : List Int) (rec8 : (Int × Int) → Option Int) (x68 : Int) (x69 : Int) : Option Int :=
  (if (decide (x69 < (x1.length : Int))) then ((idx x1 x69).bind fun x94 => (if (decide (0 < x94)) then (chk (decide (0 ≤ (isub .i64 24 x94))) ((lett (isub .i64 x68 (ishl .i64 1 (isub .i64 24 x94))) fun x98 => M_kraft_room_j9 F rec8 x69 x98))) else M_kraft_room_j9 F rec8 x69 x68)) else M_kraft_room_j5 F x68)
def M_kraft_room_l8 (F : Nat) (x1 : List Int) : Nat → (Int × Int) → Option Int
  | 0 => fun _ => none
  | k + 1 => fun s => M_kraft_room_b8 F x1 (M_kraft_room_l8 F x1 k) s.1 s.2
def M_kraft_room (F : Nat) (x1 : List Int) : Option Int :=
  M_kraft_room_l8 F x1 F (16777216, 0)
/-! lampwright kraft.Room -/
def M_kraft_Room (F : Nat) (x1 : List Int) : Option (Int × Int) :=
  ((M_kraft_Check F x1).bind fun x6 => (if ((x6 : Int) != 0) then some (0, x6) else ((M_kraft_room F x1).bind fun x7 => some (x7, 0))))
/-! cmp.Or[int] -/
def M_cmp_Or_int_j2 (_F : Nat) : Option Int :=
  some 0
def M_cmp_Or_int_b3 (F : Nat) (x1 : List Int) (rec3 : Int → Option Int) (x46 : Int) : Option Int :=
  (if (decide (x46 < (x1.length : Int))) then ((idx x1 x46).bind fun x63 => (if ((x63 : Int) != 0) then some x63 else rec3 (iadd .i64 x46 1))) else M_cmp_Or_int_j2 F)
def M_cmp_Or_int_l3 (F : Nat) (x1 : List Int) : Nat → Int → Option Int
  | 0 => fun _ => none
  | k + 1 => fun s => M_cmp_Or_int_b3 F x1 (M_cmp_Or_int_l3 F x1 k) s
def M_cmp_Or_int (F : Nat) (x1 : List Int) : Option Int :=
  M_cmp_Or_int_l3 F x1 F 0
/-! cmp.isNaN[int] -/
def M_cmp_isNaN_int (_F : Nat) (x1 : Int) : Option Bool :=
  some ((x1 : Int) != x1)
/-! cmp.Compare[int] -/
def M_cmp_Compare_int (F : Nat) (x1 : Int) (x2 : Int) : Option Int :=
  ((M_cmp_isNaN_int F x1).bind fun x3 => ((M_cmp_isNaN_int F x2).bind fun x4 => (if x3 then (if x4 then some 0 else some (-1)) else (if x4 then some 1 else (if (decide (x1 < x2)) then some (-1) else (if (decide (x2 < x1)) then some 1 else some 0))))))
/-! lampwright kraft.used$1 -/
def M_kraft_used_1 (F : Nat) (x1 : Int) (x2 : Int) (x4 : List Int) : Option Int :=
  ((idx x4 x1).bind fun x20 => ((idx x4 x2).bind fun x24 => ((M_cmp_Compare_int F x20 x24).bind fun x28 => ((M_cmp_Compare_int F x1 x2).bind fun x29 => ((M_cmp_Or_int F ([x28, x29] : List Int)).bind fun x32 => some x32)))))
/-! slices.SortFunc[[]int,int] -/
def M_slices_SortFunc_int_int_kraft_used_1 (F : Nat) (x1 : List Int) (x5 : List Int) : Option (List Int) :=
  sortF (fun a b => M_kraft_used_1 F a b x5) x1
/-! lampwright kraft.used -/
def M_kraft_used_j5 (F : Nat) (x1 : List Int) (x81 : List Int) : Option (List Int) :=
  ((M_slices_SortFunc_int_int_kraft_used_1 F x81 x1).bind fun x82 => (chk (decide (x82.length = x81.length)) (some x82)))
def M_kraft_used_j9 (_F : Nat) (rec8 : (List Int × Int) → Option (List Int)) (x110 : Int) (x147 : List Int) : Option (List Int) :=
  rec8 (x147, iadd .i64 x110 1)
def M_kraft_used_b8 (F : Nat) (x1 : List Int) (rec8 : (List Int × Int) → Option (List Int)) (x109 : List Int) (x110 : Int) : Option (List Int) :=
  (if (decide (x110 < (x1.length : Int))) then ((idx x1 x110).bind fun x148 => (if (decide (0 < x148)) then ((app 8796093022208 x109 ([x110] : List Int)).bind fun x153 => M_kraft_used_j9 F rec8 x110 x153) else M_kraft_used_j9 F rec8 x110 x109)) else M_kraft_used_j5 F x1 x109)
def M_kraft_used_l8 (F : Nat) (x1 : List Int) : Nat → (List Int × Int) → Option (List Int)
  | 0 => fun _ => none
  | k + 1 => fun s => M_kraft_used_b8 F x1 (M_kraft_used_l8 F x1 k) s.1 s.2
def M_kraft_used (F : Nat) (x1 : List Int) : Option (List Int) :=
  M_kraft_used_l8 F x1 F (([] : List Int), 0)
/-! slices.Clone[[]byte,byte] -/
def M_slices_Clone_byte_byte (_F : Nat) (x1 : List Int) : Option (List Int) :=
  ((app 70368744177664 ([] : List Int) x1).bind fun x8 => some x8)
/-! lampwright bits.own -/
def M_bits_own (F : Nat) (x1 : Int) (x2 : List Int) : Option (Int × List Int) :=
  ((M_slices_Clone_byte_byte F x2).bind fun x10 => some (x1, x10))
/-! (*lampwright bits.writer).bit -/
def M_bits_writer_bit_j1 (_F : Nat) (x2 : Int) (x6 : Int) (x15 : List Int) : Option (Int × List Int) :=
  ((idx x15 (iquo .i64 x2 8)).bind fun x30 => (chk (decide (0 ≤ (irem x2 8))) (((idx x15 (iquo .i64 x2 8)).bind fun _x36 => (lett (x15.set (iquo .i64 x2 8).toNat (ior .u8 x30 (ishr .u8 (iconv .u8 (ishl .u64 x6 7)) (irem x2 8)))) fun x41 => some (iadd .i64 x2 1, x41))))))
def M_bits_writer_bit (F : Nat) (x2 : Int) (x3 : List Int) (x6 : Int) : Option (Int × List Int) :=
  (if (((irem x2 8) : Int) == 0) then ((app 70368744177664 x3 ([0] : List Int)).bind fun x46 => M_bits_writer_bit_j1 F x2 x6 x46) else M_bits_writer_bit_j1 F x2 x6 x3)
/-! (*lampwright bits.writer).number -/
def M_bits_writer_number_b1 (F : Nat) (x6 : Int) (rec1 : (Int × Int × List Int) → Option (Int × List Int)) (x18 : Int) (x19 : Int) (x22 : List Int) : Option (Int × List Int) :=
  (if (decide (0 ≤ x18)) then (chk (decide (0 ≤ x18)) (((M_bits_writer_bit F x19 x22 (iand .u64 (ishr .u64 x6 x18) 1)).bind fun x40 => rec1 (isub .i64 x18 1, x40.1, x40.2)))) else some (x19, x22))
def M_bits_writer_number_l1 (F : Nat) (x6 : Int) : Nat → (Int × Int × List Int) → Option (Int × List Int)
  | 0 => fun _ => none
  | k + 1 => fun s => M_bits_writer_number_b1 F x6 (M_bits_writer_number_l1 F x6 k) s.1 s.2.1 s.2.2
def M_bits_writer_number (F : Nat) (x2 : Int) (x3 : List Int) (x6 : Int) (x7 : Int) : Option (Int × List Int) :=
  M_bits_writer_number_l1 F x6 F (isub .i64 x7 1, x2, x3)
/-! lampwright bits.Add -/
def M_bits_Add (F : Nat) (x1 : Int) (x2 : List Int) (x5 : Int) (x6 : Int) : Option (Int × List Int) :=
  ((M_bits_own F x1 x2).bind fun x9 => ((M_bits_writer_number F x9.1 x9.2 x5 x6).bind fun x13 => some (x13.1, x13.2)))
/-! lampwright kraft.Codes -/
def M_kraft_Codes_j4 (_F : Nat) (x331 : List (Int × List Int)) : Option (List (Int × List Int) × Int) :=
  some (x331, 0)
def M_kraft_Codes_b5 (F : Nat) (x1 : List Int) (x332 : List Int) (rec5 : (List (Int × List Int) × Int × Int × Int) → Option (List (Int × List Int) × Int)) (x438 : List (Int × List Int)) (x439 : Int) (x440 : Int) (x441 : Int) : Option (List (Int × List Int) × Int) :=
  (if (decide (x441 < (x332.length : Int))) then ((idx x332 x441).bind fun x596 => ((idx x1 x596).bind fun x599 => (chk (decide (0 ≤ (isub .i64 x599 x440))) (((idx x1 x596).bind fun x624 => ((idx x1 x596).bind fun x628 => ((idx x438 x596).bind fun _x632 => ((M_bits_Add F 0 ([] : List Int) (ishl .u64 x439 (isub .i64 x599 x440)) x624).bind fun x638 => (lett (x438.set x596.toNat (x638.1, x638.2)) fun x641 => (lett (iadd .u64 (ishl .u64 x439 (isub .i64 x599 x440)) 1) fun x645 => rec5 (x641, x645, x628, iadd .i64 x441 1))))))))))) else M_kraft_Codes_j4 F x438)
def M_kraft_Codes_l5 (F : Nat) (x1 : List Int) (x332 : List Int) : Nat → (List (Int × List Int) × Int × Int × Int) → Option (List (Int × List Int) × Int)
  | 0 => fun _ => none
  | k + 1 => fun s => M_kraft_Codes_b5 F x1 x332 (M_kraft_Codes_l5 F x1 x332 k) s.1 s.2.1 s.2.2.1 s.2.2.2
def M_kraft_Codes_j2 (F : Nat) (x1 : List Int) (x10 : Int) : Option (List (Int × List Int) × Int) :=
  (if ((x10 : Int) != 0) then some (([] : List (Int × List Int)), x10) else ((mk 2199023255552 (((0 : Int), ([] : List Int)) : (Int × List Int)) (x1.length : Int)).bind fun x12 => ((M_kraft_used F x1).bind fun x332 => M_kraft_Codes_l5 F x1 x332 F (x12, 0, 0, 0))))
def M_kraft_Codes_j6 (F : Nat) (x1 : List Int) (x4 : Int) (x650 : Bool) : Option (List (Int × List Int) × Int) :=
  (if x650 then M_kraft_Codes_j2 F x1 8 else M_kraft_Codes_j2 F x1 x4)
def M_kraft_Codes (F : Nat) (x1 : List Int) : Option (List (Int × List Int) × Int) :=
  ((M_kraft_Check F x1).bind fun x4 => (if ((x4 : Int) == 0) then ((M_kraft_room F x1).bind fun x652 => M_kraft_Codes_j6 F x1 x4 (decide (x652 < 0))) else M_kraft_Codes_j6 F x1 x4 false))
/-! lampwright bits.Check -/
def M_bits_Check_j2 (_F : Nat) (x36 : Bool) : Option Int :=
  (if x36 then some 1 else some 0)
def M_bits_Check (F : Nat) (x1 : Int) (x2 : List Int) : Option Int :=
  (if ((decide (x1 < 0)) || (decide (8192 < x1))) then some 3 else (if (((x2.length : Int) : Int) != (iquo .i64 (iadd .i64 x1 7) 8)) then some 1 else (if (((irem x1 8) : Int) != 0) then ((idx x2 (isub .i64 (x2.length : Int) 1)).bind fun x39 => (chk (decide (0 ≤ (irem x1 8))) (M_bits_Check_j2 F (((ishl .u8 x39 (irem x1 8)) : Int) != 0)))) else M_bits_Check_j2 F false)))
/-! lampwright bits.At -/
def M_bits_At (_F : Nat) (_x1 : Int) (x2 : List Int) (x5 : Int) : Option Int :=
  ((idx x2 (iquo .i64 x5 8)).bind fun x7 => (chk (decide (0 ≤ (isub .i64 7 (irem x5 8)))) ((lett (iand .u64 (iconv .u64 (ishr .u8 x7 (isub .i64 7 (irem x5 8)))) 1) fun x11 => some x11))))
/-! lampwright kraft.begins -/
def M_kraft_begins_j2 (_F : Nat) : Option Bool :=
  some true
def M_kraft_begins_b3 (F : Nat) (x1 : Int) (x2 : List Int) (x5 : Int) (x6 : Int) (x7 : List Int) (rec3 : Int → Option Bool) (x62 : Int) : Option Bool :=
  (if (decide (x62 < (imin x6 (isub .i64 x1 x5)))) then ((M_bits_At F x1 x2 (iadd .i64 x5 x62)).bind fun x84 => ((M_bits_At F x6 x7 x62).bind fun x85 => (if ((x84 : Int) != x85) then some false else rec3 (iadd .i64 x62 1)))) else M_kraft_begins_j2 F)
def M_kraft_begins_l3 (F : Nat) (x1 : Int) (x2 : List Int) (x5 : Int) (x6 : Int) (x7 : List Int) : Nat → Int → Option Bool
  | 0 => fun _ => none
  | k + 1 => fun s => M_kraft_begins_b3 F x1 x2 x5 x6 x7 (M_kraft_begins_l3 F x1 x2 x5 x6 x7 k) s
def M_kraft_begins (F : Nat) (x1 : Int) (x2 : List Int) (x5 : Int) (x6 : Int) (x7 : List Int) : Option Bool :=
  M_kraft_begins_l3 F x1 x2 x5 x6 x7 F 0
/-! lampwright kraft.Apart -/
def M_kraft_Apart_j49 (_F : Nat) : Option (Bool × Int) :=
  some (true, 0)
def M_kraft_Apart_j88 (_F : Nat) (rec80 : Int → Option (Bool × Int)) (x729 : Int) : Option (Bool × Int) :=
  rec80 (iadd .i64 x729 1)
def M_kraft_Apart_j95 (_F : Nat) (rec93 : Int → Option (Bool × Int)) (x1016 : Int) (x1062 : Bool) : Option (Bool × Int) :=
  (if x1062 then some (false, 0) else rec93 (iadd .i64 x1016 1))
def M_kraft_Apart_b93 (F : Nat) (rec80 : Int → Option (Bool × Int)) (x729 : Int) (x983 : (Int × List Int)) (x988 : List (Int × List Int)) (rec93 : Int → Option (Bool × Int)) (x1016 : Int) : Option (Bool × Int) :=
  (if (decide (x1016 < (x988.length : Int))) then ((idx x988 x1016).bind fun x1054 => (if ((decide (0 < x983.1)) && (decide (0 < x1054.1))) then ((M_kraft_begins F x983.1 x983.2 0 x1054.1 x1054.2).bind fun x1064 => M_kraft_Apart_j95 F rec93 x1016 x1064) else M_kraft_Apart_j95 F rec93 x1016 false)) else M_kraft_Apart_j88 F rec80 x729)
def M_kraft_Apart_l93 (F : Nat) (rec80 : Int → Option (Bool × Int)) (x729 : Int) (x983 : (Int × List Int)) (x988 : List (Int × List Int)) : Nat → Int → Option (Bool × Int)
  | 0 => fun _ => none
  | k + 1 => fun s => M_kraft_Apart_b93 F rec80 x729 x983 x988 (M_kraft_Apart_l93 F rec80 x729 x983 x988 k) s
def M_kraft_Apart_b80 (F : Nat) (x1 : List (Int × List Int)) (rec80 : Int → Option (Bool × Int)) (x729 : Int) : Option (Bool × Int) :=
  (if (decide (x729 < (x1.length : Int))) then ((idx x1 x729).bind fun x983 => ((sub x1 0 x729).bind fun x988 => M_kraft_Apart_l93 F rec80 x729 x983 x988 F 0)) else M_kraft_Apart_j49 F)
def M_kraft_Apart_l80 (F : Nat) (x1 : List (Int × List Int)) : Nat → Int → Option (Bool × Int)
  | 0 => fun _ => none
  | k + 1 => fun s => M_kraft_Apart_b80 F x1 (M_kraft_Apart_l80 F x1 k) s
def M_kraft_Apart_j2 (F : Nat) (x1 : List (Int × List Int)) : Option (Bool × Int) :=
  M_kraft_Apart_l80 F x1 F 0
def M_kraft_Apart_b96 (F : Nat) (x1 : List (Int × List Int)) (rec96 : Int → Option (Bool × Int)) (x1083 : Int) : Option (Bool × Int) :=
  (if (decide (x1083 < (x1.length : Int))) then ((idx x1 x1083).bind fun x1109 => ((M_bits_Check F x1109.1 x1109.2).bind fun x1114 => (if ((x1114 : Int) != 0) then some (false, x1114) else rec96 (iadd .i64 x1083 1)))) else M_kraft_Apart_j2 F x1)
def M_kraft_Apart_l96 (F : Nat) (x1 : List (Int × List Int)) : Nat → Int → Option (Bool × Int)
  | 0 => fun _ => none
  | k + 1 => fun s => M_kraft_Apart_b96 F x1 (M_kraft_Apart_l96 F x1 k) s
def M_kraft_Apart (F : Nat) (x1 : List (Int × List Int)) : Option (Bool × Int) :=
  (if (decide (64 < (x1.length : Int))) then some (false, 2) else M_kraft_Apart_l96 F x1 F 0)
/-! lampwright elias.Check -/
def M_elias_Check_j2 (_F : Nat) (x13 : Int) : Option Int :=
  some x13
def M_elias_Check_j3 (F : Nat) (x7 : Int) (x16 : Bool) : Option Int :=
  (if x16 then M_elias_Check_j2 F 3 else M_elias_Check_j2 F x7)
def M_elias_Check (F : Nat) (x1 : Int) (x2 : List Int) (x5 : Int) : Option Int :=
  ((M_bits_Check F x1 x2).bind fun x7 => (if ((x7 : Int) == 0) then M_elias_Check_j3 F x7 ((decide (x5 < 0)) || (decide (x1 < x5))) else M_elias_Check_j3 F x7 false))
/-! lampwright kraft.Found -/
def M_kraft_Found_j11 (_F : Nat) (x88 : Int) : Option (Int × Int × Int) :=
  some (0, 0, x88)
def M_kraft_Found_j20 (_F : Nat) (rec18 : (Int × Int) → Option (Int × Int × Int)) (x115 : Int) (x154 : Int) : Option (Int × Int × Int) :=
  rec18 (x154, iadd .i64 x115 1)
def M_kraft_Found_j21 (F : Nat) (rec18 : (Int × Int) → Option (Int × Int × Int)) (x4 : Int) (x8 : Int) (x114 : Int) (x115 : Int) (x155 : (Int × List Int)) (x162 : Bool) : Option (Int × Int × Int) :=
  (if x162 then M_kraft_Found_j20 F rec18 x115 x114 else (if (decide ((isub .i64 x4 x8) < x155.1)) then M_kraft_Found_j20 F rec18 x115 7 else some (x115, iadd .i64 x8 x155.1, 0)))
def M_kraft_Found_b18 (F : Nat) (x1 : List (Int × List Int)) (x4 : Int) (x5 : List Int) (x8 : Int) (rec18 : (Int × Int) → Option (Int × Int × Int)) (x114 : Int) (x115 : Int) : Option (Int × Int × Int) :=
  (if (decide (x115 < (x1.length : Int))) then ((idx x1 x115).bind fun x155 => (if ((x155.1 : Int) == 0) then M_kraft_Found_j21 F rec18 x4 x8 x114 x115 x155 true else ((M_kraft_begins F x4 x5 x8 x155.1 x155.2).bind fun x165 => M_kraft_Found_j21 F rec18 x4 x8 x114 x115 x155 (!x165)))) else M_kraft_Found_j11 F x114)
def M_kraft_Found_l18 (F : Nat) (x1 : List (Int × List Int)) (x4 : Int) (x5 : List Int) (x8 : Int) : Nat → (Int × Int) → Option (Int × Int × Int)
  | 0 => fun _ => none
  | k + 1 => fun s => M_kraft_Found_b18 F x1 x4 x5 x8 (M_kraft_Found_l18 F x1 x4 x5 x8 k) s.1 s.2
def M_kraft_Found (F : Nat) (x1 : List (Int × List Int)) (x4 : Int) (x5 : List Int) (x8 : Int) : Option (Int × Int × Int) :=
  M_kraft_Found_l18 F x1 x4 x5 x8 F (5, 0)
/-! lampwright kraft.Sign -/
def M_kraft_Sign_j1 (F : Nat) (x4 : Int) (x5 : List Int) (x8 : Int) (x10 : (List (Int × List Int) × Int)) (x15 : Int) : Option (Int × Int × Int) :=
  (if ((x15 : Int) != 0) then some (0, 0, x15) else ((M_kraft_Found F x10.1 x4 x5 x8).bind fun x17 => some (x17.1, x17.2.1, x17.2.2)))
def M_kraft_Sign (F : Nat) (x1 : List Int) (x4 : Int) (x5 : List Int) (x8 : Int) : Option (Int × Int × Int) :=
  ((M_kraft_Codes F x1).bind fun x10 => (if ((x10.2 : Int) == 0) then ((M_elias_Check F x4 x5 x8).bind fun x19 => M_kraft_Sign_j1 F x4 x5 x8 x10 x19) else M_kraft_Sign_j1 F x4 x5 x8 x10 x10.2))
/-! lampwright lampwrightref.between -/
def M_R_between (_F : Nat) (x1 : Int) (x2 : Int) (x3 : Int) : Option Bool :=
  some ((decide (x2 ≤ x1)) && (decide (x1 ≤ x3)))
/-! lampwright lampwrightref.KraftCheck -/
def M_R_KraftCheck_j2 (_F : Nat) : Option Int :=
  some 0
def M_R_KraftCheck_b3 (F : Nat) (x1 : List Int) (rec3 : Int → Option Int) (x55 : Int) : Option Int :=
  (if (decide (x55 < (x1.length : Int))) then ((idx x1 x55).bind fun x75 => ((M_R_between F x75 0 24).bind fun x78 => (if (!x78) then some 3 else rec3 (iadd .i64 x55 1)))) else M_R_KraftCheck_j2 F)
def M_R_KraftCheck_l3 (F : Nat) (x1 : List Int) : Nat → Int → Option Int
  | 0 => fun _ => none
  | k + 1 => fun s => M_R_KraftCheck_b3 F x1 (M_R_KraftCheck_l3 F x1 k) s
def M_R_KraftCheck (F : Nat) (x1 : List Int) : Option Int :=
  (if (decide (64 < (x1.length : Int))) then some 2 else M_R_KraftCheck_l3 F x1 F 0)
/-! lampwright lampwrightref.KraftRoom -/
def M_R_KraftRoom_j29 (_F : Nat) (x232 : Int) : Option Int :=
  some x232
def M_R_KraftRoom_j53 (_F : Nat) (rec48 : (Int × Int) → Option Int) (x309 : Int) (x423 : Int) : Option Int :=
  rec48 (x423, iadd .i64 x309 1)
def M_R_KraftRoom_j57 (_F : Nat) (rec56 : (Int × Int) → Option Int) (x436 : Int) (x454 : Int) : Option Int :=
  rec56 (x454, iadd .i64 x436 1)
def M_R_KraftRoom_b56 (F : Nat) (rec48 : (Int × Int) → Option Int) (x1 : List Int) (x309 : Int) (rec56 : (Int × Int) → Option Int) (x435 : Int) (x436 : Int) : Option Int :=
  (if (decide (x436 < (x1.length : Int))) then ((idx x1 x436).bind fun x455 => (if ((x455 : Int) == x309) then M_R_KraftRoom_j57 F rec56 x436 (isub .i64 x435 1) else M_R_KraftRoom_j57 F rec56 x436 x435)) else M_R_KraftRoom_j53 F rec48 x309 x435)
def M_R_KraftRoom_l56 (F : Nat) (rec48 : (Int × Int) → Option Int) (x1 : List Int) (x309 : Int) : Nat → (Int × Int) → Option Int
  | 0 => fun _ => none
  | k + 1 => fun s => M_R_KraftRoom_b56 F rec48 x1 x309 (M_R_KraftRoom_l56 F rec48 x1 x309 k) s.1 s.2
def M_R_KraftRoom_b48 (F : Nat) (x1 : List Int) (rec48 : (Int × Int) → Option Int) (x308 : Int) (x309 : Int) : Option Int :=
  (if (decide (x309 ≤ 24)) then M_R_KraftRoom_l56 F rec48 x1 x309 F (imul .i64 2 x308, 0) else M_R_KraftRoom_j29 F x308)
def M_R_KraftRoom_l48 (F : Nat) (x1 : List Int) : Nat → (Int × Int) → Option Int
  | 0 => fun _ => none
  | k + 1 => fun s => M_R_KraftRoom_b48 F x1 (M_R_KraftRoom_l48 F x1 k) s.1 s.2
def M_R_KraftRoom (F : Nat) (x1 : List Int) : Option Int :=
  M_R_KraftRoom_l48 F x1 F (1, 1)
/-! lampwright lampwrightref.PackBits -/
def M_R_PackBits_j59 (_F : Nat) (x1 : List Int) (x497 : List Int) : Option (Int × List Int) :=
  some ((x1.length : Int), x497)
def M_R_PackBits_j108 (_F : Nat) (rec98 : (Int × List Int) → Option (Int × List Int)) (x660 : Int) (x907 : List Int) : Option (Int × List Int) :=
  rec98 (iadd .i64 x660 8, x907)
def M_R_PackBits_j113 (F : Nat) (rec98 : (Int × List Int) → Option (Int × List Int)) (x660 : Int) (x663 : List Int) (x944 : Int) : Option (Int × List Int) :=
  ((app 70368744177664 x663 ([iconv .u8 x944] : List Int)).bind fun x947 => M_R_PackBits_j108 F rec98 x660 x947)
def M_R_PackBits_j117 (_F : Nat) (rec116 : (Int × Int) → Option (Int × List Int)) (x962 : Int) (x980 : Int) : Option (Int × List Int) :=
  rec116 (x980, iadd .i64 x962 1)
def M_R_PackBits_b116 (F : Nat) (rec98 : (Int × List Int) → Option (Int × List Int)) (x1 : List Int) (x660 : Int) (x663 : List Int) (rec116 : (Int × Int) → Option (Int × List Int)) (x961 : Int) (x962 : Int) : Option (Int × List Int) :=
  (if (decide (x962 < 8)) then (if (decide ((iadd .i64 x660 x962) < (x1.length : Int))) then ((idx x1 (iadd .i64 x660 x962)).bind fun x981 => M_R_PackBits_j117 F rec116 x962 (iadd .i64 (imul .i64 2 x961) x981)) else M_R_PackBits_j117 F rec116 x962 (imul .i64 2 x961)) else M_R_PackBits_j113 F rec98 x660 x663 x961)
def M_R_PackBits_l116 (F : Nat) (rec98 : (Int × List Int) → Option (Int × List Int)) (x1 : List Int) (x660 : Int) (x663 : List Int) : Nat → (Int × Int) → Option (Int × List Int)
  | 0 => fun _ => none
  | k + 1 => fun s => M_R_PackBits_b116 F rec98 x1 x660 x663 (M_R_PackBits_l116 F rec98 x1 x660 x663 k) s.1 s.2
def M_R_PackBits_b98 (F : Nat) (x1 : List Int) (rec98 : (Int × List Int) → Option (Int × List Int)) (x660 : Int) (x663 : List Int) : Option (Int × List Int) :=
  (if (decide (x660 < (x1.length : Int))) then M_R_PackBits_l116 F rec98 x1 x660 x663 F (0, 0) else M_R_PackBits_j59 F x1 x663)
def M_R_PackBits_l98 (F : Nat) (x1 : List Int) : Nat → (Int × List Int) → Option (Int × List Int)
  | 0 => fun _ => none
  | k + 1 => fun s => M_R_PackBits_b98 F x1 (M_R_PackBits_l98 F x1 k) s.1 s.2
def M_R_PackBits (F : Nat) (x1 : List Int) : Option (Int × List Int) :=
  M_R_PackBits_l98 F x1 F (0, ([] : List Int))
/-! lampwright lampwrightref.NumBits -/
def M_R_NumBits_j2 (_F : Nat) (x52 : List Int) : Option (List Int) :=
  some x52
def M_R_NumBits_b3 (F : Nat) (rec3 : (Int × List Int × Int) → Option (List Int)) (x67 : Int) (x68 : List Int) (x69 : Int) : Option (List Int) :=
  (if (decide (0 ≤ x69)) then ((idx x68 x69).bind fun _x92 => (lett (x68.set x69.toNat (iconv .i64 (irem x67 2))) fun x95 => rec3 (iquo .u64 x67 2, x95, isub .i64 x69 1))) else M_R_NumBits_j2 F x68)
def M_R_NumBits_l3 (F : Nat) : Nat → (Int × List Int × Int) → Option (List Int)
  | 0 => fun _ => none
  | k + 1 => fun s => M_R_NumBits_b3 F (M_R_NumBits_l3 F k) s.1 s.2.1 s.2.2
def M_R_NumBits (F : Nat) (x1 : Int) (x2 : Int) : Option (List Int) :=
  ((mk 17592186044416 (0 : Int) x2).bind fun x3 => M_R_NumBits_l3 F F (x1, x3, isub .i64 x2 1))
/-! lampwright lampwrightref.KraftCodes -/
def M_R_KraftCodes_j31 (_F : Nat) (x840 : List (Int × List Int)) : Option (List (Int × List Int) × Int) :=
  some (x840, 0)
def M_R_KraftCodes_j55 (_F : Nat) (rec50 : (List (Int × List Int) × Int × Int) → Option (List (Int × List Int) × Int)) (x1117 : Int) (x1528 : List (Int × List Int)) (x1529 : Int) : Option (List (Int × List Int) × Int) :=
  rec50 (x1528, x1529, iadd .i64 x1117 1)
def M_R_KraftCodes_j59 (_F : Nat) (rec58 : (List (Int × List Int) × Int × Int) → Option (List (Int × List Int) × Int)) (x1576 : Int) (x1642 : List (Int × List Int)) (x1643 : Int) : Option (List (Int × List Int) × Int) :=
  rec58 (x1642, x1643, iadd .i64 x1576 1)
def M_R_KraftCodes_b58 (F : Nat) (rec50 : (List (Int × List Int) × Int × Int) → Option (List (Int × List Int) × Int)) (x1 : List Int) (x1117 : Int) (rec58 : (List (Int × List Int) × Int × Int) → Option (List (Int × List Int) × Int)) (x1574 : List (Int × List Int)) (x1575 : Int) (x1576 : Int) : Option (List (Int × List Int) × Int) :=
  (if (decide (x1576 < (x1.length : Int))) then ((idx x1 x1576).bind fun x1644 => (if ((x1644 : Int) == x1117) then ((M_R_NumBits F x1575 x1117).bind fun x1647 => ((M_R_PackBits F x1647).bind fun x1650 => ((idx x1574 x1576).bind fun _x1653 => (lett (x1574.set x1576.toNat (x1650.1, x1650.2)) fun x1658 => M_R_KraftCodes_j59 F rec58 x1576 x1658 (iadd .u64 x1575 1))))) else M_R_KraftCodes_j59 F rec58 x1576 x1574 x1575)) else M_R_KraftCodes_j55 F rec50 x1117 x1574 x1575)
def M_R_KraftCodes_l58 (F : Nat) (rec50 : (List (Int × List Int) × Int × Int) → Option (List (Int × List Int) × Int)) (x1 : List Int) (x1117 : Int) : Nat → (List (Int × List Int) × Int × Int) → Option (List (Int × List Int) × Int)
  | 0 => fun _ => none
  | k + 1 => fun s => M_R_KraftCodes_b58 F rec50 x1 x1117 (M_R_KraftCodes_l58 F rec50 x1 x1117 k) s.1 s.2.1 s.2.2
def M_R_KraftCodes_b50 (F : Nat) (x1 : List Int) (rec50 : (List (Int × List Int) × Int × Int) → Option (List (Int × List Int) × Int)) (x1115 : List (Int × List Int)) (x1116 : Int) (x1117 : Int) : Option (List (Int × List Int) × Int) :=
  (if (decide (x1117 ≤ 24)) then M_R_KraftCodes_l58 F rec50 x1 x1117 F (x1115, imul .u64 2 x1116, 0) else M_R_KraftCodes_j31 F x1115)
def M_R_KraftCodes_l50 (F : Nat) (x1 : List Int) : Nat → (List (Int × List Int) × Int × Int) → Option (List (Int × List Int) × Int)
  | 0 => fun _ => none
  | k + 1 => fun s => M_R_KraftCodes_b50 F x1 (M_R_KraftCodes_l50 F x1 k) s.1 s.2.1 s.2.2
def M_R_KraftCodes_j2 (F : Nat) (x1 : List Int) (x10 : Int) : Option (List (Int × List Int) × Int) :=
  (if ((x10 : Int) != 0) then some (([] : List (Int × List Int)), x10) else ((mk 2199023255552 (((0 : Int), ([] : List Int)) : (Int × List Int)) (x1.length : Int)).bind fun x12 => M_R_KraftCodes_l50 F x1 F (x12, 0, 1)))
def M_R_KraftCodes_j60 (F : Nat) (x1 : List Int) (x4 : Int) (x1668 : Bool) : Option (List (Int × List Int) × Int) :=
  (if x1668 then M_R_KraftCodes_j2 F x1 8 else M_R_KraftCodes_j2 F x1 x4)
def M_R_KraftCodes (F : Nat) (x1 : List Int) : Option (List (Int × List Int) × Int) :=
  ((M_R_KraftCheck F x1).bind fun x4 => (if ((x4 : Int) == 0) then ((M_R_KraftRoom F x1).bind fun x1670 => M_R_KraftCodes_j60 F x1 x4 (decide (x1670 < 0))) else M_R_KraftCodes_j60 F x1 x4 false))
/-! lampwright lampwrightref.BitList -/
def M_R_BitList_j23 (_F : Nat) (x190 : List Int) : Option (List Int) :=
  some x190
def M_R_BitList_j42 (_F : Nat) (rec38 : (List Int × Int) → Option (List Int)) (x253 : Int) (x344 : List Int) : Option (List Int) :=
  rec38 (x344, iadd .i64 x253 1)
def M_R_BitList_j44 (F : Nat) (rec38 : (List Int × Int) → Option (List Int)) (x252 : List Int) (x253 : Int) (x357 : Int) : Option (List Int) :=
  ((app 8796093022208 x252 ([irem x357 2] : List Int)).bind fun x360 => M_R_BitList_j42 F rec38 x253 x360)
def M_R_BitList_b45 (F : Nat) (rec38 : (List Int × Int) → Option (List Int)) (x252 : List Int) (x253 : Int) (rec45 : (Int × Int) → Option (List Int)) (x365 : Int) (x366 : Int) : Option (List Int) :=
  (if (decide (x366 < (isub .i64 7 (irem x253 8)))) then rec45 (iquo .i64 x365 2, iadd .i64 x366 1) else M_R_BitList_j44 F rec38 x252 x253 x365)
def M_R_BitList_l45 (F : Nat) (rec38 : (List Int × Int) → Option (List Int)) (x252 : List Int) (x253 : Int) : Nat → (Int × Int) → Option (List Int)
  | 0 => fun _ => none
  | k + 1 => fun s => M_R_BitList_b45 F rec38 x252 x253 (M_R_BitList_l45 F rec38 x252 x253 k) s.1 s.2
def M_R_BitList_b38 (F : Nat) (x1 : Int) (x2 : List Int) (rec38 : (List Int × Int) → Option (List Int)) (x252 : List Int) (x253 : Int) : Option (List Int) :=
  (if (decide (x253 < x1)) then ((idx x2 (iquo .i64 x253 8)).bind fun x345 => M_R_BitList_l45 F rec38 x252 x253 F (iconv .i64 x345, 0)) else M_R_BitList_j23 F x252)
def M_R_BitList_l38 (F : Nat) (x1 : Int) (x2 : List Int) : Nat → (List Int × Int) → Option (List Int)
  | 0 => fun _ => none
  | k + 1 => fun s => M_R_BitList_b38 F x1 x2 (M_R_BitList_l38 F x1 x2 k) s.1 s.2
def M_R_BitList (F : Nat) (x1 : Int) (x2 : List Int) : Option (List Int) :=
  M_R_BitList_l38 F x1 x2 F (([] : List Int), 0)
/-! lampwright lampwrightref.BitsCheck -/
def M_R_BitsCheck_j3 (_F : Nat) : Option Int :=
  some 0
def M_R_BitsCheck_b4 (F : Nat) (x12 : List Int) (rec4 : Int → Option Int) (x57 : Int) : Option Int :=
  (if (decide (x57 < (x12.length : Int))) then ((idx x12 x57).bind fun x74 => (if ((x74 : Int) != 0) then some 1 else rec4 (iadd .i64 x57 1))) else M_R_BitsCheck_j3 F)
def M_R_BitsCheck_l4 (F : Nat) (x12 : List Int) : Nat → Int → Option Int
  | 0 => fun _ => none
  | k + 1 => fun s => M_R_BitsCheck_b4 F x12 (M_R_BitsCheck_l4 F x12 k) s
def M_R_BitsCheck_j1 (F : Nat) (x1 : Int) (x2 : List Int) (x10 : Int) : Option Int :=
  (if (((x2.length : Int) : Int) != x10) then some 1 else ((M_R_BitList F (imul .i64 8 x10) x2).bind fun x12 => M_R_BitsCheck_l4 F x12 F x1))
def M_R_BitsCheck (F : Nat) (x1 : Int) (x2 : List Int) : Option Int :=
  ((M_R_between F x1 0 8192).bind fun x8 => (if (!x8) then some 3 else (if (decide (0 < (irem x1 8))) then M_R_BitsCheck_j1 F x1 x2 (iadd .i64 (iquo .i64 x1 8) 1) else M_R_BitsCheck_j1 F x1 x2 (iquo .i64 x1 8))))
/-! lampwright lampwrightref.SameInts -/
def M_R_SameInts_j2 (_F : Nat) : Option Bool :=
  some true
def M_R_SameInts_b3 (F : Nat) (x1 : List Int) (x4 : List Int) (rec3 : Int → Option Bool) (x154 : Int) : Option Bool :=
  (if (decide (x154 < (x1.length : Int))) then ((idx x1 x154).bind fun x218 => ((idx x4 x154).bind fun x222 => (if ((x218 : Int) != x222) then some false else rec3 (iadd .i64 x154 1)))) else M_R_SameInts_j2 F)
def M_R_SameInts_l3 (F : Nat) (x1 : List Int) (x4 : List Int) : Nat → Int → Option Bool
  | 0 => fun _ => none
  | k + 1 => fun s => M_R_SameInts_b3 F x1 x4 (M_R_SameInts_l3 F x1 x4 k) s
def M_R_SameInts (F : Nat) (x1 : List Int) (x4 : List Int) : Option Bool :=
  (if (((x1.length : Int) : Int) != (x4.length : Int)) then some false else M_R_SameInts_l3 F x1 x4 F 0)
/-! lampwright lampwrightref.Starts -/
def M_R_Starts_j1 (_F : Nat) (x12 : Bool) : Option Bool :=
  some x12
def M_R_Starts (F : Nat) (x1 : List Int) (x4 : List Int) : Option Bool :=
  (if (decide ((x4.length : Int) ≤ (x1.length : Int))) then ((sub x1 0 (x4.length : Int)).bind fun x13 => ((M_R_SameInts F x13 x4).bind fun x16 => M_R_Starts_j1 F x16)) else M_R_Starts_j1 F false)
/-! lampwright lampwrightref.KraftApart -/
def M_R_KraftApart_j49 (_F : Nat) : Option (Bool × Int) :=
  some (true, 0)
def M_R_KraftApart_j88 (_F : Nat) (rec80 : Int → Option (Bool × Int)) (x3099 : Int) : Option (Bool × Int) :=
  rec80 (iadd .i64 x3099 1)
def M_R_KraftApart_j95 (_F : Nat) (rec93 : Int → Option (Bool × Int)) (x4370 : Int) (x4591 : Bool) : Option (Bool × Int) :=
  (if x4591 then some (false, 0) else rec93 (iadd .i64 x4370 1))
def M_R_KraftApart_b93 (F : Nat) (rec80 : Int → Option (Bool × Int)) (x1 : List (Int × List Int)) (x3099 : Int) (rec93 : Int → Option (Bool × Int)) (x4370 : Int) : Option (Bool × Int) :=
  (if (decide (x4370 < (x1.length : Int))) then (if ((x3099 : Int) != x4370) then ((idx x1 x3099).bind fun x4594 => (if (decide (0 < x4594.1)) then ((idx x1 x4370).bind fun x4600 => (if (decide (0 < x4600.1)) then ((idx x1 x3099).bind fun x4606 => ((idx x1 x4370).bind fun x4611 => ((M_R_BitList F x4606.1 x4606.2).bind fun x4616 => ((M_R_BitList F x4611.1 x4611.2).bind fun x4619 => ((M_R_Starts F x4616 x4619).bind fun x4622 => M_R_KraftApart_j95 F rec93 x4370 x4622))))) else M_R_KraftApart_j95 F rec93 x4370 false)) else M_R_KraftApart_j95 F rec93 x4370 false)) else M_R_KraftApart_j95 F rec93 x4370 false) else M_R_KraftApart_j88 F rec80 x3099)
def M_R_KraftApart_l93 (F : Nat) (rec80 : Int → Option (Bool × Int)) (x1 : List (Int × List Int)) (x3099 : Int) : Nat → Int → Option (Bool × Int)
  | 0 => fun _ => none
  | k + 1 => fun s => M_R_KraftApart_b93 F rec80 x1 x3099 (M_R_KraftApart_l93 F rec80 x1 x3099 k) s
def M_R_KraftApart_b80 (F : Nat) (x1 : List (Int × List Int)) (rec80 : Int → Option (Bool × Int)) (x3099 : Int) : Option (Bool × Int) :=
  (if (decide (x3099 < (x1.length : Int))) then M_R_KraftApart_l93 F rec80 x1 x3099 F 0 else M_R_KraftApart_j49 F)
def M_R_KraftApart_l80 (F : Nat) (x1 : List (Int × List Int)) : Nat → Int → Option (Bool × Int)
  | 0 => fun _ => none
  | k + 1 => fun s => M_R_KraftApart_b80 F x1 (M_R_KraftApart_l80 F x1 k) s
def M_R_KraftApart_j2 (F : Nat) (x1 : List (Int × List Int)) : Option (Bool × Int) :=
  M_R_KraftApart_l80 F x1 F 0
def M_R_KraftApart_b96 (F : Nat) (x1 : List (Int × List Int)) (rec96 : Int → Option (Bool × Int)) (x4639 : Int) : Option (Bool × Int) :=
  (if (decide (x4639 < (x1.length : Int))) then ((idx x1 x4639).bind fun x4662 => ((M_R_BitsCheck F x4662.1 x4662.2).bind fun x4666 => (if ((x4666 : Int) != 0) then some (false, x4666) else rec96 (iadd .i64 x4639 1)))) else M_R_KraftApart_j2 F x1)
def M_R_KraftApart_l96 (F : Nat) (x1 : List (Int × List Int)) : Nat → Int → Option (Bool × Int)
  | 0 => fun _ => none
  | k + 1 => fun s => M_R_KraftApart_b96 F x1 (M_R_KraftApart_l96 F x1 k) s
def M_R_KraftApart (F : Nat) (x1 : List (Int × List Int)) : Option (Bool × Int) :=
  (if (decide (64 < (x1.length : Int))) then some (false, 2) else M_R_KraftApart_l96 F x1 F 0)
/-! lampwright lampwrightref.ReadErr -/
def M_R_ReadErr_j2 (_F : Nat) (x13 : Int) : Option Int :=
  some x13
def M_R_ReadErr_j3 (F : Nat) (x7 : Int) (x16 : Bool) : Option Int :=
  (if x16 then M_R_ReadErr_j2 F 3 else M_R_ReadErr_j2 F x7)
def M_R_ReadErr (F : Nat) (x1 : Int) (x2 : List Int) (x5 : Int) : Option Int :=
  ((M_R_BitsCheck F x1 x2).bind fun x7 => (if ((x7 : Int) == 0) then ((M_R_between F x5 0 x1).bind fun x18 => M_R_ReadErr_j3 F x7 (!x18)) else M_R_ReadErr_j3 F x7 false))
/-! lampwright lampwrightref.KraftSign -/
def M_R_KraftSign_j29 (_F : Nat) (x198 : Bool) : Option (Int × Int × Int) :=
  (if x198 then some (0, 0, 7) else some (0, 0, 5))
def M_R_KraftSign_j55 (_F : Nat) (rec46 : (Bool × Int) → Option (Int × Int × Int)) (x250 : Int) (x367 : Bool) : Option (Int × Int × Int) :=
  rec46 (x367, iadd .i64 x250 1)
def M_R_KraftSign_j56 (F : Nat) (rec46 : (Bool × Int) → Option (Int × Int × Int)) (x250 : Int) (_x370 : Bool) (x371 : Bool) : Option (Int × Int × Int) :=
  M_R_KraftSign_j55 F rec46 x250 x371
def M_R_KraftSign_j53 (F : Nat) (rec46 : (Bool × Int) → Option (Int × Int × Int)) (x8 : Int) (x20 : List Int) (x249 : Bool) (x250 : Int) (x350 : List Int) (x360 : Bool) : Option (Int × Int × Int) :=
  (if x360 then some (x250, iadd .i64 x8 (x350.length : Int), 0) else (if x249 then M_R_KraftSign_j55 F rec46 x250 true else (if (decide ((x20.length : Int) < (x350.length : Int))) then ((M_R_Starts F x350 x20).bind fun x372 => M_R_KraftSign_j56 F rec46 x250 true x372) else M_R_KraftSign_j56 F rec46 x250 false false)))
def M_R_KraftSign_b46 (F : Nat) (x8 : Int) (x10 : (List (Int × List Int) × Int)) (x20 : List Int) (rec46 : (Bool × Int) → Option (Int × Int × Int)) (x249 : Bool) (x250 : Int) : Option (Int × Int × Int) :=
  (if (decide (x250 < (x10.1.length : Int))) then ((idx x10.1 x250).bind fun x345 => ((M_R_BitList F x345.1 x345.2).bind fun x350 => (if (decide (0 < (x350.length : Int))) then ((M_R_Starts F x20 x350).bind fun x374 => M_R_KraftSign_j53 F rec46 x8 x20 x249 x250 x350 x374) else M_R_KraftSign_j53 F rec46 x8 x20 x249 x250 x350 false))) else M_R_KraftSign_j29 F x249)
def M_R_KraftSign_l46 (F : Nat) (x8 : Int) (x10 : (List (Int × List Int) × Int)) (x20 : List Int) : Nat → (Bool × Int) → Option (Int × Int × Int)
  | 0 => fun _ => none
  | k + 1 => fun s => M_R_KraftSign_b46 F x8 x10 x20 (M_R_KraftSign_l46 F x8 x10 x20 k) s.1 s.2
def M_R_KraftSign_j1 (F : Nat) (x4 : Int) (x5 : List Int) (x8 : Int) (x10 : (List (Int × List Int) × Int)) (x15 : Int) : Option (Int × Int × Int) :=
  (if ((x15 : Int) != 0) then some (0, 0, x15) else ((M_R_BitList F x4 x5).bind fun x17 => ((sub x17 x8 (x17.length : Int)).bind fun x20 => M_R_KraftSign_l46 F x8 x10 x20 F (false, 0))))
def M_R_KraftSign (F : Nat) (x1 : List Int) (x4 : Int) (x5 : List Int) (x8 : Int) : Option (Int × Int × Int) :=
  ((M_R_KraftCodes F x1).bind fun x10 => (if ((x10.2 : Int) == 0) then ((M_R_ReadErr F x4 x5 x8).bind fun x377 => M_R_KraftSign_j1 F x4 x5 x8 x10 x377) else M_R_KraftSign_j1 F x4 x5 x8 x10 x10.2))
/-! lampwright lampwrightref.SameBytes -/
def M_R_SameBytes_j2 (_F : Nat) : Option Bool :=
  some true
def M_R_SameBytes_b3 (F : Nat) (x1 : List Int) (x4 : List Int) (rec3 : Int → Option Bool) (x154 : Int) : Option Bool :=
  (if (decide (x154 < (x1.length : Int))) then ((idx x1 x154).bind fun x218 => ((idx x4 x154).bind fun x222 => (if ((x218 : Int) != x222) then some false else rec3 (iadd .i64 x154 1)))) else M_R_SameBytes_j2 F)
def M_R_SameBytes_l3 (F : Nat) (x1 : List Int) (x4 : List Int) : Nat → Int → Option Bool
  | 0 => fun _ => none
  | k + 1 => fun s => M_R_SameBytes_b3 F x1 x4 (M_R_SameBytes_l3 F x1 x4 k) s
def M_R_SameBytes (F : Nat) (x1 : List Int) (x4 : List Int) : Option Bool :=
  (if (((x1.length : Int) : Int) != (x4.length : Int)) then some false else M_R_SameBytes_l3 F x1 x4 F 0)
/-! lampwright lampwrightref.SameBits -/
def M_R_SameBits_j1 (_F : Nat) (x13 : Bool) : Option Bool :=
  some x13
def M_R_SameBits (F : Nat) (x1 : Int) (x2 : List Int) (x5 : Int) (x6 : List Int) : Option Bool :=
  (if ((x1 : Int) == x5) then ((M_R_SameBytes F x2 x6).bind fun x14 => M_R_SameBits_j1 F x14) else M_R_SameBits_j1 F false)
/-! lampwright lampwrightlaw.kraftBegun -/
def M_L_kraftBegun_j3 (_F : Nat) (x12 : (Bool × Int)) (x15 : (Int × Int × Int)) (x18 : (List (Int × List Int) × Int)) (x25 : (Int × Int × Int)) (x55 : Bool) : Option Bool :=
  some (((((((x55 && x12.1) && ((x12.2 : Int) == 0)) && ((x15.1 : Int) == 3)) && ((x15.2.1 : Int) == 4)) && ((x15.2.2 : Int) == 0)) && ((x18.2 : Int) == 8)) && ((x25.2.2 : Int) == 5))
def M_L_kraftBegun_j2 (F : Nat) (x4 : (List (Int × List Int) × Int)) (x12 : (Bool × Int)) (x15 : (Int × Int × Int)) (x18 : (List (Int × List Int) × Int)) (x25 : (Int × Int × Int)) (x45 : Bool) : Option Bool :=
  (if x45 then ((idx x4.1 4).bind fun x63 => ((M_R_SameBits F x63.1 x63.2 3 ([224] : List Int)).bind fun x70 => M_L_kraftBegun_j3 F x12 x15 x18 x25 x70)) else M_L_kraftBegun_j3 F x12 x15 x18 x25 false)
def M_L_kraftBegun_j1 (F : Nat) (x4 : (List (Int × List Int) × Int)) (x12 : (Bool × Int)) (x15 : (Int × Int × Int)) (x18 : (List (Int × List Int) × Int)) (x25 : (Int × Int × Int)) (x35 : Bool) : Option Bool :=
  (if x35 then ((idx x4.1 2).bind fun x71 => ((M_R_SameBits F x71.1 x71.2 1 ([0] : List Int)).bind fun x78 => M_L_kraftBegun_j2 F x4 x12 x15 x18 x25 x78)) else M_L_kraftBegun_j2 F x4 x12 x15 x18 x25 false)
def M_L_kraftBegun (F : Nat)  : Option Bool :=
  ((M_kraft_Room F ([2, 0, 1, 3, 3] : List Int)).bind fun x3 => ((M_kraft_Codes F ([2, 0, 1, 3, 3] : List Int)).bind fun x4 => (if ((((x3.2 : Int) != 0) || ((x4.2 : Int) != 0)) || (((x4.1.length : Int) : Int) != 5)) then some false else ((M_kraft_Apart F x4.1).bind fun x12 => ((M_kraft_Sign F ([2, 0, 1, 3, 3] : List Int) 4 ([96] : List Int) 1).bind fun x15 => ((M_kraft_Codes F ([1, 1, 1] : List Int)).bind fun x18 => ((M_kraft_Sign F ([2] : List Int) 1 ([128] : List Int) 0).bind fun x25 => (if ((x3.1 : Int) == 0) then ((idx x4.1 0).bind fun x79 => ((M_R_SameBits F x79.1 x79.2 2 ([128] : List Int)).bind fun x86 => M_L_kraftBegun_j1 F x4 x12 x15 x18 x25 x86)) else M_L_kraftBegun_j1 F x4 x12 x15 x18 x25 false))))))))
/-! lampwright lampwrightlaw.KraftTells -/
def M_L_KraftTells_j5 (_F : Nat) : Option Bool :=
  some true
def M_L_KraftTells_b6 (F : Nat) (x14 : (List (Int × List Int) × Int)) (x23 : (List (Int × List Int) × Int)) (rec6 : Int → Option Bool) (x282 : Int) : Option Bool :=
  (if (decide (x282 < (x14.1.length : Int))) then ((idx x14.1 x282).bind fun x381 => ((idx x23.1 x282).bind fun x387 => ((M_R_SameBits F x381.1 x381.2 x387.1 x387.2).bind fun x393 => (if (!x393) then some false else rec6 (iadd .i64 x282 1))))) else M_L_KraftTells_j5 F)
def M_L_KraftTells_l6 (F : Nat) (x14 : (List (Int × List Int) × Int)) (x23 : (List (Int × List Int) × Int)) : Nat → Int → Option Bool
  | 0 => fun _ => none
  | k + 1 => fun s => M_L_KraftTells_b6 F x14 x23 (M_L_KraftTells_l6 F x14 x23 k) s
def M_L_KraftTells_j3 (F : Nat) (x13 : (Int × Int)) (x14 : (List (Int × List Int) × Int)) (x17 : (Bool × Int)) (x18 : (Int × Int × Int)) (x19 : Int) (x22 : Int) (x23 : (List (Int × List Int) × Int)) (x26 : (Bool × Int)) (x27 : (Int × Int × Int)) (x46 : Bool) : Option Bool :=
  (if (((((((((x46 || ((x13.1 : Int) != x22)) || ((x13.2 : Int) != x19)) || ((x14.2 : Int) != x23.2)) || (x17.1 != x26.1)) || ((x17.2 : Int) != x26.2)) || ((x18.1 : Int) != x27.1)) || ((x18.2.1 : Int) != x27.2.1)) || ((x18.2.2 : Int) != x27.2.2)) || (((x14.1.length : Int) : Int) != (x23.1.length : Int))) then some false else M_L_KraftTells_l6 F x14 x23 F 0)
def M_L_KraftTells_j1 (F : Nat) (x1 : List Int) (x4 : List (Int × List Int)) (x7 : Int) (x8 : List Int) (x11 : Int) (x13 : (Int × Int)) (x14 : (List (Int × List Int) × Int)) (x17 : (Bool × Int)) (x18 : (Int × Int × Int)) (x19 : Int) (x22 : Int) : Option Bool :=
  ((M_R_KraftCodes F x1).bind fun x23 => ((M_R_KraftApart F x4).bind fun x26 => ((M_R_KraftSign F x1 x7 x8 x11).bind fun x27 => ((M_L_kraftBegun F).bind fun x43 => (if (!x43) then M_L_KraftTells_j3 F x13 x14 x17 x18 x19 x22 x23 x26 x27 true else ((M_kraft_Check F x1).bind fun x397 => M_L_KraftTells_j3 F x13 x14 x17 x18 x19 x22 x23 x26 x27 ((x397 : Int) != x19)))))))
def M_L_KraftTells (F : Nat) (x1 : List Int) (x4 : List (Int × List Int)) (x7 : Int) (x8 : List Int) (x11 : Int) : Option Bool :=
  ((M_kraft_Room F x1).bind fun x13 => ((M_kraft_Codes F x1).bind fun x14 => ((M_kraft_Apart F x4).bind fun x17 => ((M_kraft_Sign F x1 x7 x8 x11).bind fun x18 => ((M_R_KraftCheck F x1).bind fun x19 => (if ((x19 : Int) == 0) then ((M_R_KraftRoom F x1).bind fun x398 => M_L_KraftTells_j1 F x1 x4 x7 x8 x11 x13 x14 x17 x18 x19 x398) else M_L_KraftTells_j1 F x1 x4 x7 x8 x11 x13 x14 x17 x18 x19 0))))))
/-! lampwright lampwrightlaw.KraftCodes -/
def M_L_KraftCodes_j2 (_F : Nat) : Option Bool :=
  some true
def M_L_KraftCodes_b3 (F : Nat) (x1 : List Int) (x5 : (List (Int × List Int) × Int)) (rec3 : Int → Option Bool) (x203 : Int) : Option Bool :=
  (if (decide (x203 < (x5.1.length : Int))) then ((idx x5.1 x203).bind fun x281 => ((idx x1 x203).bind fun x287 => (if ((x281.1 : Int) != x287) then some false else rec3 (iadd .i64 x203 1)))) else M_L_KraftCodes_j2 F)
def M_L_KraftCodes_l3 (F : Nat) (x1 : List Int) (x5 : (List (Int × List Int) × Int)) : Nat → Int → Option Bool
  | 0 => fun _ => none
  | k + 1 => fun s => M_L_KraftCodes_b3 F x1 x5 (M_L_KraftCodes_l3 F x1 x5 k) s
def M_L_KraftCodes (F : Nat) (x1 : List Int) : Option Bool :=
  ((M_kraft_Room F x1).bind fun x4 => ((M_kraft_Codes F x1).bind fun x5 => ((M_L_kraftBegun F).bind fun x10 => (if (!x10) then some false else (if ((x4.2 : Int) != 0) then some (((x4.2 : Int) == x5.2) && (((x5.1.length : Int) : Int) == 0)) else (if (((decide (0 ≤ x4.1)) != ((x5.2 : Int) == 0)) || ((x5.2 : Int) != 0)) then some ((decide (x4.1 < 0)) && ((x5.2 : Int) == 8)) else ((M_kraft_Apart F x5.1).bind fun x19 => (if ((((x19.2 : Int) != 0) || (!x19.1)) || (((x5.1.length : Int) : Int) != (x1.length : Int))) then some false else M_L_KraftCodes_l3 F x1 x5 F 0))))))))
/-! lampwright lampwrightlaw.KraftMust -/
def M_L_KraftMust_j2 (F : Nat) (x138 : List Int) : Option Bool :=
  ((M_kraft_Room F x138).bind fun x139 => some (((x139.2 : Int) == 0) && (decide (0 ≤ x139.1))))
def M_L_KraftMust_b3 (F : Nat) (x1 : List (Int × List Int)) (rec3 : (List Int × Int) → Option Bool) (x183 : List Int) (x184 : Int) : Option Bool :=
  (if (decide (x184 < (x1.length : Int))) then ((idx x1 x184).bind fun x251 => (if (decide (24 < x251.1)) then some true else ((idx x1 x184).bind fun x255 => ((app 8796093022208 x183 ([x255.1] : List Int)).bind fun x261 => rec3 (x261, iadd .i64 x184 1))))) else M_L_KraftMust_j2 F x183)
def M_L_KraftMust_l3 (F : Nat) (x1 : List (Int × List Int)) : Nat → (List Int × Int) → Option Bool
  | 0 => fun _ => none
  | k + 1 => fun s => M_L_KraftMust_b3 F x1 (M_L_KraftMust_l3 F x1 k) s.1 s.2
def M_L_KraftMust (F : Nat) (x1 : List (Int × List Int)) : Option Bool :=
  ((M_kraft_Apart F x1).bind fun x4 => ((M_L_kraftBegun F).bind fun x7 => (if (!x7) then some false else (if (((x4.2 : Int) != 0) || (!x4.1)) then some true else M_L_KraftMust_l3 F x1 F (([] : List Int), 0)))))
/-! lampwright lampwrightlaw.KraftFull -/
def M_L_KraftFull_j2 (_F : Nat) (x28 : Bool) : Option Bool :=
  some x28
def M_L_KraftFull (F : Nat) (x1 : List Int) (x4 : Int) (x5 : List Int) : Option Bool :=
  ((M_kraft_Room F x1).bind fun x9 => ((M_kraft_Sign F x1 x4 x5 0).bind fun x10 => ((M_L_kraftBegun F).bind fun x13 => (if (!x13) then some false else (if (((((x9.2 : Int) != 0) || (decide (x9.1 < 0))) || ((x10.2.2 : Int) == 3)) || ((x10.2.2 : Int) == 1)) then some true else (if ((x9.1 : Int) == 0) then (if ((x10.2.2 : Int) == 0) then M_L_KraftFull_j2 F true else M_L_KraftFull_j2 F (((x10.2.2 : Int) == 7) && (decide (x4 < 24)))) else ((M_kraft_Sign F x1 24 ([255, 255, 255] : List Int) 0).bind fun x33 => some ((x33.2.2 : Int) == 5))))))))
/-! lampwright lampwrightlaw.KraftTurn -/
def M_L_KraftTurn_j3 (_F : Nat) (x123 : Bool) : Option Bool :=
  some x123
def M_L_KraftTurn_j2 (F : Nat) (x1 : List Int) (x4 : Int) (x5 : (Int × Int)) (x72 : List Int) : Option Bool :=
  ((M_kraft_Room F x72).bind fun x73 => (if (((x73.2 : Int) != 0) || ((x73.1 : Int) != x5.1)) then some false else (if ((decide (x4 < 0)) || (decide ((x1.length : Int) ≤ x4))) then some true else ((sub x1 0 x4).bind fun x99 => ((sub x1 (iadd .i64 x4 1) (x1.length : Int)).bind fun x104 => ((app 8796093022208 ([] : List Int) x99).bind fun x111 => ((app 8796093022208 x111 x104).bind fun x114 => ((M_kraft_Room F x114).bind fun x117 => (if (((x117.2 : Int) == 0) && (decide (x5.1 ≤ x117.1))) then ((idx x1 x4).bind fun x124 => M_L_KraftTurn_j3 F ((decide (x5.1 < x117.1)) == (decide (0 < x124)))) else M_L_KraftTurn_j3 F false)))))))))
def M_L_KraftTurn_b4 (F : Nat) (x1 : List Int) (x4 : Int) (x5 : (Int × Int)) (rec4 : (List Int × Int) → Option Bool) (x150 : List Int) (x151 : Int) : Option Bool :=
  (if (decide (0 ≤ x151)) then ((idx x1 x151).bind fun x180 => ((app 8796093022208 x150 ([x180] : List Int)).bind fun x185 => rec4 (x185, isub .i64 x151 1))) else M_L_KraftTurn_j2 F x1 x4 x5 x150)
def M_L_KraftTurn_l4 (F : Nat) (x1 : List Int) (x4 : Int) (x5 : (Int × Int)) : Nat → (List Int × Int) → Option Bool
  | 0 => fun _ => none
  | k + 1 => fun s => M_L_KraftTurn_b4 F x1 x4 x5 (M_L_KraftTurn_l4 F x1 x4 x5 k) s.1 s.2
def M_L_KraftTurn (F : Nat) (x1 : List Int) (x4 : Int) : Option Bool :=
  ((M_kraft_Room F x1).bind fun x5 => ((M_L_kraftBegun F).bind fun x8 => (if (!x8) then some false else (if ((x5.2 : Int) != 0) then some ((x5.1 : Int) == 0) else M_L_KraftTurn_l4 F x1 x4 x5 F (([] : List Int), isub .i64 (x1.length : Int) 1)))))
/-! lampwright bits.places -/
def M_bits_places (_F : Nat) (_x1 : Int) (_x2 : List Int) (_x5 : Int) (_x6 : Int) : Option Unit :=
  some ()
/-! lampwright bits.places$1 -/
def M_bits_places_1_b1 {σ τ : Type} (F : Nat) (yy : σ → Int → Option (σ ⊕ τ)) (x4 : Int) (x6 : Int) (x7 : List Int) (rec1 : (Int × σ) → Option (σ ⊕ τ)) (x22 : Int) (x23 : σ) : Option (σ ⊕ τ) :=
  (if (decide (x22 < x4)) then ((M_bits_At F x6 x7 x22).bind fun x44 => ((yy x23 x44).bind (Sum.elim (fun x45 => rec1 (iadd .i64 x22 1, x45)) (fun x46 => some (.inr x46))))) else some (.inl x23))
def M_bits_places_1_l1 {σ τ : Type} (F : Nat) (yy : σ → Int → Option (σ ⊕ τ)) (x4 : Int) (x6 : Int) (x7 : List Int) : Nat → (Int × σ) → Option (σ ⊕ τ)
  | 0 => fun _ => none
  | k + 1 => fun s => M_bits_places_1_b1 F yy x4 x6 x7 (M_bits_places_1_l1 F yy x4 x6 x7 k) s.1 s.2
def M_bits_places_1 {σ τ : Type} (F : Nat) (yy : σ → Int → Option (σ ⊕ τ)) (x2 : Int) (x4 : Int) (x6 : Int) (x7 : List Int) (s0 : σ) : Option (σ ⊕ τ) :=
  M_bits_places_1_l1 F yy x4 x6 x7 F (x2, s0)
/-! lampwright bits.Both -/
def M_bits_Both_r2 (F : Nat) (x45 : Int) (x48 : List Int) (x53 : Int) : Option ((Int × List Int) ⊕ Empty) :=
  ((M_bits_writer_bit F x45 x48 x53).bind fun x54 => some (.inl (x54.1, x54.2)))
def M_bits_Both (F : Nat) (x1 : Int) (x2 : List Int) (x5 : Int) (x6 : List Int) : Option (Int × List Int) :=
  ((M_bits_own F x1 x2).bind fun x12 => ((M_bits_places F x5 x6 0 x5).bind fun _x37 => ((M_bits_places_1 F (fun ((x45, x48) : (Int × List Int)) (x53 : Int) => M_bits_Both_r2 F x45 x48 x53) 0 x5 x5 x6 (x12.1, x12.2)).bind (Sum.elim (fun ((x45, x48) : (Int × List Int)) => some (x45, x48)) (fun t => t.elim)))))
/-! lampwright bits.Join -/
def M_bits_Join_j2 (F : Nat) (x1 : Int) (x2 : List Int) (x5 : Int) (x6 : List Int) (x18 : Int) : Option (Int × List Int × Int) :=
  (if ((x18 : Int) != 0) then some (0, ([] : List Int), x18) else ((M_bits_Both F x1 x2 x5 x6).bind fun x20 => some (x20.1, x20.2, 0)))
def M_bits_Join_j1 (F : Nat) (x1 : Int) (x2 : List Int) (x5 : Int) (x6 : List Int) (x15 : Int) : Option (Int × List Int × Int) :=
  (if (((x15 : Int) == 0) && (decide (8192 < (iadd .i64 x1 x5)))) then M_bits_Join_j2 F x1 x2 x5 x6 8 else M_bits_Join_j2 F x1 x2 x5 x6 x15)
def M_bits_Join (F : Nat) (x1 : Int) (x2 : List Int) (x5 : Int) (x6 : List Int) : Option (Int × List Int × Int) :=
  ((M_bits_Check F x1 x2).bind fun x12 => (if ((x12 : Int) == 0) then ((M_bits_Check F x5 x6).bind fun x26 => M_bits_Join_j1 F x1 x2 x5 x6 x26) else M_bits_Join_j1 F x1 x2 x5 x6 x12))
/-! lampwright bits.Read -/
def M_bits_Read_j2 (_F : Nat) (x24 : Int) : Option (Int × Bool) :=
  some (x24, true)
def M_bits_Read_b3 (F : Nat) (x1 : Int) (x2 : List Int) (x5 : Int) (x6 : Int) (rec3 : (Int × Int) → Option (Int × Bool)) (x29 : Int) (x30 : Int) : Option (Int × Bool) :=
  (if (decide (x30 < x6)) then ((M_bits_At F x1 x2 (iadd .i64 x5 x30)).bind fun x38 => rec3 (ior .u64 (ishl .u64 x29 1) x38, iadd .i64 x30 1)) else M_bits_Read_j2 F x29)
def M_bits_Read_l3 (F : Nat) (x1 : Int) (x2 : List Int) (x5 : Int) (x6 : Int) : Nat → (Int × Int) → Option (Int × Bool)
  | 0 => fun _ => none
  | k + 1 => fun s => M_bits_Read_b3 F x1 x2 x5 x6 (M_bits_Read_l3 F x1 x2 x5 x6 k) s.1 s.2
def M_bits_Read (F : Nat) (x1 : Int) (x2 : List Int) (x5 : Int) (x6 : Int) : Option (Int × Bool) :=
  (if (decide ((isub .i64 x1 x5) < x6)) then some (0, false) else M_bits_Read_l3 F x1 x2 x5 x6 F (0, 0))
/-! lampwright bits.Get -/
def M_bits_Get_j2 (F : Nat) (x1 : Int) (x2 : List Int) (x5 : Int) (x6 : Int) (x18 : Int) : Option (Int × Int) :=
  (if ((x18 : Int) != 0) then some (0, x18) else ((M_bits_Read F x1 x2 x5 x6).bind fun x20 => (if (!x20.2) then some (0, 7) else some (x20.1, 0))))
def M_bits_Get_j3 (F : Nat) (x1 : Int) (x2 : List Int) (x5 : Int) (x6 : Int) (x8 : Int) (x28 : Bool) : Option (Int × Int) :=
  (if x28 then M_bits_Get_j2 F x1 x2 x5 x6 3 else M_bits_Get_j2 F x1 x2 x5 x6 x8)
def M_bits_Get (F : Nat) (x1 : Int) (x2 : List Int) (x5 : Int) (x6 : Int) : Option (Int × Int) :=
  ((M_bits_Check F x1 x2).bind fun x8 => (if ((x8 : Int) == 0) then M_bits_Get_j3 F x1 x2 x5 x6 x8 ((((decide (x6 < 0)) || (decide (64 < x6))) || (decide (x5 < 0))) || (decide (x1 < x5))) else M_bits_Get_j3 F x1 x2 x5 x6 x8 false))
/-! lampwright bits.Put -/
def M_bits_Put_j4 (F : Nat) (x1 : Int) (x2 : List Int) (x5 : Int) (x6 : Int) (x24 : Int) : Option (Int × List Int × Int) :=
  (if ((x24 : Int) != 0) then some (0, ([] : List Int), x24) else ((M_bits_Add F x1 x2 x5 x6).bind fun x26 => some (x26.1, x26.2, 0)))
def M_bits_Put_j6 (F : Nat) (x1 : Int) (x2 : List Int) (x5 : Int) (x6 : Int) (x9 : Int) (x36 : Bool) : Option (Int × List Int × Int) :=
  (if x36 then M_bits_Put_j4 F x1 x2 x5 x6 3 else (if (decide (8192 < (iadd .i64 x1 x6))) then M_bits_Put_j4 F x1 x2 x5 x6 8 else M_bits_Put_j4 F x1 x2 x5 x6 x9))
def M_bits_Put_j7 (F : Nat) (x1 : Int) (x2 : List Int) (x5 : Int) (x6 : Int) (x9 : Int) (x41 : Bool) : Option (Int × List Int × Int) :=
  M_bits_Put_j6 F x1 x2 x5 x6 x9 x41
def M_bits_Put (F : Nat) (x1 : Int) (x2 : List Int) (x5 : Int) (x6 : Int) : Option (Int × List Int × Int) :=
  ((M_bits_Check F x1 x2).bind fun x9 => (if ((x9 : Int) != 0) then M_bits_Put_j4 F x1 x2 x5 x6 x9 else (if ((decide (x6 < 0)) || (decide (64 < x6))) then M_bits_Put_j6 F x1 x2 x5 x6 x9 true else (if (decide (x6 < 64)) then (chk (decide (0 ≤ x6)) (M_bits_Put_j7 F x1 x2 x5 x6 x9 (((ishr .u64 x5 x6) : Int) != 0))) else M_bits_Put_j7 F x1 x2 x5 x6 x9 false))))
/-! lampwright bits.Cut -/
def M_bits_Cut_r4 (F : Nat) (x51 : Int) (x54 : List Int) (x59 : Int) : Option ((Int × List Int) ⊕ Empty) :=
  ((M_bits_writer_bit F x51 x54 x59).bind fun x60 => some (.inl (x60.1, x60.2)))
def M_bits_Cut_j2 (F : Nat) (x1 : Int) (x2 : List Int) (x5 : Int) (x6 : Int) (x19 : Int) : Option (Int × List Int × Int) :=
  (if ((x19 : Int) != 0) then some (0, ([] : List Int), x19) else ((M_bits_places F x1 x2 x5 x6).bind fun _x43 => ((M_bits_places_1 F (fun ((x51, x54) : (Int × List Int)) (x59 : Int) => M_bits_Cut_r4 F x51 x54 x59) x5 x6 x1 x2 (0, ([] : List Int))).bind (Sum.elim (fun ((x51, x54) : (Int × List Int)) => some (x51, x54, 0)) (fun t => t.elim)))))
def M_bits_Cut_j5 (F : Nat) (x1 : Int) (x2 : List Int) (x5 : Int) (x6 : Int) (x9 : Int) (x68 : Bool) : Option (Int × List Int × Int) :=
  (if x68 then M_bits_Cut_j2 F x1 x2 x5 x6 3 else M_bits_Cut_j2 F x1 x2 x5 x6 x9)
def M_bits_Cut (F : Nat) (x1 : Int) (x2 : List Int) (x5 : Int) (x6 : Int) : Option (Int × List Int × Int) :=
  ((M_bits_Check F x1 x2).bind fun x9 => (if ((x9 : Int) == 0) then M_bits_Cut_j5 F x1 x2 x5 x6 x9 ((((decide (x5 < 0)) || (decide (x1 < x5))) || (decide (x6 < x5))) || (decide (x1 < x6))) else M_bits_Cut_j5 F x1 x2 x5 x6 x9 false))
/-! lampwright lampwrightlaw.bitsBegun -/
def M_L_bitsBegun_j3 (_F : Nat) (x42 : Bool) : Option Bool :=
  some x42
def M_L_bitsBegun_j2 (F : Nat) (x14 : (Int × List Int × Int)) (x18 : (Int × Int)) (x35 : Bool) : Option Bool :=
  (if ((x35 && ((x14.2.2 : Int) == 0)) && ((x18.2 : Int) == 7)) then ((M_bits_Check F 3 ([1] : List Int)).bind fun x45 => M_L_bitsBegun_j3 F ((x45 : Int) == 1)) else M_L_bitsBegun_j3 F false)
def M_L_bitsBegun_j1 (F : Nat) (x1 : (Int × List Int × Int)) (x5 : (Int × List Int × Int)) (x9 : (Int × Int)) (x10 : (Int × List Int × Int)) (x14 : (Int × List Int × Int)) (x18 : (Int × Int)) (x27 : Bool) : Option Bool :=
  (if (((((x27 && ((x5.2.2 : Int) == 0)) && ((x9.1 : Int) == 9)) && ((x9.2 : Int) == 0)) && ((x10.1 : Int) == 13)) && ((x10.2.2 : Int) == 0)) then ((M_R_SameBits F x14.1 x14.2.1 x1.1 x1.2.1).bind fun x46 => M_L_bitsBegun_j2 F x14 x18 x46) else M_L_bitsBegun_j2 F x14 x18 false)
def M_L_bitsBegun (F : Nat)  : Option Bool :=
  ((M_bits_Put F 0 ([] : List Int) 5 3).bind fun x1 => ((M_bits_Put F x1.1 x1.2.1 9 7).bind fun x5 => ((M_bits_Get F x5.1 x5.2.1 3 7).bind fun x9 => ((M_bits_Join F x1.1 x1.2.1 x5.1 x5.2.1).bind fun x10 => ((M_bits_Cut F x5.1 x5.2.1 0 3).bind fun x14 => ((M_bits_Get F x5.1 x5.2.1 9 2).bind fun x18 => ((M_R_SameBits F x1.1 x1.2.1 3 ([160] : List Int)).bind fun x21 => (if (x21 && ((x1.2.2 : Int) == 0)) then ((M_R_SameBits F x5.1 x5.2.1 10 ([162, 64] : List Int)).bind fun x49 => M_L_bitsBegun_j1 F x1 x5 x9 x10 x14 x18 x49) else M_L_bitsBegun_j1 F x1 x5 x9 x10 x14 x18 false))))))))
/-! lampwright lampwrightlaw.KraftBack -/
def M_L_KraftBack_j33 (_F : Nat) (x425 : Int) (x564 : Int) : Option Bool :=
  some ((x564 : Int) == x425)
def M_L_KraftBack_j46 (_F : Nat) (rec42 : (Int × Int) → Option Bool) (x609 : Int) (x610 : Int) (x678 : (Int × Int × Int)) (x693 : Bool) : Option Bool :=
  (if (x693 || (decide (x678.2.1 ≤ x609))) then some false else rec42 (x678.2.1, iadd .i64 x610 1))
def M_L_KraftBack_b42 (F : Nat) (x1 : List Int) (x424 : List Int) (x425 : Int) (x428 : List Int) (rec42 : (Int × Int) → Option Bool) (x609 : Int) (x610 : Int) : Option Bool :=
  (if (decide (x610 < (x424.length : Int))) then ((M_kraft_Sign F x1 x425 x428 x609).bind fun x678 => (if ((x678.2.2 : Int) != 0) then M_L_KraftBack_j46 F rec42 x609 x610 x678 true else ((idx x424 x610).bind fun x696 => M_L_KraftBack_j46 F rec42 x609 x610 x678 ((x678.1 : Int) != x696)))) else M_L_KraftBack_j33 F x425 x609)
def M_L_KraftBack_l42 (F : Nat) (x1 : List Int) (x424 : List Int) (x425 : Int) (x428 : List Int) : Nat → (Int × Int) → Option Bool
  | 0 => fun _ => none
  | k + 1 => fun s => M_L_KraftBack_b42 F x1 x424 x425 x428 (M_L_KraftBack_l42 F x1 x424 x425 x428 k) s.1 s.2
def M_L_KraftBack_j19 (F : Nat) (x1 : List Int) (x424 : List Int) (x425 : Int) (x428 : List Int) : Option Bool :=
  M_L_KraftBack_l42 F x1 x424 x425 x428 F (0, 0)
def M_L_KraftBack_j60 (_F : Nat) (rec57 : (List Int × Int × Int × List Int) → Option Bool) (x837 : Int) (x1033 : List Int) (x1034 : Int) (x1037 : List Int) : Option Bool :=
  rec57 (x1033, iadd .i64 x837 1, x1034, x1037)
def M_L_KraftBack_j62 (F : Nat) (rec57 : (List Int × Int × Int × List Int) → Option Bool) (x836 : List Int) (x837 : Int) (x1038 : Int) (x1064 : Int) (x1065 : Int) (x1068 : List Int) : Option Bool :=
  (if ((x1064 : Int) != 0) then some false else ((app 8796093022208 x836 ([x1038] : List Int)).bind fun x1072 => M_L_KraftBack_j60 F rec57 x837 x1072 x1065 x1068))
def M_L_KraftBack_j61 (F : Nat) (rec57 : (List Int × Int × Int × List Int) → Option Bool) (x7 : (List (Int × List Int) × Int)) (x836 : List Int) (x837 : Int) (x838 : Int) (x841 : List Int) (x1038 : Int) (x1048 : Bool) : Option Bool :=
  (if x1048 then ((idx x7.1 x1038).bind fun x1076 => ((M_bits_Join F x838 x841 x1076.1 x1076.2).bind fun x1082 => M_L_KraftBack_j62 F rec57 x836 x837 x1038 x1082.2.2 x1082.1 x1082.2.1)) else M_L_KraftBack_j60 F rec57 x837 x836 x838 x841)
def M_L_KraftBack_b57 (F : Nat) (x1 : List Int) (x4 : List Int) (x7 : (List (Int × List Int) × Int)) (rec57 : (List Int × Int × Int × List Int) → Option Bool) (x836 : List Int) (x837 : Int) (x838 : Int) (x841 : List Int) : Option Bool :=
  (if ((decide (x837 < (x4.length : Int))) && (decide (x837 < 100))) then ((idx x4 x837).bind fun x1038 => (if ((decide (0 ≤ x1038)) && (decide (x1038 < (x7.1.length : Int)))) then ((idx x7.1 x1038).bind fun x1091 => M_L_KraftBack_j61 F rec57 x7 x836 x837 x838 x841 x1038 (decide (0 < x1091.1))) else M_L_KraftBack_j61 F rec57 x7 x836 x837 x838 x841 x1038 false)) else M_L_KraftBack_j19 F x1 x836 x838 x841)
def M_L_KraftBack_l57 (F : Nat) (x1 : List Int) (x4 : List Int) (x7 : (List (Int × List Int) × Int)) : Nat → (List Int × Int × Int × List Int) → Option Bool
  | 0 => fun _ => none
  | k + 1 => fun s => M_L_KraftBack_b57 F x1 x4 x7 (M_L_KraftBack_l57 F x1 x4 x7 k) s.1 s.2.1 s.2.2.1 s.2.2.2
def M_L_KraftBack_j2 (F : Nat) (x1 : List Int) (x4 : List Int) (x7 : (List (Int × List Int) × Int)) (x19 : Bool) : Option Bool :=
  (if x19 then some false else (if ((x7.2 : Int) != 0) then some (((x7.1.length : Int) : Int) == 0) else M_L_KraftBack_l57 F x1 x4 x7 F (([] : List Int), 0, 0, ([] : List Int))))
def M_L_KraftBack (F : Nat) (x1 : List Int) (x4 : List Int) : Option Bool :=
  ((M_kraft_Codes F x1).bind fun x7 => ((M_L_kraftBegun F).bind fun x16 => (if (!x16) then M_L_KraftBack_j2 F x1 x4 x7 true else ((M_L_bitsBegun F).bind fun x1099 => M_L_KraftBack_j2 F x1 x4 x7 (!x1099)))))
/-! lampwright lampwrightlaw.KraftOrder -/
def M_L_KraftOrder_j7 (_F : Nat) (x99 : (Int × Int)) (x105 : (Int × Int)) (x129 : Bool) : Option Bool :=
  some ((decide (x99.1 < x105.1)) == x129)
def M_L_KraftOrder_j6 (F : Nat) (x1 : List Int) (x4 : Int) (x5 : Int) (x6 : (List (Int × List Int) × Int)) (x67 : Bool) : Option Bool :=
  (if x67 then some true else ((idx x6.1 x4).bind fun x81 => ((idx x6.1 x5).bind fun x87 => (chk (decide (x5.toNat ≠ x4.toNat)) (((idx x6.1 x4).bind fun x94 => ((M_bits_Get F x94.1 x94.2 0 (imin x81.1 x87.1)).bind fun x99 => ((idx x6.1 x5).bind fun x100 => ((M_bits_Get F x100.1 x100.2 0 (imin x81.1 x87.1)).bind fun x105 => (if ((((x99.2 : Int) != 0) || ((x105.2 : Int) != 0)) || ((x99.1 : Int) == x105.1)) then some false else ((idx x1 x4).bind fun x130 => ((idx x1 x5).bind fun x134 => (if (decide (x130 < x134)) then M_L_KraftOrder_j7 F x99 x105 true else ((idx x1 x4).bind fun x139 => ((idx x1 x5).bind fun x143 => (if ((x139 : Int) == x143) then M_L_KraftOrder_j7 F x99 x105 (decide (x4 < x5)) else M_L_KraftOrder_j7 F x99 x105 false))))))))))))))))
def M_L_KraftOrder_j5 (F : Nat) (x1 : List Int) (x4 : Int) (x5 : Int) (x6 : (List (Int × List Int) × Int)) (x60 : Bool) : Option Bool :=
  (if x60 then M_L_KraftOrder_j6 F x1 x4 x5 x6 true else ((idx x6.1 x5).bind fun x150 => M_L_KraftOrder_j6 F x1 x4 x5 x6 ((x150.1 : Int) == 0)))
def M_L_KraftOrder_j2 (F : Nat) (x1 : List Int) (x4 : Int) (x5 : Int) (x6 : (List (Int × List Int) × Int)) (x18 : Bool) : Option Bool :=
  (if x18 then some false else (if (((((((x6.2 : Int) != 0) || (decide (x4 < 0))) || (decide ((x6.1.length : Int) ≤ x4))) || (decide (x5 < 0))) || (decide ((x6.1.length : Int) ≤ x5))) || ((x4 : Int) == x5)) then M_L_KraftOrder_j5 F x1 x4 x5 x6 true else ((idx x6.1 x4).bind fun x155 => M_L_KraftOrder_j5 F x1 x4 x5 x6 ((x155.1 : Int) == 0))))
def M_L_KraftOrder (F : Nat) (x1 : List Int) (x4 : Int) (x5 : Int) : Option Bool :=
  ((M_kraft_Codes F x1).bind fun x6 => ((M_L_kraftBegun F).bind fun x15 => (if (!x15) then M_L_KraftOrder_j2 F x1 x4 x5 x6 true else ((M_L_bitsBegun F).bind fun x161 => M_L_KraftOrder_j2 F x1 x4 x5 x6 (!x161)))))
end Go.Proofs.Ytinpmgkbgcccmaa
