/- What each Go function of this seat computes, in plain terms. -/
import Derived.Test.YtecangnmnkejfaaSx
namespace Go.Proofs.Ytecangnmnkejfaa
open Go SX
/-! lampwright lampwrightref.SameInts -/
def M_R_SameInts_j2 (_F : Nat) : Option Bool :=
  some true
def M_R_SameInts_b3 (F : Nat) (x1 : List Int) (x4 : List Int) (rec3 : Int → Option Bool) (x154 : Int) : Option Bool :=
  (if (decide (x154 < (x1.length : Int))) then ((idx x1 x154).bind fun x218 => ((idx x4 x154).bind fun x222 => (if ((x218 : Int) != x222) then some false else rec3 (iadd .i64 x154 1)))) else M_R_SameInts_j2 F)
def M_R_SameInts_l3 (F : Nat) (x1 : List Int) (x4 : List Int) : Nat → Int → Option Bool
  | 0 => fun _ => none
  | k + 1 => fun s => M_R_SameInts_b3 F x1 x4 (M_R_SameInts_l3 F x1 x4 k) s
def M_R_SameInts (F : Nat) (x1 : List Int) (x4 : List Int) : Option Bool :=
  (if (((x1.length : Int) : Int) != (x4.length : Int)) then some false else M_R_SameInts_l3 F x1 x4 F 0)
/-! lampwright fano.check -/
def M_fano_check_j2 (_F : Nat) : Option Int :=
  some 0
def M_fano_check_b3 (F : Nat) (x1 : List Int) (x4 : Int) (rec3 : (Int × Int) → Option Int) (x92 : Int) (x93 : Int) : Option Int :=
  (if (decide (x93 < (x1.length : Int))) then ((idx x1 x93).bind fun x125 => (if ((decide (x125 < 0)) || (decide (x4 < x125))) then some 3 else (if (decide (x125 < x92)) then some 4 else rec3 (x125, iadd .i64 x93 1)))) else M_fano_check_j2 F)
def M_fano_check_l3 (F : Nat) (x1 : List Int) (x4 : Int) : Nat → (Int × Int) → Option Int
  | 0 => fun _ => none
  | k + 1 => fun s => M_fano_check_b3 F x1 x4 (M_fano_check_l3 F x1 x4 k) s.1 s.2
def M_fano_check (F : Nat) (x1 : List Int) (x4 : Int) : Option Int :=
  (if ((decide (x4 < 0)) || (decide (1048576 < x4))) then some 3 else (if (decide (300 < (x1.length : Int))) then some 2 else M_fano_check_l3 F x1 x4 F (0, 0)))
/-! slices.Clone[[]byte,byte] -/
def M_slices_Clone_byte_byte (_F : Nat) (x1 : List Int) : Option (List Int) :=
  ((app 70368744177664 ([] : List Int) x1).bind fun x8 => some x8)
/-! lampwright bits.own -/
def M_bits_own (F : Nat) (x1 : Int) (x2 : List Int) : Option (Int × List Int) :=
  ((M_slices_Clone_byte_byte F x2).bind fun x10 => some (x1, x10))
/-! (*lampwright bits.writer).bit -/
def M_bits_writer_bit_j1 (_F : Nat) (x2 : Int) (x6 : Int) (x15 : List Int) : Option (Int × List Int) :=
  ((idx x15 (iquo .i64 x2 8)).bind fun x30 => (chk (decide (0 ≤ (irem x2 8))) (((idx x15 (iquo .i64 x2 8)).bind fun _x36 => (lett (x15.set (iquo .i64 x2 8).toNat (ior .u8 x30 (ishr .u8 (iconv .u8 (ishl .u64 x6 7)) (irem x2 8)))) fun x41 => some (iadd .i64 x2 1, x41))))))
def M_bits_writer_bit (F : Nat) (x2 : Int) (x3 : List Int) (x6 : Int) : Option (Int × List Int) :=
  (if (((irem x2 8) : Int) == 0) then ((app 70368744177664 x3 ([0] : List Int)).bind fun x46 => M_bits_writer_bit_j1 F x2 x6 x46) else M_bits_writer_bit_j1 F x2 x6 x3)
/-! (*lampwright bits.writer).number -/
def M_bits_writer_number_b1 (F : Nat) (x6 : Int) (rec1 : (Int × Int × List Int) → Option (Int × List Int)) (x18 : Int) (x19 : Int) (x22 : List Int) : Option (Int × List Int) :=
  (if (decide (0 ≤ x18)) then (chk (decide (0 ≤ x18)) (((M_bits_writer_bit F x19 x22 (iand .u64 (ishr .u64 x6 x18) 1)).bind fun x40 => rec1 (isub .i64 x18 1, x40.1, x40.2)))) else some (x19, x22))
def M_bits_writer_number_l1 (F : Nat) (x6 : Int) : Nat → (Int × Int × List Int) → Option (Int × List Int)
  | 0 => fun _ => none
  | k + 1 => fun s => M_bits_writer_number_b1 F x6 (M_bits_writer_number_l1 F x6 k) s.1 s.2.1 s.2.2
def M_bits_writer_number (F : Nat) (x2 : Int) (x3 : List Int) (x6 : Int) (x7 : Int) : Option (Int × List Int) :=
  M_bits_writer_number_l1 F x6 F (isub .i64 x7 1, x2, x3)
/-! lampwright bits.Add -/
def M_bits_Add (F : Nat) (x1 : Int) (x2 : List Int) (x5 : Int) (x6 : Int) : Option (Int × List Int) :=
  ((M_bits_own F x1 x2).bind fun x9 => ((M_bits_writer_number F x9.1 x9.2 x5 x6).bind fun x13 => some (x13.1, x13.2)))
/-! lampwright fano.width -/
def M_fano_width_j8 (_F : Nat) (x35 : Int) : Option Int :=
  some x35
def M_fano_width_j15 (F : Nat) (rec13 : Int → Option Int) (x46 : Int) (x65 : Bool) : Option Int :=
  (if x65 then rec13 (iadd .i64 x46 1) else M_fano_width_j8 F x46)
def M_fano_width_b13 (F : Nat) (x1 : Int) (x2 : Int) (rec13 : Int → Option Int) (x46 : Int) : Option Int :=
  (if (decide (0 < x1)) then (chk (decide (0 ≤ (iadd .i64 x46 1))) (M_fano_width_j15 F rec13 x46 (decide ((ishl .i64 x1 (iadd .i64 x46 1)) ≤ (iadd .i64 x2 1))))) else M_fano_width_j15 F rec13 x46 false)
def M_fano_width_l13 (F : Nat) (x1 : Int) (x2 : Int) : Nat → Int → Option Int
  | 0 => fun _ => none
  | k + 1 => fun s => M_fano_width_b13 F x1 x2 (M_fano_width_l13 F x1 x2 k) s
def M_fano_width (F : Nat) (x1 : Int) (x2 : Int) : Option Int :=
  M_fano_width_l13 F x1 x2 F 0
/-! (*lampwright fano.writer).rise -/
def M_fano_writer_rise_b1 (F : Nat) (x7 : Int) (rec1 : (Int × List Int × Int) → Option (Int × List Int × Int)) (x16 : Int) (x19 : List Int) (x20 : Int) : Option (Int × List Int × Int) :=
  (if (decide (x20 < x7)) then ((M_bits_Add F x16 x19 0 1).bind fun x34 => rec1 (x34.1, x34.2, iadd .i64 x20 1)) else some (x16, x19, x20))
def M_fano_writer_rise_l1 (F : Nat) (x7 : Int) : Nat → (Int × List Int × Int) → Option (Int × List Int × Int)
  | 0 => fun _ => none
  | k + 1 => fun s => M_fano_writer_rise_b1 F x7 (M_fano_writer_rise_l1 F x7 k) s.1 s.2.1 s.2.2
def M_fano_writer_rise (F : Nat) (x2 : Int) (x3 : List Int) (x6 : Int) (x7 : Int) : Option (Int × List Int × Int) :=
  M_fano_writer_rise_l1 F x7 F (x2, x3, x6)
/-! lampwright fano.Raw -/
def M_fano_Raw_j2 (F : Nat) (x1 : List Int) (x4 : Int) (x6 : Int) (x174 : Int) (x177 : List Int) (x178 : Int) (x179 : Int) (x182 : List Int) : Option (Int × Int × Int × Int × List Int × Int × List Int × Bool) :=
  ((M_fano_writer_rise F x174 x177 x178 (iadd .i64 (ishr .i64 x4 x6) 1)).bind fun x183 => some ((x1.length : Int), x4, x6, x179, x182, x183.1, x183.2.1, true))
def M_fano_Raw_b3 (F : Nat) (x1 : List Int) (x4 : Int) (x6 : Int) (rec3 : (Int × Int × List Int × Int × Int × List Int) → Option (Int × Int × Int × Int × List Int × Int × List Int × Bool)) (x239 : Int) (x240 : Int) (x243 : List Int) (x244 : Int) (x245 : Int) (x248 : List Int) : Option (Int × Int × Int × Int × List Int × Int × List Int × Bool) :=
  (if (decide (x239 < (x1.length : Int))) then ((idx x1 x239).bind fun x319 => (chk (decide (0 ≤ x6)) (((M_bits_Add F x245 x248 (iconv .u64 (iand .i64 x319 (isub .i64 (ishl .i64 1 x6) 1))) x6).bind fun x331 => (chk (decide (0 ≤ x6)) (((M_fano_writer_rise F x240 x243 x244 (ishr .i64 x319 x6)).bind fun x335 => ((M_bits_Add F x335.1 x335.2.1 1 1).bind fun x338 => rec3 (iadd .i64 x239 1, x338.1, x338.2, x335.2.2, x331.1, x331.2))))))))) else M_fano_Raw_j2 F x1 x4 x6 x240 x243 x244 x245 x248)
def M_fano_Raw_l3 (F : Nat) (x1 : List Int) (x4 : Int) (x6 : Int) : Nat → (Int × Int × List Int × Int × Int × List Int) → Option (Int × Int × Int × Int × List Int × Int × List Int × Bool)
  | 0 => fun _ => none
  | k + 1 => fun s => M_fano_Raw_b3 F x1 x4 x6 (M_fano_Raw_l3 F x1 x4 x6 k) s.1 s.2.1 s.2.2.1 s.2.2.2.1 s.2.2.2.2.1 s.2.2.2.2.2
def M_fano_Raw (F : Nat) (x1 : List Int) (x4 : Int) : Option (Int × Int × Int × Int × List Int × Int × List Int × Bool) :=
  ((M_fano_width F (x1.length : Int) x4).bind fun x6 => (chk (decide (0 ≤ x6)) ((if ((decide (8192 < (imul .i64 (x1.length : Int) x6))) || (decide (8192 < (iadd .i64 (x1.length : Int) (iadd .i64 (ishr .i64 x4 x6) 1))))) then some (0, 0, 0, 0, ([] : List Int), 0, ([] : List Int), false) else M_fano_Raw_l3 F x1 x4 x6 F (0, 0, ([] : List Int), 0, 0, ([] : List Int))))))
/-! lampwright fano.Write -/
def M_fano_Write (F : Nat) (x1 : List Int) (x4 : Int) : Option (Int × Int × Int × Int × List Int × Int × List Int × Int) :=
  ((M_fano_check F x1 x4).bind fun x8 => (if ((x8 : Int) != 0) then some (0, 0, 0, 0, ([] : List Int), 0, ([] : List Int), x8) else ((M_fano_Raw F x1 x4).bind fun x9 => (if (!x9.2.2.2.2.2.2.2) then some (0, 0, 0, 0, ([] : List Int), 0, ([] : List Int), 8) else some (x9.1, x9.2.1, x9.2.2.1, x9.2.2.2.1, x9.2.2.2.2.1, x9.2.2.2.2.2.1, x9.2.2.2.2.2.2.1, 0)))))
/-! lampwright bits.At -/
def M_bits_At (_F : Nat) (_x1 : Int) (x2 : List Int) (x5 : Int) : Option Int :=
  ((idx x2 (iquo .i64 x5 8)).bind fun x7 => (chk (decide (0 ≤ (isub .i64 7 (irem x5 8)))) ((lett (iand .u64 (iconv .u64 (ishr .u8 x7 (isub .i64 7 (irem x5 8)))) 1) fun x11 => some x11))))
/-! lampwright bits.Read -/
def M_bits_Read_j2 (_F : Nat) (x24 : Int) : Option (Int × Bool) :=
  some (x24, true)
def M_bits_Read_b3 (F : Nat) (x1 : Int) (x2 : List Int) (x5 : Int) (x6 : Int) (rec3 : (Int × Int) → Option (Int × Bool)) (x29 : Int) (x30 : Int) : Option (Int × Bool) :=
  (if (decide (x30 < x6)) then ((M_bits_At F x1 x2 (iadd .i64 x5 x30)).bind fun x38 => rec3 (ior .u64 (ishl .u64 x29 1) x38, iadd .i64 x30 1)) else M_bits_Read_j2 F x29)
def M_bits_Read_l3 (F : Nat) (x1 : Int) (x2 : List Int) (x5 : Int) (x6 : Int) : Nat → (Int × Int) → Option (Int × Bool)
  | 0 => fun _ => none
  | k + 1 => fun s => M_bits_Read_b3 F x1 x2 x5 x6 (M_bits_Read_l3 F x1 x2 x5 x6 k) s.1 s.2
def M_bits_Read (F : Nat) (x1 : Int) (x2 : List Int) (x5 : Int) (x6 : Int) : Option (Int × Bool) :=
  (if (decide ((isub .i64 x1 x5) < x6)) then some (0, false) else M_bits_Read_l3 F x1 x2 x5 x6 F (0, 0))
/-! lampwright rank.places -/
def M_rank_places (_F : Nat) (_x1 : Int) (_x2 : List Int) (_x5 : Int) : Option Unit :=
  some ()
/-! lampwright rank.places$1 -/
def M_rank_places_1_j4 {σ τ : Type} (_F : Nat) (_yy : σ → Int → Option (σ ⊕ τ)) (rec3 : (Int × σ) → Option (σ ⊕ τ)) (x36 : Int) (x81 : σ) : Option (σ ⊕ τ) :=
  rec3 (iadd .i64 x36 1, x81)
def M_rank_places_1_b3 {σ τ : Type} (F : Nat) (yy : σ → Int → Option (σ ⊕ τ)) (x2 : Int) (x3 : List Int) (x7 : Int) (rec3 : (Int × σ) → Option (σ ⊕ τ)) (x36 : Int) (x37 : σ) : Option (σ ⊕ τ) :=
  (if (decide (x36 < x2)) then ((M_bits_At F x2 x3 x36).bind fun x89 => (if ((x89 : Int) == x7) then ((yy x37 x36).bind (Sum.elim (fun x91 => M_rank_places_1_j4 F yy rec3 x36 x91) (fun x92 => some (.inr x92)))) else M_rank_places_1_j4 F yy rec3 x36 x37)) else some (.inl x37))
def M_rank_places_1_l3 {σ τ : Type} (F : Nat) (yy : σ → Int → Option (σ ⊕ τ)) (x2 : Int) (x3 : List Int) (x7 : Int) : Nat → (Int × σ) → Option (σ ⊕ τ)
  | 0 => fun _ => none
  | k + 1 => fun s => M_rank_places_1_b3 F yy x2 x3 x7 (M_rank_places_1_l3 F yy x2 x3 x7 k) s.1 s.2
def M_rank_places_1 {σ τ : Type} (F : Nat) (yy : σ → Int → Option (σ ⊕ τ)) (x2 : Int) (x3 : List Int) (x7 : Int) (s0 : σ) : Option (σ ⊕ τ) :=
  M_rank_places_1_l3 F yy x2 x3 x7 F (0, s0)
/-! lampwright rank.Place -/
def M_rank_Place_r2 (_F : Nat) (x31 : Int) (x37 : Int) : Option (Int ⊕ (Int × Int)) :=
  (if ((x31 : Int) == 0) then some (.inr (x37, x31)) else some (.inl (isub .i64 x31 1)))
def M_rank_Place (F : Nat) (x1 : Int) (x2 : List Int) (x5 : Int) (x6 : Int) : Option Int :=
  ((M_rank_places F x1 x2 x5).bind fun _x25 => ((M_rank_places_1 F (fun (x31 : Int) (x37 : Int) => M_rank_Place_r2 F x31 x37) x1 x2 x5 x6).bind (Sum.elim (fun (_x31 : Int) => some (-1)) (fun ((x35, _x36) : (Int × Int)) => some x35))))
/-! lampwright fano.at -/
def M_fano_at (F : Nat) (_x1 : Int) (_x2 : Int) (x3 : Int) (x4 : Int) (x5 : List Int) (x8 : Int) (x9 : List Int) (x12 : Int) : Option Int :=
  ((M_rank_Place F x8 x9 1 x12).bind fun x14 => ((M_bits_Read F x4 x5 (imul .i64 x12 x3) x3).bind fun x15 => (chk (decide (0 ≤ x3)) ((lett (ior .i64 (ishl .i64 (isub .i64 x14 x12) x3) (iconv .i64 x15.1)) fun x17 => some x17)))))
/-! lampwright bits.Check -/
def M_bits_Check_j2 (_F : Nat) (x36 : Bool) : Option Int :=
  (if x36 then some 1 else some 0)
def M_bits_Check (F : Nat) (x1 : Int) (x2 : List Int) : Option Int :=
  (if ((decide (x1 < 0)) || (decide (8192 < x1))) then some 3 else (if (((x2.length : Int) : Int) != (iquo .i64 (iadd .i64 x1 7) 8)) then some 1 else (if (((irem x1 8) : Int) != 0) then ((idx x2 (isub .i64 (x2.length : Int) 1)).bind fun x39 => (chk (decide (0 ≤ (irem x1 8))) (M_bits_Check_j2 F (((ishl .u8 x39 (irem x1 8)) : Int) != 0)))) else M_bits_Check_j2 F false)))
/-! slices.Equal[[]byte,byte] -/
def M_slices_Equal_byte_byte_j2 (_F : Nat) : Option Bool :=
  some true
def M_slices_Equal_byte_byte_b3 (F : Nat) (x1 : List Int) (x4 : List Int) (rec3 : Int → Option Bool) (x154 : Int) : Option Bool :=
  (if (decide (x154 < (x1.length : Int))) then ((idx x1 x154).bind fun x218 => ((idx x4 x154).bind fun x222 => (if ((x218 : Int) != x222) then some false else rec3 (iadd .i64 x154 1)))) else M_slices_Equal_byte_byte_j2 F)
def M_slices_Equal_byte_byte_l3 (F : Nat) (x1 : List Int) (x4 : List Int) : Nat → Int → Option Bool
  | 0 => fun _ => none
  | k + 1 => fun s => M_slices_Equal_byte_byte_b3 F x1 x4 (M_slices_Equal_byte_byte_l3 F x1 x4 k) s
def M_slices_Equal_byte_byte (F : Nat) (x1 : List Int) (x4 : List Int) : Option Bool :=
  (if (((x1.length : Int) : Int) != (x4.length : Int)) then some false else M_slices_Equal_byte_byte_l3 F x1 x4 F 0)
/-! lampwright fano.same -/
def M_fano_same_j1 (_F : Nat) (x13 : Bool) : Option Bool :=
  some x13
def M_fano_same (F : Nat) (x1 : Int) (x2 : List Int) (x5 : Int) (x6 : List Int) : Option Bool :=
  (if ((x1 : Int) == x5) then ((M_slices_Equal_byte_byte F x2 x6).bind fun x14 => M_fano_same_j1 F x14) else M_fano_same_j1 F false)
/-! lampwright fano.numbers -/
def M_fano_numbers_j8 (_F : Nat) (x99 : List Int) (x129 : Bool) : Option (List Int × Int) :=
  (if x129 then some (([] : List Int), 1) else some (x99, 0))
def M_fano_numbers_j7 (F : Nat) (x8 : Int) (x9 : List Int) (x99 : List Int) (x118 : (Int × Int × Int × Int × List Int × Int × List Int × Bool)) (x126 : Bool) : Option (List Int × Int) :=
  (if x126 then M_fano_numbers_j8 F x99 true else ((M_fano_same F x118.2.2.2.2.2.1 x118.2.2.2.2.2.2.1 x8 x9).bind fun x131 => M_fano_numbers_j8 F x99 (!x131)))
def M_fano_numbers_j4 (F : Nat) (x2 : Int) (x4 : Int) (x5 : List Int) (x8 : Int) (x9 : List Int) (x99 : List Int) : Option (List Int × Int) :=
  ((M_fano_check F x99 x2).bind fun x102 => (if ((x102 : Int) != 0) then some (([] : List Int), 1) else ((M_fano_Raw F x99 x2).bind fun x118 => (if (!x118.2.2.2.2.2.2.2) then M_fano_numbers_j7 F x8 x9 x99 x118 true else ((M_fano_same F x118.2.2.2.1 x118.2.2.2.2.1 x4 x5).bind fun x132 => M_fano_numbers_j7 F x8 x9 x99 x118 (!x132))))))
def M_fano_numbers_b9 (F : Nat) (x1 : Int) (x2 : Int) (x3 : Int) (x4 : Int) (x5 : List Int) (x8 : Int) (x9 : List Int) (rec9 : (List Int × Int) → Option (List Int × Int)) (x150 : List Int) (x151 : Int) : Option (List Int × Int) :=
  (if (decide (x151 < x1)) then ((M_fano_at F x1 x2 x3 x4 x5 x8 x9 x151).bind fun x174 => ((app 8796093022208 x150 ([x174] : List Int)).bind fun x177 => rec9 (x177, iadd .i64 x151 1))) else M_fano_numbers_j4 F x2 x4 x5 x8 x9 x150)
def M_fano_numbers_l9 (F : Nat) (x1 : Int) (x2 : Int) (x3 : Int) (x4 : Int) (x5 : List Int) (x8 : Int) (x9 : List Int) : Nat → (List Int × Int) → Option (List Int × Int)
  | 0 => fun _ => none
  | k + 1 => fun s => M_fano_numbers_b9 F x1 x2 x3 x4 x5 x8 x9 (M_fano_numbers_l9 F x1 x2 x3 x4 x5 x8 x9 k) s.1 s.2
def M_fano_numbers_j2 (F : Nat) (x1 : Int) (x2 : Int) (x3 : Int) (x4 : Int) (x5 : List Int) (x8 : Int) (x9 : List Int) (x49 : Bool) : Option (List Int × Int) :=
  (if x49 then some (([] : List Int), 1) else M_fano_numbers_l9 F x1 x2 x3 x4 x5 x8 x9 F (([] : List Int), 0))
def M_fano_numbers (F : Nat) (x1 : Int) (x2 : Int) (x3 : Int) (x4 : Int) (x5 : List Int) (x8 : Int) (x9 : List Int) : Option (List Int × Int) :=
  (if ((((decide (x1 < 0)) || (decide (300 < x1))) || (decide (x2 < 0))) || (decide (1048576 < x2))) then some (([] : List Int), 3) else ((M_fano_width F x1 x2).bind fun x182 => (if ((x3 : Int) != x182) then M_fano_numbers_j2 F x1 x2 x3 x4 x5 x8 x9 true else ((M_bits_Check F x4 x5).bind fun x184 => (if ((x184 : Int) != 0) then M_fano_numbers_j2 F x1 x2 x3 x4 x5 x8 x9 true else ((M_bits_Check F x8 x9).bind fun x186 => (if ((x186 : Int) != 0) then M_fano_numbers_j2 F x1 x2 x3 x4 x5 x8 x9 true else (if ((x4 : Int) != (imul .i64 x1 x3)) then M_fano_numbers_j2 F x1 x2 x3 x4 x5 x8 x9 true else ((M_rank_Place F x8 x9 1 (isub .i64 x1 1)).bind fun x189 => (if (decide (x189 < 0)) then M_fano_numbers_j2 F x1 x2 x3 x4 x5 x8 x9 (decide (0 < x1)) else M_fano_numbers_j2 F x1 x2 x3 x4 x5 x8 x9 false))))))))))
/-! lampwright fano.Read -/
def M_fano_Read (F : Nat) (x1 : Int) (x2 : Int) (x3 : Int) (x4 : Int) (x5 : List Int) (x8 : Int) (x9 : List Int) : Option (List Int × Int) :=
  ((M_fano_numbers F x1 x2 x3 x4 x5 x8 x9).bind fun x13 => some (x13.1, x13.2))
/-! lampwright fano.Check -/
def M_fano_Check (F : Nat) (x1 : Int) (x2 : Int) (x3 : Int) (x4 : Int) (x5 : List Int) (x8 : Int) (x9 : List Int) : Option Int :=
  ((M_fano_numbers F x1 x2 x3 x4 x5 x8 x9).bind fun x13 => some x13.2)
/-! lampwright fano.Get -/
def M_fano_Get_j2 (F : Nat) (x1 : Int) (x2 : Int) (x3 : Int) (x4 : Int) (x5 : List Int) (x8 : Int) (x9 : List Int) (x12 : Int) (x20 : Int) : Option (Int × Int) :=
  (if ((x20 : Int) != 0) then some (0, x20) else ((M_fano_at F x1 x2 x3 x4 x5 x8 x9 x12).bind fun x22 => some (x22, 0)))
def M_fano_Get_j3 (F : Nat) (x1 : Int) (x2 : Int) (x3 : Int) (x4 : Int) (x5 : List Int) (x8 : Int) (x9 : List Int) (x12 : Int) (x14 : Int) (x26 : Bool) : Option (Int × Int) :=
  (if x26 then M_fano_Get_j2 F x1 x2 x3 x4 x5 x8 x9 x12 3 else M_fano_Get_j2 F x1 x2 x3 x4 x5 x8 x9 x12 x14)
def M_fano_Get (F : Nat) (x1 : Int) (x2 : Int) (x3 : Int) (x4 : Int) (x5 : List Int) (x8 : Int) (x9 : List Int) (x12 : Int) : Option (Int × Int) :=
  ((M_fano_Check F x1 x2 x3 x4 x5 x8 x9).bind fun x14 => (if ((x14 : Int) == 0) then M_fano_Get_j3 F x1 x2 x3 x4 x5 x8 x9 x12 x14 ((decide (x12 < 0)) || (decide (x1 ≤ x12))) else M_fano_Get_j3 F x1 x2 x3 x4 x5 x8 x9 x12 x14 false))
/-! cmp.isNaN[int] -/
def M_cmp_isNaN_int (_F : Nat) (x1 : Int) : Option Bool :=
  some ((x1 : Int) != x1)
/-! cmp.Less[int] -/
def M_cmp_Less_int_j1 (_F : Nat) (x1 : Int) (x2 : Int) (x6 : Bool) : Option Bool :=
  some (x6 || (decide (x1 < x2)))
def M_cmp_Less_int (F : Nat) (x1 : Int) (x2 : Int) : Option Bool :=
  ((M_cmp_isNaN_int F x1).bind fun x3 => (if x3 then ((M_cmp_isNaN_int F x2).bind fun x8 => M_cmp_Less_int_j1 F x1 x2 (!x8)) else M_cmp_Less_int_j1 F x1 x2 false))
/-! slices.isNaN[int] -/
def M_slices_isNaN_int (_F : Nat) (x1 : Int) : Option Bool :=
  some ((x1 : Int) != x1)
/-! slices.BinarySearch[[]int,int] -/
def M_slices_BinarySearch_int_int_j6 (_F : Nat) (x32 : Int) (x55 : Bool) : Option (Int × Bool) :=
  some (x32, x55)
def M_slices_BinarySearch_int_int_j8 (F : Nat) (x32 : Int) (x68 : Bool) : Option (Int × Bool) :=
  M_slices_BinarySearch_int_int_j6 F x32 x68
def M_slices_BinarySearch_int_int_j9 (F : Nat) (x32 : Int) (x75 : Bool) : Option (Int × Bool) :=
  M_slices_BinarySearch_int_int_j8 F x32 x75
def M_slices_BinarySearch_int_int_j2 (F : Nat) (x1 : List Int) (x4 : Int) (x32 : Int) : Option (Int × Bool) :=
  (if (decide (x32 < (x1.length : Int))) then ((idx x1 x32).bind fun x56 => (if ((x56 : Int) == x4) then M_slices_BinarySearch_int_int_j8 F x32 true else ((idx x1 x32).bind fun x69 => ((M_slices_isNaN_int F x69).bind fun x72 => (if x72 then ((M_slices_isNaN_int F x4).bind fun x76 => M_slices_BinarySearch_int_int_j9 F x32 x76) else M_slices_BinarySearch_int_int_j9 F x32 false))))) else M_slices_BinarySearch_int_int_j6 F x32 false)
def M_slices_BinarySearch_int_int_b10 (F : Nat) (x1 : List Int) (x4 : Int) (rec10 : (Int × Int) → Option (Int × Bool)) (x85 : Int) (x86 : Int) : Option (Int × Bool) :=
  (if (decide (x85 < x86)) then (lett (iconv .i64 (ishr .u64 (iconv .u64 (iadd .i64 x85 x86)) 1)) fun x97 => ((idx x1 x97).bind fun x98 => ((M_cmp_Less_int F x98 x4).bind fun x101 => (if x101 then rec10 (iadd .i64 x97 1, x86) else rec10 (x85, x97))))) else M_slices_BinarySearch_int_int_j2 F x1 x4 x85)
def M_slices_BinarySearch_int_int_l10 (F : Nat) (x1 : List Int) (x4 : Int) : Nat → (Int × Int) → Option (Int × Bool)
  | 0 => fun _ => none
  | k + 1 => fun s => M_slices_BinarySearch_int_int_b10 F x1 x4 (M_slices_BinarySearch_int_int_l10 F x1 x4 k) s.1 s.2
def M_slices_BinarySearch_int_int (F : Nat) (x1 : List Int) (x4 : Int) : Option (Int × Bool) :=
  M_slices_BinarySearch_int_int_l10 F x1 x4 F (0, (x1.length : Int))
/-! lampwright fano.Next -/
def M_fano_Next (F : Nat) (x1 : Int) (x2 : Int) (x3 : Int) (x4 : Int) (x5 : List Int) (x8 : Int) (x9 : List Int) (x12 : Int) : Option (Int × Int × Int) :=
  ((M_fano_numbers F x1 x2 x3 x4 x5 x8 x9).bind fun x14 => (if ((x14.2 : Int) != 0) then some (0, 0, x14.2) else ((M_slices_BinarySearch_int_int F x14.1 x12).bind fun x18 => (if ((x18.1 : Int) == (x14.1.length : Int)) then some (0, 0, 5) else ((idx x14.1 x18.1).bind fun x24 => some (x18.1, x24, 0))))))
/-! lampwright lampwrightref.PackBits -/
def M_R_PackBits_j59 (_F : Nat) (x1 : List Int) (x497 : List Int) : Option (Int × List Int) :=
  some ((x1.length : Int), x497)
def M_R_PackBits_j108 (_F : Nat) (rec98 : (Int × List Int) → Option (Int × List Int)) (x660 : Int) (x907 : List Int) : Option (Int × List Int) :=
  rec98 (iadd .i64 x660 8, x907)
def M_R_PackBits_j113 (F : Nat) (rec98 : (Int × List Int) → Option (Int × List Int)) (x660 : Int) (x663 : List Int) (x944 : Int) : Option (Int × List Int) :=
  ((app 70368744177664 x663 ([iconv .u8 x944] : List Int)).bind fun x947 => M_R_PackBits_j108 F rec98 x660 x947)
def M_R_PackBits_j117 (_F : Nat) (rec116 : (Int × Int) → Option (Int × List Int)) (x962 : Int) (x980 : Int) : Option (Int × List Int) :=
  rec116 (x980, iadd .i64 x962 1)
def M_R_PackBits_b116 (F : Nat) (rec98 : (Int × List Int) → Option (Int × List Int)) (x1 : List Int) (x660 : Int) (x663 : List Int) (rec116 : (Int × Int) → Option (Int × List Int)) (x961 : Int) (x962 : Int) : Option (Int × List Int) :=
  (if (decide (x962 < 8)) then (if (decide ((iadd .i64 x660 x962) < (x1.length : Int))) then ((idx x1 (iadd .i64 x660 x962)).bind fun x981 => M_R_PackBits_j117 F rec116 x962 (iadd .i64 (imul .i64 2 x961) x981)) else M_R_PackBits_j117 F rec116 x962 (imul .i64 2 x961)) else M_R_PackBits_j113 F rec98 x660 x663 x961)
def M_R_PackBits_l116 (F : Nat) (rec98 : (Int × List Int) → Option (Int × List Int)) (x1 : List Int) (x660 : Int) (x663 : List Int) : Nat → (Int × Int) → Option (Int × List Int)
  | 0 => fun _ => none
  | k + 1 => fun s => M_R_PackBits_b116 F rec98 x1 x660 x663 (M_R_PackBits_l116 F rec98 x1 x660 x663 k) s.1 s.2
def M_R_PackBits_b98 (F : Nat) (x1 : List Int) (rec98 : (Int × List Int) → Option (Int × List Int)) (x660 : Int) (x663 : List Int) : Option (Int × List Int) :=
  (if (decide (x660 < (x1.length : Int))) then M_R_PackBits_l116 F rec98 x1 x660 x663 F (0, 0) else M_R_PackBits_j59 F x1 x663)
def M_R_PackBits_l98 (F : Nat) (x1 : List Int) : Nat → (Int × List Int) → Option (Int × List Int)
  | 0 => fun _ => none
  | k + 1 => fun s => M_R_PackBits_b98 F x1 (M_R_PackBits_l98 F x1 k) s.1 s.2
def M_R_PackBits (F : Nat) (x1 : List Int) : Option (Int × List Int) :=
  M_R_PackBits_l98 F x1 F (0, ([] : List Int))
/-! lampwright lampwrightref.between -/
def M_R_between (_F : Nat) (x1 : Int) (x2 : Int) (x3 : Int) : Option Bool :=
  some ((decide (x2 ≤ x1)) && (decide (x1 ≤ x3)))
/-! lampwright lampwrightref.FanoErr -/
def M_R_FanoErr_j8 (_F : Nat) : Option Int :=
  some 0
def M_R_FanoErr_j15 (_F : Nat) (rec13 : Int → Option Int) (x259 : Int) (x372 : Bool) : Option Int :=
  (if x372 then some 4 else rec13 (iadd .i64 x259 1))
def M_R_FanoErr_b13 (F : Nat) (x1 : List Int) (x4 : Int) (rec13 : Int → Option Int) (x259 : Int) : Option Int :=
  (if (decide (x259 < (x1.length : Int))) then ((idx x1 x259).bind fun x359 => ((M_R_between F x359 0 x4).bind fun x362 => (if (!x362) then some 3 else (if (decide (0 < x259)) then ((idx x1 x259).bind fun x375 => ((idx x1 (isub .i64 x259 1)).bind fun x379 => M_R_FanoErr_j15 F rec13 x259 (decide (x375 < x379)))) else M_R_FanoErr_j15 F rec13 x259 false)))) else M_R_FanoErr_j8 F)
def M_R_FanoErr_l13 (F : Nat) (x1 : List Int) (x4 : Int) : Nat → Int → Option Int
  | 0 => fun _ => none
  | k + 1 => fun s => M_R_FanoErr_b13 F x1 x4 (M_R_FanoErr_l13 F x1 x4 k) s
def M_R_FanoErr (F : Nat) (x1 : List Int) (x4 : Int) : Option Int :=
  ((M_R_between F x4 0 1048576).bind fun x7 => (if (!x7) then some 3 else (if (decide (300 < (x1.length : Int))) then some 2 else M_R_FanoErr_l13 F x1 x4 F 0)))
/-! lampwright lampwrightref.FanoWidth -/
def M_R_FanoWidth_j2 (_F : Nat) (x13 : Int) : Option Int :=
  some x13
def M_R_FanoWidth_b3 (F : Nat) (x1 : Int) (x2 : Int) (rec3 : (Int × Int) → Option Int) (x16 : Int) (x17 : Int) : Option Int :=
  (if (decide ((imul .i64 x1 x17) ≤ (iadd .i64 x2 1))) then rec3 (iadd .i64 x16 1, imul .i64 2 x17) else M_R_FanoWidth_j2 F x16)
def M_R_FanoWidth_l3 (F : Nat) (x1 : Int) (x2 : Int) : Nat → (Int × Int) → Option Int
  | 0 => fun _ => none
  | k + 1 => fun s => M_R_FanoWidth_b3 F x1 x2 (M_R_FanoWidth_l3 F x1 x2 k) s.1 s.2
def M_R_FanoWidth (F : Nat) (x1 : Int) (x2 : Int) : Option Int :=
  (if ((x1 : Int) == 0) then some 0 else M_R_FanoWidth_l3 F x1 x2 F (0, 2))
/-! lampwright lampwrightref.NumBits -/
def M_R_NumBits_j2 (_F : Nat) (x56 : List Int) : Option (List Int) :=
  some x56
def M_R_NumBits_b3 (F : Nat) (rec3 : (Int × List Int × Int) → Option (List Int)) (x71 : Int) (x74 : List Int) (x75 : Int) : Option (List Int) :=
  (if (decide (0 ≤ x75)) then ((idx x74 x75).bind fun _x98 => (lett (x74.set x75.toNat (iconv .i64 (irem x71 2))) fun x101 => rec3 (iquo .u64 x71 2, x101, isub .i64 x75 1))) else M_R_NumBits_j2 F x74)
def M_R_NumBits_l3 (F : Nat) : Nat → (Int × List Int × Int) → Option (List Int)
  | 0 => fun _ => none
  | k + 1 => fun s => M_R_NumBits_b3 F (M_R_NumBits_l3 F k) s.1 s.2.1 s.2.2
def M_R_NumBits (F : Nat) (x1 : Int) (x2 : Int) : Option (List Int) :=
  ((mk 17592186044416 (0 : Int) x2).bind fun x3 => M_R_NumBits_l3 F F (x1, x3, isub .i64 x2 1))
/-! lampwright lampwrightref.FanoWrite -/
def M_R_FanoWrite_j65 (F : Nat) (x1 : List Int) (x4 : Int) (x8 : Int) (x100 : List Int) (x1137 : List Int) : Option (Int × Int × Int × Int × List Int × Int × List Int × Int) :=
  ((M_R_PackBits F x100).bind fun x1138 => ((M_R_PackBits F x1137).bind fun x1141 => some ((x1.length : Int), x4, x8, x1138.1, x1138.2, x1141.1, x1141.2, 0)))
def M_R_FanoWrite_j114 (_F : Nat) (rec104 : (List Int × Int) → Option (Int × Int × Int × Int × List Int × Int × List Int × Int)) (x1490 : Int) (x2008 : List Int) : Option (Int × Int × Int × Int × List Int × Int × List Int × Int) :=
  rec104 (x2008, iadd .i64 x1490 1)
def M_R_FanoWrite_j119 (F : Nat) (rec104 : (List Int × Int) → Option (Int × Int × Int × Int × List Int × Int × List Int × Int)) (x1490 : Int) (x2091 : List Int) : Option (Int × Int × Int × Int × List Int × Int × List Int × Int) :=
  ((app 8796093022208 x2091 ([0] : List Int)).bind fun x2094 => M_R_FanoWrite_j114 F rec104 x1490 x2094)
def M_R_FanoWrite_j123 (_F : Nat) (rec122 : (List Int × Int) → Option (Int × Int × Int × Int × List Int × Int × List Int × Int)) (x2125 : Int) (x2165 : List Int) : Option (Int × Int × Int × Int × List Int × Int × List Int × Int) :=
  rec122 (x2165, iadd .i64 x2125 1)
def M_R_FanoWrite_b122 (F : Nat) (rec104 : (List Int × Int) → Option (Int × Int × Int × Int × List Int × Int × List Int × Int)) (x1 : List Int) (x18 : Int) (x1490 : Int) (rec122 : (List Int × Int) → Option (Int × Int × Int × Int × List Int × Int × List Int × Int)) (x2124 : List Int) (x2125 : Int) : Option (Int × Int × Int × Int × List Int × Int × List Int × Int) :=
  (if (decide (x2125 < (x1.length : Int))) then ((idx x1 x2125).bind fun x2166 => (chk ((x18 : Int) != 0) ((if (((iquo .i64 x2166 x18) : Int) == x1490) then ((app 8796093022208 x2124 ([1] : List Int)).bind fun x2172 => M_R_FanoWrite_j123 F rec122 x2125 x2172) else M_R_FanoWrite_j123 F rec122 x2125 x2124)))) else M_R_FanoWrite_j119 F rec104 x1490 x2124)
def M_R_FanoWrite_l122 (F : Nat) (rec104 : (List Int × Int) → Option (Int × Int × Int × Int × List Int × Int × List Int × Int)) (x1 : List Int) (x18 : Int) (x1490 : Int) : Nat → (List Int × Int) → Option (Int × Int × Int × Int × List Int × Int × List Int × Int)
  | 0 => fun _ => none
  | k + 1 => fun s => M_R_FanoWrite_b122 F rec104 x1 x18 x1490 (M_R_FanoWrite_l122 F rec104 x1 x18 x1490 k) s.1 s.2
def M_R_FanoWrite_b104 (F : Nat) (x1 : List Int) (x4 : Int) (x8 : Int) (x18 : Int) (x100 : List Int) (rec104 : (List Int × Int) → Option (Int × Int × Int × Int × List Int × Int × List Int × Int)) (x1489 : List Int) (x1490 : Int) : Option (Int × Int × Int × Int × List Int × Int × List Int × Int) :=
  (chk ((x18 : Int) != 0) ((if (decide (x1490 ≤ (iquo .i64 x4 x18))) then M_R_FanoWrite_l122 F rec104 x1 x18 x1490 F (x1489, 0) else M_R_FanoWrite_j65 F x1 x4 x8 x100 x1489)))
def M_R_FanoWrite_l104 (F : Nat) (x1 : List Int) (x4 : Int) (x8 : Int) (x18 : Int) (x100 : List Int) : Nat → (List Int × Int) → Option (Int × Int × Int × Int × List Int × Int × List Int × Int)
  | 0 => fun _ => none
  | k + 1 => fun s => M_R_FanoWrite_b104 F x1 x4 x8 x18 x100 (M_R_FanoWrite_l104 F x1 x4 x8 x18 x100 k) s.1 s.2
def M_R_FanoWrite_j6 (F : Nat) (x1 : List Int) (x4 : Int) (x8 : Int) (x18 : Int) (x100 : List Int) : Option (Int × Int × Int × Int × List Int × Int × List Int × Int) :=
  M_R_FanoWrite_l104 F x1 x4 x8 x18 x100 F (([] : List Int), 0)
def M_R_FanoWrite_b124 (F : Nat) (x1 : List Int) (x4 : Int) (x8 : Int) (x18 : Int) (rec124 : (List Int × Int) → Option (Int × Int × Int × Int × List Int × Int × List Int × Int)) (x2202 : List Int) (x2203 : Int) : Option (Int × Int × Int × Int × List Int × Int × List Int × Int) :=
  (if (decide (x2203 < (x1.length : Int))) then ((idx x1 x2203).bind fun x2238 => (chk ((x18 : Int) != 0) (((M_R_NumBits F (iconv .u64 (irem x2238 x18)) x8).bind fun x2242 => ((app 8796093022208 x2202 x2242).bind fun x2245 => rec124 (x2245, iadd .i64 x2203 1)))))) else M_R_FanoWrite_j6 F x1 x4 x8 x18 x2202)
def M_R_FanoWrite_l124 (F : Nat) (x1 : List Int) (x4 : Int) (x8 : Int) (x18 : Int) : Nat → (List Int × Int) → Option (Int × Int × Int × Int × List Int × Int × List Int × Int)
  | 0 => fun _ => none
  | k + 1 => fun s => M_R_FanoWrite_b124 F x1 x4 x8 x18 (M_R_FanoWrite_l124 F x1 x4 x8 x18 k) s.1 s.2
def M_R_FanoWrite_j4 (F : Nat) (x1 : List Int) (x4 : Int) (x8 : Int) (x18 : Int) (x26 : Bool) : Option (Int × Int × Int × Int × List Int × Int × List Int × Int) :=
  (if x26 then some (0, 0, 0, 0, ([] : List Int), 0, ([] : List Int), 8) else M_R_FanoWrite_l124 F x1 x4 x8 x18 F (([] : List Int), 0))
def M_R_FanoWrite_j2 (F : Nat) (x1 : List Int) (x4 : Int) (x8 : Int) (x18 : Int) : Option (Int × Int × Int × Int × List Int × Int × List Int × Int) :=
  (if (decide (8192 < (imul .i64 (x1.length : Int) x8))) then M_R_FanoWrite_j4 F x1 x4 x8 x18 true else (chk ((x18 : Int) != 0) (M_R_FanoWrite_j4 F x1 x4 x8 x18 (decide (8192 < (iadd .i64 (iadd .i64 (x1.length : Int) (iquo .i64 x4 x18)) 1))))))
def M_R_FanoWrite_b125 (F : Nat) (x1 : List Int) (x4 : Int) (x8 : Int) (rec125 : (Int × Int) → Option (Int × Int × Int × Int × List Int × Int × List Int × Int)) (x2253 : Int) (x2254 : Int) : Option (Int × Int × Int × Int × List Int × Int × List Int × Int) :=
  (if (decide (x2254 < x8)) then rec125 (imul .i64 2 x2253, iadd .i64 x2254 1) else M_R_FanoWrite_j2 F x1 x4 x8 x2253)
def M_R_FanoWrite_l125 (F : Nat) (x1 : List Int) (x4 : Int) (x8 : Int) : Nat → (Int × Int) → Option (Int × Int × Int × Int × List Int × Int × List Int × Int)
  | 0 => fun _ => none
  | k + 1 => fun s => M_R_FanoWrite_b125 F x1 x4 x8 (M_R_FanoWrite_l125 F x1 x4 x8 k) s.1 s.2
def M_R_FanoWrite (F : Nat) (x1 : List Int) (x4 : Int) : Option (Int × Int × Int × Int × List Int × Int × List Int × Int) :=
  ((M_R_FanoErr F x1 x4).bind fun x6 => (if ((x6 : Int) != 0) then some (0, 0, 0, 0, ([] : List Int), 0, ([] : List Int), x6) else ((M_R_FanoWidth F (x1.length : Int) x4).bind fun x8 => M_R_FanoWrite_l125 F x1 x4 x8 F (1, 0))))
/-! lampwright lampwrightref.BitList -/
def M_R_BitList_j23 (_F : Nat) (x190 : List Int) : Option (List Int) :=
  some x190
def M_R_BitList_j42 (_F : Nat) (rec38 : (List Int × Int) → Option (List Int)) (x253 : Int) (x344 : List Int) : Option (List Int) :=
  rec38 (x344, iadd .i64 x253 1)
def M_R_BitList_j44 (F : Nat) (rec38 : (List Int × Int) → Option (List Int)) (x252 : List Int) (x253 : Int) (x357 : Int) : Option (List Int) :=
  ((app 8796093022208 x252 ([irem x357 2] : List Int)).bind fun x360 => M_R_BitList_j42 F rec38 x253 x360)
def M_R_BitList_b45 (F : Nat) (rec38 : (List Int × Int) → Option (List Int)) (x252 : List Int) (x253 : Int) (rec45 : (Int × Int) → Option (List Int)) (x365 : Int) (x366 : Int) : Option (List Int) :=
  (if (decide (x366 < (isub .i64 7 (irem x253 8)))) then rec45 (iquo .i64 x365 2, iadd .i64 x366 1) else M_R_BitList_j44 F rec38 x252 x253 x365)
def M_R_BitList_l45 (F : Nat) (rec38 : (List Int × Int) → Option (List Int)) (x252 : List Int) (x253 : Int) : Nat → (Int × Int) → Option (List Int)
  | 0 => fun _ => none
  | k + 1 => fun s => M_R_BitList_b45 F rec38 x252 x253 (M_R_BitList_l45 F rec38 x252 x253 k) s.1 s.2
def M_R_BitList_b38 (F : Nat) (x1 : Int) (x2 : List Int) (rec38 : (List Int × Int) → Option (List Int)) (x252 : List Int) (x253 : Int) : Option (List Int) :=
  (if (decide (x253 < x1)) then ((idx x2 (iquo .i64 x253 8)).bind fun x345 => M_R_BitList_l45 F rec38 x252 x253 F (iconv .i64 x345, 0)) else M_R_BitList_j23 F x252)
def M_R_BitList_l38 (F : Nat) (x1 : Int) (x2 : List Int) : Nat → (List Int × Int) → Option (List Int)
  | 0 => fun _ => none
  | k + 1 => fun s => M_R_BitList_b38 F x1 x2 (M_R_BitList_l38 F x1 x2 k) s.1 s.2
def M_R_BitList (F : Nat) (x1 : Int) (x2 : List Int) : Option (List Int) :=
  M_R_BitList_l38 F x1 x2 F (([] : List Int), 0)
/-! lampwright lampwrightref.SameBytes -/
def M_R_SameBytes_j2 (_F : Nat) : Option Bool :=
  some true
def M_R_SameBytes_b3 (F : Nat) (x1 : List Int) (x4 : List Int) (rec3 : Int → Option Bool) (x154 : Int) : Option Bool :=
  (if (decide (x154 < (x1.length : Int))) then ((idx x1 x154).bind fun x218 => ((idx x4 x154).bind fun x222 => (if ((x218 : Int) != x222) then some false else rec3 (iadd .i64 x154 1)))) else M_R_SameBytes_j2 F)
def M_R_SameBytes_l3 (F : Nat) (x1 : List Int) (x4 : List Int) : Nat → Int → Option Bool
  | 0 => fun _ => none
  | k + 1 => fun s => M_R_SameBytes_b3 F x1 x4 (M_R_SameBytes_l3 F x1 x4 k) s
def M_R_SameBytes (F : Nat) (x1 : List Int) (x4 : List Int) : Option Bool :=
  (if (((x1.length : Int) : Int) != (x4.length : Int)) then some false else M_R_SameBytes_l3 F x1 x4 F 0)
/-! lampwright lampwrightref.SameBits -/
def M_R_SameBits_j1 (_F : Nat) (x13 : Bool) : Option Bool :=
  some x13
def M_R_SameBits (F : Nat) (x1 : Int) (x2 : List Int) (x5 : Int) (x6 : List Int) : Option Bool :=
  (if ((x1 : Int) == x5) then ((M_R_SameBytes F x2 x6).bind fun x14 => M_R_SameBits_j1 F x14) else M_R_SameBits_j1 F false)
/-! lampwright lampwrightref.SameFano -/
def M_R_SameFano_j2 (_F : Nat) (x32 : Bool) : Option Bool :=
  some x32
def M_R_SameFano_j1 (F : Nat) (x8 : Int) (x9 : List Int) (x19 : Int) (x20 : List Int) (x29 : Bool) : Option Bool :=
  (if x29 then ((M_R_SameBits F x8 x9 x19 x20).bind fun x33 => M_R_SameFano_j2 F x33) else M_R_SameFano_j2 F false)
def M_R_SameFano (F : Nat) (x1 : Int) (x2 : Int) (x3 : Int) (x4 : Int) (x5 : List Int) (x8 : Int) (x9 : List Int) (x12 : Int) (x13 : Int) (x14 : Int) (x15 : Int) (x16 : List Int) (x19 : Int) (x20 : List Int) : Option Bool :=
  (if ((((x1 : Int) == x12) && ((x2 : Int) == x13)) && ((x3 : Int) == x14)) then ((M_R_SameBits F x4 x5 x15 x16).bind fun x34 => M_R_SameFano_j1 F x8 x9 x19 x20 x34) else M_R_SameFano_j1 F x8 x9 x19 x20 false)
/-! lampwright lampwrightref.BitsCheck -/
def M_R_BitsCheck_j3 (_F : Nat) : Option Int :=
  some 0
def M_R_BitsCheck_b4 (F : Nat) (x12 : List Int) (rec4 : Int → Option Int) (x57 : Int) : Option Int :=
  (if (decide (x57 < (x12.length : Int))) then ((idx x12 x57).bind fun x74 => (if ((x74 : Int) != 0) then some 1 else rec4 (iadd .i64 x57 1))) else M_R_BitsCheck_j3 F)
def M_R_BitsCheck_l4 (F : Nat) (x12 : List Int) : Nat → Int → Option Int
  | 0 => fun _ => none
  | k + 1 => fun s => M_R_BitsCheck_b4 F x12 (M_R_BitsCheck_l4 F x12 k) s
def M_R_BitsCheck_j1 (F : Nat) (x1 : Int) (x2 : List Int) (x10 : Int) : Option Int :=
  (if (((x2.length : Int) : Int) != x10) then some 1 else ((M_R_BitList F (imul .i64 8 x10) x2).bind fun x12 => M_R_BitsCheck_l4 F x12 F x1))
def M_R_BitsCheck (F : Nat) (x1 : Int) (x2 : List Int) : Option Int :=
  ((M_R_between F x1 0 8192).bind fun x8 => (if (!x8) then some 3 else (if (decide (0 < (irem x1 8))) then M_R_BitsCheck_j1 F x1 x2 (iadd .i64 (iquo .i64 x1 8) 1) else M_R_BitsCheck_j1 F x1 x2 (iquo .i64 x1 8))))
/-! lampwright lampwrightref.FanoRead -/
def M_R_FanoRead_j31 (_F : Nat) (x496 : List Int) (x510 : Bool) : Option (List Int × Int) :=
  (if x510 then some (([] : List Int), 1) else some (x496, 0))
def M_R_FanoRead_j29 (F : Nat) (x1 : Int) (x2 : Int) (x3 : Int) (x4 : Int) (x5 : List Int) (x8 : Int) (x9 : List Int) (x496 : List Int) : Option (List Int × Int) :=
  ((M_R_FanoWrite F x496 x2).bind fun x497 => (if ((x497.2.2.2.2.2.2.2 : Int) != 0) then M_R_FanoRead_j31 F x496 true else ((M_R_SameFano F x1 x2 x3 x4 x5 x8 x9 x497.1 x497.2.1 x497.2.2.1 x497.2.2.2.1 x497.2.2.2.2.1 x497.2.2.2.2.2.1 x497.2.2.2.2.2.2.1).bind fun x512 => M_R_FanoRead_j31 F x496 (!x512))))
def M_R_FanoRead_j50 (_F : Nat) (rec46 : (Int × List Int × Int) → Option (List Int × Int)) (x663 : Int) (x880 : Int) (x883 : List Int) : Option (List Int × Int) :=
  rec46 (x880, x883, iadd .i64 x663 1)
def M_R_FanoRead_j52 (F : Nat) (rec46 : (Int × List Int × Int) → Option (List Int × Int)) (x659 : Int) (x662 : List Int) (x663 : Int) (x918 : Int) : Option (List Int × Int) :=
  ((app 8796093022208 x662 ([x918] : List Int)).bind fun x921 => M_R_FanoRead_j50 F rec46 x663 x659 x921)
def M_R_FanoRead_b53 (F : Nat) (rec46 : (Int × List Int × Int) → Option (List Int × Int)) (x3 : Int) (x51 : List Int) (x659 : Int) (x662 : List Int) (x663 : Int) (rec53 : (Int × Int) → Option (List Int × Int)) (x932 : Int) (x933 : Int) : Option (List Int × Int) :=
  (if (decide (x933 < x3)) then ((idx x51 (iadd .i64 (imul .i64 (x662.length : Int) x3) x933)).bind fun x947 => rec53 (iadd .i64 (imul .i64 2 x932) x947, iadd .i64 x933 1)) else M_R_FanoRead_j52 F rec46 x659 x662 x663 x932)
def M_R_FanoRead_l53 (F : Nat) (rec46 : (Int × List Int × Int) → Option (List Int × Int)) (x3 : Int) (x51 : List Int) (x659 : Int) (x662 : List Int) (x663 : Int) : Nat → (Int × Int) → Option (List Int × Int)
  | 0 => fun _ => none
  | k + 1 => fun s => M_R_FanoRead_b53 F rec46 x3 x51 x659 x662 x663 (M_R_FanoRead_l53 F rec46 x3 x51 x659 x662 x663 k) s.1 s.2
def M_R_FanoRead_b46 (F : Nat) (x1 : Int) (x2 : Int) (x3 : Int) (x4 : Int) (x5 : List Int) (x8 : Int) (x9 : List Int) (x48 : List Int) (x51 : List Int) (rec46 : (Int × List Int × Int) → Option (List Int × Int)) (x659 : Int) (x662 : List Int) (x663 : Int) : Option (List Int × Int) :=
  (if ((decide (x663 < (x48.length : Int))) && (decide ((x662.length : Int) < x1))) then ((idx x48 x663).bind fun x888 => (if ((x888 : Int) == 0) then M_R_FanoRead_j50 F rec46 x663 (iadd .i64 x659 1) x662 else M_R_FanoRead_l53 F rec46 x3 x51 x659 x662 x663 F (x659, 0))) else M_R_FanoRead_j29 F x1 x2 x3 x4 x5 x8 x9 x662)
def M_R_FanoRead_l46 (F : Nat) (x1 : Int) (x2 : Int) (x3 : Int) (x4 : Int) (x5 : List Int) (x8 : Int) (x9 : List Int) (x48 : List Int) (x51 : List Int) : Nat → (Int × List Int × Int) → Option (List Int × Int)
  | 0 => fun _ => none
  | k + 1 => fun s => M_R_FanoRead_b46 F x1 x2 x3 x4 x5 x8 x9 x48 x51 (M_R_FanoRead_l46 F x1 x2 x3 x4 x5 x8 x9 x48 x51 k) s.1 s.2.1 s.2.2
def M_R_FanoRead_j6 (F : Nat) (x1 : Int) (x2 : Int) (x3 : Int) (x4 : Int) (x5 : List Int) (x8 : Int) (x9 : List Int) (x40 : Bool) : Option (List Int × Int) :=
  (if (x40 || ((x4 : Int) != (imul .i64 x1 x3))) then some (([] : List Int), 1) else ((M_R_BitList F x8 x9).bind fun x48 => ((M_R_BitList F x4 x5).bind fun x51 => M_R_FanoRead_l46 F x1 x2 x3 x4 x5 x8 x9 x48 x51 F (0, ([] : List Int), 0))))
def M_R_FanoRead_j5 (F : Nat) (x1 : Int) (x2 : Int) (x3 : Int) (x4 : Int) (x5 : List Int) (x8 : Int) (x9 : List Int) (x37 : Bool) : Option (List Int × Int) :=
  (if x37 then M_R_FanoRead_j6 F x1 x2 x3 x4 x5 x8 x9 true else ((M_R_between F x3 0 21).bind fun x954 => M_R_FanoRead_j6 F x1 x2 x3 x4 x5 x8 x9 (!x954)))
def M_R_FanoRead_j2 (F : Nat) (x1 : Int) (x2 : Int) (x3 : Int) (x4 : Int) (x5 : List Int) (x8 : Int) (x9 : List Int) (x22 : Bool) : Option (List Int × Int) :=
  (if x22 then some (([] : List Int), 3) else ((M_R_BitsCheck F x4 x5).bind fun x34 => (if ((x34 : Int) != 0) then M_R_FanoRead_j5 F x1 x2 x3 x4 x5 x8 x9 true else ((M_R_BitsCheck F x8 x9).bind fun x955 => M_R_FanoRead_j5 F x1 x2 x3 x4 x5 x8 x9 ((x955 : Int) != 0)))))
def M_R_FanoRead (F : Nat) (x1 : Int) (x2 : Int) (x3 : Int) (x4 : Int) (x5 : List Int) (x8 : Int) (x9 : List Int) : Option (List Int × Int) :=
  ((M_R_between F x1 0 300).bind fun x19 => (if (!x19) then M_R_FanoRead_j2 F x1 x2 x3 x4 x5 x8 x9 true else ((M_R_between F x2 0 1048576).bind fun x957 => M_R_FanoRead_j2 F x1 x2 x3 x4 x5 x8 x9 (!x957))))
/-! lampwright lampwrightlaw.fanoBegun -/
def M_L_fanoBegun_j4 (_F : Nat) (x49 : Bool) : Option Bool :=
  some x49
def M_L_fanoBegun_j3 (F : Nat) (x9 : (List Int × Int)) (x12 : (Int × Int)) (x13 : (Int × Int × Int)) (x14 : (Int × Int × Int)) (x17 : (Int × Int × Int × Int × List Int × Int × List Int × Int)) (x38 : Bool) : Option Bool :=
  (if ((((((((x38 && ((x9.2 : Int) == 0)) && ((x12.1 : Int) == 5)) && ((x12.2 : Int) == 0)) && ((x13.1 : Int) == 3)) && ((x13.2.1 : Int) == 12)) && ((x13.2.2 : Int) == 0)) && ((x14.2.2 : Int) == 5)) && ((x17.2.2.2.2.2.2.2 : Int) == 4)) then ((M_fano_Check F 0 0 0 0 ([] : List Int) 0 ([] : List Int)).bind fun x50 => M_L_fanoBegun_j4 F ((x50 : Int) == 1)) else M_L_fanoBegun_j4 F false)
def M_L_fanoBegun_j2 (F : Nat) (x9 : (List Int × Int)) (x12 : (Int × Int)) (x13 : (Int × Int × Int)) (x14 : (Int × Int × Int)) (x17 : (Int × Int × Int × Int × List Int × Int × List Int × Int)) (x33 : Bool) : Option Bool :=
  (if x33 then ((M_R_SameInts F x9.1 ([1, 1, 5, 12] : List Int)).bind fun x53 => M_L_fanoBegun_j3 F x9 x12 x13 x14 x17 x53) else M_L_fanoBegun_j3 F x9 x12 x13 x14 x17 false)
def M_L_fanoBegun_j1 (F : Nat) (x3 : (Int × Int × Int × Int × List Int × Int × List Int × Int)) (x9 : (List Int × Int)) (x12 : (Int × Int)) (x13 : (Int × Int × Int)) (x14 : (Int × Int × Int)) (x17 : (Int × Int × Int × Int × List Int × Int × List Int × Int)) (x28 : Bool) : Option Bool :=
  (if x28 then ((M_R_SameBits F x3.2.2.2.2.2.1 x3.2.2.2.2.2.2.1 8 ([210] : List Int)).bind fun x56 => M_L_fanoBegun_j2 F x9 x12 x13 x14 x17 x56) else M_L_fanoBegun_j2 F x9 x12 x13 x14 x17 false)
def M_L_fanoBegun (F : Nat)  : Option Bool :=
  ((M_fano_Write F ([1, 1, 5, 12] : List Int) 15).bind fun x3 => ((M_fano_Read F x3.1 x3.2.1 x3.2.2.1 x3.2.2.2.1 x3.2.2.2.2.1 x3.2.2.2.2.2.1 x3.2.2.2.2.2.2.1).bind fun x9 => ((M_fano_Get F x3.1 x3.2.1 x3.2.2.1 x3.2.2.2.1 x3.2.2.2.2.1 x3.2.2.2.2.2.1 x3.2.2.2.2.2.2.1 2).bind fun x12 => ((M_fano_Next F x3.1 x3.2.1 x3.2.2.1 x3.2.2.2.1 x3.2.2.2.2.1 x3.2.2.2.2.2.1 x3.2.2.2.2.2.2.1 6).bind fun x13 => ((M_fano_Next F x3.1 x3.2.1 x3.2.2.1 x3.2.2.2.1 x3.2.2.2.2.1 x3.2.2.2.2.2.1 x3.2.2.2.2.2.2.1 13).bind fun x14 => ((M_fano_Write F ([2, 1] : List Int) 5).bind fun x17 => (if (((x3.2.2.2.2.2.2.2 : Int) == 0) && ((x3.2.2.1 : Int) == 2)) then ((M_R_SameBits F x3.2.2.2.1 x3.2.2.2.2.1 8 ([84] : List Int)).bind fun x59 => M_L_fanoBegun_j1 F x3 x9 x12 x13 x14 x17 x59) else M_L_fanoBegun_j1 F x3 x9 x12 x13 x14 x17 false)))))))
/-! lampwright lampwrightlaw.FanoTells -/
def M_L_FanoTells_j9 (_F : Nat) (x24 : (List Int × Int)) (x27 : (Int × Int)) (x28 : (Int × Int × Int)) (x35 : (List Int × Int)) (x120 : Int) (x121 : Int) (x122 : Int) (x123 : Int) (x124 : Int) (x135 : Bool) : Option Bool :=
  some ((((((x135 && ((x24.2 : Int) == x35.2)) && ((x27.1 : Int) == x122)) && ((x27.2 : Int) == x120)) && ((x28.1 : Int) == x123)) && ((x28.2.1 : Int) == x124)) && ((x28.2.2 : Int) == x121))
def M_L_FanoTells_j8 (F : Nat) (x24 : (List Int × Int)) (x27 : (Int × Int)) (x28 : (Int × Int × Int)) (x35 : (List Int × Int)) (x120 : Int) (x121 : Int) (x122 : Int) (x123 : Int) (x124 : Int) (x132 : Bool) : Option Bool :=
  (if x132 then ((M_R_SameInts F x24.1 x35.1).bind fun x142 => M_L_FanoTells_j9 F x24 x27 x28 x35 x120 x121 x122 x123 x124 x142) else M_L_FanoTells_j9 F x24 x27 x28 x35 x120 x121 x122 x123 x124 false)
def M_L_FanoTells_j7 (F : Nat) (x5 : Int) (x6 : Int) (x7 : Int) (x8 : Int) (x9 : List Int) (x12 : Int) (x13 : List Int) (x18 : (Int × Int × Int × Int × List Int × Int × List Int × Int)) (x24 : (List Int × Int)) (x27 : (Int × Int)) (x28 : (Int × Int × Int)) (x29 : (Int × Int × Int × Int × List Int × Int × List Int × Int)) (x35 : (List Int × Int)) (x120 : Int) (x121 : Int) (x122 : Int) (x123 : Int) (x124 : Int) (x128 : Bool) : Option Bool :=
  (if (x128 && ((x18.2.2.2.2.2.2.2 : Int) == x29.2.2.2.2.2.2.2)) then ((M_fano_Check F x5 x6 x7 x8 x9 x12 x13).bind fun x143 => M_L_FanoTells_j8 F x24 x27 x28 x35 x120 x121 x122 x123 x124 ((x143 : Int) == x35.2)) else M_L_FanoTells_j8 F x24 x27 x28 x35 x120 x121 x122 x123 x124 false)
def M_L_FanoTells_j6 (F : Nat) (x5 : Int) (x6 : Int) (x7 : Int) (x8 : Int) (x9 : List Int) (x12 : Int) (x13 : List Int) (x18 : (Int × Int × Int × Int × List Int × Int × List Int × Int)) (x24 : (List Int × Int)) (x27 : (Int × Int)) (x28 : (Int × Int × Int)) (x29 : (Int × Int × Int × Int × List Int × Int × List Int × Int)) (x35 : (List Int × Int)) (x120 : Int) (x121 : Int) (x122 : Int) (x123 : Int) (x124 : Int) : Option Bool :=
  ((M_L_fanoBegun F).bind fun x125 => (if x125 then ((M_R_SameFano F x18.1 x18.2.1 x18.2.2.1 x18.2.2.2.1 x18.2.2.2.2.1 x18.2.2.2.2.2.1 x18.2.2.2.2.2.2.1 x29.1 x29.2.1 x29.2.2.1 x29.2.2.2.1 x29.2.2.2.2.1 x29.2.2.2.2.2.1 x29.2.2.2.2.2.2.1).bind fun x144 => M_L_FanoTells_j7 F x5 x6 x7 x8 x9 x12 x13 x18 x24 x27 x28 x29 x35 x120 x121 x122 x123 x124 x144) else M_L_FanoTells_j7 F x5 x6 x7 x8 x9 x12 x13 x18 x24 x27 x28 x29 x35 x120 x121 x122 x123 x124 false))
def M_L_FanoTells_j14 (_F : Nat) (rec13 : (Int × Int × Int × Int) → Option Bool) (x177 : Int) (x209 : Int) (x210 : Int) (x211 : Int) : Option Bool :=
  rec13 (x209, x210, x211, isub .i64 x177 1)
def M_L_FanoTells_b13 (F : Nat) (x5 : Int) (x6 : Int) (x7 : Int) (x8 : Int) (x9 : List Int) (x12 : Int) (x13 : List Int) (x16 : Int) (x18 : (Int × Int × Int × Int × List Int × Int × List Int × Int)) (x24 : (List Int × Int)) (x27 : (Int × Int)) (x28 : (Int × Int × Int)) (x29 : (Int × Int × Int × Int × List Int × Int × List Int × Int)) (x35 : (List Int × Int)) (x150 : Int) (x151 : Int) (rec13 : (Int × Int × Int × Int) → Option Bool) (x174 : Int) (x175 : Int) (x176 : Int) (x177 : Int) : Option Bool :=
  (if (decide (0 ≤ x177)) then ((idx x35.1 x177).bind fun x212 => (if (decide (x16 ≤ x212)) then ((idx x35.1 x177).bind fun x215 => M_L_FanoTells_j14 F rec13 x177 0 x177 x215) else M_L_FanoTells_j14 F rec13 x177 x174 x175 x176)) else M_L_FanoTells_j6 F x5 x6 x7 x8 x9 x12 x13 x18 x24 x27 x28 x29 x35 x150 x174 x151 x175 x176)
def M_L_FanoTells_l13 (F : Nat) (x5 : Int) (x6 : Int) (x7 : Int) (x8 : Int) (x9 : List Int) (x12 : Int) (x13 : List Int) (x16 : Int) (x18 : (Int × Int × Int × Int × List Int × Int × List Int × Int)) (x24 : (List Int × Int)) (x27 : (Int × Int)) (x28 : (Int × Int × Int)) (x29 : (Int × Int × Int × Int × List Int × Int × List Int × Int)) (x35 : (List Int × Int)) (x150 : Int) (x151 : Int) : Nat → (Int × Int × Int × Int) → Option Bool
  | 0 => fun _ => none
  | k + 1 => fun s => M_L_FanoTells_b13 F x5 x6 x7 x8 x9 x12 x13 x16 x18 x24 x27 x28 x29 x35 x150 x151 (M_L_FanoTells_l13 F x5 x6 x7 x8 x9 x12 x13 x16 x18 x24 x27 x28 x29 x35 x150 x151 k) s.1 s.2.1 s.2.2.1 s.2.2.2
def M_L_FanoTells_j10 (F : Nat) (x5 : Int) (x6 : Int) (x7 : Int) (x8 : Int) (x9 : List Int) (x12 : Int) (x13 : List Int) (x16 : Int) (x18 : (Int × Int × Int × Int × List Int × Int × List Int × Int)) (x24 : (List Int × Int)) (x27 : (Int × Int)) (x28 : (Int × Int × Int)) (x29 : (Int × Int × Int × Int × List Int × Int × List Int × Int)) (x35 : (List Int × Int)) (x150 : Int) (x151 : Int) : Option Bool :=
  M_L_FanoTells_l13 F x5 x6 x7 x8 x9 x12 x13 x16 x18 x24 x27 x28 x29 x35 x150 x151 F (5, 0, 0, isub .i64 (x35.1.length : Int) 1)
def M_L_FanoTells (F : Nat) (x1 : List Int) (x4 : Int) (x5 : Int) (x6 : Int) (x7 : Int) (x8 : Int) (x9 : List Int) (x12 : Int) (x13 : List Int) (x16 : Int) : Option Bool :=
  ((M_fano_Write F x1 x4).bind fun x18 => ((M_fano_Read F x5 x6 x7 x8 x9 x12 x13).bind fun x24 => ((M_fano_Get F x5 x6 x7 x8 x9 x12 x13 x16).bind fun x27 => ((M_fano_Next F x5 x6 x7 x8 x9 x12 x13 x16).bind fun x28 => ((M_R_FanoWrite F x1 x4).bind fun x29 => ((M_R_FanoRead F x5 x6 x7 x8 x9 x12 x13).bind fun x35 => (if ((x35.2 : Int) == 0) then (if ((decide (0 ≤ x16)) && (decide (x16 < (x35.1.length : Int)))) then ((idx x35.1 x16).bind fun x222 => M_L_FanoTells_j10 F x5 x6 x7 x8 x9 x12 x13 x16 x18 x24 x27 x28 x29 x35 0 x222) else M_L_FanoTells_j10 F x5 x6 x7 x8 x9 x12 x13 x16 x18 x24 x27 x28 x29 x35 3 0) else M_L_FanoTells_j6 F x5 x6 x7 x8 x9 x12 x13 x18 x24 x27 x28 x29 x35 x35.2 x35.2 0 0 0)))))))
/-! lampwright lampwrightlaw.FanoBack -/
def M_L_FanoBack_j3 (_F : Nat) (x47 : Bool) : Option Bool :=
  some x47
def M_L_FanoBack_j2 (F : Nat) (x5 : Int) (x6 : Int) (x7 : Int) (x8 : Int) (x9 : List Int) (x12 : Int) (x13 : List Int) (x23 : (List Int × Int)) : Option Bool :=
  (if ((x23.2 : Int) != 0) then some (((x23.1.length : Int) : Int) == 0) else ((M_fano_Write F x23.1 x6).bind fun x39 => (if ((x39.2.2.2.2.2.2.2 : Int) == 0) then ((M_R_SameFano F x39.1 x39.2.1 x39.2.2.1 x39.2.2.2.1 x39.2.2.2.2.1 x39.2.2.2.2.2.1 x39.2.2.2.2.2.2.1 x5 x6 x7 x8 x9 x12 x13).bind fun x48 => M_L_FanoBack_j3 F x48) else M_L_FanoBack_j3 F false)))
def M_L_FanoBack_j4 (F : Nat) (x5 : Int) (x6 : Int) (x7 : Int) (x8 : Int) (x9 : List Int) (x12 : Int) (x13 : List Int) (x23 : (List Int × Int)) (x55 : Bool) : Option Bool :=
  (if x55 then some false else M_L_FanoBack_j2 F x5 x6 x7 x8 x9 x12 x13 x23)
def M_L_FanoBack (F : Nat) (x1 : List Int) (x4 : Int) (x5 : Int) (x6 : Int) (x7 : Int) (x8 : Int) (x9 : List Int) (x12 : Int) (x13 : List Int) : Option Bool :=
  ((M_fano_Write F x1 x4).bind fun x17 => ((M_fano_Read F x5 x6 x7 x8 x9 x12 x13).bind fun x23 => ((M_L_fanoBegun F).bind fun x28 => (if (!x28) then some false else (if ((x17.2.2.2.2.2.2.2 : Int) == 0) then ((M_fano_Read F x17.1 x17.2.1 x17.2.2.1 x17.2.2.2.1 x17.2.2.2.2.1 x17.2.2.2.2.2.1 x17.2.2.2.2.2.2.1).bind fun x50 => (if ((x50.2 : Int) != 0) then M_L_FanoBack_j4 F x5 x6 x7 x8 x9 x12 x13 x23 true else ((M_R_SameInts F x50.1 x1).bind fun x57 => M_L_FanoBack_j4 F x5 x6 x7 x8 x9 x12 x13 x23 (!x57)))) else M_L_FanoBack_j2 F x5 x6 x7 x8 x9 x12 x13 x23)))))
/-! lampwright lampwrightlaw.FanoRoom -/
def M_L_FanoRoom_j3 (_F : Nat) (x29 : Bool) : Option Bool :=
  some x29
def M_L_FanoRoom_j2 (F : Nat) (x1 : List Int) (x4 : Int) (x5 : (Int × Int × Int × Int × List Int × Int × List Int × Int)) (x26 : Bool) : Option Bool :=
  (if x26 then (chk (decide (0 ≤ (iadd .i64 x5.2.2.1 1))) (M_L_FanoRoom_j3 F (decide ((iadd .i64 x4 1) < (ishl .i64 (x1.length : Int) (iadd .i64 x5.2.2.1 1)))))) else M_L_FanoRoom_j3 F false)
def M_L_FanoRoom_j4 (F : Nat) (x1 : List Int) (x4 : Int) (x5 : (Int × Int × Int × Int × List Int × Int × List Int × Int)) (x33 : Bool) : Option Bool :=
  M_L_FanoRoom_j2 F x1 x4 x5 x33
def M_L_FanoRoom (F : Nat) (x1 : List Int) (x4 : Int) : Option Bool :=
  ((M_fano_Write F x1 x4).bind fun x5 => ((M_L_fanoBegun F).bind fun x13 => (if (!x13) then some false else (if ((x5.2.2.2.2.2.2.2 : Int) != 0) then ((M_R_SameFano F x5.1 x5.2.1 x5.2.2.1 x5.2.2.2.1 x5.2.2.2.2.1 x5.2.2.2.2.2.1 x5.2.2.2.2.2.2.1 0 0 0 0 ([] : List Int) 0 ([] : List Int)).bind fun x16 => some x16) else (if (((x1.length : Int) : Int) == 0) then some (((x5.2.2.2.1 : Int) == 0) && ((x5.2.2.2.2.2.1 : Int) == (iadd .i64 x4 1))) else (if (((x5.2.2.2.1 : Int) == (imul .i64 (x1.length : Int) x5.2.2.1)) && (decide (x5.2.2.2.2.2.1 ≤ (iadd .i64 (imul .i64 3 (x1.length : Int)) 1)))) then (if ((x5.2.2.1 : Int) == 0) then M_L_FanoRoom_j4 F x1 x4 x5 true else (chk (decide (0 ≤ x5.2.2.1)) (M_L_FanoRoom_j4 F x1 x4 x5 (decide ((ishl .i64 (x1.length : Int) x5.2.2.1) ≤ (iadd .i64 x4 1)))))) else M_L_FanoRoom_j2 F x1 x4 x5 false))))))
/-! lampwright lampwrightlaw.FanoNext -/
def M_L_FanoNext_j5 (_F : Nat) (x45 : Bool) : Option Bool :=
  some x45
def M_L_FanoNext_j6 (F : Nat) (x50 : Bool) : Option Bool :=
  M_L_FanoNext_j5 F x50
def M_L_FanoNext_j9 (_F : Nat) (x70 : Bool) : Option Bool :=
  some x70
def M_L_FanoNext_j10 (F : Nat) (x75 : Bool) : Option Bool :=
  M_L_FanoNext_j9 F x75
def M_L_FanoNext_j7 (F : Nat) (x1 : List Int) (x5 : Int) (x16 : (Int × Int × Int)) (x59 : Bool) : Option Bool :=
  (if (x59 && (decide (x5 ≤ x16.2.1))) then (if ((x16.1 : Int) == 0) then M_L_FanoNext_j10 F true else ((idx x1 (isub .i64 x16.1 1)).bind fun x76 => M_L_FanoNext_j10 F (decide (x76 < x5)))) else M_L_FanoNext_j9 F false)
def M_L_FanoNext (F : Nat) (x1 : List Int) (x4 : Int) (x5 : Int) : Option Bool :=
  ((M_fano_Write F x1 x4).bind fun x6 => ((M_L_fanoBegun F).bind fun x14 => (if (!x14) then some false else (if ((x6.2.2.2.2.2.2.2 : Int) != 0) then some true else ((M_fano_Next F x6.1 x6.2.1 x6.2.2.1 x6.2.2.2.1 x6.2.2.2.2.1 x6.2.2.2.2.2.1 x6.2.2.2.2.2.2.1 x5).bind fun x16 => (if ((x16.2.2 : Int) != 0) then (if ((x16.2.2 : Int) == 5) then (if (((x1.length : Int) : Int) == 0) then M_L_FanoNext_j6 F true else ((idx x1 (isub .i64 (x1.length : Int) 1)).bind fun x51 => M_L_FanoNext_j6 F (decide (x51 < x5)))) else M_L_FanoNext_j5 F false) else (if ((decide (0 ≤ x16.1)) && (decide (x16.1 < (x1.length : Int)))) then ((idx x1 x16.1).bind fun x79 => M_L_FanoNext_j7 F x1 x5 x16 ((x79 : Int) == x16.2.1)) else M_L_FanoNext_j7 F x1 x5 x16 false)))))))
/-! lampwright lampwrightlaw.FanoSame -/
def M_L_FanoSame_j2 (F : Nat) (x1 : Int) (x2 : Int) (x3 : Int) (x59 : List Int) : Option Bool :=
  ((M_fano_Write F x59 x3).bind fun x60 => (if ((x60.2.2.2.2.2.2.2 : Int) != 0) then some ((x60.2.2.2.2.2.2.2 : Int) == 8) else ((M_fano_Get F x60.1 x60.2.1 x60.2.2.1 x60.2.2.2.1 x60.2.2.2.2.1 x60.2.2.2.2.2.1 x60.2.2.2.2.2.2.1 (isub .i64 x2 1)).bind fun x67 => ((M_fano_Next F x60.1 x60.2.1 x60.2.2.1 x60.2.2.2.1 x60.2.2.2.2.1 x60.2.2.2.2.2.1 x60.2.2.2.2.2.2.1 x1).bind fun x68 => ((M_fano_Next F x60.1 x60.2.1 x60.2.2.1 x60.2.2.2.1 x60.2.2.2.2.1 x60.2.2.2.2.2.1 x60.2.2.2.2.2.2.1 0).bind fun x69 => some (((((((((x67.2 : Int) == 0) && ((x67.1 : Int) == x1)) && ((x68.2.2 : Int) == 0)) && ((x68.1 : Int) == 0)) && ((x68.2.1 : Int) == x1)) && ((x69.2.2 : Int) == 0)) && ((x69.1 : Int) == 0)) && ((x69.2.1 : Int) == x1)))))))
def M_L_FanoSame_b3 (F : Nat) (x1 : Int) (x2 : Int) (x3 : Int) (rec3 : (List Int × Int) → Option Bool) (x92 : List Int) (x93 : Int) : Option Bool :=
  (if (decide (x93 < x2)) then ((app 8796093022208 x92 ([x1] : List Int)).bind fun x115 => rec3 (x115, iadd .i64 x93 1)) else M_L_FanoSame_j2 F x1 x2 x3 x92)
def M_L_FanoSame_l3 (F : Nat) (x1 : Int) (x2 : Int) (x3 : Int) : Nat → (List Int × Int) → Option Bool
  | 0 => fun _ => none
  | k + 1 => fun s => M_L_FanoSame_b3 F x1 x2 x3 (M_L_FanoSame_l3 F x1 x2 x3 k) s.1 s.2
def M_L_FanoSame (F : Nat) (x1 : Int) (x2 : Int) (x3 : Int) : Option Bool :=
  ((M_L_fanoBegun F).bind fun x6 => (if (!x6) then some false else (if (((((decide (x2 < 1)) || (decide (300 < x2))) || (decide (x1 < 0))) || (decide (x3 < x1))) || (decide (1048576 < x3))) then some true else M_L_FanoSame_l3 F x1 x2 x3 F (([] : List Int), 0))))
/-! lampwright rank.Select -/
def M_rank_Select_j2 (F : Nat) (x1 : Int) (x2 : List Int) (x5 : Int) (x6 : Int) (x16 : Int) : Option (Int × Int) :=
  (if ((x16 : Int) != 0) then some (0, x16) else ((M_rank_Place F x1 x2 (iconv .u64 x5) x6).bind fun x18 => (if (decide (x18 < 0)) then some (0, 5) else some (x18, 0))))
def M_rank_Select_j3 (F : Nat) (x1 : Int) (x2 : List Int) (x5 : Int) (x6 : Int) (x8 : Int) (x25 : Bool) : Option (Int × Int) :=
  (if x25 then M_rank_Select_j2 F x1 x2 x5 x6 3 else M_rank_Select_j2 F x1 x2 x5 x6 x8)
def M_rank_Select (F : Nat) (x1 : Int) (x2 : List Int) (x5 : Int) (x6 : Int) : Option (Int × Int) :=
  ((M_bits_Check F x1 x2).bind fun x8 => (if ((x8 : Int) == 0) then M_rank_Select_j3 F x1 x2 x5 x6 x8 (((decide (x5 < 0)) || (decide (1 < x5))) || (decide (x6 < 0))) else M_rank_Select_j3 F x1 x2 x5 x6 x8 false))
/-! lampwright elias.Check -/
def M_elias_Check_j2 (_F : Nat) (x13 : Int) : Option Int :=
  some x13
def M_elias_Check_j3 (F : Nat) (x7 : Int) (x16 : Bool) : Option Int :=
  (if x16 then M_elias_Check_j2 F 3 else M_elias_Check_j2 F x7)
def M_elias_Check (F : Nat) (x1 : Int) (x2 : List Int) (x5 : Int) : Option Int :=
  ((M_bits_Check F x1 x2).bind fun x7 => (if ((x7 : Int) == 0) then M_elias_Check_j3 F x7 ((decide (x5 < 0)) || (decide (x1 < x5))) else M_elias_Check_j3 F x7 false))
/-! lampwright rank.ones -/
def M_rank_ones_j2 (_F : Nat) (x23 : Int) : Option Int :=
  some x23
def M_rank_ones_b3 (F : Nat) (x1 : Int) (x2 : List Int) (x6 : Int) (rec3 : (Int × Int) → Option Int) (x28 : Int) (x29 : Int) : Option Int :=
  (if (decide (x29 < x6)) then ((M_bits_At F x1 x2 x29).bind fun x37 => rec3 (iadd .i64 x28 (iconv .i64 x37), iadd .i64 x29 1)) else M_rank_ones_j2 F x28)
def M_rank_ones_l3 (F : Nat) (x1 : Int) (x2 : List Int) (x6 : Int) : Nat → (Int × Int) → Option Int
  | 0 => fun _ => none
  | k + 1 => fun s => M_rank_ones_b3 F x1 x2 x6 (M_rank_ones_l3 F x1 x2 x6 k) s.1 s.2
def M_rank_ones (F : Nat) (x1 : Int) (x2 : List Int) (x5 : Int) (x6 : Int) : Option Int :=
  M_rank_ones_l3 F x1 x2 x6 F (0, x5)
/-! lampwright rank.Rank -/
def M_rank_Rank (F : Nat) (x1 : Int) (x2 : List Int) (x5 : Int) : Option (Int × Int) :=
  ((M_elias_Check F x1 x2 x5).bind fun x9 => (if ((x9 : Int) != 0) then some (0, x9) else ((M_rank_ones F x1 x2 0 x5).bind fun x10 => some (x10, 0))))
/-! lampwright rank.check -/
def M_rank_check_j2 (_F : Nat) (x13 : Int) : Option Int :=
  some x13
def M_rank_check_j3 (F : Nat) (x7 : Int) (x16 : Bool) : Option Int :=
  (if x16 then M_rank_check_j2 F 3 else M_rank_check_j2 F x7)
def M_rank_check (F : Nat) (x1 : Int) (x2 : List Int) (x5 : Int) : Option Int :=
  ((M_bits_Check F x1 x2).bind fun x7 => (if ((x7 : Int) == 0) then M_rank_check_j3 F x7 ((decide (x5 < 1)) || (decide (64 < x5))) else M_rank_check_j3 F x7 false))
/-! lampwright rank.built -/
def M_rank_built_j2 (_F : Nat) (x82 : List Int) : Option (List Int) :=
  some x82
def M_rank_built_b3 (F : Nat) (x1 : Int) (x2 : List Int) (x5 : Int) (rec3 : (List Int × Int) → Option (List Int)) (x107 : List Int) (x108 : Int) : Option (List Int) :=
  (if (decide (x108 ≤ x1)) then ((idx x107 (isub .i64 (x107.length : Int) 1)).bind fun x143 => ((M_rank_ones F x1 x2 (isub .i64 x108 x5) x108).bind fun x147 => ((app 8796093022208 x107 ([iadd .i64 x143 x147] : List Int)).bind fun x150 => rec3 (x150, iadd .i64 x108 x5)))) else M_rank_built_j2 F x107)
def M_rank_built_l3 (F : Nat) (x1 : Int) (x2 : List Int) (x5 : Int) : Nat → (List Int × Int) → Option (List Int)
  | 0 => fun _ => none
  | k + 1 => fun s => M_rank_built_b3 F x1 x2 x5 (M_rank_built_l3 F x1 x2 x5 k) s.1 s.2
def M_rank_built (F : Nat) (x1 : Int) (x2 : List Int) (x5 : Int) : Option (List Int) :=
  M_rank_built_l3 F x1 x2 x5 F (([0] : List Int), x5)
/-! lampwright rank.Build -/
def M_rank_Build (F : Nat) (x1 : Int) (x2 : List Int) (x5 : Int) : Option (Int × List Int × Int) :=
  ((M_rank_check F x1 x2 x5).bind fun x10 => (if ((x10 : Int) != 0) then some (0, ([] : List Int), x10) else ((M_rank_built F x1 x2 x5).bind fun x11 => some (x5, x11, 0))))
/-! slices.Equal[[]int,int] -/
def M_slices_Equal_int_int_j2 (_F : Nat) : Option Bool :=
  some true
def M_slices_Equal_int_int_b3 (F : Nat) (x1 : List Int) (x4 : List Int) (rec3 : Int → Option Bool) (x154 : Int) : Option Bool :=
  (if (decide (x154 < (x1.length : Int))) then ((idx x1 x154).bind fun x218 => ((idx x4 x154).bind fun x222 => (if ((x218 : Int) != x222) then some false else rec3 (iadd .i64 x154 1)))) else M_slices_Equal_int_int_j2 F)
def M_slices_Equal_int_int_l3 (F : Nat) (x1 : List Int) (x4 : List Int) : Nat → Int → Option Bool
  | 0 => fun _ => none
  | k + 1 => fun s => M_slices_Equal_int_int_b3 F x1 x4 (M_slices_Equal_int_int_l3 F x1 x4 k) s
def M_slices_Equal_int_int (F : Nat) (x1 : List Int) (x4 : List Int) : Option Bool :=
  (if (((x1.length : Int) : Int) != (x4.length : Int)) then some false else M_slices_Equal_int_int_l3 F x1 x4 F 0)
/-! lampwright rank.Check -/
def M_rank_Check (F : Nat) (x1 : Int) (x2 : List Int) (x5 : Int) (x6 : List Int) : Option Int :=
  ((M_rank_check F x1 x2 x5).bind fun x13 => (if ((x13 : Int) != 0) then some x13 else ((M_rank_built F x1 x2 x5).bind fun x27 => ((M_slices_Equal_int_int F x6 x27).bind fun x30 => (if (!x30) then some 4 else some 0)))))
/-! lampwright rank.By -/
def M_rank_By_j2 (F : Nat) (x1 : Int) (x2 : List Int) (x5 : Int) (x6 : List Int) (x9 : Int) (x18 : Int) : Option (Int × Int) :=
  (if ((x18 : Int) != 0) then some (0, x18) else (chk ((x5 : Int) != 0) (((idx x6 (iquo .i64 x9 x5)).bind fun x26 => ((M_rank_ones F x1 x2 (imul .i64 (iquo .i64 x9 x5) x5) x9).bind fun x30 => some (iadd .i64 x26 x30, 0))))))
def M_rank_By_j3 (F : Nat) (x1 : Int) (x2 : List Int) (x5 : Int) (x6 : List Int) (x9 : Int) (x12 : Int) (x34 : Bool) : Option (Int × Int) :=
  (if x34 then M_rank_By_j2 F x1 x2 x5 x6 x9 3 else M_rank_By_j2 F x1 x2 x5 x6 x9 x12)
def M_rank_By (F : Nat) (x1 : Int) (x2 : List Int) (x5 : Int) (x6 : List Int) (x9 : Int) : Option (Int × Int) :=
  ((M_rank_Check F x1 x2 x5 x6).bind fun x12 => (if ((x12 : Int) == 0) then M_rank_By_j3 F x1 x2 x5 x6 x9 x12 ((decide (x9 < 0)) || (decide (x1 < x9))) else M_rank_By_j3 F x1 x2 x5 x6 x9 x12 false))
/-! lampwright lampwrightlaw.rankBegun -/
def M_L_rankBegun_j2 (_F : Nat) (x29 : Bool) : Option Bool :=
  some x29
def M_L_rankBegun_j1 (F : Nat) (x7 : (Int × List Int × Int)) (x11 : (Int × Int)) (x12 : (Int × Int)) (x22 : Bool) : Option Bool :=
  (if ((((x22 && ((x7.2.2 : Int) == 0)) && ((x11.1 : Int) == 5)) && ((x11.2 : Int) == 0)) && ((x12.2 : Int) == 5)) then ((M_rank_Check F 10 ([180, 192] : List Int) 4 ([] : List Int)).bind fun x30 => M_L_rankBegun_j2 F ((x30 : Int) == 4)) else M_L_rankBegun_j2 F false)
def M_L_rankBegun (F : Nat)  : Option Bool :=
  ((M_rank_Rank F 10 ([180, 192] : List Int) 6).bind fun x4 => ((M_rank_Select F 10 ([180, 192] : List Int) 1 4).bind fun x5 => ((M_rank_Select F 10 ([180, 192] : List Int) 0 0).bind fun x6 => ((M_rank_Build F 10 ([180, 192] : List Int) 4).bind fun x7 => ((M_rank_By F 10 ([180, 192] : List Int) x7.1 x7.2.1 9).bind fun x11 => ((M_rank_Select F 10 ([180, 192] : List Int) 1 6).bind fun x12 => (if (((((((x4.1 : Int) == 4) && ((x4.2 : Int) == 0)) && ((x5.1 : Int) == 8)) && ((x5.2 : Int) == 0)) && ((x6.1 : Int) == 1)) && ((x6.2 : Int) == 0)) then ((M_R_SameInts F x7.2.1 ([0, 3, 4] : List Int)).bind fun x33 => M_L_rankBegun_j1 F x7 x11 x12 x33) else M_L_rankBegun_j1 F x7 x11 x12 false)))))))
/-! lampwright lampwrightlaw.FanoGet -/
def M_L_FanoGet_j6 (_F : Nat) (x51 : Bool) : Option Bool :=
  some x51
def M_L_FanoGet_j7 (F : Nat) (x56 : Bool) : Option Bool :=
  M_L_FanoGet_j6 F x56
def M_L_FanoGet_j4 (F : Nat) (x1 : List Int) (x5 : Int) (x27 : (Int × Int)) (x29 : (Int × Int × Int)) (x38 : Bool) : Option Bool :=
  (if (((x38 && ((x29.2.2 : Int) == 0)) && ((x29.2.1 : Int) == x27.1)) && (decide (x29.1 ≤ x5))) then (if ((x29.1 : Int) == 0) then M_L_FanoGet_j7 F true else ((idx x1 (isub .i64 x29.1 1)).bind fun x57 => M_L_FanoGet_j7 F (decide (x57 < x27.1)))) else M_L_FanoGet_j6 F false)
def M_L_FanoGet_j3 (F : Nat) (x1 : List Int) (x5 : Int) (x6 : (Int × Int × Int × Int × List Int × Int × List Int × Int)) (x27 : (Int × Int)) (x28 : (Int × Int)) (x29 : (Int × Int × Int)) (x34 : Bool) : Option Bool :=
  (if (x34 && ((x28.2 : Int) == 0)) then (chk (decide (0 ≤ x6.2.2.1)) (M_L_FanoGet_j4 F x1 x5 x27 x29 (((isub .i64 x28.1 x5) : Int) == (ishr .i64 x27.1 x6.2.2.1)))) else M_L_FanoGet_j4 F x1 x5 x27 x29 false)
def M_L_FanoGet_j2 (F : Nat) (x1 : List Int) (x5 : Int) (x6 : (Int × Int × Int × Int × List Int × Int × List Int × Int)) (x21 : Bool) : Option Bool :=
  (if x21 then some false else (if ((((x6.2.2.2.2.2.2.2 : Int) != 0) || (decide (x5 < 0))) || (decide ((x1.length : Int) ≤ x5))) then some true else ((M_fano_Get F x6.1 x6.2.1 x6.2.2.1 x6.2.2.2.1 x6.2.2.2.2.1 x6.2.2.2.2.2.1 x6.2.2.2.2.2.2.1 x5).bind fun x27 => ((M_rank_Select F x6.2.2.2.2.2.1 x6.2.2.2.2.2.2.1 1 x5).bind fun x28 => ((M_fano_Next F x6.1 x6.2.1 x6.2.2.1 x6.2.2.2.1 x6.2.2.2.2.1 x6.2.2.2.2.2.1 x6.2.2.2.2.2.2.1 x27.1).bind fun x29 => (if ((x27.2 : Int) == 0) then ((idx x1 x5).bind fun x61 => M_L_FanoGet_j3 F x1 x5 x6 x27 x28 x29 ((x27.1 : Int) == x61)) else M_L_FanoGet_j3 F x1 x5 x6 x27 x28 x29 false))))))
def M_L_FanoGet (F : Nat) (x1 : List Int) (x4 : Int) (x5 : Int) : Option Bool :=
  ((M_fano_Write F x1 x4).bind fun x6 => ((M_L_fanoBegun F).bind fun x18 => (if (!x18) then M_L_FanoGet_j2 F x1 x5 x6 true else ((M_L_rankBegun F).bind fun x66 => M_L_FanoGet_j2 F x1 x5 x6 (!x66)))))
/-! lampwright lampwrightref.FibNum -/
def M_R_FibNum_j2 (_F : Nat) (x16 : Int) : Option Int :=
  some x16
def M_R_FibNum_b3 (F : Nat) (x1 : Int) (rec3 : (Int × Int × Int) → Option Int) (x23 : Int) (x24 : Int) (x25 : Int) : Option Int :=
  (if (decide (x25 < x1)) then rec3 (iadd .u64 x23 x24, x23, iadd .i64 x25 1) else M_R_FibNum_j2 F x23)
def M_R_FibNum_l3 (F : Nat) (x1 : Int) : Nat → (Int × Int × Int) → Option Int
  | 0 => fun _ => none
  | k + 1 => fun s => M_R_FibNum_b3 F x1 (M_R_FibNum_l3 F x1 k) s.1 s.2.1 s.2.2
def M_R_FibNum (F : Nat) (x1 : Int) : Option Int :=
  M_R_FibNum_l3 F x1 F (1, 1, 0)
/-! lampwright lampwrightref.FibParts -/
def M_R_FibParts_j2 (F : Nat) (self : Int → Option (List Int)) (x1 : Int) (x17 : Int) : Option (List Int) :=
  ((M_R_FibNum F x17).bind fun x18 => ((self (isub .u64 x1 x18)).bind fun x19 => ((app 8796093022208 x19 ([x17] : List Int)).bind fun x24 => some x24)))
def M_R_FibParts_b3 (F : Nat) (self : Int → Option (List Int)) (x1 : Int) (rec3 : Int → Option (List Int)) (x31 : Int) : Option (List Int) :=
  ((M_R_FibNum F (iadd .i64 x31 1)).bind fun x39 => (if (decide (x39 ≤ x1)) then rec3 (iadd .i64 x31 1) else M_R_FibParts_j2 F self x1 x31))
def M_R_FibParts_l3 (F : Nat) (self : Int → Option (List Int)) (x1 : Int) : Nat → Int → Option (List Int)
  | 0 => fun _ => none
  | k + 1 => fun s => M_R_FibParts_b3 F self x1 (M_R_FibParts_l3 F self x1 k) s
def M_R_FibParts : Nat → Int → Option (List Int)
  | 0 => fun _ => none
  | F + 1 => fun x1 =>
    let self := M_R_FibParts F
    (if ((x1 : Int) == 0) then some ([] : List Int) else M_R_FibParts_l3 F self x1 F 0)
/-! lampwright lampwrightref.FibList -/
def M_R_FibList_j2 (_F : Nat) (x78 : List Int) : Option (List Int) :=
  ((app 8796093022208 x78 ([1] : List Int)).bind fun x81 => some x81)
def M_R_FibList_b3 (F : Nat) (x2 : List Int) (rec3 : (List Int × Int) → Option (List Int)) (x106 : List Int) (x107 : Int) : Option (List Int) :=
  (if (decide (x107 < (x2.length : Int))) then ((idx x2 x107).bind fun x139 => ((idx x106 x139).bind fun _x142 => (lett (x106.set x139.toNat 1) fun x145 => rec3 (x145, iadd .i64 x107 1)))) else M_R_FibList_j2 F x106)
def M_R_FibList_l3 (F : Nat) (x2 : List Int) : Nat → (List Int × Int) → Option (List Int)
  | 0 => fun _ => none
  | k + 1 => fun s => M_R_FibList_b3 F x2 (M_R_FibList_l3 F x2 k) s.1 s.2
def M_R_FibList (F : Nat) (x1 : Int) : Option (List Int) :=
  ((M_R_FibParts F (iadd .u64 x1 1)).bind fun x2 => ((idx x2 (isub .i64 (x2.length : Int) 1)).bind fun x5 => ((mk 17592186044416 (0 : Int) (iadd .i64 x5 1)).bind fun x8 => M_R_FibList_l3 F x2 F (x8, 0))))
/-! lampwright lampwrightref.FibSum -/
def M_R_FibSum_j14 (_F : Nat) (x337 : Int) : Option (Int × Int) :=
  some (x337, 0)
def M_R_FibSum_j27 (F : Nat) (rec23 : (Int × Int) → Option (Int × Int)) (x1 : List Int) (x448 : Int) (x449 : Int) (x654 : Bool) : Option (Int × Int) :=
  (if x654 then some (0, 4) else ((idx x1 x449).bind fun x655 => ((M_R_FibNum F x655).bind fun x658 => rec23 (iadd .u64 x448 x658, iadd .i64 x449 1))))
def M_R_FibSum_b23 (F : Nat) (x1 : List Int) (rec23 : (Int × Int) → Option (Int × Int)) (x448 : Int) (x449 : Int) : Option (Int × Int) :=
  (if (decide (x449 < (x1.length : Int))) then ((idx x1 x449).bind fun x621 => ((M_R_between F x621 0 63).bind fun x624 => (if (!x624) then some (0, 3) else (if (decide (0 < x449)) then ((idx x1 x449).bind fun x661 => ((idx x1 (isub .i64 x449 1)).bind fun x665 => M_R_FibSum_j27 F rec23 x1 x448 x449 (decide (x661 < (iadd .i64 x665 2))))) else M_R_FibSum_j27 F rec23 x1 x448 x449 false)))) else M_R_FibSum_j14 F x448)
def M_R_FibSum_l23 (F : Nat) (x1 : List Int) : Nat → (Int × Int) → Option (Int × Int)
  | 0 => fun _ => none
  | k + 1 => fun s => M_R_FibSum_b23 F x1 (M_R_FibSum_l23 F x1 k) s.1 s.2
def M_R_FibSum (F : Nat) (x1 : List Int) : Option (Int × Int) :=
  M_R_FibSum_l23 F x1 F (0, 0)
/-! lampwright lampwrightref.ReadErr -/
def M_R_ReadErr_j2 (_F : Nat) (x13 : Int) : Option Int :=
  some x13
def M_R_ReadErr_j3 (F : Nat) (x7 : Int) (x16 : Bool) : Option Int :=
  (if x16 then M_R_ReadErr_j2 F 3 else M_R_ReadErr_j2 F x7)
def M_R_ReadErr (F : Nat) (x1 : Int) (x2 : List Int) (x5 : Int) : Option Int :=
  ((M_R_BitsCheck F x1 x2).bind fun x7 => (if ((x7 : Int) == 0) then ((M_R_between F x5 0 x1).bind fun x18 => M_R_ReadErr_j3 F x7 (!x18)) else M_R_ReadErr_j3 F x7 false))
/-! lampwright lampwrightref.FibRead -/
def M_R_FibRead_j22 (_F : Nat) (x169 : Int) (x211 : Int) : Option (Int × Int × Int) :=
  (if (decide (1099511627776 < (isub .u64 x211 1))) then some (0, 0, 3) else some (isub .u64 x211 1, iadd .i64 x169 2, 0))
def M_R_FibRead_b23 (F : Nat) (x1 : List Int) (x4 : Int) (x169 : Int) (rec23 : (Int × Int) → Option (Int × Int × Int)) (x226 : Int) (x227 : Int) : Option (Int × Int × Int) :=
  (if (decide (x227 ≤ x169)) then ((idx x1 x227).bind fun x247 => ((M_R_FibNum F (isub .i64 x227 x4)).bind fun x251 => rec23 (iadd .u64 x226 (imul .u64 (iconv .u64 x247) x251), iadd .i64 x227 1))) else M_R_FibRead_j22 F x169 x226)
def M_R_FibRead_l23 (F : Nat) (x1 : List Int) (x4 : Int) (x169 : Int) : Nat → (Int × Int) → Option (Int × Int × Int)
  | 0 => fun _ => none
  | k + 1 => fun s => M_R_FibRead_b23 F x1 x4 x169 (M_R_FibRead_l23 F x1 x4 x169 k) s.1 s.2
def M_R_FibRead_j20 (F : Nat) (x1 : List Int) (x4 : Int) (x169 : Int) : Option (Int × Int × Int) :=
  (if (decide ((x1.length : Int) ≤ (iadd .i64 x169 1))) then some (0, 0, 7) else (if (decide (60 < (isub .i64 x169 x4))) then some (0, 0, 3) else M_R_FibRead_l23 F x1 x4 x169 F (0, x4)))
def M_R_FibRead_j41 (F : Nat) (rec36 : Int → Option (Int × Int × Int)) (x1 : List Int) (x4 : Int) (x309 : Int) (x405 : Bool) : Option (Int × Int × Int) :=
  (if x405 then rec36 (iadd .i64 x309 1) else M_R_FibRead_j20 F x1 x4 x309)
def M_R_FibRead_j42 (F : Nat) (rec36 : Int → Option (Int × Int × Int)) (x1 : List Int) (x4 : Int) (x309 : Int) (_x414 : Bool) (x415 : Bool) : Option (Int × Int × Int) :=
  M_R_FibRead_j41 F rec36 x1 x4 x309 (!x415)
def M_R_FibRead_b36 (F : Nat) (x1 : List Int) (x4 : Int) (rec36 : Int → Option (Int × Int × Int)) (x309 : Int) : Option (Int × Int × Int) :=
  (if (decide ((iadd .i64 x309 1) < (x1.length : Int))) then ((idx x1 x309).bind fun x407 => (if ((x407 : Int) == 1) then ((idx x1 (iadd .i64 x309 1)).bind fun x416 => M_R_FibRead_j42 F rec36 x1 x4 x309 true ((x416 : Int) == 1)) else M_R_FibRead_j42 F rec36 x1 x4 x309 false false)) else M_R_FibRead_j41 F rec36 x1 x4 x309 false)
def M_R_FibRead_l36 (F : Nat) (x1 : List Int) (x4 : Int) : Nat → Int → Option (Int × Int × Int)
  | 0 => fun _ => none
  | k + 1 => fun s => M_R_FibRead_b36 F x1 x4 (M_R_FibRead_l36 F x1 x4 k) s
def M_R_FibRead (F : Nat) (x1 : List Int) (x4 : Int) : Option (Int × Int × Int) :=
  M_R_FibRead_l36 F x1 x4 F x4
/-! lampwright bits.places -/
def M_bits_places (_F : Nat) (_x1 : Int) (_x2 : List Int) (_x5 : Int) (_x6 : Int) : Option Unit :=
  some ()
/-! lampwright bits.places$1 -/
def M_bits_places_1_b1 {σ τ : Type} (F : Nat) (yy : σ → Int → Option (σ ⊕ τ)) (x4 : Int) (x6 : Int) (x7 : List Int) (rec1 : (Int × σ) → Option (σ ⊕ τ)) (x22 : Int) (x23 : σ) : Option (σ ⊕ τ) :=
  (if (decide (x22 < x4)) then ((M_bits_At F x6 x7 x22).bind fun x44 => ((yy x23 x44).bind (Sum.elim (fun x45 => rec1 (iadd .i64 x22 1, x45)) (fun x46 => some (.inr x46))))) else some (.inl x23))
def M_bits_places_1_l1 {σ τ : Type} (F : Nat) (yy : σ → Int → Option (σ ⊕ τ)) (x4 : Int) (x6 : Int) (x7 : List Int) : Nat → (Int × σ) → Option (σ ⊕ τ)
  | 0 => fun _ => none
  | k + 1 => fun s => M_bits_places_1_b1 F yy x4 x6 x7 (M_bits_places_1_l1 F yy x4 x6 x7 k) s.1 s.2
def M_bits_places_1 {σ τ : Type} (F : Nat) (yy : σ → Int → Option (σ ⊕ τ)) (x2 : Int) (x4 : Int) (x6 : Int) (x7 : List Int) (s0 : σ) : Option (σ ⊕ τ) :=
  M_bits_places_1_l1 F yy x4 x6 x7 F (x2, s0)
/-! lampwright bits.Both -/
def M_bits_Both_r2 (F : Nat) (x45 : Int) (x48 : List Int) (x53 : Int) : Option ((Int × List Int) ⊕ Empty) :=
  ((M_bits_writer_bit F x45 x48 x53).bind fun x54 => some (.inl (x54.1, x54.2)))
def M_bits_Both (F : Nat) (x1 : Int) (x2 : List Int) (x5 : Int) (x6 : List Int) : Option (Int × List Int) :=
  ((M_bits_own F x1 x2).bind fun x12 => ((M_bits_places F x5 x6 0 x5).bind fun _x37 => ((M_bits_places_1 F (fun ((x45, x48) : (Int × List Int)) (x53 : Int) => M_bits_Both_r2 F x45 x48 x53) 0 x5 x5 x6 (x12.1, x12.2)).bind (Sum.elim (fun ((x45, x48) : (Int × List Int)) => some (x45, x48)) (fun t => t.elim)))))
/-! lampwright bits.Join -/
def M_bits_Join_j2 (F : Nat) (x1 : Int) (x2 : List Int) (x5 : Int) (x6 : List Int) (x18 : Int) : Option (Int × List Int × Int) :=
  (if ((x18 : Int) != 0) then some (0, ([] : List Int), x18) else ((M_bits_Both F x1 x2 x5 x6).bind fun x20 => some (x20.1, x20.2, 0)))
def M_bits_Join_j1 (F : Nat) (x1 : Int) (x2 : List Int) (x5 : Int) (x6 : List Int) (x15 : Int) : Option (Int × List Int × Int) :=
  (if (((x15 : Int) == 0) && (decide (8192 < (iadd .i64 x1 x5)))) then M_bits_Join_j2 F x1 x2 x5 x6 8 else M_bits_Join_j2 F x1 x2 x5 x6 x15)
def M_bits_Join (F : Nat) (x1 : Int) (x2 : List Int) (x5 : Int) (x6 : List Int) : Option (Int × List Int × Int) :=
  ((M_bits_Check F x1 x2).bind fun x12 => (if ((x12 : Int) == 0) then ((M_bits_Check F x5 x6).bind fun x26 => M_bits_Join_j1 F x1 x2 x5 x6 x26) else M_bits_Join_j1 F x1 x2 x5 x6 x12))
/-! lampwright bits.Get -/
def M_bits_Get_j2 (F : Nat) (x1 : Int) (x2 : List Int) (x5 : Int) (x6 : Int) (x18 : Int) : Option (Int × Int) :=
  (if ((x18 : Int) != 0) then some (0, x18) else ((M_bits_Read F x1 x2 x5 x6).bind fun x20 => (if (!x20.2) then some (0, 7) else some (x20.1, 0))))
def M_bits_Get_j3 (F : Nat) (x1 : Int) (x2 : List Int) (x5 : Int) (x6 : Int) (x8 : Int) (x28 : Bool) : Option (Int × Int) :=
  (if x28 then M_bits_Get_j2 F x1 x2 x5 x6 3 else M_bits_Get_j2 F x1 x2 x5 x6 x8)
def M_bits_Get (F : Nat) (x1 : Int) (x2 : List Int) (x5 : Int) (x6 : Int) : Option (Int × Int) :=
  ((M_bits_Check F x1 x2).bind fun x8 => (if ((x8 : Int) == 0) then M_bits_Get_j3 F x1 x2 x5 x6 x8 ((((decide (x6 < 0)) || (decide (64 < x6))) || (decide (x5 < 0))) || (decide (x1 < x5))) else M_bits_Get_j3 F x1 x2 x5 x6 x8 false))
/-! lampwright bits.Cut -/
def M_bits_Cut_r4 (F : Nat) (x51 : Int) (x54 : List Int) (x59 : Int) : Option ((Int × List Int) ⊕ Empty) :=
  ((M_bits_writer_bit F x51 x54 x59).bind fun x60 => some (.inl (x60.1, x60.2)))
def M_bits_Cut_j2 (F : Nat) (x1 : Int) (x2 : List Int) (x5 : Int) (x6 : Int) (x19 : Int) : Option (Int × List Int × Int) :=
  (if ((x19 : Int) != 0) then some (0, ([] : List Int), x19) else ((M_bits_places F x1 x2 x5 x6).bind fun _x43 => ((M_bits_places_1 F (fun ((x51, x54) : (Int × List Int)) (x59 : Int) => M_bits_Cut_r4 F x51 x54 x59) x5 x6 x1 x2 (0, ([] : List Int))).bind (Sum.elim (fun ((x51, x54) : (Int × List Int)) => some (x51, x54, 0)) (fun t => t.elim)))))
def M_bits_Cut_j5 (F : Nat) (x1 : Int) (x2 : List Int) (x5 : Int) (x6 : Int) (x9 : Int) (x68 : Bool) : Option (Int × List Int × Int) :=
  (if x68 then M_bits_Cut_j2 F x1 x2 x5 x6 3 else M_bits_Cut_j2 F x1 x2 x5 x6 x9)
def M_bits_Cut (F : Nat) (x1 : Int) (x2 : List Int) (x5 : Int) (x6 : Int) : Option (Int × List Int × Int) :=
  ((M_bits_Check F x1 x2).bind fun x9 => (if ((x9 : Int) == 0) then M_bits_Cut_j5 F x1 x2 x5 x6 x9 ((((decide (x5 < 0)) || (decide (x1 < x5))) || (decide (x6 < x5))) || (decide (x1 < x6))) else M_bits_Cut_j5 F x1 x2 x5 x6 x9 false))
/-! lampwright bits.Put -/
def M_bits_Put_j4 (F : Nat) (x1 : Int) (x2 : List Int) (x5 : Int) (x6 : Int) (x24 : Int) : Option (Int × List Int × Int) :=
  (if ((x24 : Int) != 0) then some (0, ([] : List Int), x24) else ((M_bits_Add F x1 x2 x5 x6).bind fun x26 => some (x26.1, x26.2, 0)))
def M_bits_Put_j6 (F : Nat) (x1 : Int) (x2 : List Int) (x5 : Int) (x6 : Int) (x9 : Int) (x36 : Bool) : Option (Int × List Int × Int) :=
  (if x36 then M_bits_Put_j4 F x1 x2 x5 x6 3 else (if (decide (8192 < (iadd .i64 x1 x6))) then M_bits_Put_j4 F x1 x2 x5 x6 8 else M_bits_Put_j4 F x1 x2 x5 x6 x9))
def M_bits_Put_j7 (F : Nat) (x1 : Int) (x2 : List Int) (x5 : Int) (x6 : Int) (x9 : Int) (x41 : Bool) : Option (Int × List Int × Int) :=
  M_bits_Put_j6 F x1 x2 x5 x6 x9 x41
def M_bits_Put (F : Nat) (x1 : Int) (x2 : List Int) (x5 : Int) (x6 : Int) : Option (Int × List Int × Int) :=
  ((M_bits_Check F x1 x2).bind fun x9 => (if ((x9 : Int) != 0) then M_bits_Put_j4 F x1 x2 x5 x6 x9 else (if ((decide (x6 < 0)) || (decide (64 < x6))) then M_bits_Put_j6 F x1 x2 x5 x6 x9 true else (if (decide (x6 < 64)) then (chk (decide (0 ≤ x6)) (M_bits_Put_j7 F x1 x2 x5 x6 x9 (((ishr .u64 x5 x6) : Int) != 0))) else M_bits_Put_j7 F x1 x2 x5 x6 x9 false))))
/-! lampwright lampwrightlaw.bitsBegun -/
def M_L_bitsBegun_j3 (_F : Nat) (x42 : Bool) : Option Bool :=
  some x42
def M_L_bitsBegun_j2 (F : Nat) (x14 : (Int × List Int × Int)) (x18 : (Int × Int)) (x35 : Bool) : Option Bool :=
  (if ((x35 && ((x14.2.2 : Int) == 0)) && ((x18.2 : Int) == 7)) then ((M_bits_Check F 3 ([1] : List Int)).bind fun x45 => M_L_bitsBegun_j3 F ((x45 : Int) == 1)) else M_L_bitsBegun_j3 F false)
def M_L_bitsBegun_j1 (F : Nat) (x1 : (Int × List Int × Int)) (x5 : (Int × List Int × Int)) (x9 : (Int × Int)) (x10 : (Int × List Int × Int)) (x14 : (Int × List Int × Int)) (x18 : (Int × Int)) (x27 : Bool) : Option Bool :=
  (if (((((x27 && ((x5.2.2 : Int) == 0)) && ((x9.1 : Int) == 9)) && ((x9.2 : Int) == 0)) && ((x10.1 : Int) == 13)) && ((x10.2.2 : Int) == 0)) then ((M_R_SameBits F x14.1 x14.2.1 x1.1 x1.2.1).bind fun x46 => M_L_bitsBegun_j2 F x14 x18 x46) else M_L_bitsBegun_j2 F x14 x18 false)
def M_L_bitsBegun (F : Nat)  : Option Bool :=
  ((M_bits_Put F 0 ([] : List Int) 5 3).bind fun x1 => ((M_bits_Put F x1.1 x1.2.1 9 7).bind fun x5 => ((M_bits_Get F x5.1 x5.2.1 3 7).bind fun x9 => ((M_bits_Join F x1.1 x1.2.1 x5.1 x5.2.1).bind fun x10 => ((M_bits_Cut F x5.1 x5.2.1 0 3).bind fun x14 => ((M_bits_Get F x5.1 x5.2.1 9 2).bind fun x18 => ((M_R_SameBits F x1.1 x1.2.1 3 ([160] : List Int)).bind fun x21 => (if (x21 && ((x1.2.2 : Int) == 0)) then ((M_R_SameBits F x5.1 x5.2.1 10 ([162, 64] : List Int)).bind fun x49 => M_L_bitsBegun_j1 F x1 x5 x9 x10 x14 x18 x49) else M_L_bitsBegun_j1 F x1 x5 x9 x10 x14 x18 false))))))))
/-! slices.Reverse[[]int,int] -/
def M_slices_Reverse_int_int_b1 (_F : Nat) (rec1 : (List Int × Int × Int) → Option Unit) (x53 : List Int) (x54 : Int) (x55 : Int) : Option Unit :=
  (if (decide (x54 < x55)) then ((idx x53 x55).bind fun x126 => ((idx x53 x54).bind fun x130 => ((idx x53 x54).bind fun _x134 => ((idx x53 x55).bind fun _x138 => (lett (x53.set x54.toNat x126) fun x142 => (lett (x142.set x55.toNat x130) fun x145 => rec1 (x145, iadd .i64 x54 1, isub .i64 x55 1))))))) else some ())
def M_slices_Reverse_int_int_l1 (F : Nat) : Nat → (List Int × Int × Int) → Option Unit
  | 0 => fun _ => none
  | k + 1 => fun s => M_slices_Reverse_int_int_b1 F (M_slices_Reverse_int_int_l1 F k) s.1 s.2.1 s.2.2
def M_slices_Reverse_int_int (F : Nat) (x1 : List Int) : Option Unit :=
  M_slices_Reverse_int_int_l1 F F (x1, 0, isub .i64 (x1.length : Int) 1)
/-! slices.Index[[]int,int] -/
def M_slices_Index_int_int_j2 (_F : Nat) : Option Int :=
  some (-1)
def M_slices_Index_int_int_b3 (F : Nat) (x1 : List Int) (x4 : Int) (rec3 : Int → Option Int) (x47 : Int) : Option Int :=
  (if (decide (x47 < (x1.length : Int))) then ((idx x1 x47).bind fun x64 => (if ((x4 : Int) == x64) then some x47 else rec3 (iadd .i64 x47 1))) else M_slices_Index_int_int_j2 F)
def M_slices_Index_int_int_l3 (F : Nat) (x1 : List Int) (x4 : Int) : Nat → Int → Option Int
  | 0 => fun _ => none
  | k + 1 => fun s => M_slices_Index_int_int_b3 F x1 x4 (M_slices_Index_int_int_l3 F x1 x4 k) s
def M_slices_Index_int_int (F : Nat) (x1 : List Int) (x4 : Int) : Option Int :=
  M_slices_Index_int_int_l3 F x1 x4 F 0
/-! slices.Contains[[]int,int] -/
def M_slices_Contains_int_int (F : Nat) (x1 : List Int) (x4 : Int) : Option Bool :=
  ((M_slices_Index_int_int F x1 x4).bind fun x5 => some (decide (0 ≤ x5)))
end Go.Proofs.Ytecangnmnkejfaa
