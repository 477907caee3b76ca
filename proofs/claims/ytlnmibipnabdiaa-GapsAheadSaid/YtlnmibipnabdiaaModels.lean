/- What each Go function of this seat computes, in plain terms. -/
import Derived.Test.YtlnmibipnabdiaaSx
namespace Go.Proofs.Ytlnmibipnabdiaa
open Go SX
/-! lampwright gaps.node -/
def M_gaps_node (_F : Nat) (x1 : Int) : Option Bool :=
  some ((decide (0 ≤ x1)) && (decide (x1 ≤ 1048576)))
/-! lampwright gaps.Check -/
def M_gaps_Check_j2 (_F : Nat) : Option Int :=
  some 0
def M_gaps_Check_b3 (F : Nat) (x1 : List Int) (rec3 : (Int × Int) → Option Int) (x88 : Int) (x89 : Int) : Option Int :=
  (if (decide (x89 < (x1.length : Int))) then ((idx x1 x89).bind fun x121 => ((M_gaps_node F x121).bind fun x127 => (if (!x127) then some 3 else (if (decide (x121 ≤ x88)) then some 4 else rec3 (x121, iadd .i64 x89 1))))) else M_gaps_Check_j2 F)
def M_gaps_Check_l3 (F : Nat) (x1 : List Int) : Nat → (Int × Int) → Option Int
  | 0 => fun _ => none
  | k + 1 => fun s => M_gaps_Check_b3 F x1 (M_gaps_Check_l3 F x1 k) s.1 s.2
def M_gaps_Check (F : Nat) (x1 : List Int) : Option Int :=
  (if (decide (300 < (x1.length : Int))) then some 2 else M_gaps_Check_l3 F x1 F (-1, 0))
/-! lampwright varint.Fold -/
def M_varint_Fold (_F : Nat) (x1 : Int) : Option Int :=
  (lett (ixor .u64 (ishl .u64 (iconv .u64 x1) 1) (iconv .u64 (ishr .i64 x1 63))) fun x2 => some x2)
/-! (*lampwright gaps.walker).gap -/
def M_gaps_walker_gap_j1 (_F : Nat) (x4 : Int) (x8 : Int) : Option (Int × Int × Bool) :=
  some (x8, x4, true)
def M_gaps_walker_gap (F : Nat) (x2 : Int) (x3 : Bool) (x4 : Int) : Option (Int × Int × Bool) :=
  (if x3 then (lett (iconv .u64 (isub .i64 (isub .i64 x4 x2) 1)) fun x9 => M_gaps_walker_gap_j1 F x4 x9) else ((M_varint_Fold F (isub .i64 x4 x2)).bind fun x10 => M_gaps_walker_gap_j1 F x4 x10))
/-! lampwright gaps.Raw -/
def M_gaps_Raw_j2 (_F : Nat) (x75 : List Int) : Option (List Int) :=
  some x75
def M_gaps_Raw_b3 (F : Nat) (x1 : List Int) (rec3 : (List Int × Int × Int × Bool) → Option (List Int)) (x98 : List Int) (x99 : Int) (x100 : Int) (x101 : Bool) : Option (List Int) :=
  (if (decide (x99 < (x1.length : Int))) then ((idx x1 x99).bind fun x133 => ((M_gaps_walker_gap F x100 x101 x133).bind fun x136 => ((app 8796093022208 x98 ([x136.1] : List Int)).bind fun x139 => rec3 (x139, iadd .i64 x99 1, x136.2.1, x136.2.2)))) else M_gaps_Raw_j2 F x98)
def M_gaps_Raw_l3 (F : Nat) (x1 : List Int) : Nat → (List Int × Int × Int × Bool) → Option (List Int)
  | 0 => fun _ => none
  | k + 1 => fun s => M_gaps_Raw_b3 F x1 (M_gaps_Raw_l3 F x1 k) s.1 s.2.1 s.2.2.1 s.2.2.2
def M_gaps_Raw (F : Nat) (x1 : List Int) (x4 : Int) : Option (List Int) :=
  M_gaps_Raw_l3 F x1 F (([] : List Int), 0, x4, false)
/-! lampwright gaps.Gaps -/
def M_gaps_Gaps_j2 (F : Nat) (x1 : List Int) (x4 : Int) (x11 : Int) : Option (List Int × Int) :=
  (if ((x11 : Int) != 0) then some (([] : List Int), x11) else ((M_gaps_Raw F x1 x4).bind fun x13 => some (x13, 0)))
def M_gaps_Gaps_j3 (F : Nat) (x1 : List Int) (x4 : Int) (x5 : Int) (x19 : Bool) : Option (List Int × Int) :=
  (if x19 then M_gaps_Gaps_j2 F x1 x4 3 else M_gaps_Gaps_j2 F x1 x4 x5)
def M_gaps_Gaps (F : Nat) (x1 : List Int) (x4 : Int) : Option (List Int × Int) :=
  ((M_gaps_Check F x1).bind fun x5 => (if ((x5 : Int) == 0) then ((M_gaps_node F x4).bind fun x21 => M_gaps_Gaps_j3 F x1 x4 x5 (!x21)) else M_gaps_Gaps_j3 F x1 x4 x5 false))
/-! lampwright varint.Unfold -/
def M_varint_Unfold (_F : Nat) (x1 : Int) : Option Int :=
  (lett (ixor .i64 (iconv .i64 (ishr .u64 x1 1)) (isub .i64 0 (iconv .i64 (iand .u64 x1 1)))) fun x2 => some x2)
/-! (*lampwright gaps.walker).step -/
def M_gaps_walker_step_j1 (F : Nat) (x8 : Int) : Option (Bool × Int × Bool) :=
  ((M_gaps_node F x8).bind fun x9 => some (x9, x8, true))
def M_gaps_walker_step (F : Nat) (x2 : Int) (x3 : Bool) (x4 : Int) : Option (Bool × Int × Bool) :=
  (if (decide (2097152 < x4)) then some (false, x2, x3) else (if x3 then M_gaps_walker_step_j1 F (iadd .i64 x2 (iadd .i64 (iconv .i64 x4) 1)) else ((M_varint_Unfold F x4).bind fun x10 => M_gaps_walker_step_j1 F (iadd .i64 x2 x10))))
/-! lampwright gaps.Back -/
def M_gaps_Back_j2 (_F : Nat) (x97 : List Int) : Option (List Int × Int) :=
  some (x97, 0)
def M_gaps_Back_b3 (F : Nat) (x1 : List Int) (rec3 : (List Int × Int × Int × Bool) → Option (List Int × Int)) (x126 : List Int) (x127 : Int) (x128 : Int) (x129 : Bool) : Option (List Int × Int) :=
  (if (decide (x127 < (x1.length : Int))) then ((idx x1 x127).bind fun x170 => ((M_gaps_walker_step F x128 x129 x170).bind fun x175 => (if (!x175.1) then some (([] : List Int), 3) else ((app 8796093022208 x126 ([x175.2.1] : List Int)).bind fun x178 => rec3 (x178, iadd .i64 x127 1, x175.2.1, x175.2.2))))) else M_gaps_Back_j2 F x126)
def M_gaps_Back_l3 (F : Nat) (x1 : List Int) : Nat → (List Int × Int × Int × Bool) → Option (List Int × Int)
  | 0 => fun _ => none
  | k + 1 => fun s => M_gaps_Back_b3 F x1 (M_gaps_Back_l3 F x1 k) s.1 s.2.1 s.2.2.1 s.2.2.2
def M_gaps_Back (F : Nat) (x1 : List Int) (x4 : Int) : Option (List Int × Int) :=
  (if (decide (300 < (x1.length : Int))) then some (([] : List Int), 2) else ((M_gaps_node F x4).bind fun x8 => (if (!x8) then some (([] : List Int), 3) else M_gaps_Back_l3 F x1 F (([] : List Int), 0, x4, false))))
/-! lampwright bits.places -/
def M_bits_places (_F : Nat) (_x1 : Int) (_x2 : List Int) (_x5 : Int) (_x6 : Int) : Option Unit :=
  some ()
/-! (*lampwright bits.writer).bit -/
def M_bits_writer_bit_j1 (_F : Nat) (x2 : Int) (x6 : Int) (x15 : List Int) : Option (Int × List Int) :=
  ((idx x15 (iquo .i64 x2 8)).bind fun x30 => (chk (decide (0 ≤ (irem x2 8))) (((idx x15 (iquo .i64 x2 8)).bind fun _x36 => (lett (x15.set (iquo .i64 x2 8).toNat (ior .u8 x30 (ishr .u8 (iconv .u8 (ishl .u64 x6 7)) (irem x2 8)))) fun x41 => some (iadd .i64 x2 1, x41))))))
def M_bits_writer_bit (F : Nat) (x2 : Int) (x3 : List Int) (x6 : Int) : Option (Int × List Int) :=
  (if (((irem x2 8) : Int) == 0) then ((app 70368744177664 x3 ([0] : List Int)).bind fun x46 => M_bits_writer_bit_j1 F x2 x6 x46) else M_bits_writer_bit_j1 F x2 x6 x3)
/-! slices.Clone[[]byte,byte] -/
def M_slices_Clone_byte_byte (_F : Nat) (x1 : List Int) : Option (List Int) :=
  ((app 70368744177664 ([] : List Int) x1).bind fun x8 => some x8)
/-! lampwright bits.own -/
def M_bits_own (F : Nat) (x1 : Int) (x2 : List Int) : Option (Int × List Int) :=
  ((M_slices_Clone_byte_byte F x2).bind fun x10 => some (x1, x10))
/-! lampwright bits.At -/
def M_bits_At (_F : Nat) (_x1 : Int) (x2 : List Int) (x5 : Int) : Option Int :=
  ((idx x2 (iquo .i64 x5 8)).bind fun x7 => (chk (decide (0 ≤ (isub .i64 7 (irem x5 8)))) ((lett (iand .u64 (iconv .u64 (ishr .u8 x7 (isub .i64 7 (irem x5 8)))) 1) fun x11 => some x11))))
/-! lampwright bits.places$1 -/
def M_bits_places_1_b1 {σ τ : Type} (F : Nat) (yy : σ → Int → Option (σ ⊕ τ)) (x4 : Int) (x6 : Int) (x7 : List Int) (rec1 : (Int × σ) → Option (σ ⊕ τ)) (x22 : Int) (x23 : σ) : Option (σ ⊕ τ) :=
  (if (decide (x22 < x4)) then ((M_bits_At F x6 x7 x22).bind fun x44 => ((yy x23 x44).bind (Sum.elim (fun x45 => rec1 (iadd .i64 x22 1, x45)) (fun x46 => some (.inr x46))))) else some (.inl x23))
def M_bits_places_1_l1 {σ τ : Type} (F : Nat) (yy : σ → Int → Option (σ ⊕ τ)) (x4 : Int) (x6 : Int) (x7 : List Int) : Nat → (Int × σ) → Option (σ ⊕ τ)
  | 0 => fun _ => none
  | k + 1 => fun s => M_bits_places_1_b1 F yy x4 x6 x7 (M_bits_places_1_l1 F yy x4 x6 x7 k) s.1 s.2
def M_bits_places_1 {σ τ : Type} (F : Nat) (yy : σ → Int → Option (σ ⊕ τ)) (x2 : Int) (x4 : Int) (x6 : Int) (x7 : List Int) (s0 : σ) : Option (σ ⊕ τ) :=
  M_bits_places_1_l1 F yy x4 x6 x7 F (x2, s0)
/-! lampwright bits.Both -/
def M_bits_Both_r2 (F : Nat) (x45 : Int) (x48 : List Int) (x53 : Int) : Option ((Int × List Int) ⊕ Empty) :=
  ((M_bits_writer_bit F x45 x48 x53).bind fun x54 => some (.inl (x54.1, x54.2)))
def M_bits_Both (F : Nat) (x1 : Int) (x2 : List Int) (x5 : Int) (x6 : List Int) : Option (Int × List Int) :=
  ((M_bits_own F x1 x2).bind fun x12 => ((M_bits_places F x5 x6 0 x5).bind fun _x37 => ((M_bits_places_1 F (fun ((x45, x48) : (Int × List Int)) (x53 : Int) => M_bits_Both_r2 F x45 x48 x53) 0 x5 x5 x6 (x12.1, x12.2)).bind (Sum.elim (fun ((x45, x48) : (Int × List Int)) => some (x45, x48)) (fun t => t.elim)))))
/-! math bits.Len64 -/
def M_math_bits_Len64_j3 (_F : Nat) (x9 : Int) (x10 : Int) : Option Int :=
  ((idx ([0, 1, 2, 2, 3, 3, 3, 3, 4, 4, 4, 4, 4, 4, 4, 4, 5, 5, 5, 5, 5, 5, 5, 5, 5, 5, 5, 5, 5, 5, 5, 5, 6, 6, 6, 6, 6, 6, 6, 6, 6, 6, 6, 6, 6, 6, 6, 6, 6, 6, 6, 6, 6, 6, 6, 6, 6, 6, 6, 6, 6, 6, 6, 6, 7, 7, 7, 7, 7, 7, 7, 7, 7, 7, 7, 7, 7, 7, 7, 7, 7, 7, 7, 7, 7, 7, 7, 7, 7, 7, 7, 7, 7, 7, 7, 7, 7, 7, 7, 7, 7, 7, 7, 7, 7, 7, 7, 7, 7, 7, 7, 7, 7, 7, 7, 7, 7, 7, 7, 7, 7, 7, 7, 7, 7, 7, 7, 7, 8, 8, 8, 8, 8, 8, 8, 8, 8, 8, 8, 8, 8, 8, 8, 8, 8, 8, 8, 8, 8, 8, 8, 8, 8, 8, 8, 8, 8, 8, 8, 8, 8, 8, 8, 8, 8, 8, 8, 8, 8, 8, 8, 8, 8, 8, 8, 8, 8, 8, 8, 8, 8, 8, 8, 8, 8, 8, 8, 8, 8, 8, 8, 8, 8, 8, 8, 8, 8, 8, 8, 8, 8, 8, 8, 8, 8, 8, 8, 8, 8, 8, 8, 8, 8, 8, 8, 8, 8, 8, 8, 8, 8, 8, 8, 8, 8, 8, 8, 8, 8, 8, 8, 8, 8, 8, 8, 8, 8, 8, 8, 8, 8, 8, 8, 8, 8, 8, 8, 8, 8, 8, 8, 8, 8, 8, 8, 8] : List Int) (iconv .u8 x9)).bind fun x11 => some (iadd .i64 x10 (iconv .i64 x11)))
def M_math_bits_Len64_j2 (F : Nat) (x6 : Int) (x7 : Int) : Option Int :=
  (if (decide (256 ≤ x6)) then M_math_bits_Len64_j3 F (ishr .u64 x6 8) (iadd .i64 x7 8) else M_math_bits_Len64_j3 F x6 x7)
def M_math_bits_Len64_j1 (F : Nat) (x3 : Int) (x4 : Int) : Option Int :=
  (if (decide (65536 ≤ x3)) then M_math_bits_Len64_j2 F (ishr .u64 x3 16) (iadd .i64 x4 16) else M_math_bits_Len64_j2 F x3 x4)
def M_math_bits_Len64 (F : Nat) (x1 : Int) : Option Int :=
  (if (decide (4294967296 ≤ x1)) then M_math_bits_Len64_j1 F (ishr .u64 x1 32) 32 else M_math_bits_Len64_j1 F x1 0)
/-! lampwright golomb.span -/
def M_golomb_span (F : Nat) (x1 : Int) (x2 : Int) : Option (Int × Int × Int) :=
  ((M_math_bits_Len64 F (iadd .u64 x1 1)).bind fun x3 => (chk ((x2 : Int) != 0) ((chk (decide (0 ≤ (imul .i64 (iquo .i64 (isub .i64 x3 1) x2) x2))) ((chk (decide (0 ≤ (iadd .i64 (imul .i64 (iquo .i64 (isub .i64 x3 1) x2) x2) x2))) (some (iquo .i64 (isub .i64 x3 1) x2, ishl .u64 1 (imul .i64 (iquo .i64 (isub .i64 x3 1) x2) x2), ishl .u64 1 (iadd .i64 (imul .i64 (iquo .i64 (isub .i64 x3 1) x2) x2) x2)))))))))
/-! (*lampwright bits.writer).number -/
def M_bits_writer_number_b1 (F : Nat) (x6 : Int) (rec1 : (Int × Int × List Int) → Option (Int × List Int)) (x18 : Int) (x19 : Int) (x22 : List Int) : Option (Int × List Int) :=
  (if (decide (0 ≤ x18)) then (chk (decide (0 ≤ x18)) (((M_bits_writer_bit F x19 x22 (iand .u64 (ishr .u64 x6 x18) 1)).bind fun x40 => rec1 (isub .i64 x18 1, x40.1, x40.2)))) else some (x19, x22))
def M_bits_writer_number_l1 (F : Nat) (x6 : Int) : Nat → (Int × Int × List Int) → Option (Int × List Int)
  | 0 => fun _ => none
  | k + 1 => fun s => M_bits_writer_number_b1 F x6 (M_bits_writer_number_l1 F x6 k) s.1 s.2.1 s.2.2
def M_bits_writer_number (F : Nat) (x2 : Int) (x3 : List Int) (x6 : Int) (x7 : Int) : Option (Int × List Int) :=
  M_bits_writer_number_l1 F x6 F (isub .i64 x7 1, x2, x3)
/-! lampwright bits.Add -/
def M_bits_Add (F : Nat) (x1 : Int) (x2 : List Int) (x5 : Int) (x6 : Int) : Option (Int × List Int) :=
  ((M_bits_own F x1 x2).bind fun x9 => ((M_bits_writer_number F x9.1 x9.2 x5 x6).bind fun x13 => some (x13.1, x13.2)))
/-! lampwright golomb.shape -/
def M_golomb_shape (F : Nat) (x1 : Int) : Option (Int × Int) :=
  ((M_math_bits_Len64 F (isub .u64 x1 1)).bind fun x2 => (chk (decide (0 ≤ x2)) (some (x2, isub .u64 (ishl .u64 1 x2) x1))))
/-! lampwright golomb.addLeast -/
def M_golomb_addLeast (F : Nat) (x1 : Int) (x2 : List Int) (x5 : Int) (x6 : Int) : Option (Int × List Int) :=
  ((M_golomb_shape F x6).bind fun x9 => (if (decide (x5 < x9.2)) then ((M_bits_Add F x1 x2 x5 (isub .i64 x9.1 1)).bind fun x14 => some (x14.1, x14.2)) else ((M_bits_Add F x1 x2 (iadd .u64 x5 x9.2) x9.1).bind fun x17 => some (x17.1, x17.2))))
/-! lampwright unary.Raw -/
def M_unary_Raw (F : Nat) (x1 : Int) : Option (Int × List Int) :=
  ((mk 140737488355328 (0 : Int) (iquo .u64 (iadd .u64 x1 7) 8)).bind fun x3 => ((M_bits_Add F (iconv .i64 x1) x3 1 1).bind fun x6 => some (x6.1, x6.2)))
/-! lampwright golomb.Zeta -/
def M_golomb_Zeta (F : Nat) (x1 : Int) (x2 : Int) : Option (Int × List Int × Int) :=
  (if (((decide (x2 < 1)) || (decide (16 < x2))) || (decide (1099511627776 < x1))) then some (0, ([] : List Int), 3) else ((M_golomb_span F x1 x2).bind fun x9 => ((M_unary_Raw F (iconv .u64 x9.1)).bind fun x10 => ((M_golomb_addLeast F x10.1 x10.2 (isub .u64 (iadd .u64 x1 1) x9.2.1) (isub .u64 x9.2.2 x9.2.1)).bind fun x13 => some (x13.1, x13.2, 0)))))
/-! lampwright gaps.Put -/
def M_gaps_Put_j2 (_F : Nat) (x107 : Int) (x110 : List Int) : Option (Int × List Int × Bool) :=
  some (x107, x110, true)
def M_gaps_Put_b3 (F : Nat) (x5 : List Int) (x8 : Int) (rec3 : (Int × Int × List Int) → Option (Int × List Int × Bool)) (x141 : Int) (x142 : Int) (x145 : List Int) : Option (Int × List Int × Bool) :=
  (if (decide (x141 < (x5.length : Int))) then ((idx x5 x141).bind fun x192 => ((M_golomb_Zeta F x192 x8).bind fun x195 => (if (((x195.2.2 : Int) != 0) || (decide (8192 < (iadd .i64 x142 x195.1)))) then some (0, ([] : List Int), false) else ((M_bits_Both F x142 x145 x195.1 x195.2.1).bind fun x202 => rec3 (iadd .i64 x141 1, x202.1, x202.2))))) else M_gaps_Put_j2 F x142 x145)
def M_gaps_Put_l3 (F : Nat) (x5 : List Int) (x8 : Int) : Nat → (Int × Int × List Int) → Option (Int × List Int × Bool)
  | 0 => fun _ => none
  | k + 1 => fun s => M_gaps_Put_b3 F x5 x8 (M_gaps_Put_l3 F x5 x8 k) s.1 s.2.1 s.2.2
def M_gaps_Put (F : Nat) (x1 : Int) (x2 : List Int) (x5 : List Int) (x8 : Int) : Option (Int × List Int × Bool) :=
  M_gaps_Put_l3 F x5 x8 F (0, x1, x2)
/-! lampwright gaps.Write -/
def M_gaps_Write_j2 (F : Nat) (x5 : Int) (x7 : (List Int × Int)) (x15 : Int) : Option (Int × List Int × Int) :=
  (if ((x15 : Int) != 0) then some (0, ([] : List Int), x15) else ((M_gaps_Put F 0 ([] : List Int) x7.1 x5).bind fun x17 => (if (!x17.2.2) then some (0, ([] : List Int), 8) else some (x17.1, x17.2.1, 0))))
def M_gaps_Write_j3 (F : Nat) (x5 : Int) (x7 : (List Int × Int)) (x26 : Bool) : Option (Int × List Int × Int) :=
  (if x26 then M_gaps_Write_j2 F x5 x7 3 else M_gaps_Write_j2 F x5 x7 x7.2)
def M_gaps_Write (F : Nat) (x1 : List Int) (x4 : Int) (x5 : Int) : Option (Int × List Int × Int) :=
  ((M_gaps_Gaps F x1 x4).bind fun x7 => (if ((x7.2 : Int) == 0) then M_gaps_Write_j3 F x5 x7 ((decide (x5 < 1)) || (decide (16 < x5))) else M_gaps_Write_j3 F x5 x7 false))
/-! lampwright lampwrightref.between -/
def M_R_between (_F : Nat) (x1 : Int) (x2 : Int) (x3 : Int) : Option Bool :=
  some ((decide (x2 ≤ x1)) && (decide (x1 ≤ x3)))
/-! lampwright lampwrightref.RisingCheck -/
def M_R_RisingCheck_j8 (_F : Nat) : Option Int :=
  some 0
def M_R_RisingCheck_j15 (_F : Nat) (rec13 : Int → Option Int) (x255 : Int) (x368 : Bool) : Option Int :=
  (if x368 then some 4 else rec13 (iadd .i64 x255 1))
def M_R_RisingCheck_b13 (F : Nat) (x1 : List Int) (rec13 : Int → Option Int) (x255 : Int) : Option Int :=
  (if (decide (x255 < (x1.length : Int))) then ((idx x1 x255).bind fun x355 => ((M_R_between F x355 0 1048576).bind fun x358 => (if (!x358) then some 3 else (if (decide (0 < x255)) then ((idx x1 x255).bind fun x371 => ((idx x1 (isub .i64 x255 1)).bind fun x375 => M_R_RisingCheck_j15 F rec13 x255 (decide (x371 ≤ x375)))) else M_R_RisingCheck_j15 F rec13 x255 false)))) else M_R_RisingCheck_j8 F)
def M_R_RisingCheck_l13 (F : Nat) (x1 : List Int) : Nat → Int → Option Int
  | 0 => fun _ => none
  | k + 1 => fun s => M_R_RisingCheck_b13 F x1 (M_R_RisingCheck_l13 F x1 k) s
def M_R_RisingCheck (F : Nat) (x1 : List Int) : Option Int :=
  (if (decide (300 < (x1.length : Int))) then some 2 else M_R_RisingCheck_l13 F x1 F 0)
/-! lampwright lampwrightref.FoldOf -/
def M_R_FoldOf (_F : Nat) (x1 : Int) : Option Int :=
  (if (decide (x1 < 0)) then (lett (iadd .u64 (imul .u64 2 (iconv .u64 (isub .i64 0 (iadd .i64 x1 1)))) 1) fun x4 => some x4) else some (imul .u64 2 (iconv .u64 x1)))
/-! lampwright lampwrightref.GapsOf -/
def M_R_GapsOf_j5 (_F : Nat) (x165 : List Int) : Option (List Int) :=
  some x165
def M_R_GapsOf_j9 (_F : Nat) (rec8 : (List Int × Int) → Option (List Int)) (x220 : Int) (x299 : List Int) : Option (List Int) :=
  rec8 (x299, iadd .i64 x220 1)
def M_R_GapsOf_b8 (F : Nat) (x1 : List Int) (x4 : Int) (rec8 : (List Int × Int) → Option (List Int)) (x219 : List Int) (x220 : Int) : Option (List Int) :=
  (if (decide (x220 < (x1.length : Int))) then (if ((x220 : Int) == 0) then ((idx x1 0).bind fun x300 => ((M_R_FoldOf F (isub .i64 x300 x4)).bind fun x303 => ((app 8796093022208 x219 ([x303] : List Int)).bind fun x306 => M_R_GapsOf_j9 F rec8 x220 x306))) else ((idx x1 x220).bind fun x309 => ((idx x1 (isub .i64 x220 1)).bind fun x313 => ((app 8796093022208 x219 ([iconv .u64 (isub .i64 (isub .i64 x309 x313) 1)] : List Int)).bind fun x319 => M_R_GapsOf_j9 F rec8 x220 x319)))) else M_R_GapsOf_j5 F x219)
def M_R_GapsOf_l8 (F : Nat) (x1 : List Int) (x4 : Int) : Nat → (List Int × Int) → Option (List Int)
  | 0 => fun _ => none
  | k + 1 => fun s => M_R_GapsOf_b8 F x1 x4 (M_R_GapsOf_l8 F x1 x4 k) s.1 s.2
def M_R_GapsOf (F : Nat) (x1 : List Int) (x4 : Int) : Option (List Int) :=
  M_R_GapsOf_l8 F x1 x4 F (([] : List Int), 0)
/-! lampwright lampwrightref.GapNext -/
def M_R_GapNext_j1 (F : Nat) (x10 : Int) : Option Int :=
  ((M_R_between F x10 0 1048576).bind fun x13 => (if (!x13) then some (-1) else some x10))
def M_R_GapNext (F : Nat) (x1 : Int) (x2 : Int) (x3 : Bool) : Option Int :=
  (if (decide (4194304 < x1)) then some (-1) else (lett (iadd .i64 (iadd .i64 x2 (iconv .i64 x1)) 1) fun x5 => (if x3 then (lett (iadd .i64 x2 (iquo .i64 (iconv .i64 x1) 2)) fun x15 => (if (((irem x1 2) : Int) == 1) then (lett (isub .i64 (isub .i64 x2 (iquo .i64 (iconv .i64 x1) 2)) 1) fun x16 => M_R_GapNext_j1 F x16) else M_R_GapNext_j1 F x15)) else M_R_GapNext_j1 F x5)))
/-! lampwright lampwrightref.GapsBack -/
def M_R_GapsBack_j2 (_F : Nat) (x90 : List Int) : Option (List Int × Int) :=
  some (x90, 0)
def M_R_GapsBack_b3 (F : Nat) (x1 : List Int) (rec3 : (Int × List Int × Int) → Option (List Int × Int)) (x116 : Int) (x119 : List Int) (x120 : Int) : Option (List Int × Int) :=
  (if (decide (x120 < (x1.length : Int))) then ((idx x1 x120).bind fun x158 => ((M_R_GapNext F x158 x116 ((x120 : Int) == 0)).bind fun x161 => (if (decide (x161 < 0)) then some (([] : List Int), 3) else ((app 8796093022208 x119 ([x161] : List Int)).bind fun x165 => rec3 (x161, x165, iadd .i64 x120 1))))) else M_R_GapsBack_j2 F x119)
def M_R_GapsBack_l3 (F : Nat) (x1 : List Int) : Nat → (Int × List Int × Int) → Option (List Int × Int)
  | 0 => fun _ => none
  | k + 1 => fun s => M_R_GapsBack_b3 F x1 (M_R_GapsBack_l3 F x1 k) s.1 s.2.1 s.2.2
def M_R_GapsBack (F : Nat) (x1 : List Int) (x4 : Int) : Option (List Int × Int) :=
  (if (decide (300 < (x1.length : Int))) then some (([] : List Int), 2) else ((M_R_between F x4 0 1048576).bind fun x8 => (if (!x8) then some (([] : List Int), 3) else M_R_GapsBack_l3 F x1 F (x4, ([] : List Int), 0))))
/-! lampwright lampwrightref.zetaSpan -/
def M_R_zetaSpan_j2 (_F : Nat) (x2 : Int) (x21 : Int) (x22 : Int) : Option (Int × Int × Int) :=
  (chk (decide (0 ≤ x2)) (some (x21, x22, ishl .u64 x22 x2)))
def M_R_zetaSpan_b3 (F : Nat) (x1 : Int) (x2 : Int) (rec3 : (Int × Int) → Option (Int × Int × Int)) (x34 : Int) (x35 : Int) : Option (Int × Int × Int) :=
  (chk (decide (0 ≤ x2)) ((if (decide ((ishl .u64 x35 x2) ≤ (iadd .u64 x1 1))) then (chk (decide (0 ≤ x2)) (rec3 (iadd .u64 x34 1, ishl .u64 x35 x2))) else M_R_zetaSpan_j2 F x2 x34 x35)))
def M_R_zetaSpan_l3 (F : Nat) (x1 : Int) (x2 : Int) : Nat → (Int × Int) → Option (Int × Int × Int)
  | 0 => fun _ => none
  | k + 1 => fun s => M_R_zetaSpan_b3 F x1 x2 (M_R_zetaSpan_l3 F x1 x2 k) s.1 s.2
def M_R_zetaSpan (F : Nat) (x1 : Int) (x2 : Int) : Option (Int × Int × Int) :=
  M_R_zetaSpan_l3 F x1 x2 F (0, 1)
/-! lampwright lampwrightref.UnaryList -/
def M_R_UnaryList_j2 (_F : Nat) (x45 : List Int) : Option (List Int) :=
  ((app 8796093022208 x45 ([1] : List Int)).bind fun x48 => some x48)
def M_R_UnaryList_b3 (F : Nat) (x1 : Int) (rec3 : (List Int × Int) → Option (List Int)) (x65 : List Int) (x66 : Int) : Option (List Int) :=
  (if (decide (x66 < x1)) then ((app 8796093022208 x65 ([0] : List Int)).bind fun x88 => rec3 (x88, iadd .u64 x66 1)) else M_R_UnaryList_j2 F x65)
def M_R_UnaryList_l3 (F : Nat) (x1 : Int) : Nat → (List Int × Int) → Option (List Int)
  | 0 => fun _ => none
  | k + 1 => fun s => M_R_UnaryList_b3 F x1 (M_R_UnaryList_l3 F x1 k) s.1 s.2
def M_R_UnaryList (F : Nat) (x1 : Int) : Option (List Int) :=
  M_R_UnaryList_l3 F x1 F (([] : List Int), 0)
/-! lampwright lampwrightref.NumBits -/
def M_R_NumBits_j2 (_F : Nat) (x56 : List Int) : Option (List Int) :=
  some x56
def M_R_NumBits_b3 (F : Nat) (rec3 : (Int × List Int × Int) → Option (List Int)) (x71 : Int) (x74 : List Int) (x75 : Int) : Option (List Int) :=
  (if (decide (0 ≤ x75)) then ((idx x74 x75).bind fun _x98 => (lett (x74.set x75.toNat (iconv .i64 (irem x71 2))) fun x101 => rec3 (iquo .u64 x71 2, x101, isub .i64 x75 1))) else M_R_NumBits_j2 F x74)
def M_R_NumBits_l3 (F : Nat) : Nat → (Int × List Int × Int) → Option (List Int)
  | 0 => fun _ => none
  | k + 1 => fun s => M_R_NumBits_b3 F (M_R_NumBits_l3 F k) s.1 s.2.1 s.2.2
def M_R_NumBits (F : Nat) (x1 : Int) (x2 : Int) : Option (List Int) :=
  ((mk 17592186044416 (0 : Int) x2).bind fun x3 => M_R_NumBits_l3 F F (x1, x3, isub .i64 x2 1))
/-! lampwright lampwrightref.LeastList -/
def M_R_LeastList_j2 (F : Nat) (x1 : Int) (x2 : Int) (x15 : Int) : Option (List Int) :=
  (chk (decide (0 ≤ x15)) ((if (decide (x1 < (isub .u64 (ishl .u64 1 x15) x2))) then ((M_R_NumBits F x1 (isub .i64 x15 1)).bind fun x21 => some x21) else ((M_R_NumBits F (iadd .u64 x1 (isub .u64 (ishl .u64 1 x15) x2)) x15).bind fun x24 => some x24))))
def M_R_LeastList_b3 (F : Nat) (x1 : Int) (x2 : Int) (rec3 : Int → Option (List Int)) (x30 : Int) : Option (List Int) :=
  (chk (decide (0 ≤ x30)) ((if (decide ((ishl .u64 1 x30) < x2)) then rec3 (iadd .i64 x30 1) else M_R_LeastList_j2 F x1 x2 x30)))
def M_R_LeastList_l3 (F : Nat) (x1 : Int) (x2 : Int) : Nat → Int → Option (List Int)
  | 0 => fun _ => none
  | k + 1 => fun s => M_R_LeastList_b3 F x1 x2 (M_R_LeastList_l3 F x1 x2 k) s
def M_R_LeastList (F : Nat) (x1 : Int) (x2 : Int) : Option (List Int) :=
  M_R_LeastList_l3 F x1 x2 F 0
/-! lampwright lampwrightref.ZetaList -/
def M_R_ZetaList (F : Nat) (x1 : Int) (x2 : Int) : Option (List Int) :=
  ((M_R_zetaSpan F x1 x2).bind fun x3 => ((M_R_UnaryList F x3.1).bind fun x4 => ((M_R_LeastList F (isub .u64 (iadd .u64 x1 1) x3.2.1) (isub .u64 x3.2.2 x3.2.1)).bind fun x7 => ((app 8796093022208 x4 x7).bind fun x10 => some x10))))
/-! lampwright lampwrightref.ZetaLists -/
def M_R_ZetaLists_j2 (_F : Nat) (x72 : List Int) : Option (List Int) :=
  some x72
def M_R_ZetaLists_b3 (F : Nat) (x1 : List Int) (x4 : Int) (rec3 : (List Int × Int) → Option (List Int)) (x95 : List Int) (x96 : Int) : Option (List Int) :=
  (if (decide (x96 < (x1.length : Int))) then ((idx x1 x96).bind fun x128 => ((M_R_ZetaList F x128 x4).bind fun x131 => ((app 8796093022208 x95 x131).bind fun x134 => rec3 (x134, iadd .i64 x96 1)))) else M_R_ZetaLists_j2 F x95)
def M_R_ZetaLists_l3 (F : Nat) (x1 : List Int) (x4 : Int) : Nat → (List Int × Int) → Option (List Int)
  | 0 => fun _ => none
  | k + 1 => fun s => M_R_ZetaLists_b3 F x1 x4 (M_R_ZetaLists_l3 F x1 x4 k) s.1 s.2
def M_R_ZetaLists (F : Nat) (x1 : List Int) (x4 : Int) : Option (List Int) :=
  M_R_ZetaLists_l3 F x1 x4 F (([] : List Int), 0)
/-! lampwright lampwrightref.PackBits -/
def M_R_PackBits_j59 (_F : Nat) (x1 : List Int) (x497 : List Int) : Option (Int × List Int) :=
  some ((x1.length : Int), x497)
def M_R_PackBits_j108 (_F : Nat) (rec98 : (Int × List Int) → Option (Int × List Int)) (x660 : Int) (x907 : List Int) : Option (Int × List Int) :=
  rec98 (iadd .i64 x660 8, x907)
def M_R_PackBits_j113 (F : Nat) (rec98 : (Int × List Int) → Option (Int × List Int)) (x660 : Int) (x663 : List Int) (x944 : Int) : Option (Int × List Int) :=
  ((app 70368744177664 x663 ([iconv .u8 x944] : List Int)).bind fun x947 => M_R_PackBits_j108 F rec98 x660 x947)
def M_R_PackBits_j117 (_F : Nat) (rec116 : (Int × Int) → Option (Int × List Int)) (x962 : Int) (x980 : Int) : Option (Int × List Int) :=
  rec116 (x980, iadd .i64 x962 1)
def M_R_PackBits_b116 (F : Nat) (rec98 : (Int × List Int) → Option (Int × List Int)) (x1 : List Int) (x660 : Int) (x663 : List Int) (rec116 : (Int × Int) → Option (Int × List Int)) (x961 : Int) (x962 : Int) : Option (Int × List Int) :=
  (if (decide (x962 < 8)) then (if (decide ((iadd .i64 x660 x962) < (x1.length : Int))) then ((idx x1 (iadd .i64 x660 x962)).bind fun x981 => M_R_PackBits_j117 F rec116 x962 (iadd .i64 (imul .i64 2 x961) x981)) else M_R_PackBits_j117 F rec116 x962 (imul .i64 2 x961)) else M_R_PackBits_j113 F rec98 x660 x663 x961)
def M_R_PackBits_l116 (F : Nat) (rec98 : (Int × List Int) → Option (Int × List Int)) (x1 : List Int) (x660 : Int) (x663 : List Int) : Nat → (Int × Int) → Option (Int × List Int)
  | 0 => fun _ => none
  | k + 1 => fun s => M_R_PackBits_b116 F rec98 x1 x660 x663 (M_R_PackBits_l116 F rec98 x1 x660 x663 k) s.1 s.2
def M_R_PackBits_b98 (F : Nat) (x1 : List Int) (rec98 : (Int × List Int) → Option (Int × List Int)) (x660 : Int) (x663 : List Int) : Option (Int × List Int) :=
  (if (decide (x660 < (x1.length : Int))) then M_R_PackBits_l116 F rec98 x1 x660 x663 F (0, 0) else M_R_PackBits_j59 F x1 x663)
def M_R_PackBits_l98 (F : Nat) (x1 : List Int) : Nat → (Int × List Int) → Option (Int × List Int)
  | 0 => fun _ => none
  | k + 1 => fun s => M_R_PackBits_b98 F x1 (M_R_PackBits_l98 F x1 k) s.1 s.2
def M_R_PackBits (F : Nat) (x1 : List Int) : Option (Int × List Int) :=
  M_R_PackBits_l98 F x1 F (0, ([] : List Int))
/-! lampwright lampwrightref.GapsWrite -/
def M_R_GapsWrite_j4 (F : Nat) (x1 : List Int) (x4 : Int) (x5 : Int) (x21 : Int) : Option (Int × List Int × Int) :=
  (if ((x21 : Int) != 0) then some (0, ([] : List Int), x21) else ((M_R_GapsOf F x1 x4).bind fun x23 => ((M_R_ZetaLists F x23 x5).bind fun x26 => (if (decide (8192 < (x26.length : Int))) then some (0, ([] : List Int), 8) else ((M_R_PackBits F x26).bind fun x30 => some (x30.1, x30.2, 0))))))
def M_R_GapsWrite_j6 (F : Nat) (x1 : List Int) (x4 : Int) (x5 : Int) (x7 : Int) (x41 : Bool) : Option (Int × List Int × Int) :=
  (if x41 then M_R_GapsWrite_j4 F x1 x4 x5 3 else M_R_GapsWrite_j4 F x1 x4 x5 x7)
def M_R_GapsWrite_j7 (F : Nat) (x1 : List Int) (x4 : Int) (x5 : Int) (x7 : Int) (x46 : Bool) : Option (Int × List Int × Int) :=
  M_R_GapsWrite_j6 F x1 x4 x5 x7 x46
def M_R_GapsWrite (F : Nat) (x1 : List Int) (x4 : Int) (x5 : Int) : Option (Int × List Int × Int) :=
  ((M_R_RisingCheck F x1).bind fun x7 => (if ((x7 : Int) == 0) then ((M_R_between F x4 0 1048576).bind fun x43 => (if (!x43) then M_R_GapsWrite_j7 F x1 x4 x5 x7 true else ((M_R_between F x5 1 16).bind fun x47 => M_R_GapsWrite_j7 F x1 x4 x5 x7 (!x47)))) else M_R_GapsWrite_j6 F x1 x4 x5 x7 false))
/-! lampwright lampwrightref.SameNums -/
def M_R_SameNums_j2 (_F : Nat) : Option Bool :=
  some true
def M_R_SameNums_b3 (F : Nat) (x1 : List Int) (x4 : List Int) (rec3 : Int → Option Bool) (x154 : Int) : Option Bool :=
  (if (decide (x154 < (x1.length : Int))) then ((idx x1 x154).bind fun x218 => ((idx x4 x154).bind fun x222 => (if ((x218 : Int) != x222) then some false else rec3 (iadd .i64 x154 1)))) else M_R_SameNums_j2 F)
def M_R_SameNums_l3 (F : Nat) (x1 : List Int) (x4 : List Int) : Nat → Int → Option Bool
  | 0 => fun _ => none
  | k + 1 => fun s => M_R_SameNums_b3 F x1 x4 (M_R_SameNums_l3 F x1 x4 k) s
def M_R_SameNums (F : Nat) (x1 : List Int) (x4 : List Int) : Option Bool :=
  (if (((x1.length : Int) : Int) != (x4.length : Int)) then some false else M_R_SameNums_l3 F x1 x4 F 0)
/-! lampwright lampwrightref.SameInts -/
def M_R_SameInts_j2 (_F : Nat) : Option Bool :=
  some true
def M_R_SameInts_b3 (F : Nat) (x1 : List Int) (x4 : List Int) (rec3 : Int → Option Bool) (x154 : Int) : Option Bool :=
  (if (decide (x154 < (x1.length : Int))) then ((idx x1 x154).bind fun x218 => ((idx x4 x154).bind fun x222 => (if ((x218 : Int) != x222) then some false else rec3 (iadd .i64 x154 1)))) else M_R_SameInts_j2 F)
def M_R_SameInts_l3 (F : Nat) (x1 : List Int) (x4 : List Int) : Nat → Int → Option Bool
  | 0 => fun _ => none
  | k + 1 => fun s => M_R_SameInts_b3 F x1 x4 (M_R_SameInts_l3 F x1 x4 k) s
def M_R_SameInts (F : Nat) (x1 : List Int) (x4 : List Int) : Option Bool :=
  (if (((x1.length : Int) : Int) != (x4.length : Int)) then some false else M_R_SameInts_l3 F x1 x4 F 0)
/-! lampwright bits.Check -/
def M_bits_Check_j2 (_F : Nat) (x36 : Bool) : Option Int :=
  (if x36 then some 1 else some 0)
def M_bits_Check (F : Nat) (x1 : Int) (x2 : List Int) : Option Int :=
  (if ((decide (x1 < 0)) || (decide (8192 < x1))) then some 3 else (if (((x2.length : Int) : Int) != (iquo .i64 (iadd .i64 x1 7) 8)) then some 1 else (if (((irem x1 8) : Int) != 0) then ((idx x2 (isub .i64 (x2.length : Int) 1)).bind fun x39 => (chk (decide (0 ≤ (irem x1 8))) (M_bits_Check_j2 F (((ishl .u8 x39 (irem x1 8)) : Int) != 0)))) else M_bits_Check_j2 F false)))
/-! lampwright elias.Check -/
def M_elias_Check_j2 (_F : Nat) (x13 : Int) : Option Int :=
  some x13
def M_elias_Check_j3 (F : Nat) (x7 : Int) (x16 : Bool) : Option Int :=
  (if x16 then M_elias_Check_j2 F 3 else M_elias_Check_j2 F x7)
def M_elias_Check (F : Nat) (x1 : Int) (x2 : List Int) (x5 : Int) : Option Int :=
  ((M_bits_Check F x1 x2).bind fun x7 => (if ((x7 : Int) == 0) then M_elias_Check_j3 F x7 ((decide (x5 < 0)) || (decide (x1 < x5))) else M_elias_Check_j3 F x7 false))
/-! lampwright unary.From -/
def M_unary_From_j2 (_F : Nat) : Option (Int × Int × Bool) :=
  some (0, 0, false)
def M_unary_From_b3 (F : Nat) (x1 : Int) (x2 : List Int) (x5 : Int) (rec3 : Int → Option (Int × Int × Bool)) (x33 : Int) : Option (Int × Int × Bool) :=
  (if (decide (x33 < x1)) then ((M_bits_At F x1 x2 x33).bind fun x44 => (if ((x44 : Int) == 1) then some (iconv .u64 (isub .i64 x33 x5), iadd .i64 x33 1, true) else rec3 (iadd .i64 x33 1))) else M_unary_From_j2 F)
def M_unary_From_l3 (F : Nat) (x1 : Int) (x2 : List Int) (x5 : Int) : Nat → Int → Option (Int × Int × Bool)
  | 0 => fun _ => none
  | k + 1 => fun s => M_unary_From_b3 F x1 x2 x5 (M_unary_From_l3 F x1 x2 x5 k) s
def M_unary_From (F : Nat) (x1 : Int) (x2 : List Int) (x5 : Int) : Option (Int × Int × Bool) :=
  M_unary_From_l3 F x1 x2 x5 F x5
/-! lampwright bits.Read -/
def M_bits_Read_j2 (_F : Nat) (x24 : Int) : Option (Int × Bool) :=
  some (x24, true)
def M_bits_Read_b3 (F : Nat) (x1 : Int) (x2 : List Int) (x5 : Int) (x6 : Int) (rec3 : (Int × Int) → Option (Int × Bool)) (x29 : Int) (x30 : Int) : Option (Int × Bool) :=
  (if (decide (x30 < x6)) then ((M_bits_At F x1 x2 (iadd .i64 x5 x30)).bind fun x38 => rec3 (ior .u64 (ishl .u64 x29 1) x38, iadd .i64 x30 1)) else M_bits_Read_j2 F x29)
def M_bits_Read_l3 (F : Nat) (x1 : Int) (x2 : List Int) (x5 : Int) (x6 : Int) : Nat → (Int × Int) → Option (Int × Bool)
  | 0 => fun _ => none
  | k + 1 => fun s => M_bits_Read_b3 F x1 x2 x5 x6 (M_bits_Read_l3 F x1 x2 x5 x6 k) s.1 s.2
def M_bits_Read (F : Nat) (x1 : Int) (x2 : List Int) (x5 : Int) (x6 : Int) : Option (Int × Bool) :=
  (if (decide ((isub .i64 x1 x5) < x6)) then some (0, false) else M_bits_Read_l3 F x1 x2 x5 x6 F (0, 0))
/-! lampwright golomb.fromLeast -/
def M_golomb_fromLeast_j1 (F : Nat) (x1 : Int) (x2 : List Int) (x5 : Int) (x8 : (Int × Int)) : Option (Int × Int × Bool) :=
  ((M_bits_Read F x1 x2 x5 x8.1).bind fun x14 => some (isub .u64 x14.1 x8.2, iadd .i64 x5 x8.1, x14.2))
def M_golomb_fromLeast (F : Nat) (x1 : Int) (x2 : List Int) (x5 : Int) (x6 : Int) : Option (Int × Int × Bool) :=
  ((M_golomb_shape F x6).bind fun x8 => (if (decide (0 < x8.2)) then ((M_bits_Read F x1 x2 x5 (isub .i64 x8.1 1)).bind fun x15 => (if (!x15.2) then some (0, 0, false) else (if (decide (x15.1 < x8.2)) then some (x15.1, isub .i64 (iadd .i64 x5 x8.1) 1, true) else M_golomb_fromLeast_j1 F x1 x2 x5 x8))) else M_golomb_fromLeast_j1 F x1 x2 x5 x8))
/-! lampwright golomb.ended -/
def M_golomb_ended (_F : Nat) (x1 : Int) (x2 : Int) (x3 : Bool) : Option (Int × Int × Int) :=
  (if (!x3) then some (0, 0, 7) else (if (decide (1099511627776 < x1)) then some (0, 0, 3) else some (x1, x2, 0)))
/-! lampwright golomb.FromZeta -/
def M_golomb_FromZeta (F : Nat) (x1 : Int) (x2 : List Int) (x5 : Int) (x6 : Int) : Option (Int × Int × Int) :=
  ((M_unary_From F x1 x2 x5).bind fun x8 => (if (!x8.2.2) then some (0, 0, 7) else (if (decide (41 ≤ (imul .u64 x8.1 (iconv .u64 x6)))) then some (0, 0, 3) else (chk (decide (0 ≤ (imul .i64 (iconv .i64 x8.1) x6))) ((lett (ishl .u64 1 (imul .i64 (iconv .i64 x8.1) x6)) fun x12 => (chk (decide (0 ≤ x6)) (((M_golomb_fromLeast F x1 x2 x8.2.1 (isub .u64 (ishl .u64 x12 x6) x12)).bind fun x20 => ((M_golomb_ended F (isub .u64 (iadd .u64 x12 x20.1) 1) x20.2.1 x20.2.2).bind fun x21 => some (x21.1, x21.2.1, x21.2.2)))))))))))
/-! lampwright gaps.From -/
def M_gaps_From_j2 (_F : Nat) (x105 : Int) (x108 : List Int) : Option (List Int × Int × Int) :=
  some (x108, x105, 0)
def M_gaps_From_b3 (F : Nat) (x1 : Int) (x2 : List Int) (x7 : Int) (x8 : Int) (rec3 : (Int × List Int × Int × Int × Bool) → Option (List Int × Int × Int)) (x138 : Int) (x141 : List Int) (x142 : Int) (x143 : Int) (x144 : Bool) : Option (List Int × Int × Int) :=
  (if (decide (x142 < x8)) then ((M_golomb_FromZeta F x1 x2 x138 x7).bind fun x190 => (if ((x190.2.2 : Int) != 0) then some (([] : List Int), 0, x190.2.2) else ((M_gaps_walker_step F x143 x144 x190.1).bind fun x193 => (if (!x193.1) then some (([] : List Int), 0, 3) else ((app 8796093022208 x141 ([x193.2.1] : List Int)).bind fun x196 => rec3 (x190.2.1, x196, iadd .i64 x142 1, x193.2.1, x193.2.2)))))) else M_gaps_From_j2 F x138 x141)
def M_gaps_From_l3 (F : Nat) (x1 : Int) (x2 : List Int) (x7 : Int) (x8 : Int) : Nat → (Int × List Int × Int × Int × Bool) → Option (List Int × Int × Int)
  | 0 => fun _ => none
  | k + 1 => fun s => M_gaps_From_b3 F x1 x2 x7 x8 (M_gaps_From_l3 F x1 x2 x7 x8 k) s.1 s.2.1 s.2.2.1 s.2.2.2.1 s.2.2.2.2
def M_gaps_From (F : Nat) (x1 : Int) (x2 : List Int) (x5 : Int) (x6 : Int) (x7 : Int) (x8 : Int) : Option (List Int × Int × Int) :=
  M_gaps_From_l3 F x1 x2 x7 x8 F (x5, ([] : List Int), 0, x6, false)
/-! lampwright gaps.Read -/
def M_gaps_Read_j2 (F : Nat) (x1 : Int) (x2 : List Int) (x5 : Int) (x6 : Int) (x7 : Int) (x8 : Int) (x24 : Int) : Option (List Int × Int × Int) :=
  (if ((x24 : Int) != 0) then some (([] : List Int), 0, x24) else ((M_gaps_From F x1 x2 x5 x6 x7 x8).bind fun x26 => some (x26.1, x26.2.1, x26.2.2)))
def M_gaps_Read_j3 (F : Nat) (x1 : Int) (x2 : List Int) (x5 : Int) (x6 : Int) (x7 : Int) (x8 : Int) (x10 : Int) (x36 : Bool) : Option (List Int × Int × Int) :=
  (if x36 then M_gaps_Read_j2 F x1 x2 x5 x6 x7 x8 3 else M_gaps_Read_j2 F x1 x2 x5 x6 x7 x8 x10)
def M_gaps_Read (F : Nat) (x1 : Int) (x2 : List Int) (x5 : Int) (x6 : Int) (x7 : Int) (x8 : Int) : Option (List Int × Int × Int) :=
  ((M_elias_Check F x1 x2 x5).bind fun x10 => (if ((x10 : Int) == 0) then ((M_gaps_node F x6).bind fun x38 => M_gaps_Read_j3 F x1 x2 x5 x6 x7 x8 x10 (((((!x38) || (decide (x7 < 1))) || (decide (16 < x7))) || (decide (x8 < 0))) || (decide (300 < x8)))) else M_gaps_Read_j3 F x1 x2 x5 x6 x7 x8 x10 false))
/-! lampwright lampwrightlaw.gapsBegun -/
def M_L_gapsBegun_j2 (_F : Nat) (x11 : (Int × List Int × Int)) (x15 : (List Int × Int × Int)) (x20 : (List Int × Int)) (x25 : (List Int × Int)) (x41 : Bool) : Option Bool :=
  some ((((x41 && ((x15.2.1 : Int) == x11.1)) && ((x15.2.2 : Int) == 0)) && ((x20.2 : Int) == 4)) && ((x25.2 : Int) == 3))
def M_L_gapsBegun_j1 (F : Nat) (x6 : (List Int × Int)) (x11 : (Int × List Int × Int)) (x15 : (List Int × Int × Int)) (x20 : (List Int × Int)) (x25 : (List Int × Int)) (x36 : Bool) : Option Bool :=
  (if ((x36 && ((x6.2 : Int) == 0)) && ((x11.2.2 : Int) == 0)) then ((M_R_SameInts F x15.1 x6.1).bind fun x46 => M_L_gapsBegun_j2 F x11 x15 x20 x25 x46) else M_L_gapsBegun_j2 F x11 x15 x20 x25 false)
def M_L_gapsBegun (F : Nat)  : Option Bool :=
  ((M_gaps_Gaps F ([3, 4, 9] : List Int) 5).bind fun x3 => ((M_gaps_Back F x3.1 5).bind fun x6 => ((M_gaps_Write F ([3, 4, 9] : List Int) 5 2).bind fun x11 => ((M_gaps_Read F x11.1 x11.2.1 0 5 2 3).bind fun x15 => ((M_gaps_Gaps F ([3, 3] : List Int) 5).bind fun x20 => ((M_gaps_Back F ([1] : List Int) 0).bind fun x25 => ((M_R_SameNums F x3.1 ([3, 0, 4] : List Int)).bind fun x30 => (if (x30 && ((x3.2 : Int) == 0)) then ((M_R_SameInts F x6.1 ([3, 4, 9] : List Int)).bind fun x49 => M_L_gapsBegun_j1 F x6 x11 x15 x20 x25 x49) else M_L_gapsBegun_j1 F x6 x11 x15 x20 x25 false))))))))
/-! lampwright lampwrightref.SameBytes -/
def M_R_SameBytes_j2 (_F : Nat) : Option Bool :=
  some true
def M_R_SameBytes_b3 (F : Nat) (x1 : List Int) (x4 : List Int) (rec3 : Int → Option Bool) (x154 : Int) : Option Bool :=
  (if (decide (x154 < (x1.length : Int))) then ((idx x1 x154).bind fun x218 => ((idx x4 x154).bind fun x222 => (if ((x218 : Int) != x222) then some false else rec3 (iadd .i64 x154 1)))) else M_R_SameBytes_j2 F)
def M_R_SameBytes_l3 (F : Nat) (x1 : List Int) (x4 : List Int) : Nat → Int → Option Bool
  | 0 => fun _ => none
  | k + 1 => fun s => M_R_SameBytes_b3 F x1 x4 (M_R_SameBytes_l3 F x1 x4 k) s
def M_R_SameBytes (F : Nat) (x1 : List Int) (x4 : List Int) : Option Bool :=
  (if (((x1.length : Int) : Int) != (x4.length : Int)) then some false else M_R_SameBytes_l3 F x1 x4 F 0)
/-! lampwright lampwrightref.SameBits -/
def M_R_SameBits_j1 (_F : Nat) (x13 : Bool) : Option Bool :=
  some x13
def M_R_SameBits (F : Nat) (x1 : Int) (x2 : List Int) (x5 : Int) (x6 : List Int) : Option Bool :=
  (if ((x1 : Int) == x5) then ((M_R_SameBytes F x2 x6).bind fun x14 => M_R_SameBits_j1 F x14) else M_R_SameBits_j1 F false)
/-! lampwright lampwrightlaw.GapsTell -/
def M_L_GapsTell_j7 (_F : Nat) (x15 : (Int × List Int × Int)) (x36 : (Int × List Int × Int)) (x54 : Bool) : Option Bool :=
  some (x54 && ((x15.2.2 : Int) == x36.2.2))
def M_L_GapsTell_j6 (F : Nat) (x12 : (List Int × Int)) (x15 : (Int × List Int × Int)) (x33 : (List Int × Int)) (x36 : (Int × List Int × Int)) (x50 : Bool) : Option Bool :=
  (if (x50 && ((x12.2 : Int) == x33.2)) then ((M_R_SameBits F x15.1 x15.2.1 x36.1 x36.2.1).bind fun x56 => M_L_GapsTell_j7 F x15 x36 x56) else M_L_GapsTell_j7 F x15 x36 false)
def M_L_GapsTell_j5 (F : Nat) (x9 : (List Int × Int)) (x12 : (List Int × Int)) (x15 : (Int × List Int × Int)) (x25 : Int) (x33 : (List Int × Int)) (x36 : (Int × List Int × Int)) (x46 : Bool) : Option Bool :=
  (if (x46 && ((x9.2 : Int) == x25)) then ((M_R_SameInts F x12.1 x33.1).bind fun x57 => M_L_GapsTell_j6 F x12 x15 x33 x36 x57) else M_L_GapsTell_j6 F x12 x15 x33 x36 false)
def M_L_GapsTell_j4 (F : Nat) (x9 : (List Int × Int)) (x12 : (List Int × Int)) (x15 : (Int × List Int × Int)) (x25 : Int) (x32 : List Int) (x33 : (List Int × Int)) (x36 : (Int × List Int × Int)) (x43 : Bool) : Option Bool :=
  (if x43 then ((M_R_SameNums F x9.1 x32).bind fun x58 => M_L_GapsTell_j5 F x9 x12 x15 x25 x33 x36 x58) else M_L_GapsTell_j5 F x9 x12 x15 x25 x33 x36 false)
def M_L_GapsTell_j3 (F : Nat) (x1 : List Int) (x4 : List Int) (x7 : Int) (x8 : Int) (x9 : (List Int × Int)) (x12 : (List Int × Int)) (x15 : (Int × List Int × Int)) (x19 : Int) (x25 : Int) (x32 : List Int) : Option Bool :=
  ((M_R_GapsBack F x4 x7).bind fun x33 => ((M_R_GapsWrite F x1 x7 x8).bind fun x36 => ((M_L_gapsBegun F).bind fun x40 => (if x40 then ((M_gaps_Check F x1).bind fun x59 => M_L_GapsTell_j4 F x9 x12 x15 x25 x32 x33 x36 ((x59 : Int) == x19)) else M_L_GapsTell_j4 F x9 x12 x15 x25 x32 x33 x36 false))))
def M_L_GapsTell_j2 (F : Nat) (x1 : List Int) (x4 : List Int) (x7 : Int) (x8 : Int) (x9 : (List Int × Int)) (x12 : (List Int × Int)) (x15 : (Int × List Int × Int)) (x19 : Int) (x25 : Int) : Option Bool :=
  (if ((x25 : Int) == 0) then ((M_R_GapsOf F x1 x7).bind fun x60 => M_L_GapsTell_j3 F x1 x4 x7 x8 x9 x12 x15 x19 x25 x60) else M_L_GapsTell_j3 F x1 x4 x7 x8 x9 x12 x15 x19 x25 ([] : List Int))
def M_L_GapsTell_j8 (F : Nat) (x1 : List Int) (x4 : List Int) (x7 : Int) (x8 : Int) (x9 : (List Int × Int)) (x12 : (List Int × Int)) (x15 : (Int × List Int × Int)) (x19 : Int) (x66 : Bool) : Option Bool :=
  (if x66 then M_L_GapsTell_j2 F x1 x4 x7 x8 x9 x12 x15 x19 3 else M_L_GapsTell_j2 F x1 x4 x7 x8 x9 x12 x15 x19 x19)
def M_L_GapsTell (F : Nat) (x1 : List Int) (x4 : List Int) (x7 : Int) (x8 : Int) : Option Bool :=
  ((M_gaps_Gaps F x1 x7).bind fun x9 => ((M_gaps_Back F x4 x7).bind fun x12 => ((M_gaps_Write F x1 x7 x8).bind fun x15 => ((M_R_RisingCheck F x1).bind fun x19 => (if ((x19 : Int) == 0) then M_L_GapsTell_j8 F x1 x4 x7 x8 x9 x12 x15 x19 ((decide (x7 < 0)) || (decide (1048576 < x7))) else M_L_GapsTell_j8 F x1 x4 x7 x8 x9 x12 x15 x19 false)))))
/-! lampwright lampwrightref.BitList -/
def M_R_BitList_j23 (_F : Nat) (x190 : List Int) : Option (List Int) :=
  some x190
def M_R_BitList_j42 (_F : Nat) (rec38 : (List Int × Int) → Option (List Int)) (x253 : Int) (x344 : List Int) : Option (List Int) :=
  rec38 (x344, iadd .i64 x253 1)
def M_R_BitList_j44 (F : Nat) (rec38 : (List Int × Int) → Option (List Int)) (x252 : List Int) (x253 : Int) (x357 : Int) : Option (List Int) :=
  ((app 8796093022208 x252 ([irem x357 2] : List Int)).bind fun x360 => M_R_BitList_j42 F rec38 x253 x360)
def M_R_BitList_b45 (F : Nat) (rec38 : (List Int × Int) → Option (List Int)) (x252 : List Int) (x253 : Int) (rec45 : (Int × Int) → Option (List Int)) (x365 : Int) (x366 : Int) : Option (List Int) :=
  (if (decide (x366 < (isub .i64 7 (irem x253 8)))) then rec45 (iquo .i64 x365 2, iadd .i64 x366 1) else M_R_BitList_j44 F rec38 x252 x253 x365)
def M_R_BitList_l45 (F : Nat) (rec38 : (List Int × Int) → Option (List Int)) (x252 : List Int) (x253 : Int) : Nat → (Int × Int) → Option (List Int)
  | 0 => fun _ => none
  | k + 1 => fun s => M_R_BitList_b45 F rec38 x252 x253 (M_R_BitList_l45 F rec38 x252 x253 k) s.1 s.2
def M_R_BitList_b38 (F : Nat) (x1 : Int) (x2 : List Int) (rec38 : (List Int × Int) → Option (List Int)) (x252 : List Int) (x253 : Int) : Option (List Int) :=
  (if (decide (x253 < x1)) then ((idx x2 (iquo .i64 x253 8)).bind fun x345 => M_R_BitList_l45 F rec38 x252 x253 F (iconv .i64 x345, 0)) else M_R_BitList_j23 F x252)
def M_R_BitList_l38 (F : Nat) (x1 : Int) (x2 : List Int) : Nat → (List Int × Int) → Option (List Int)
  | 0 => fun _ => none
  | k + 1 => fun s => M_R_BitList_b38 F x1 x2 (M_R_BitList_l38 F x1 x2 k) s.1 s.2
def M_R_BitList (F : Nat) (x1 : Int) (x2 : List Int) : Option (List Int) :=
  M_R_BitList_l38 F x1 x2 F (([] : List Int), 0)
/-! lampwright lampwrightref.BitsCheck -/
def M_R_BitsCheck_j3 (_F : Nat) : Option Int :=
  some 0
def M_R_BitsCheck_b4 (F : Nat) (x12 : List Int) (rec4 : Int → Option Int) (x57 : Int) : Option Int :=
  (if (decide (x57 < (x12.length : Int))) then ((idx x12 x57).bind fun x74 => (if ((x74 : Int) != 0) then some 1 else rec4 (iadd .i64 x57 1))) else M_R_BitsCheck_j3 F)
def M_R_BitsCheck_l4 (F : Nat) (x12 : List Int) : Nat → Int → Option Int
  | 0 => fun _ => none
  | k + 1 => fun s => M_R_BitsCheck_b4 F x12 (M_R_BitsCheck_l4 F x12 k) s
def M_R_BitsCheck_j1 (F : Nat) (x1 : Int) (x2 : List Int) (x10 : Int) : Option Int :=
  (if (((x2.length : Int) : Int) != x10) then some 1 else ((M_R_BitList F (imul .i64 8 x10) x2).bind fun x12 => M_R_BitsCheck_l4 F x12 F x1))
def M_R_BitsCheck (F : Nat) (x1 : Int) (x2 : List Int) : Option Int :=
  ((M_R_between F x1 0 8192).bind fun x8 => (if (!x8) then some 3 else (if (decide (0 < (irem x1 8))) then M_R_BitsCheck_j1 F x1 x2 (iadd .i64 (iquo .i64 x1 8) 1) else M_R_BitsCheck_j1 F x1 x2 (iquo .i64 x1 8))))
/-! lampwright lampwrightref.ReadErr -/
def M_R_ReadErr_j2 (_F : Nat) (x13 : Int) : Option Int :=
  some x13
def M_R_ReadErr_j3 (F : Nat) (x7 : Int) (x16 : Bool) : Option Int :=
  (if x16 then M_R_ReadErr_j2 F 3 else M_R_ReadErr_j2 F x7)
def M_R_ReadErr (F : Nat) (x1 : Int) (x2 : List Int) (x5 : Int) : Option Int :=
  ((M_R_BitsCheck F x1 x2).bind fun x7 => (if ((x7 : Int) == 0) then ((M_R_between F x5 0 x1).bind fun x18 => M_R_ReadErr_j3 F x7 (!x18)) else M_R_ReadErr_j3 F x7 false))
/-! lampwright lampwrightref.UnaryRead -/
def M_R_UnaryRead_j2 (_F : Nat) : Option (Int × Int) :=
  some (0, -1)
def M_R_UnaryRead_b3 (F : Nat) (x1 : List Int) (rec3 : (Int × Int) → Option (Int × Int)) (x80 : Int) (x81 : Int) : Option (Int × Int) :=
  (if (decide (x81 < (x1.length : Int))) then ((idx x1 x81).bind fun x114 => (if ((x114 : Int) == 1) then some (x80, iadd .i64 x81 1) else rec3 (iadd .u64 x80 1, iadd .i64 x81 1))) else M_R_UnaryRead_j2 F)
def M_R_UnaryRead_l3 (F : Nat) (x1 : List Int) : Nat → (Int × Int) → Option (Int × Int)
  | 0 => fun _ => none
  | k + 1 => fun s => M_R_UnaryRead_b3 F x1 (M_R_UnaryRead_l3 F x1 k) s.1 s.2
def M_R_UnaryRead (F : Nat) (x1 : List Int) (x4 : Int) : Option (Int × Int) :=
  M_R_UnaryRead_l3 F x1 F (0, x4)
/-! lampwright lampwrightref.LeastRead -/
def M_R_LeastRead_j4 (_F : Nat) : Option (Int × Int) :=
  some (0, -1)
def M_R_LeastRead_b5 (F : Nat) (x1 : List Int) (x4 : Int) (x5 : Int) (x18 : Int) (rec5 : (Int × Int) → Option (Int × Int)) (x143 : Int) (x144 : Int) : Option (Int × Int) :=
  (if (decide (x144 ≤ x18)) then (if (((x144 : Int) == (isub .i64 x18 1)) && (decide (x143 < (isub .u64 (ishl .u64 1 x18) x5)))) then some (x143, iadd .i64 x4 x144) else (if ((x144 : Int) == x18) then (lett (isub .u64 x143 (isub .u64 (ishl .u64 1 x18) x5)) fun x196 => some (x196, iadd .i64 x4 x144)) else (if (decide ((x1.length : Int) ≤ (iadd .i64 x4 x144))) then some (0, -1) else ((idx x1 (iadd .i64 x4 x144)).bind fun x198 => (lett (iadd .u64 (imul .u64 2 x143) (iconv .u64 x198)) fun x201 => rec5 (x201, iadd .i64 x144 1)))))) else M_R_LeastRead_j4 F)
def M_R_LeastRead_l5 (F : Nat) (x1 : List Int) (x4 : Int) (x5 : Int) (x18 : Int) : Nat → (Int × Int) → Option (Int × Int)
  | 0 => fun _ => none
  | k + 1 => fun s => M_R_LeastRead_b5 F x1 x4 x5 x18 (M_R_LeastRead_l5 F x1 x4 x5 x18 k) s.1 s.2
def M_R_LeastRead_j2 (F : Nat) (x1 : List Int) (x4 : Int) (x5 : Int) (x18 : Int) : Option (Int × Int) :=
  (chk (decide (0 ≤ x18)) (M_R_LeastRead_l5 F x1 x4 x5 x18 F (0, 0)))
def M_R_LeastRead_b6 (F : Nat) (x1 : List Int) (x4 : Int) (x5 : Int) (rec6 : Int → Option (Int × Int)) (x208 : Int) : Option (Int × Int) :=
  (chk (decide (0 ≤ x208)) ((if (decide ((ishl .u64 1 x208) < x5)) then rec6 (iadd .i64 x208 1) else M_R_LeastRead_j2 F x1 x4 x5 x208)))
def M_R_LeastRead_l6 (F : Nat) (x1 : List Int) (x4 : Int) (x5 : Int) : Nat → Int → Option (Int × Int)
  | 0 => fun _ => none
  | k + 1 => fun s => M_R_LeastRead_b6 F x1 x4 x5 (M_R_LeastRead_l6 F x1 x4 x5 k) s
def M_R_LeastRead (F : Nat) (x1 : List Int) (x4 : Int) (x5 : Int) : Option (Int × Int) :=
  M_R_LeastRead_l6 F x1 x4 x5 F 0
/-! lampwright lampwrightref.ZetaRead -/
def M_R_ZetaRead_j2 (F : Nat) (x1 : List Int) (x5 : Int) (x6 : (Int × Int)) (x26 : Int) : Option (Int × Int × Int) :=
  (chk (decide (0 ≤ x5)) (((M_R_LeastRead F x1 x6.2 (isub .u64 (ishl .u64 x26 x5) x26)).bind fun x28 => (if (decide (x28.2 < 0)) then some (0, 0, 7) else (if (decide (1099511627776 < (isub .u64 (iadd .u64 x26 x28.1) 1))) then some (0, 0, 3) else some (isub .u64 (iadd .u64 x26 x28.1) 1, x28.2, 0))))))
def M_R_ZetaRead_b3 (F : Nat) (x1 : List Int) (x5 : Int) (x6 : (Int × Int)) (rec3 : (Int × Int) → Option (Int × Int × Int)) (x37 : Int) (x38 : Int) : Option (Int × Int × Int) :=
  (if (decide (x38 < x6.1)) then (chk (decide (0 ≤ x5)) (rec3 (ishl .u64 x37 x5, iadd .u64 x38 1))) else M_R_ZetaRead_j2 F x1 x5 x6 x37)
def M_R_ZetaRead_l3 (F : Nat) (x1 : List Int) (x5 : Int) (x6 : (Int × Int)) : Nat → (Int × Int) → Option (Int × Int × Int)
  | 0 => fun _ => none
  | k + 1 => fun s => M_R_ZetaRead_b3 F x1 x5 x6 (M_R_ZetaRead_l3 F x1 x5 x6 k) s.1 s.2
def M_R_ZetaRead (F : Nat) (x1 : List Int) (x4 : Int) (x5 : Int) : Option (Int × Int × Int) :=
  ((M_R_UnaryRead F x1 x4).bind fun x6 => (if (decide (x6.2 < 0)) then some (0, 0, 7) else (if ((decide (41 ≤ x6.1)) || (decide (41 ≤ (imul .i64 (iconv .i64 x6.1) x5)))) then some (0, 0, 3) else M_R_ZetaRead_l3 F x1 x5 x6 F (1, 0))))
/-! lampwright lampwrightref.GapsFrom -/
def M_R_GapsFrom_j2 (_F : Nat) (x56 : Int) (x59 : List Int) : Option (List Int × Int × Int) :=
  some (x59, x56, 0)
def M_R_GapsFrom_b3 (F : Nat) (x1 : List Int) (x6 : Int) (x7 : Int) (rec3 : (Int × Int × List Int) → Option (List Int × Int × Int)) (x75 : Int) (x76 : Int) (x79 : List Int) : Option (List Int × Int × Int) :=
  (if (decide ((x79.length : Int) < x7)) then ((M_R_ZetaRead F x1 x75 x6).bind fun x95 => (if ((x95.2.2 : Int) != 0) then some (([] : List Int), 0, x95.2.2) else ((M_R_GapNext F x95.1 x76 (((x79.length : Int) : Int) == 0)).bind fun x97 => (if (decide (x97 < 0)) then some (([] : List Int), 0, 3) else ((app 8796093022208 x79 ([x97] : List Int)).bind fun x101 => rec3 (x95.2.1, x97, x101)))))) else M_R_GapsFrom_j2 F x75 x79)
def M_R_GapsFrom_l3 (F : Nat) (x1 : List Int) (x6 : Int) (x7 : Int) : Nat → (Int × Int × List Int) → Option (List Int × Int × Int)
  | 0 => fun _ => none
  | k + 1 => fun s => M_R_GapsFrom_b3 F x1 x6 x7 (M_R_GapsFrom_l3 F x1 x6 x7 k) s.1 s.2.1 s.2.2
def M_R_GapsFrom (F : Nat) (x1 : List Int) (x4 : Int) (x5 : Int) (x6 : Int) (x7 : Int) : Option (List Int × Int × Int) :=
  M_R_GapsFrom_l3 F x1 x6 x7 F (x4, x5, ([] : List Int))
/-! lampwright lampwrightref.GapsRead -/
def M_R_GapsRead_j6 (F : Nat) (x1 : Int) (x2 : List Int) (x5 : Int) (x6 : Int) (x7 : Int) (x8 : Int) (x32 : Int) : Option (List Int × Int × Int) :=
  (if ((x32 : Int) != 0) then some (([] : List Int), 0, x32) else ((M_R_BitList F x1 x2).bind fun x34 => ((M_R_GapsFrom F x34 x5 x6 x7 x8).bind fun x37 => some (x37.1, x37.2.1, x37.2.2))))
def M_R_GapsRead_j9 (F : Nat) (x1 : Int) (x2 : List Int) (x5 : Int) (x6 : Int) (x7 : Int) (x8 : Int) (x10 : Int) (x51 : Bool) : Option (List Int × Int × Int) :=
  (if x51 then M_R_GapsRead_j6 F x1 x2 x5 x6 x7 x8 3 else M_R_GapsRead_j6 F x1 x2 x5 x6 x7 x8 x10)
def M_R_GapsRead_j11 (F : Nat) (x1 : Int) (x2 : List Int) (x5 : Int) (x6 : Int) (x7 : Int) (x8 : Int) (x10 : Int) (x59 : Bool) : Option (List Int × Int × Int) :=
  M_R_GapsRead_j9 F x1 x2 x5 x6 x7 x8 x10 x59
def M_R_GapsRead_j10 (F : Nat) (x1 : Int) (x2 : List Int) (x5 : Int) (x6 : Int) (x7 : Int) (x8 : Int) (x10 : Int) (x56 : Bool) : Option (List Int × Int × Int) :=
  (if x56 then M_R_GapsRead_j11 F x1 x2 x5 x6 x7 x8 x10 true else ((M_R_between F x8 0 300).bind fun x60 => M_R_GapsRead_j11 F x1 x2 x5 x6 x7 x8 x10 (!x60)))
def M_R_GapsRead (F : Nat) (x1 : Int) (x2 : List Int) (x5 : Int) (x6 : Int) (x7 : Int) (x8 : Int) : Option (List Int × Int × Int) :=
  ((M_R_ReadErr F x1 x2 x5).bind fun x10 => (if ((x10 : Int) == 0) then ((M_R_between F x6 0 1048576).bind fun x53 => (if (!x53) then M_R_GapsRead_j10 F x1 x2 x5 x6 x7 x8 x10 true else ((M_R_between F x7 1 16).bind fun x61 => M_R_GapsRead_j10 F x1 x2 x5 x6 x7 x8 x10 (!x61)))) else M_R_GapsRead_j9 F x1 x2 x5 x6 x7 x8 x10 false))
/-! lampwright lampwrightlaw.GapsRead -/
def M_L_GapsRead_j1 (_F : Nat) (x10 : (List Int × Int × Int)) (x13 : (List Int × Int × Int)) (x19 : Bool) : Option Bool :=
  some ((x19 && ((x10.2.1 : Int) == x13.2.1)) && ((x10.2.2 : Int) == x13.2.2))
def M_L_GapsRead (F : Nat) (x1 : Int) (x2 : List Int) (x5 : Int) (x6 : Int) (x7 : Int) (x8 : Int) : Option Bool :=
  ((M_gaps_Read F x1 x2 x5 x6 x7 x8).bind fun x10 => ((M_R_GapsRead F x1 x2 x5 x6 x7 x8).bind fun x13 => ((M_L_gapsBegun F).bind fun x16 => (if x16 then ((M_R_SameInts F x10.1 x13.1).bind fun x22 => M_L_GapsRead_j1 F x10 x13 x22) else M_L_GapsRead_j1 F x10 x13 false))))
/-! lampwright lampwrightlaw.GapsBack -/
def M_L_GapsBack_j4 (_F : Nat) (x35 : Bool) : Option Bool :=
  some x35
def M_L_GapsBack_j3 (F : Nat) (x11 : (List Int × Int)) (x32 : Bool) : Option Bool :=
  (if x32 then ((M_gaps_Check F x11.1).bind fun x36 => M_L_GapsBack_j4 F ((x36 : Int) == 0)) else M_L_GapsBack_j4 F false)
def M_L_GapsBack_j2 (F : Nat) (x4 : List Int) (x7 : Int) (x11 : (List Int × Int)) : Option Bool :=
  (if ((x11.2 : Int) != 0) then some (((x11.1.length : Int) : Int) == 0) else ((M_gaps_Gaps F x11.1 x7).bind fun x27 => (if ((x27.2 : Int) == 0) then ((M_R_SameNums F x27.1 x4).bind fun x37 => M_L_GapsBack_j3 F x11 x37) else M_L_GapsBack_j3 F x11 false)))
def M_L_GapsBack_j5 (F : Nat) (x4 : List Int) (x7 : Int) (x11 : (List Int × Int)) (x44 : Bool) : Option Bool :=
  (if x44 then some false else M_L_GapsBack_j2 F x4 x7 x11)
def M_L_GapsBack (F : Nat) (x1 : List Int) (x4 : List Int) (x7 : Int) : Option Bool :=
  ((M_gaps_Gaps F x1 x7).bind fun x8 => ((M_gaps_Back F x4 x7).bind fun x11 => ((M_L_gapsBegun F).bind fun x16 => (if (!x16) then some false else (if ((x8.2 : Int) == 0) then ((M_gaps_Back F x8.1 x7).bind fun x39 => (if ((x39.2 : Int) != 0) then M_L_GapsBack_j5 F x4 x7 x11 true else ((M_R_SameInts F x39.1 x1).bind fun x46 => M_L_GapsBack_j5 F x4 x7 x11 (!x46)))) else M_L_GapsBack_j2 F x4 x7 x11)))))
/-! lampwright bits.Join -/
def M_bits_Join_j2 (F : Nat) (x1 : Int) (x2 : List Int) (x5 : Int) (x6 : List Int) (x18 : Int) : Option (Int × List Int × Int) :=
  (if ((x18 : Int) != 0) then some (0, ([] : List Int), x18) else ((M_bits_Both F x1 x2 x5 x6).bind fun x20 => some (x20.1, x20.2, 0)))
def M_bits_Join_j1 (F : Nat) (x1 : Int) (x2 : List Int) (x5 : Int) (x6 : List Int) (x15 : Int) : Option (Int × List Int × Int) :=
  (if (((x15 : Int) == 0) && (decide (8192 < (iadd .i64 x1 x5)))) then M_bits_Join_j2 F x1 x2 x5 x6 8 else M_bits_Join_j2 F x1 x2 x5 x6 x15)
def M_bits_Join (F : Nat) (x1 : Int) (x2 : List Int) (x5 : Int) (x6 : List Int) : Option (Int × List Int × Int) :=
  ((M_bits_Check F x1 x2).bind fun x12 => (if ((x12 : Int) == 0) then ((M_bits_Check F x5 x6).bind fun x26 => M_bits_Join_j1 F x1 x2 x5 x6 x26) else M_bits_Join_j1 F x1 x2 x5 x6 x12))
/-! lampwright bits.Put -/
def M_bits_Put_j4 (F : Nat) (x1 : Int) (x2 : List Int) (x5 : Int) (x6 : Int) (x24 : Int) : Option (Int × List Int × Int) :=
  (if ((x24 : Int) != 0) then some (0, ([] : List Int), x24) else ((M_bits_Add F x1 x2 x5 x6).bind fun x26 => some (x26.1, x26.2, 0)))
def M_bits_Put_j6 (F : Nat) (x1 : Int) (x2 : List Int) (x5 : Int) (x6 : Int) (x9 : Int) (x36 : Bool) : Option (Int × List Int × Int) :=
  (if x36 then M_bits_Put_j4 F x1 x2 x5 x6 3 else (if (decide (8192 < (iadd .i64 x1 x6))) then M_bits_Put_j4 F x1 x2 x5 x6 8 else M_bits_Put_j4 F x1 x2 x5 x6 x9))
def M_bits_Put_j7 (F : Nat) (x1 : Int) (x2 : List Int) (x5 : Int) (x6 : Int) (x9 : Int) (x41 : Bool) : Option (Int × List Int × Int) :=
  M_bits_Put_j6 F x1 x2 x5 x6 x9 x41
def M_bits_Put (F : Nat) (x1 : Int) (x2 : List Int) (x5 : Int) (x6 : Int) : Option (Int × List Int × Int) :=
  ((M_bits_Check F x1 x2).bind fun x9 => (if ((x9 : Int) != 0) then M_bits_Put_j4 F x1 x2 x5 x6 x9 else (if ((decide (x6 < 0)) || (decide (64 < x6))) then M_bits_Put_j6 F x1 x2 x5 x6 x9 true else (if (decide (x6 < 64)) then (chk (decide (0 ≤ x6)) (M_bits_Put_j7 F x1 x2 x5 x6 x9 (((ishr .u64 x5 x6) : Int) != 0))) else M_bits_Put_j7 F x1 x2 x5 x6 x9 false))))
/-! lampwright bits.Get -/
def M_bits_Get_j2 (F : Nat) (x1 : Int) (x2 : List Int) (x5 : Int) (x6 : Int) (x18 : Int) : Option (Int × Int) :=
  (if ((x18 : Int) != 0) then some (0, x18) else ((M_bits_Read F x1 x2 x5 x6).bind fun x20 => (if (!x20.2) then some (0, 7) else some (x20.1, 0))))
def M_bits_Get_j3 (F : Nat) (x1 : Int) (x2 : List Int) (x5 : Int) (x6 : Int) (x8 : Int) (x28 : Bool) : Option (Int × Int) :=
  (if x28 then M_bits_Get_j2 F x1 x2 x5 x6 3 else M_bits_Get_j2 F x1 x2 x5 x6 x8)
def M_bits_Get (F : Nat) (x1 : Int) (x2 : List Int) (x5 : Int) (x6 : Int) : Option (Int × Int) :=
  ((M_bits_Check F x1 x2).bind fun x8 => (if ((x8 : Int) == 0) then M_bits_Get_j3 F x1 x2 x5 x6 x8 ((((decide (x6 < 0)) || (decide (64 < x6))) || (decide (x5 < 0))) || (decide (x1 < x5))) else M_bits_Get_j3 F x1 x2 x5 x6 x8 false))
/-! lampwright bits.Cut -/
def M_bits_Cut_r4 (F : Nat) (x51 : Int) (x54 : List Int) (x59 : Int) : Option ((Int × List Int) ⊕ Empty) :=
  ((M_bits_writer_bit F x51 x54 x59).bind fun x60 => some (.inl (x60.1, x60.2)))
def M_bits_Cut_j2 (F : Nat) (x1 : Int) (x2 : List Int) (x5 : Int) (x6 : Int) (x19 : Int) : Option (Int × List Int × Int) :=
  (if ((x19 : Int) != 0) then some (0, ([] : List Int), x19) else ((M_bits_places F x1 x2 x5 x6).bind fun _x43 => ((M_bits_places_1 F (fun ((x51, x54) : (Int × List Int)) (x59 : Int) => M_bits_Cut_r4 F x51 x54 x59) x5 x6 x1 x2 (0, ([] : List Int))).bind (Sum.elim (fun ((x51, x54) : (Int × List Int)) => some (x51, x54, 0)) (fun t => t.elim)))))
def M_bits_Cut_j5 (F : Nat) (x1 : Int) (x2 : List Int) (x5 : Int) (x6 : Int) (x9 : Int) (x68 : Bool) : Option (Int × List Int × Int) :=
  (if x68 then M_bits_Cut_j2 F x1 x2 x5 x6 3 else M_bits_Cut_j2 F x1 x2 x5 x6 x9)
def M_bits_Cut (F : Nat) (x1 : Int) (x2 : List Int) (x5 : Int) (x6 : Int) : Option (Int × List Int × Int) :=
  ((M_bits_Check F x1 x2).bind fun x9 => (if ((x9 : Int) == 0) then M_bits_Cut_j5 F x1 x2 x5 x6 x9 ((((decide (x5 < 0)) || (decide (x1 < x5))) || (decide (x6 < x5))) || (decide (x1 < x6))) else M_bits_Cut_j5 F x1 x2 x5 x6 x9 false))
/-! lampwright lampwrightlaw.bitsBegun -/
def M_L_bitsBegun_j3 (_F : Nat) (x42 : Bool) : Option Bool :=
  some x42
def M_L_bitsBegun_j2 (F : Nat) (x14 : (Int × List Int × Int)) (x18 : (Int × Int)) (x35 : Bool) : Option Bool :=
  (if ((x35 && ((x14.2.2 : Int) == 0)) && ((x18.2 : Int) == 7)) then ((M_bits_Check F 3 ([1] : List Int)).bind fun x45 => M_L_bitsBegun_j3 F ((x45 : Int) == 1)) else M_L_bitsBegun_j3 F false)
def M_L_bitsBegun_j1 (F : Nat) (x1 : (Int × List Int × Int)) (x5 : (Int × List Int × Int)) (x9 : (Int × Int)) (x10 : (Int × List Int × Int)) (x14 : (Int × List Int × Int)) (x18 : (Int × Int)) (x27 : Bool) : Option Bool :=
  (if (((((x27 && ((x5.2.2 : Int) == 0)) && ((x9.1 : Int) == 9)) && ((x9.2 : Int) == 0)) && ((x10.1 : Int) == 13)) && ((x10.2.2 : Int) == 0)) then ((M_R_SameBits F x14.1 x14.2.1 x1.1 x1.2.1).bind fun x46 => M_L_bitsBegun_j2 F x14 x18 x46) else M_L_bitsBegun_j2 F x14 x18 false)
def M_L_bitsBegun (F : Nat)  : Option Bool :=
  ((M_bits_Put F 0 ([] : List Int) 5 3).bind fun x1 => ((M_bits_Put F x1.1 x1.2.1 9 7).bind fun x5 => ((M_bits_Get F x5.1 x5.2.1 3 7).bind fun x9 => ((M_bits_Join F x1.1 x1.2.1 x5.1 x5.2.1).bind fun x10 => ((M_bits_Cut F x5.1 x5.2.1 0 3).bind fun x14 => ((M_bits_Get F x5.1 x5.2.1 9 2).bind fun x18 => ((M_R_SameBits F x1.1 x1.2.1 3 ([160] : List Int)).bind fun x21 => (if (x21 && ((x1.2.2 : Int) == 0)) then ((M_R_SameBits F x5.1 x5.2.1 10 ([162, 64] : List Int)).bind fun x49 => M_L_bitsBegun_j1 F x1 x5 x9 x10 x14 x18 x49) else M_L_bitsBegun_j1 F x1 x5 x9 x10 x14 x18 false))))))))
/-! lampwright lampwrightlaw.GapsBits -/
def M_L_GapsBits_j4 (_F : Nat) (x49 : Bool) : Option Bool :=
  some x49
def M_L_GapsBits_j5 (_F : Nat) (x6 : Int) (x16 : (Int × List Int × Int)) (x51 : (List Int × Int × Int)) (x56 : Bool) : Option Bool :=
  some (x56 && ((x51.2.1 : Int) == (iadd .i64 x6 x16.1)))
def M_L_GapsBits_j2 (F : Nat) (x1 : List Int) (x4 : Int) (x5 : Int) (x6 : Int) (x7 : List Int) (x10 : Int) (x11 : List Int) (x16 : (Int × List Int × Int)) (x29 : Bool) : Option Bool :=
  (if x29 then some false else ((M_bits_Join F x6 x7 x16.1 x16.2.1).bind fun x30 => ((M_bits_Join F x30.1 x30.2.1 x10 x11).bind fun x34 => (if ((((x16.2.2 : Int) != 0) || ((x30.2.2 : Int) != 0)) || ((x34.2.2 : Int) != 0)) then (if ((x16.2.2 : Int) == 0) then M_L_GapsBits_j4 F true else ((M_R_SameBits F x16.1 x16.2.1 0 ([] : List Int)).bind fun x50 => M_L_GapsBits_j4 F x50)) else ((M_gaps_Read F x34.1 x34.2.1 x6 x4 x5 (x1.length : Int)).bind fun x51 => (if ((x51.2.2 : Int) == 0) then ((M_R_SameInts F x51.1 x1).bind fun x58 => M_L_GapsBits_j5 F x6 x16 x51 x58) else M_L_GapsBits_j5 F x6 x16 x51 false))))))
def M_L_GapsBits (F : Nat) (x1 : List Int) (x4 : Int) (x5 : Int) (x6 : Int) (x7 : List Int) (x10 : Int) (x11 : List Int) : Option Bool :=
  ((M_gaps_Write F x1 x4 x5).bind fun x16 => ((M_L_gapsBegun F).bind fun x26 => (if (!x26) then M_L_GapsBits_j2 F x1 x4 x5 x6 x7 x10 x11 x16 true else ((M_L_bitsBegun F).bind fun x61 => M_L_GapsBits_j2 F x1 x4 x5 x6 x7 x10 x11 x16 (!x61)))))
/-! lampwright lampwrightlaw.GapsShift -/
def M_L_GapsShift_j4 (_F : Nat) (x87 : Bool) : Option Bool :=
  some x87
def M_L_GapsShift_j5 (F : Nat) (x90 : Bool) : Option Bool :=
  M_L_GapsShift_j4 F x90
def M_L_GapsShift_j2 (F : Nat) (x4 : Int) (x5 : Int) (x6 : (List Int × Int)) (x78 : List Int) : Option Bool :=
  ((M_gaps_Gaps F x78 (iadd .i64 x4 x5)).bind fun x79 => (if ((x79.2 : Int) == 3) then M_L_GapsShift_j4 F true else (if ((x79.2 : Int) == 0) then ((M_R_SameNums F x6.1 x79.1).bind fun x91 => M_L_GapsShift_j5 F x91) else M_L_GapsShift_j5 F false)))
def M_L_GapsShift_b6 (F : Nat) (x1 : List Int) (x4 : Int) (x5 : Int) (x6 : (List Int × Int)) (rec6 : (List Int × Int) → Option Bool) (x112 : List Int) (x113 : Int) : Option Bool :=
  (if (decide (x113 < (x1.length : Int))) then ((idx x1 x113).bind fun x142 => ((app 8796093022208 x112 ([iadd .i64 x142 x5] : List Int)).bind fun x147 => rec6 (x147, iadd .i64 x113 1))) else M_L_GapsShift_j2 F x4 x5 x6 x112)
def M_L_GapsShift_l6 (F : Nat) (x1 : List Int) (x4 : Int) (x5 : Int) (x6 : (List Int × Int)) : Nat → (List Int × Int) → Option Bool
  | 0 => fun _ => none
  | k + 1 => fun s => M_L_GapsShift_b6 F x1 x4 x5 x6 (M_L_GapsShift_l6 F x1 x4 x5 x6 k) s.1 s.2
def M_L_GapsShift (F : Nat) (x1 : List Int) (x4 : Int) (x5 : Int) : Option Bool :=
  ((M_gaps_Gaps F x1 x4).bind fun x6 => ((M_L_gapsBegun F).bind fun x11 => (if (!x11) then some false else (if ((((x6.2 : Int) != 0) || (decide (x5 < (-1048576)))) || (decide (1048576 < x5))) then some true else M_L_GapsShift_l6 F x1 x4 x5 x6 F (([] : List Int), 0)))))
/-! lampwright lampwrightlaw.GapsAhead -/
def M_L_GapsAhead_j3 (_F : Nat) (x88 : Bool) : Option Bool :=
  some x88
def M_L_GapsAhead_j2 (F : Nat) (x1 : List Int) (x5 : Int) (x6 : (List Int × Int)) (x44 : (List Int × Int)) (x66 : Bool) : Option Bool :=
  (if (x66 || (((x44.1.length : Int) : Int) != (isub .i64 (x1.length : Int) x5))) then some false else ((idx x44.1 0).bind fun x89 => ((idx x6.1 x5).bind fun x93 => (if ((x89 : Int) == (imul .u64 2 (iadd .u64 x93 1))) then ((sub x44.1 1 (x44.1.length : Int)).bind fun x98 => ((sub x6.1 (iadd .i64 x5 1) (x6.1.length : Int)).bind fun x103 => ((M_R_SameNums F x98 x103).bind fun x108 => M_L_GapsAhead_j3 F x108))) else M_L_GapsAhead_j3 F false))))
def M_L_GapsAhead (F : Nat) (x1 : List Int) (x4 : Int) (x5 : Int) : Option Bool :=
  ((M_gaps_Gaps F x1 x4).bind fun x6 => ((M_L_gapsBegun F).bind fun x11 => (if (!x11) then some false else (if ((((x6.2 : Int) != 0) || (decide (x5 < 1))) || (decide ((x1.length : Int) ≤ x5))) then some true else ((sub x1 0 x5).bind fun x17 => ((M_gaps_Gaps F x17 x4).bind fun x20 => ((sub x1 x5 (x1.length : Int)).bind fun x35 => ((idx x1 (isub .i64 x5 1)).bind fun x40 => ((M_gaps_Gaps F x35 x40).bind fun x44 => (if (((x20.2 : Int) != 0) || ((x44.2 : Int) != 0)) then M_L_GapsAhead_j2 F x1 x5 x6 x44 true else ((sub x6.1 0 x5).bind fun x110 => ((M_R_SameNums F x20.1 x110).bind fun x113 => M_L_GapsAhead_j2 F x1 x5 x6 x44 (!x113)))))))))))))
end Go.Proofs.Ytlnmibipnabdiaa
