/- What each Go function of this seat computes, in plain terms. -/
import Derived.Test.YtaombidikooigaaSx
namespace Go.Proofs.Ytaombidikooigaa
open Go SX
/-! lampwright bits.Check -/
def M_bits_Check_j2 (_F : Nat) (x36 : Bool) : Option Int :=
  (if x36 then some 1 else some 0)
def M_bits_Check (F : Nat) (x1 : Int) (x2 : List Int) : Option Int :=
  (if ((decide (x1 < 0)) || (decide (8192 < x1))) then some 3 else (if (((x2.length : Int) : Int) != (iquo .i64 (iadd .i64 x1 7) 8)) then some 1 else (if (((irem x1 8) : Int) != 0) then ((idx x2 (isub .i64 (x2.length : Int) 1)).bind fun x39 => (chk (decide (0 ≤ (irem x1 8))) (M_bits_Check_j2 F (((ishl .u8 x39 (irem x1 8)) : Int) != 0)))) else M_bits_Check_j2 F false)))
/-! slices.Clone[[]byte,byte] -/
def M_slices_Clone_byte_byte (_F : Nat) (x1 : List Int) : Option (List Int) :=
  ((app 70368744177664 ([] : List Int) x1).bind fun x8 => some x8)
/-! lampwright bits.own -/
def M_bits_own (F : Nat) (x1 : Int) (x2 : List Int) : Option (Int × List Int) :=
  ((M_slices_Clone_byte_byte F x2).bind fun x10 => some (x1, x10))
/-! (*lampwright bits.writer).bit -/
def M_bits_writer_bit_j1 (_F : Nat) (x2 : Int) (x6 : Int) (x15 : List Int) : Option (Int × List Int) :=
  ((idx x15 (iquo .i64 x2 8)).bind fun x30 => (chk (decide (0 ≤ (irem x2 8))) (((idx x15 (iquo .i64 x2 8)).bind fun _x36 => (lett (x15.set (iquo .i64 x2 8).toNat (ior .u8 x30 (ishr .u8 (iconv .u8 (ishl .u64 x6 7)) (irem x2 8)))) fun x41 => some (iadd .i64 x2 1, x41))))))
def M_bits_writer_bit (F : Nat) (x2 : Int) (x3 : List Int) (x6 : Int) : Option (Int × List Int) :=
  (if (((irem x2 8) : Int) == 0) then ((app 70368744177664 x3 ([0] : List Int)).bind fun x46 => M_bits_writer_bit_j1 F x2 x6 x46) else M_bits_writer_bit_j1 F x2 x6 x3)
/-! (*lampwright bits.writer).number -/
def M_bits_writer_number_b1 (F : Nat) (x6 : Int) (rec1 : (Int × Int × List Int) → Option (Int × List Int)) (x18 : Int) (x19 : Int) (x22 : List Int) : Option (Int × List Int) :=
  (if (decide (0 ≤ x18)) then (chk (decide (0 ≤ x18)) (((M_bits_writer_bit F x19 x22 (iand .u64 (ishr .u64 x6 x18) 1)).bind fun x40 => rec1 (isub .i64 x18 1, x40.1, x40.2)))) else some (x19, x22))
def M_bits_writer_number_l1 (F : Nat) (x6 : Int) : Nat → (Int × Int × List Int) → Option (Int × List Int)
  | 0 => fun _ => none
  | k + 1 => fun s => M_bits_writer_number_b1 F x6 (M_bits_writer_number_l1 F x6 k) s.1 s.2.1 s.2.2
def M_bits_writer_number (F : Nat) (x2 : Int) (x3 : List Int) (x6 : Int) (x7 : Int) : Option (Int × List Int) :=
  M_bits_writer_number_l1 F x6 F (isub .i64 x7 1, x2, x3)
/-! lampwright bits.Add -/
def M_bits_Add (F : Nat) (x1 : Int) (x2 : List Int) (x5 : Int) (x6 : Int) : Option (Int × List Int) :=
  ((M_bits_own F x1 x2).bind fun x9 => ((M_bits_writer_number F x9.1 x9.2 x5 x6).bind fun x13 => some (x13.1, x13.2)))
/-! lampwright bits.Put -/
def M_bits_Put_j4 (F : Nat) (x1 : Int) (x2 : List Int) (x5 : Int) (x6 : Int) (x24 : Int) : Option (Int × List Int × Int) :=
  (if ((x24 : Int) != 0) then some (0, ([] : List Int), x24) else ((M_bits_Add F x1 x2 x5 x6).bind fun x26 => some (x26.1, x26.2, 0)))
def M_bits_Put_j6 (F : Nat) (x1 : Int) (x2 : List Int) (x5 : Int) (x6 : Int) (x9 : Int) (x36 : Bool) : Option (Int × List Int × Int) :=
  (if x36 then M_bits_Put_j4 F x1 x2 x5 x6 3 else (if (decide (8192 < (iadd .i64 x1 x6))) then M_bits_Put_j4 F x1 x2 x5 x6 8 else M_bits_Put_j4 F x1 x2 x5 x6 x9))
def M_bits_Put_j7 (F : Nat) (x1 : Int) (x2 : List Int) (x5 : Int) (x6 : Int) (x9 : Int) (x41 : Bool) : Option (Int × List Int × Int) :=
  M_bits_Put_j6 F x1 x2 x5 x6 x9 x41
def M_bits_Put (F : Nat) (x1 : Int) (x2 : List Int) (x5 : Int) (x6 : Int) : Option (Int × List Int × Int) :=
  ((M_bits_Check F x1 x2).bind fun x9 => (if ((x9 : Int) != 0) then M_bits_Put_j4 F x1 x2 x5 x6 x9 else (if ((decide (x6 < 0)) || (decide (64 < x6))) then M_bits_Put_j6 F x1 x2 x5 x6 x9 true else (if (decide (x6 < 64)) then (chk (decide (0 ≤ x6)) (M_bits_Put_j7 F x1 x2 x5 x6 x9 (((ishr .u64 x5 x6) : Int) != 0))) else M_bits_Put_j7 F x1 x2 x5 x6 x9 false))))
/-! lampwright bits.At -/
def M_bits_At (_F : Nat) (_x1 : Int) (x2 : List Int) (x5 : Int) : Option Int :=
  ((idx x2 (iquo .i64 x5 8)).bind fun x7 => (chk (decide (0 ≤ (isub .i64 7 (irem x5 8)))) ((lett (iand .u64 (iconv .u64 (ishr .u8 x7 (isub .i64 7 (irem x5 8)))) 1) fun x11 => some x11))))
/-! lampwright bits.Read -/
def M_bits_Read_j2 (_F : Nat) (x24 : Int) : Option (Int × Bool) :=
  some (x24, true)
def M_bits_Read_b3 (F : Nat) (x1 : Int) (x2 : List Int) (x5 : Int) (x6 : Int) (rec3 : (Int × Int) → Option (Int × Bool)) (x29 : Int) (x30 : Int) : Option (Int × Bool) :=
  (if (decide (x30 < x6)) then ((M_bits_At F x1 x2 (iadd .i64 x5 x30)).bind fun x38 => rec3 (ior .u64 (ishl .u64 x29 1) x38, iadd .i64 x30 1)) else M_bits_Read_j2 F x29)
def M_bits_Read_l3 (F : Nat) (x1 : Int) (x2 : List Int) (x5 : Int) (x6 : Int) : Nat → (Int × Int) → Option (Int × Bool)
  | 0 => fun _ => none
  | k + 1 => fun s => M_bits_Read_b3 F x1 x2 x5 x6 (M_bits_Read_l3 F x1 x2 x5 x6 k) s.1 s.2
def M_bits_Read (F : Nat) (x1 : Int) (x2 : List Int) (x5 : Int) (x6 : Int) : Option (Int × Bool) :=
  (if (decide ((isub .i64 x1 x5) < x6)) then some (0, false) else M_bits_Read_l3 F x1 x2 x5 x6 F (0, 0))
/-! lampwright bits.Get -/
def M_bits_Get_j2 (F : Nat) (x1 : Int) (x2 : List Int) (x5 : Int) (x6 : Int) (x18 : Int) : Option (Int × Int) :=
  (if ((x18 : Int) != 0) then some (0, x18) else ((M_bits_Read F x1 x2 x5 x6).bind fun x20 => (if (!x20.2) then some (0, 7) else some (x20.1, 0))))
def M_bits_Get_j3 (F : Nat) (x1 : Int) (x2 : List Int) (x5 : Int) (x6 : Int) (x8 : Int) (x28 : Bool) : Option (Int × Int) :=
  (if x28 then M_bits_Get_j2 F x1 x2 x5 x6 3 else M_bits_Get_j2 F x1 x2 x5 x6 x8)
def M_bits_Get (F : Nat) (x1 : Int) (x2 : List Int) (x5 : Int) (x6 : Int) : Option (Int × Int) :=
  ((M_bits_Check F x1 x2).bind fun x8 => (if ((x8 : Int) == 0) then M_bits_Get_j3 F x1 x2 x5 x6 x8 ((((decide (x6 < 0)) || (decide (64 < x6))) || (decide (x5 < 0))) || (decide (x1 < x5))) else M_bits_Get_j3 F x1 x2 x5 x6 x8 false))
/-! lampwright bits.places -/
def M_bits_places (_F : Nat) (_x1 : Int) (_x2 : List Int) (_x5 : Int) (_x6 : Int) : Option Unit :=
  some ()
/-! lampwright bits.places$1 -/
def M_bits_places_1_b1 {σ τ : Type} (F : Nat) (yy : σ → Int → Option (σ ⊕ τ)) (x4 : Int) (x6 : Int) (x7 : List Int) (rec1 : (Int × σ) → Option (σ ⊕ τ)) (x22 : Int) (x23 : σ) : Option (σ ⊕ τ) :=
  (if (decide (x22 < x4)) then ((M_bits_At F x6 x7 x22).bind fun x44 => ((yy x23 x44).bind (Sum.elim (fun x45 => rec1 (iadd .i64 x22 1, x45)) (fun x46 => some (.inr x46))))) else some (.inl x23))
def M_bits_places_1_l1 {σ τ : Type} (F : Nat) (yy : σ → Int → Option (σ ⊕ τ)) (x4 : Int) (x6 : Int) (x7 : List Int) : Nat → (Int × σ) → Option (σ ⊕ τ)
  | 0 => fun _ => none
  | k + 1 => fun s => M_bits_places_1_b1 F yy x4 x6 x7 (M_bits_places_1_l1 F yy x4 x6 x7 k) s.1 s.2
def M_bits_places_1 {σ τ : Type} (F : Nat) (yy : σ → Int → Option (σ ⊕ τ)) (x2 : Int) (x4 : Int) (x6 : Int) (x7 : List Int) (s0 : σ) : Option (σ ⊕ τ) :=
  M_bits_places_1_l1 F yy x4 x6 x7 F (x2, s0)
/-! lampwright bits.Both -/
def M_bits_Both_r2 (F : Nat) (x45 : Int) (x48 : List Int) (x53 : Int) : Option ((Int × List Int) ⊕ Empty) :=
  ((M_bits_writer_bit F x45 x48 x53).bind fun x54 => some (.inl (x54.1, x54.2)))
def M_bits_Both (F : Nat) (x1 : Int) (x2 : List Int) (x5 : Int) (x6 : List Int) : Option (Int × List Int) :=
  ((M_bits_own F x1 x2).bind fun x12 => ((M_bits_places F x5 x6 0 x5).bind fun _x37 => ((M_bits_places_1 F (fun ((x45, x48) : (Int × List Int)) (x53 : Int) => M_bits_Both_r2 F x45 x48 x53) 0 x5 x5 x6 (x12.1, x12.2)).bind (Sum.elim (fun ((x45, x48) : (Int × List Int)) => some (x45, x48)) (fun t => t.elim)))))
/-! lampwright bits.Join -/
def M_bits_Join_j2 (F : Nat) (x1 : Int) (x2 : List Int) (x5 : Int) (x6 : List Int) (x18 : Int) : Option (Int × List Int × Int) :=
  (if ((x18 : Int) != 0) then some (0, ([] : List Int), x18) else ((M_bits_Both F x1 x2 x5 x6).bind fun x20 => some (x20.1, x20.2, 0)))
def M_bits_Join_j1 (F : Nat) (x1 : Int) (x2 : List Int) (x5 : Int) (x6 : List Int) (x15 : Int) : Option (Int × List Int × Int) :=
  (if (((x15 : Int) == 0) && (decide (8192 < (iadd .i64 x1 x5)))) then M_bits_Join_j2 F x1 x2 x5 x6 8 else M_bits_Join_j2 F x1 x2 x5 x6 x15)
def M_bits_Join (F : Nat) (x1 : Int) (x2 : List Int) (x5 : Int) (x6 : List Int) : Option (Int × List Int × Int) :=
  ((M_bits_Check F x1 x2).bind fun x12 => (if ((x12 : Int) == 0) then ((M_bits_Check F x5 x6).bind fun x26 => M_bits_Join_j1 F x1 x2 x5 x6 x26) else M_bits_Join_j1 F x1 x2 x5 x6 x12))
/-! lampwright bits.Cut -/
def M_bits_Cut_r4 (F : Nat) (x51 : Int) (x54 : List Int) (x59 : Int) : Option ((Int × List Int) ⊕ Empty) :=
  ((M_bits_writer_bit F x51 x54 x59).bind fun x60 => some (.inl (x60.1, x60.2)))
def M_bits_Cut_j2 (F : Nat) (x1 : Int) (x2 : List Int) (x5 : Int) (x6 : Int) (x19 : Int) : Option (Int × List Int × Int) :=
  (if ((x19 : Int) != 0) then some (0, ([] : List Int), x19) else ((M_bits_places F x1 x2 x5 x6).bind fun _x43 => ((M_bits_places_1 F (fun ((x51, x54) : (Int × List Int)) (x59 : Int) => M_bits_Cut_r4 F x51 x54 x59) x5 x6 x1 x2 (0, ([] : List Int))).bind (Sum.elim (fun ((x51, x54) : (Int × List Int)) => some (x51, x54, 0)) (fun t => t.elim)))))
def M_bits_Cut_j5 (F : Nat) (x1 : Int) (x2 : List Int) (x5 : Int) (x6 : Int) (x9 : Int) (x68 : Bool) : Option (Int × List Int × Int) :=
  (if x68 then M_bits_Cut_j2 F x1 x2 x5 x6 3 else M_bits_Cut_j2 F x1 x2 x5 x6 x9)
def M_bits_Cut (F : Nat) (x1 : Int) (x2 : List Int) (x5 : Int) (x6 : Int) : Option (Int × List Int × Int) :=
  ((M_bits_Check F x1 x2).bind fun x9 => (if ((x9 : Int) == 0) then M_bits_Cut_j5 F x1 x2 x5 x6 x9 ((((decide (x5 < 0)) || (decide (x1 < x5))) || (decide (x6 < x5))) || (decide (x1 < x6))) else M_bits_Cut_j5 F x1 x2 x5 x6 x9 false))
/-! lampwright lampwrightref.between -/
def M_R_between (_F : Nat) (x1 : Int) (x2 : Int) (x3 : Int) : Option Bool :=
  some ((decide (x2 ≤ x1)) && (decide (x1 ≤ x3)))
/-! lampwright lampwrightref.BitList -/
def M_R_BitList_j23 (_F : Nat) (x190 : List Int) : Option (List Int) :=
  some x190
def M_R_BitList_j42 (_F : Nat) (rec38 : (List Int × Int) → Option (List Int)) (x253 : Int) (x344 : List Int) : Option (List Int) :=
  rec38 (x344, iadd .i64 x253 1)
def M_R_BitList_j44 (F : Nat) (rec38 : (List Int × Int) → Option (List Int)) (x252 : List Int) (x253 : Int) (x357 : Int) : Option (List Int) :=
  ((app 8796093022208 x252 ([irem x357 2] : List Int)).bind fun x360 => M_R_BitList_j42 F rec38 x253 x360)
def M_R_BitList_b45 (F : Nat) (rec38 : (List Int × Int) → Option (List Int)) (x252 : List Int) (x253 : Int) (rec45 : (Int × Int) → Option (List Int)) (x365 : Int) (x366 : Int) : Option (List Int) :=
  (if (decide (x366 < (isub .i64 7 (irem x253 8)))) then rec45 (iquo .i64 x365 2, iadd .i64 x366 1) else M_R_BitList_j44 F rec38 x252 x253 x365)
def M_R_BitList_l45 (F : Nat) (rec38 : (List Int × Int) → Option (List Int)) (x252 : List Int) (x253 : Int) : Nat → (Int × Int) → Option (List Int)
  | 0 => fun _ => none
  | k + 1 => fun s => M_R_BitList_b45 F rec38 x252 x253 (M_R_BitList_l45 F rec38 x252 x253 k) s.1 s.2
def M_R_BitList_b38 (F : Nat) (x1 : Int) (x2 : List Int) (rec38 : (List Int × Int) → Option (List Int)) (x252 : List Int) (x253 : Int) : Option (List Int) :=
  (if (decide (x253 < x1)) then ((idx x2 (iquo .i64 x253 8)).bind fun x345 => M_R_BitList_l45 F rec38 x252 x253 F (iconv .i64 x345, 0)) else M_R_BitList_j23 F x252)
def M_R_BitList_l38 (F : Nat) (x1 : Int) (x2 : List Int) : Nat → (List Int × Int) → Option (List Int)
  | 0 => fun _ => none
  | k + 1 => fun s => M_R_BitList_b38 F x1 x2 (M_R_BitList_l38 F x1 x2 k) s.1 s.2
def M_R_BitList (F : Nat) (x1 : Int) (x2 : List Int) : Option (List Int) :=
  M_R_BitList_l38 F x1 x2 F (([] : List Int), 0)
/-! lampwright lampwrightref.BitsCheck -/
def M_R_BitsCheck_j3 (_F : Nat) : Option Int :=
  some 0
def M_R_BitsCheck_b4 (F : Nat) (x12 : List Int) (rec4 : Int → Option Int) (x57 : Int) : Option Int :=
  (if (decide (x57 < (x12.length : Int))) then ((idx x12 x57).bind fun x74 => (if ((x74 : Int) != 0) then some 1 else rec4 (iadd .i64 x57 1))) else M_R_BitsCheck_j3 F)
def M_R_BitsCheck_l4 (F : Nat) (x12 : List Int) : Nat → Int → Option Int
  | 0 => fun _ => none
  | k + 1 => fun s => M_R_BitsCheck_b4 F x12 (M_R_BitsCheck_l4 F x12 k) s
def M_R_BitsCheck_j1 (F : Nat) (x1 : Int) (x2 : List Int) (x10 : Int) : Option Int :=
  (if (((x2.length : Int) : Int) != x10) then some 1 else ((M_R_BitList F (imul .i64 8 x10) x2).bind fun x12 => M_R_BitsCheck_l4 F x12 F x1))
def M_R_BitsCheck (F : Nat) (x1 : Int) (x2 : List Int) : Option Int :=
  ((M_R_between F x1 0 8192).bind fun x8 => (if (!x8) then some 3 else (if (decide (0 < (irem x1 8))) then M_R_BitsCheck_j1 F x1 x2 (iadd .i64 (iquo .i64 x1 8) 1) else M_R_BitsCheck_j1 F x1 x2 (iquo .i64 x1 8))))
/-! lampwright lampwrightref.fitsIn -/
def M_R_fitsIn_j2 (_F : Nat) (x12 : Int) : Option Bool :=
  some ((x12 : Int) == 0)
def M_R_fitsIn_b3 (F : Nat) (x2 : Int) (rec3 : (Int × Int) → Option Bool) (x15 : Int) (x16 : Int) : Option Bool :=
  (if (decide (x16 < x2)) then rec3 (iquo .u64 x15 2, iadd .i64 x16 1) else M_R_fitsIn_j2 F x15)
def M_R_fitsIn_l3 (F : Nat) (x2 : Int) : Nat → (Int × Int) → Option Bool
  | 0 => fun _ => none
  | k + 1 => fun s => M_R_fitsIn_b3 F x2 (M_R_fitsIn_l3 F x2 k) s.1 s.2
def M_R_fitsIn (F : Nat) (x1 : Int) (x2 : Int) : Option Bool :=
  M_R_fitsIn_l3 F x2 F (x1, 0)
/-! lampwright lampwrightref.PackBits -/
def M_R_PackBits_j59 (_F : Nat) (x1 : List Int) (x497 : List Int) : Option (Int × List Int) :=
  some ((x1.length : Int), x497)
def M_R_PackBits_j108 (_F : Nat) (rec98 : (Int × List Int) → Option (Int × List Int)) (x660 : Int) (x907 : List Int) : Option (Int × List Int) :=
  rec98 (iadd .i64 x660 8, x907)
def M_R_PackBits_j113 (F : Nat) (rec98 : (Int × List Int) → Option (Int × List Int)) (x660 : Int) (x663 : List Int) (x944 : Int) : Option (Int × List Int) :=
  ((app 70368744177664 x663 ([iconv .u8 x944] : List Int)).bind fun x947 => M_R_PackBits_j108 F rec98 x660 x947)
def M_R_PackBits_j117 (_F : Nat) (rec116 : (Int × Int) → Option (Int × List Int)) (x962 : Int) (x980 : Int) : Option (Int × List Int) :=
  rec116 (x980, iadd .i64 x962 1)
def M_R_PackBits_b116 (F : Nat) (rec98 : (Int × List Int) → Option (Int × List Int)) (x1 : List Int) (x660 : Int) (x663 : List Int) (rec116 : (Int × Int) → Option (Int × List Int)) (x961 : Int) (x962 : Int) : Option (Int × List Int) :=
  (if (decide (x962 < 8)) then (if (decide ((iadd .i64 x660 x962) < (x1.length : Int))) then ((idx x1 (iadd .i64 x660 x962)).bind fun x981 => M_R_PackBits_j117 F rec116 x962 (iadd .i64 (imul .i64 2 x961) x981)) else M_R_PackBits_j117 F rec116 x962 (imul .i64 2 x961)) else M_R_PackBits_j113 F rec98 x660 x663 x961)
def M_R_PackBits_l116 (F : Nat) (rec98 : (Int × List Int) → Option (Int × List Int)) (x1 : List Int) (x660 : Int) (x663 : List Int) : Nat → (Int × Int) → Option (Int × List Int)
  | 0 => fun _ => none
  | k + 1 => fun s => M_R_PackBits_b116 F rec98 x1 x660 x663 (M_R_PackBits_l116 F rec98 x1 x660 x663 k) s.1 s.2
def M_R_PackBits_b98 (F : Nat) (x1 : List Int) (rec98 : (Int × List Int) → Option (Int × List Int)) (x660 : Int) (x663 : List Int) : Option (Int × List Int) :=
  (if (decide (x660 < (x1.length : Int))) then M_R_PackBits_l116 F rec98 x1 x660 x663 F (0, 0) else M_R_PackBits_j59 F x1 x663)
def M_R_PackBits_l98 (F : Nat) (x1 : List Int) : Nat → (Int × List Int) → Option (Int × List Int)
  | 0 => fun _ => none
  | k + 1 => fun s => M_R_PackBits_b98 F x1 (M_R_PackBits_l98 F x1 k) s.1 s.2
def M_R_PackBits (F : Nat) (x1 : List Int) : Option (Int × List Int) :=
  M_R_PackBits_l98 F x1 F (0, ([] : List Int))
/-! lampwright lampwrightref.NumBits -/
def M_R_NumBits_j2 (_F : Nat) (x56 : List Int) : Option (List Int) :=
  some x56
def M_R_NumBits_b3 (F : Nat) (rec3 : (Int × List Int × Int) → Option (List Int)) (x71 : Int) (x74 : List Int) (x75 : Int) : Option (List Int) :=
  (if (decide (0 ≤ x75)) then ((idx x74 x75).bind fun _x98 => (lett (x74.set x75.toNat (iconv .i64 (irem x71 2))) fun x101 => rec3 (iquo .u64 x71 2, x101, isub .i64 x75 1))) else M_R_NumBits_j2 F x74)
def M_R_NumBits_l3 (F : Nat) : Nat → (Int × List Int × Int) → Option (List Int)
  | 0 => fun _ => none
  | k + 1 => fun s => M_R_NumBits_b3 F (M_R_NumBits_l3 F k) s.1 s.2.1 s.2.2
def M_R_NumBits (F : Nat) (x1 : Int) (x2 : Int) : Option (List Int) :=
  ((mk 17592186044416 (0 : Int) x2).bind fun x3 => M_R_NumBits_l3 F F (x1, x3, isub .i64 x2 1))
/-! lampwright lampwrightref.BitsPut -/
def M_R_BitsPut_j5 (F : Nat) (x1 : Int) (x2 : List Int) (x5 : Int) (x6 : Int) (x26 : Int) : Option (Int × List Int × Int) :=
  (if ((x26 : Int) != 0) then some (0, ([] : List Int), x26) else ((M_R_BitList F x1 x2).bind fun x28 => ((M_R_NumBits F x5 x6).bind fun x31 => ((app 8796093022208 x28 x31).bind fun x34 => ((M_R_PackBits F x34).bind fun x37 => some (x37.1, x37.2, 0))))))
def M_R_BitsPut_j4 (F : Nat) (x1 : Int) (x2 : List Int) (x5 : Int) (x6 : Int) (x23 : Int) : Option (Int × List Int × Int) :=
  (if (((x23 : Int) == 0) && (decide (8192 < (iadd .i64 x1 x6)))) then M_R_BitsPut_j5 F x1 x2 x5 x6 8 else M_R_BitsPut_j5 F x1 x2 x5 x6 x23)
def M_R_BitsPut_j7 (F : Nat) (x1 : Int) (x2 : List Int) (x5 : Int) (x6 : Int) (x9 : Int) (x49 : Bool) : Option (Int × List Int × Int) :=
  (if x49 then M_R_BitsPut_j4 F x1 x2 x5 x6 3 else M_R_BitsPut_j4 F x1 x2 x5 x6 x9)
def M_R_BitsPut_j8 (F : Nat) (x1 : Int) (x2 : List Int) (x5 : Int) (x6 : Int) (x9 : Int) (x54 : Bool) : Option (Int × List Int × Int) :=
  M_R_BitsPut_j7 F x1 x2 x5 x6 x9 x54
def M_R_BitsPut (F : Nat) (x1 : Int) (x2 : List Int) (x5 : Int) (x6 : Int) : Option (Int × List Int × Int) :=
  ((M_R_BitsCheck F x1 x2).bind fun x9 => (if ((x9 : Int) == 0) then ((M_R_between F x6 0 64).bind fun x51 => (if (!x51) then M_R_BitsPut_j8 F x1 x2 x5 x6 x9 true else ((M_R_fitsIn F x5 x6).bind fun x55 => M_R_BitsPut_j8 F x1 x2 x5 x6 x9 (!x55)))) else M_R_BitsPut_j7 F x1 x2 x5 x6 x9 false))
/-! lampwright lampwrightref.BitNum -/
def M_R_BitNum_j2 (_F : Nat) (x37 : Int) : Option Int :=
  some x37
def M_R_BitNum_b3 (F : Nat) (x1 : List Int) (rec3 : (Int × Int) → Option Int) (x48 : Int) (x49 : Int) : Option Int :=
  (if (decide (x49 < (x1.length : Int))) then ((idx x1 x49).bind fun x66 => (lett (iadd .u64 (imul .u64 2 x48) (iconv .u64 x66)) fun x69 => rec3 (x69, iadd .i64 x49 1))) else M_R_BitNum_j2 F x48)
def M_R_BitNum_l3 (F : Nat) (x1 : List Int) : Nat → (Int × Int) → Option Int
  | 0 => fun _ => none
  | k + 1 => fun s => M_R_BitNum_b3 F x1 (M_R_BitNum_l3 F x1 k) s.1 s.2
def M_R_BitNum (F : Nat) (x1 : List Int) : Option Int :=
  M_R_BitNum_l3 F x1 F (0, 0)
/-! lampwright lampwrightref.BitsGet -/
def M_R_BitsGet_j5 (F : Nat) (x1 : Int) (x2 : List Int) (x5 : Int) (x6 : Int) (x25 : Int) : Option (Int × Int) :=
  (if ((x25 : Int) != 0) then some (0, x25) else ((M_R_BitList F x1 x2).bind fun x27 => ((sub x27 x5 (iadd .i64 x5 x6)).bind fun x30 => ((M_R_BitNum F x30).bind fun x33 => some (x33, 0)))))
def M_R_BitsGet_j4 (F : Nat) (x1 : Int) (x2 : List Int) (x5 : Int) (x6 : Int) (x22 : Int) : Option (Int × Int) :=
  (if (((x22 : Int) == 0) && (decide (x1 < (iadd .i64 x5 x6)))) then M_R_BitsGet_j5 F x1 x2 x5 x6 7 else M_R_BitsGet_j5 F x1 x2 x5 x6 x22)
def M_R_BitsGet_j7 (F : Nat) (x1 : Int) (x2 : List Int) (x5 : Int) (x6 : Int) (x8 : Int) (x43 : Bool) : Option (Int × Int) :=
  (if x43 then M_R_BitsGet_j4 F x1 x2 x5 x6 3 else M_R_BitsGet_j4 F x1 x2 x5 x6 x8)
def M_R_BitsGet_j8 (F : Nat) (x1 : Int) (x2 : List Int) (x5 : Int) (x6 : Int) (x8 : Int) (x48 : Bool) : Option (Int × Int) :=
  M_R_BitsGet_j7 F x1 x2 x5 x6 x8 x48
def M_R_BitsGet (F : Nat) (x1 : Int) (x2 : List Int) (x5 : Int) (x6 : Int) : Option (Int × Int) :=
  ((M_R_BitsCheck F x1 x2).bind fun x8 => (if ((x8 : Int) == 0) then ((M_R_between F x6 0 64).bind fun x45 => (if (!x45) then M_R_BitsGet_j8 F x1 x2 x5 x6 x8 true else ((M_R_between F x5 0 x1).bind fun x49 => M_R_BitsGet_j8 F x1 x2 x5 x6 x8 (!x49)))) else M_R_BitsGet_j7 F x1 x2 x5 x6 x8 false))
/-! lampwright lampwrightref.BitsJoin -/
def M_R_BitsJoin_j2 (F : Nat) (x1 : Int) (x2 : List Int) (x5 : Int) (x6 : List Int) (x18 : Int) : Option (Int × List Int × Int) :=
  (if ((x18 : Int) != 0) then some (0, ([] : List Int), x18) else ((M_R_BitList F x1 x2).bind fun x32 => ((M_R_BitList F x5 x6).bind fun x35 => ((app 8796093022208 x32 x35).bind fun x38 => ((M_R_PackBits F x38).bind fun x41 => some (x41.1, x41.2, 0))))))
def M_R_BitsJoin_j1 (F : Nat) (x1 : Int) (x2 : List Int) (x5 : Int) (x6 : List Int) (x15 : Int) : Option (Int × List Int × Int) :=
  (if (((x15 : Int) == 0) && (decide (8192 < (iadd .i64 x1 x5)))) then M_R_BitsJoin_j2 F x1 x2 x5 x6 8 else M_R_BitsJoin_j2 F x1 x2 x5 x6 x15)
def M_R_BitsJoin (F : Nat) (x1 : Int) (x2 : List Int) (x5 : Int) (x6 : List Int) : Option (Int × List Int × Int) :=
  ((M_R_BitsCheck F x1 x2).bind fun x12 => (if ((x12 : Int) == 0) then ((M_R_BitsCheck F x5 x6).bind fun x47 => M_R_BitsJoin_j1 F x1 x2 x5 x6 x47) else M_R_BitsJoin_j1 F x1 x2 x5 x6 x12))
/-! lampwright lampwrightref.BitsCut -/
def M_R_BitsCut_j4 (F : Nat) (x1 : Int) (x2 : List Int) (x5 : Int) (x6 : Int) (x23 : Int) : Option (Int × List Int × Int) :=
  (if ((x23 : Int) != 0) then some (0, ([] : List Int), x23) else ((M_R_BitList F x1 x2).bind fun x25 => ((sub x25 x5 x6).bind fun x28 => ((M_R_PackBits F x28).bind fun x31 => some (x31.1, x31.2, 0)))))
def M_R_BitsCut_j6 (F : Nat) (x1 : Int) (x2 : List Int) (x5 : Int) (x6 : Int) (x9 : Int) (x41 : Bool) : Option (Int × List Int × Int) :=
  (if x41 then M_R_BitsCut_j4 F x1 x2 x5 x6 3 else M_R_BitsCut_j4 F x1 x2 x5 x6 x9)
def M_R_BitsCut_j7 (F : Nat) (x1 : Int) (x2 : List Int) (x5 : Int) (x6 : Int) (x9 : Int) (x46 : Bool) : Option (Int × List Int × Int) :=
  M_R_BitsCut_j6 F x1 x2 x5 x6 x9 x46
def M_R_BitsCut (F : Nat) (x1 : Int) (x2 : List Int) (x5 : Int) (x6 : Int) : Option (Int × List Int × Int) :=
  ((M_R_BitsCheck F x1 x2).bind fun x9 => (if ((x9 : Int) == 0) then ((M_R_between F x5 0 x1).bind fun x43 => (if (!x43) then M_R_BitsCut_j7 F x1 x2 x5 x6 x9 true else ((M_R_between F x6 x5 x1).bind fun x47 => M_R_BitsCut_j7 F x1 x2 x5 x6 x9 (!x47)))) else M_R_BitsCut_j6 F x1 x2 x5 x6 x9 false))
/-! lampwright lampwrightref.SameBytes -/
def M_R_SameBytes_j2 (_F : Nat) : Option Bool :=
  some true
def M_R_SameBytes_b3 (F : Nat) (x1 : List Int) (x4 : List Int) (rec3 : Int → Option Bool) (x154 : Int) : Option Bool :=
  (if (decide (x154 < (x1.length : Int))) then ((idx x1 x154).bind fun x218 => ((idx x4 x154).bind fun x222 => (if ((x218 : Int) != x222) then some false else rec3 (iadd .i64 x154 1)))) else M_R_SameBytes_j2 F)
def M_R_SameBytes_l3 (F : Nat) (x1 : List Int) (x4 : List Int) : Nat → Int → Option Bool
  | 0 => fun _ => none
  | k + 1 => fun s => M_R_SameBytes_b3 F x1 x4 (M_R_SameBytes_l3 F x1 x4 k) s
def M_R_SameBytes (F : Nat) (x1 : List Int) (x4 : List Int) : Option Bool :=
  (if (((x1.length : Int) : Int) != (x4.length : Int)) then some false else M_R_SameBytes_l3 F x1 x4 F 0)
/-! lampwright lampwrightref.SameBits -/
def M_R_SameBits_j1 (_F : Nat) (x13 : Bool) : Option Bool :=
  some x13
def M_R_SameBits (F : Nat) (x1 : Int) (x2 : List Int) (x5 : Int) (x6 : List Int) : Option Bool :=
  (if ((x1 : Int) == x5) then ((M_R_SameBytes F x2 x6).bind fun x14 => M_R_SameBits_j1 F x14) else M_R_SameBits_j1 F false)
/-! lampwright lampwrightlaw.bitsBegun -/
def M_L_bitsBegun_j3 (_F : Nat) (x42 : Bool) : Option Bool :=
  some x42
def M_L_bitsBegun_j2 (F : Nat) (x14 : (Int × List Int × Int)) (x18 : (Int × Int)) (x35 : Bool) : Option Bool :=
  (if ((x35 && ((x14.2.2 : Int) == 0)) && ((x18.2 : Int) == 7)) then ((M_bits_Check F 3 ([1] : List Int)).bind fun x45 => M_L_bitsBegun_j3 F ((x45 : Int) == 1)) else M_L_bitsBegun_j3 F false)
def M_L_bitsBegun_j1 (F : Nat) (x1 : (Int × List Int × Int)) (x5 : (Int × List Int × Int)) (x9 : (Int × Int)) (x10 : (Int × List Int × Int)) (x14 : (Int × List Int × Int)) (x18 : (Int × Int)) (x27 : Bool) : Option Bool :=
  (if (((((x27 && ((x5.2.2 : Int) == 0)) && ((x9.1 : Int) == 9)) && ((x9.2 : Int) == 0)) && ((x10.1 : Int) == 13)) && ((x10.2.2 : Int) == 0)) then ((M_R_SameBits F x14.1 x14.2.1 x1.1 x1.2.1).bind fun x46 => M_L_bitsBegun_j2 F x14 x18 x46) else M_L_bitsBegun_j2 F x14 x18 false)
def M_L_bitsBegun (F : Nat)  : Option Bool :=
  ((M_bits_Put F 0 ([] : List Int) 5 3).bind fun x1 => ((M_bits_Put F x1.1 x1.2.1 9 7).bind fun x5 => ((M_bits_Get F x5.1 x5.2.1 3 7).bind fun x9 => ((M_bits_Join F x1.1 x1.2.1 x5.1 x5.2.1).bind fun x10 => ((M_bits_Cut F x5.1 x5.2.1 0 3).bind fun x14 => ((M_bits_Get F x5.1 x5.2.1 9 2).bind fun x18 => ((M_R_SameBits F x1.1 x1.2.1 3 ([160] : List Int)).bind fun x21 => (if (x21 && ((x1.2.2 : Int) == 0)) then ((M_R_SameBits F x5.1 x5.2.1 10 ([162, 64] : List Int)).bind fun x49 => M_L_bitsBegun_j1 F x1 x5 x9 x10 x14 x18 x49) else M_L_bitsBegun_j1 F x1 x5 x9 x10 x14 x18 false))))))))
/-! lampwright lampwrightlaw.BitsTell -/
def M_L_BitsTell_j1 (_F : Nat) (x55 : Bool) : Option Bool :=
  some x55
def M_L_BitsTell (F : Nat) (x1 : Int) (x2 : List Int) (x5 : Int) (x6 : List Int) (x9 : Int) (x10 : Int) (x11 : Int) : Option Bool :=
  ((M_bits_Put F x1 x2 x9 x11).bind fun x14 => ((M_bits_Get F x1 x2 x10 x11).bind fun x18 => ((M_bits_Join F x1 x2 x5 x6).bind fun x19 => ((M_bits_Cut F x1 x2 x10 x11).bind fun x23 => ((M_R_BitsPut F x1 x2 x9 x11).bind fun x27 => ((M_R_BitsGet F x1 x2 x10 x11).bind fun x31 => ((M_R_BitsJoin F x1 x2 x5 x6).bind fun x32 => ((M_R_BitsCut F x1 x2 x10 x11).bind fun x36 => ((M_L_bitsBegun F).bind fun x56 => (if x56 then ((M_bits_Check F x1 x2).bind fun x58 => ((M_R_BitsCheck F x1 x2).bind fun x59 => (if ((x58 : Int) == x59) then ((M_R_SameBits F x14.1 x14.2.1 x27.1 x27.2.1).bind fun x61 => (if x61 then (if ((x14.2.2 : Int) == x27.2.2) then (if ((x18.1 : Int) == x31.1) then (if ((x18.2 : Int) == x31.2) then ((M_R_SameBits F x19.1 x19.2.1 x32.1 x32.2.1).bind fun x66 => (if x66 then (if ((x19.2.2 : Int) == x32.2.2) then ((M_R_SameBits F x23.1 x23.2.1 x36.1 x36.2.1).bind fun x69 => (if x69 then M_L_BitsTell_j1 F ((x23.2.2 : Int) == x36.2.2) else M_L_BitsTell_j1 F false)) else M_L_BitsTell_j1 F false) else M_L_BitsTell_j1 F false)) else M_L_BitsTell_j1 F false) else M_L_BitsTell_j1 F false) else M_L_BitsTell_j1 F false) else M_L_BitsTell_j1 F false)) else M_L_BitsTell_j1 F false))) else M_L_BitsTell_j1 F false))))))))))
/-! lampwright lampwrightlaw.BitsBack -/
def M_L_BitsBack_j2 (_F : Nat) (x31 : Bool) : Option Bool :=
  some x31
def M_L_BitsBack_j1 (F : Nat) (x1 : Int) (x6 : Int) (x8 : (Int × List Int × Int)) (x27 : Bool) : Option Bool :=
  (if (x27 && ((x8.1 : Int) == (iadd .i64 x1 x6))) then ((M_bits_Check F x8.1 x8.2.1).bind fun x32 => M_L_BitsBack_j2 F ((x32 : Int) == 0)) else M_L_BitsBack_j2 F false)
def M_L_BitsBack (F : Nat) (x1 : Int) (x2 : List Int) (x5 : Int) (x6 : Int) : Option Bool :=
  ((M_bits_Put F x1 x2 x5 x6).bind fun x8 => ((M_L_bitsBegun F).bind fun x14 => (if (!x14) then some false else (if ((x8.2.2 : Int) != 0) then ((M_R_SameBits F x8.1 x8.2.1 0 ([] : List Int)).bind fun x17 => some x17) else ((M_bits_Get F x8.1 x8.2.1 x1 x6).bind fun x18 => ((M_bits_Cut F x8.1 x8.2.1 0 x1).bind fun x19 => (if ((((x18.2 : Int) == 0) && ((x18.1 : Int) == x5)) && ((x19.2.2 : Int) == 0)) then ((M_R_SameBits F x19.1 x19.2.1 x1 x2).bind fun x33 => M_L_BitsBack_j1 F x1 x6 x8 x33) else M_L_BitsBack_j1 F x1 x6 x8 false)))))))
/-! lampwright lampwrightlaw.BitsJoin -/
def M_L_BitsJoin_j5 (_F : Nat) (x68 : Bool) : Option Bool :=
  some x68
def M_L_BitsJoin_j4 (F : Nat) (x1 : Int) (x2 : List Int) (x5 : Int) (x6 : List Int) (x9 : Int) (x10 : List Int) (x16 : (Int × List Int × Int)) (x50 : Bool) : Option Bool :=
  (if x50 then some false else ((M_bits_Join F x16.1 x16.2.1 x9 x10).bind fun x51 => ((M_bits_Join F x5 x6 x9 x10).bind fun x55 => (if (((x51.2.2 : Int) != 0) || ((x55.2.2 : Int) != 0)) then some ((x51.2.2 : Int) != 0) else ((M_bits_Join F x1 x2 x55.1 x55.2.1).bind fun x62 => (if ((x62.2.2 : Int) == 0) then ((M_R_SameBits F x51.1 x51.2.1 x62.1 x62.2.1).bind fun x69 => M_L_BitsJoin_j5 F x69) else M_L_BitsJoin_j5 F false))))))
def M_L_BitsJoin_j3 (F : Nat) (x1 : Int) (x2 : List Int) (x5 : Int) (x6 : List Int) (x9 : Int) (x10 : List Int) (x16 : (Int × List Int × Int)) (x30 : (Int × List Int × Int)) (x47 : Bool) : Option Bool :=
  (if x47 then M_L_BitsJoin_j4 F x1 x2 x5 x6 x9 x10 x16 true else ((M_R_SameBits F x30.1 x30.2.1 x5 x6).bind fun x72 => M_L_BitsJoin_j4 F x1 x2 x5 x6 x9 x10 x16 (!x72)))
def M_L_BitsJoin (F : Nat) (x1 : Int) (x2 : List Int) (x5 : Int) (x6 : List Int) (x9 : Int) (x10 : List Int) : Option Bool :=
  ((M_bits_Join F x1 x2 x5 x6).bind fun x16 => ((M_L_bitsBegun F).bind fun x22 => (if (!x22) then some false else (if ((x16.2.2 : Int) != 0) then ((M_R_SameBits F x16.1 x16.2.1 0 ([] : List Int)).bind fun x25 => some x25) else ((M_bits_Cut F x16.1 x16.2.1 0 x1).bind fun x26 => ((M_bits_Cut F x16.1 x16.2.1 x1 x16.1).bind fun x30 => (if (((x26.2.2 : Int) != 0) || ((x30.2.2 : Int) != 0)) then M_L_BitsJoin_j3 F x1 x2 x5 x6 x9 x10 x16 x30 true else ((M_R_SameBits F x26.1 x26.2.1 x1 x2).bind fun x73 => M_L_BitsJoin_j3 F x1 x2 x5 x6 x9 x10 x16 x30 (!x73)))))))))
/-! lampwright lampwrightlaw.BitsParts -/
def M_L_BitsParts_j1 (_F : Nat) (x26 : Bool) : Option Bool :=
  some x26
def M_L_BitsParts (F : Nat) (x1 : Int) (x2 : List Int) (x5 : Int) (x6 : Int) (x7 : Int) : Option Bool :=
  ((M_L_bitsBegun F).bind fun x11 => (if (!x11) then some false else (if ((((decide (x6 < 0)) || (decide (32 < x6))) || (decide (x7 < 0))) || (decide (32 < x7))) then some true else ((M_bits_Get F x1 x2 x5 (iadd .i64 x6 x7)).bind fun x19 => (if ((x19.2 : Int) != 0) then some ((x19.1 : Int) == 0) else ((M_bits_Get F x1 x2 x5 x6).bind fun x21 => ((M_bits_Get F x1 x2 (iadd .i64 x5 x6) x7).bind fun x22 => (if (((x21.2 : Int) == 0) && ((x22.2 : Int) == 0)) then (chk (decide (0 ≤ x7)) (M_L_BitsParts_j1 F ((x19.1 : Int) == (ior .u64 (ishl .u64 x21.1 x7) x22.1)))) else M_L_BitsParts_j1 F false))))))))
/-! lampwright lampwrightlaw.BitsCut -/
def M_L_BitsCut_j3 (_F : Nat) (x61 : Bool) : Option Bool :=
  some x61
def M_L_BitsCut_j2 (F : Nat) (x1 : Int) (x2 : List Int) (x5 : Int) (x7 : Int) (x8 : Int) (x10 : (Int × List Int × Int)) (x49 : Bool) : Option Bool :=
  (if x49 then some false else ((M_bits_Cut F x10.1 x10.2.1 x7 x8).bind fun x50 => (if ((x50.2.2 : Int) != 0) then some ((x50.2.2 : Int) == 3) else ((M_bits_Cut F x1 x2 (iadd .i64 x5 x7) (iadd .i64 x5 x8)).bind fun x55 => (if ((x55.2.2 : Int) == 0) then ((M_R_SameBits F x50.1 x50.2.1 x55.1 x55.2.1).bind fun x62 => M_L_BitsCut_j3 F x62) else M_L_BitsCut_j3 F false)))))
def M_L_BitsCut (F : Nat) (x1 : Int) (x2 : List Int) (x5 : Int) (x6 : Int) (x7 : Int) (x8 : Int) : Option Bool :=
  ((M_bits_Cut F x1 x2 x5 x6).bind fun x10 => ((M_L_bitsBegun F).bind fun x16 => (if (!x16) then some false else (if ((x10.2.2 : Int) != 0) then ((M_R_SameBits F x10.1 x10.2.1 0 ([] : List Int)).bind fun x19 => some x19) else ((M_bits_Cut F x1 x2 0 x5).bind fun x20 => ((M_bits_Cut F x1 x2 x6 x1).bind fun x24 => ((M_bits_Join F x20.1 x20.2.1 x10.1 x10.2.1).bind fun x28 => ((M_bits_Join F x28.1 x28.2.1 x24.1 x24.2.1).bind fun x32 => (if (((((x20.2.2 : Int) != 0) || ((x24.2.2 : Int) != 0)) || ((x28.2.2 : Int) != 0)) || ((x32.2.2 : Int) != 0)) then M_L_BitsCut_j2 F x1 x2 x5 x7 x8 x10 true else ((M_R_SameBits F x32.1 x32.2.1 x1 x2).bind fun x65 => M_L_BitsCut_j2 F x1 x2 x5 x7 x8 x10 (!x65)))))))))))
/-! lampwright lampwrightlaw.BitsNothing -/
def M_L_BitsNothing_j3 (_F : Nat) (x31 : Bool) : Option Bool :=
  some x31
def M_L_BitsNothing_j2 (F : Nat) (x1 : Int) (x6 : Int) (x12 : (Int × Int)) (x27 : Bool) : Option Bool :=
  (if (x27 && ((x12.1 : Int) == 0)) then M_L_BitsNothing_j3 F (((x12.2 : Int) == 0) == ((decide (0 ≤ x6)) && (decide (x6 ≤ x1)))) else M_L_BitsNothing_j3 F false)
def M_L_BitsNothing_j1 (F : Nat) (x1 : Int) (x5 : Int) (x6 : Int) (x8 : (Int × List Int × Int)) (x12 : (Int × Int)) (x24 : Bool) : Option Bool :=
  (if x24 then M_L_BitsNothing_j2 F x1 x6 x12 true else M_L_BitsNothing_j2 F x1 x6 x12 ((decide (0 < x5)) && ((x8.2.2 : Int) == 3)))
def M_L_BitsNothing (F : Nat) (x1 : Int) (x2 : List Int) (x5 : Int) (x6 : Int) : Option Bool :=
  ((M_bits_Put F x1 x2 x5 0).bind fun x8 => ((M_bits_Get F x1 x2 x6 0).bind fun x12 => ((M_L_bitsBegun F).bind fun x15 => (if (!x15) then some false else ((M_bits_Check F x1 x2).bind fun x19 => (if ((x19 : Int) != 0) then some (((x8.2.2 : Int) != 0) && ((x12.2 : Int) != 0)) else (if (((x5 : Int) == 0) && ((x8.2.2 : Int) == 0)) then ((M_R_SameBits F x8.1 x8.2.1 x1 x2).bind fun x34 => M_L_BitsNothing_j1 F x1 x5 x6 x8 x12 x34) else M_L_BitsNothing_j1 F x1 x5 x6 x8 x12 false)))))))
end Go.Proofs.Ytaombidikooigaa
