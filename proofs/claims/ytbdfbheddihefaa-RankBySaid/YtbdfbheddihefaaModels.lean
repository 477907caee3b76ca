/- What each Go function of this seat computes, in plain terms. -/
import Derived.Test.YtbdfbheddihefaaSx
namespace Go.Proofs.Ytbdfbheddihefaa
open Go SX
/-! lampwright bits.Check -/
def M_bits_Check_j2 (_F : Nat) (x36 : Bool) : Option Int :=
  (if x36 then some 1 else some 0)
def M_bits_Check (F : Nat) (x1 : Int) (x2 : List Int) : Option Int :=
  (if ((decide (x1 < 0)) || (decide (8192 < x1))) then some 3 else (if (((x2.length : Int) : Int) != (iquo .i64 (iadd .i64 x1 7) 8)) then some 1 else (if (((irem x1 8) : Int) != 0) then ((idx x2 (isub .i64 (x2.length : Int) 1)).bind fun x39 => (chk (decide (0 ≤ (irem x1 8))) (M_bits_Check_j2 F (((ishl .u8 x39 (irem x1 8)) : Int) != 0)))) else M_bits_Check_j2 F false)))
/-! lampwright elias.Check -/
def M_elias_Check_j2 (_F : Nat) (x13 : Int) : Option Int :=
  some x13
def M_elias_Check_j3 (F : Nat) (x7 : Int) (x16 : Bool) : Option Int :=
  (if x16 then M_elias_Check_j2 F 3 else M_elias_Check_j2 F x7)
def M_elias_Check (F : Nat) (x1 : Int) (x2 : List Int) (x5 : Int) : Option Int :=
  ((M_bits_Check F x1 x2).bind fun x7 => (if ((x7 : Int) == 0) then M_elias_Check_j3 F x7 ((decide (x5 < 0)) || (decide (x1 < x5))) else M_elias_Check_j3 F x7 false))
/-! lampwright bits.At -/
def M_bits_At (_F : Nat) (_x1 : Int) (x2 : List Int) (x5 : Int) : Option Int :=
  ((idx x2 (iquo .i64 x5 8)).bind fun x7 => (chk (decide (0 ≤ (isub .i64 7 (irem x5 8)))) ((lett (iand .u64 (iconv .u64 (ishr .u8 x7 (isub .i64 7 (irem x5 8)))) 1) fun x11 => some x11))))
/-! lampwright rank.ones -/
def M_rank_ones_j2 (_F : Nat) (x23 : Int) : Option Int :=
  some x23
def M_rank_ones_b3 (F : Nat) (x1 : Int) (x2 : List Int) (x6 : Int) (rec3 : (Int × Int) → Option Int) (x28 : Int) (x29 : Int) : Option Int :=
  (if (decide (x29 < x6)) then ((M_bits_At F x1 x2 x29).bind fun x37 => rec3 (iadd .i64 x28 (iconv .i64 x37), iadd .i64 x29 1)) else M_rank_ones_j2 F x28)
def M_rank_ones_l3 (F : Nat) (x1 : Int) (x2 : List Int) (x6 : Int) : Nat → (Int × Int) → Option Int
  | 0 => fun _ => none
  | k + 1 => fun s => M_rank_ones_b3 F x1 x2 x6 (M_rank_ones_l3 F x1 x2 x6 k) s.1 s.2
def M_rank_ones (F : Nat) (x1 : Int) (x2 : List Int) (x5 : Int) (x6 : Int) : Option Int :=
  M_rank_ones_l3 F x1 x2 x6 F (0, x5)
/-! lampwright rank.Rank -/
def M_rank_Rank (F : Nat) (x1 : Int) (x2 : List Int) (x5 : Int) : Option (Int × Int) :=
  ((M_elias_Check F x1 x2 x5).bind fun x9 => (if ((x9 : Int) != 0) then some (0, x9) else ((M_rank_ones F x1 x2 0 x5).bind fun x10 => some (x10, 0))))
/-! lampwright rank.places -/
def M_rank_places (_F : Nat) (_x1 : Int) (_x2 : List Int) (_x5 : Int) : Option Unit :=
  some ()
/-! lampwright rank.places$1 -/
def M_rank_places_1_j4 {σ τ : Type} (_F : Nat) (_yy : σ → Int → Option (σ ⊕ τ)) (rec3 : (Int × σ) → Option (σ ⊕ τ)) (x36 : Int) (x81 : σ) : Option (σ ⊕ τ) :=
  rec3 (iadd .i64 x36 1, x81)
def M_rank_places_1_b3 {σ τ : Type} (F : Nat) (yy : σ → Int → Option (σ ⊕ τ)) (x2 : Int) (x3 : List Int) (x7 : Int) (rec3 : (Int × σ) → Option (σ ⊕ τ)) (x36 : Int) (x37 : σ) : Option (σ ⊕ τ) :=
  (if (decide (x36 < x2)) then ((M_bits_At F x2 x3 x36).bind fun x89 => (if ((x89 : Int) == x7) then ((yy x37 x36).bind (Sum.elim (fun x91 => M_rank_places_1_j4 F yy rec3 x36 x91) (fun x92 => some (.inr x92)))) else M_rank_places_1_j4 F yy rec3 x36 x37)) else some (.inl x37))
def M_rank_places_1_l3 {σ τ : Type} (F : Nat) (yy : σ → Int → Option (σ ⊕ τ)) (x2 : Int) (x3 : List Int) (x7 : Int) : Nat → (Int × σ) → Option (σ ⊕ τ)
  | 0 => fun _ => none
  | k + 1 => fun s => M_rank_places_1_b3 F yy x2 x3 x7 (M_rank_places_1_l3 F yy x2 x3 x7 k) s.1 s.2
def M_rank_places_1 {σ τ : Type} (F : Nat) (yy : σ → Int → Option (σ ⊕ τ)) (x2 : Int) (x3 : List Int) (x7 : Int) (s0 : σ) : Option (σ ⊕ τ) :=
  M_rank_places_1_l3 F yy x2 x3 x7 F (0, s0)
/-! lampwright rank.Place -/
def M_rank_Place_r2 (_F : Nat) (x31 : Int) (x37 : Int) : Option (Int ⊕ (Int × Int)) :=
  (if ((x31 : Int) == 0) then some (.inr (x37, x31)) else some (.inl (isub .i64 x31 1)))
def M_rank_Place (F : Nat) (x1 : Int) (x2 : List Int) (x5 : Int) (x6 : Int) : Option Int :=
  ((M_rank_places F x1 x2 x5).bind fun _x25 => ((M_rank_places_1 F (fun (x31 : Int) (x37 : Int) => M_rank_Place_r2 F x31 x37) x1 x2 x5 x6).bind (Sum.elim (fun (_x31 : Int) => some (-1)) (fun ((x35, _x36) : (Int × Int)) => some x35))))
/-! lampwright rank.Select -/
def M_rank_Select_j2 (F : Nat) (x1 : Int) (x2 : List Int) (x5 : Int) (x6 : Int) (x16 : Int) : Option (Int × Int) :=
  (if ((x16 : Int) != 0) then some (0, x16) else ((M_rank_Place F x1 x2 (iconv .u64 x5) x6).bind fun x18 => (if (decide (x18 < 0)) then some (0, 5) else some (x18, 0))))
def M_rank_Select_j3 (F : Nat) (x1 : Int) (x2 : List Int) (x5 : Int) (x6 : Int) (x8 : Int) (x25 : Bool) : Option (Int × Int) :=
  (if x25 then M_rank_Select_j2 F x1 x2 x5 x6 3 else M_rank_Select_j2 F x1 x2 x5 x6 x8)
def M_rank_Select (F : Nat) (x1 : Int) (x2 : List Int) (x5 : Int) (x6 : Int) : Option (Int × Int) :=
  ((M_bits_Check F x1 x2).bind fun x8 => (if ((x8 : Int) == 0) then M_rank_Select_j3 F x1 x2 x5 x6 x8 (((decide (x5 < 0)) || (decide (1 < x5))) || (decide (x6 < 0))) else M_rank_Select_j3 F x1 x2 x5 x6 x8 false))
/-! lampwright rank.check -/
def M_rank_check_j2 (_F : Nat) (x13 : Int) : Option Int :=
  some x13
def M_rank_check_j3 (F : Nat) (x7 : Int) (x16 : Bool) : Option Int :=
  (if x16 then M_rank_check_j2 F 3 else M_rank_check_j2 F x7)
def M_rank_check (F : Nat) (x1 : Int) (x2 : List Int) (x5 : Int) : Option Int :=
  ((M_bits_Check F x1 x2).bind fun x7 => (if ((x7 : Int) == 0) then M_rank_check_j3 F x7 ((decide (x5 < 1)) || (decide (64 < x5))) else M_rank_check_j3 F x7 false))
/-! lampwright rank.built -/
def M_rank_built_j2 (_F : Nat) (x82 : List Int) : Option (List Int) :=
  some x82
def M_rank_built_b3 (F : Nat) (x1 : Int) (x2 : List Int) (x5 : Int) (rec3 : (List Int × Int) → Option (List Int)) (x107 : List Int) (x108 : Int) : Option (List Int) :=
  (if (decide (x108 ≤ x1)) then ((idx x107 (isub .i64 (x107.length : Int) 1)).bind fun x143 => ((M_rank_ones F x1 x2 (isub .i64 x108 x5) x108).bind fun x147 => ((app 8796093022208 x107 ([iadd .i64 x143 x147] : List Int)).bind fun x150 => rec3 (x150, iadd .i64 x108 x5)))) else M_rank_built_j2 F x107)
def M_rank_built_l3 (F : Nat) (x1 : Int) (x2 : List Int) (x5 : Int) : Nat → (List Int × Int) → Option (List Int)
  | 0 => fun _ => none
  | k + 1 => fun s => M_rank_built_b3 F x1 x2 x5 (M_rank_built_l3 F x1 x2 x5 k) s.1 s.2
def M_rank_built (F : Nat) (x1 : Int) (x2 : List Int) (x5 : Int) : Option (List Int) :=
  M_rank_built_l3 F x1 x2 x5 F (([0] : List Int), x5)
/-! lampwright rank.Build -/
def M_rank_Build (F : Nat) (x1 : Int) (x2 : List Int) (x5 : Int) : Option (Int × List Int × Int) :=
  ((M_rank_check F x1 x2 x5).bind fun x10 => (if ((x10 : Int) != 0) then some (0, ([] : List Int), x10) else ((M_rank_built F x1 x2 x5).bind fun x11 => some (x5, x11, 0))))
/-! slices.Equal[[]int,int] -/
def M_slices_Equal_int_int_j2 (_F : Nat) : Option Bool :=
  some true
def M_slices_Equal_int_int_b3 (F : Nat) (x1 : List Int) (x4 : List Int) (rec3 : Int → Option Bool) (x154 : Int) : Option Bool :=
  (if (decide (x154 < (x1.length : Int))) then ((idx x1 x154).bind fun x218 => ((idx x4 x154).bind fun x222 => (if ((x218 : Int) != x222) then some false else rec3 (iadd .i64 x154 1)))) else M_slices_Equal_int_int_j2 F)
def M_slices_Equal_int_int_l3 (F : Nat) (x1 : List Int) (x4 : List Int) : Nat → Int → Option Bool
  | 0 => fun _ => none
  | k + 1 => fun s => M_slices_Equal_int_int_b3 F x1 x4 (M_slices_Equal_int_int_l3 F x1 x4 k) s
def M_slices_Equal_int_int (F : Nat) (x1 : List Int) (x4 : List Int) : Option Bool :=
  (if (((x1.length : Int) : Int) != (x4.length : Int)) then some false else M_slices_Equal_int_int_l3 F x1 x4 F 0)
/-! lampwright rank.Check -/
def M_rank_Check (F : Nat) (x1 : Int) (x2 : List Int) (x5 : Int) (x6 : List Int) : Option Int :=
  ((M_rank_check F x1 x2 x5).bind fun x13 => (if ((x13 : Int) != 0) then some x13 else ((M_rank_built F x1 x2 x5).bind fun x27 => ((M_slices_Equal_int_int F x6 x27).bind fun x30 => (if (!x30) then some 4 else some 0)))))
/-! lampwright rank.By -/
def M_rank_By_j2 (F : Nat) (x1 : Int) (x2 : List Int) (x5 : Int) (x6 : List Int) (x9 : Int) (x18 : Int) : Option (Int × Int) :=
  (if ((x18 : Int) != 0) then some (0, x18) else (chk ((x5 : Int) != 0) (((idx x6 (iquo .i64 x9 x5)).bind fun x26 => ((M_rank_ones F x1 x2 (imul .i64 (iquo .i64 x9 x5) x5) x9).bind fun x30 => some (iadd .i64 x26 x30, 0))))))
def M_rank_By_j3 (F : Nat) (x1 : Int) (x2 : List Int) (x5 : Int) (x6 : List Int) (x9 : Int) (x12 : Int) (x34 : Bool) : Option (Int × Int) :=
  (if x34 then M_rank_By_j2 F x1 x2 x5 x6 x9 3 else M_rank_By_j2 F x1 x2 x5 x6 x9 x12)
def M_rank_By (F : Nat) (x1 : Int) (x2 : List Int) (x5 : Int) (x6 : List Int) (x9 : Int) : Option (Int × Int) :=
  ((M_rank_Check F x1 x2 x5 x6).bind fun x12 => (if ((x12 : Int) == 0) then M_rank_By_j3 F x1 x2 x5 x6 x9 x12 ((decide (x9 < 0)) || (decide (x1 < x9))) else M_rank_By_j3 F x1 x2 x5 x6 x9 x12 false))
/-! lampwright lampwrightref.BitList -/
def M_R_BitList_j23 (_F : Nat) (x190 : List Int) : Option (List Int) :=
  some x190
def M_R_BitList_j42 (_F : Nat) (rec38 : (List Int × Int) → Option (List Int)) (x253 : Int) (x344 : List Int) : Option (List Int) :=
  rec38 (x344, iadd .i64 x253 1)
def M_R_BitList_j44 (F : Nat) (rec38 : (List Int × Int) → Option (List Int)) (x252 : List Int) (x253 : Int) (x357 : Int) : Option (List Int) :=
  ((app 8796093022208 x252 ([irem x357 2] : List Int)).bind fun x360 => M_R_BitList_j42 F rec38 x253 x360)
def M_R_BitList_b45 (F : Nat) (rec38 : (List Int × Int) → Option (List Int)) (x252 : List Int) (x253 : Int) (rec45 : (Int × Int) → Option (List Int)) (x365 : Int) (x366 : Int) : Option (List Int) :=
  (if (decide (x366 < (isub .i64 7 (irem x253 8)))) then rec45 (iquo .i64 x365 2, iadd .i64 x366 1) else M_R_BitList_j44 F rec38 x252 x253 x365)
def M_R_BitList_l45 (F : Nat) (rec38 : (List Int × Int) → Option (List Int)) (x252 : List Int) (x253 : Int) : Nat → (Int × Int) → Option (List Int)
  | 0 => fun _ => none
  | k + 1 => fun s => M_R_BitList_b45 F rec38 x252 x253 (M_R_BitList_l45 F rec38 x252 x253 k) s.1 s.2
def M_R_BitList_b38 (F : Nat) (x1 : Int) (x2 : List Int) (rec38 : (List Int × Int) → Option (List Int)) (x252 : List Int) (x253 : Int) : Option (List Int) :=
  (if (decide (x253 < x1)) then ((idx x2 (iquo .i64 x253 8)).bind fun x345 => M_R_BitList_l45 F rec38 x252 x253 F (iconv .i64 x345, 0)) else M_R_BitList_j23 F x252)
def M_R_BitList_l38 (F : Nat) (x1 : Int) (x2 : List Int) : Nat → (List Int × Int) → Option (List Int)
  | 0 => fun _ => none
  | k + 1 => fun s => M_R_BitList_b38 F x1 x2 (M_R_BitList_l38 F x1 x2 k) s.1 s.2
def M_R_BitList (F : Nat) (x1 : Int) (x2 : List Int) : Option (List Int) :=
  M_R_BitList_l38 F x1 x2 F (([] : List Int), 0)
/-! lampwright lampwrightref.between -/
def M_R_between (_F : Nat) (x1 : Int) (x2 : Int) (x3 : Int) : Option Bool :=
  some ((decide (x2 ≤ x1)) && (decide (x1 ≤ x3)))
/-! lampwright lampwrightref.BitsCheck -/
def M_R_BitsCheck_j3 (_F : Nat) : Option Int :=
  some 0
def M_R_BitsCheck_b4 (F : Nat) (x12 : List Int) (rec4 : Int → Option Int) (x57 : Int) : Option Int :=
  (if (decide (x57 < (x12.length : Int))) then ((idx x12 x57).bind fun x74 => (if ((x74 : Int) != 0) then some 1 else rec4 (iadd .i64 x57 1))) else M_R_BitsCheck_j3 F)
def M_R_BitsCheck_l4 (F : Nat) (x12 : List Int) : Nat → Int → Option Int
  | 0 => fun _ => none
  | k + 1 => fun s => M_R_BitsCheck_b4 F x12 (M_R_BitsCheck_l4 F x12 k) s
def M_R_BitsCheck_j1 (F : Nat) (x1 : Int) (x2 : List Int) (x10 : Int) : Option Int :=
  (if (((x2.length : Int) : Int) != x10) then some 1 else ((M_R_BitList F (imul .i64 8 x10) x2).bind fun x12 => M_R_BitsCheck_l4 F x12 F x1))
def M_R_BitsCheck (F : Nat) (x1 : Int) (x2 : List Int) : Option Int :=
  ((M_R_between F x1 0 8192).bind fun x8 => (if (!x8) then some 3 else (if (decide (0 < (irem x1 8))) then M_R_BitsCheck_j1 F x1 x2 (iadd .i64 (iquo .i64 x1 8) 1) else M_R_BitsCheck_j1 F x1 x2 (iquo .i64 x1 8))))
/-! lampwright lampwrightref.ReadErr -/
def M_R_ReadErr_j2 (_F : Nat) (x13 : Int) : Option Int :=
  some x13
def M_R_ReadErr_j3 (F : Nat) (x7 : Int) (x16 : Bool) : Option Int :=
  (if x16 then M_R_ReadErr_j2 F 3 else M_R_ReadErr_j2 F x7)
def M_R_ReadErr (F : Nat) (x1 : Int) (x2 : List Int) (x5 : Int) : Option Int :=
  ((M_R_BitsCheck F x1 x2).bind fun x7 => (if ((x7 : Int) == 0) then ((M_R_between F x5 0 x1).bind fun x18 => M_R_ReadErr_j3 F x7 (!x18)) else M_R_ReadErr_j3 F x7 false))
/-! lampwright lampwrightref.OnesAhead -/
def M_R_OnesAhead_j2 (_F : Nat) (x32 : Int) : Option Int :=
  some x32
def M_R_OnesAhead_b3 (F : Nat) (x1 : List Int) (x4 : Int) (rec3 : (Int × Int) → Option Int) (x41 : Int) (x42 : Int) : Option Int :=
  (if (decide (x42 < x4)) then ((idx x1 x42).bind fun x56 => rec3 (iadd .i64 x41 x56, iadd .i64 x42 1)) else M_R_OnesAhead_j2 F x41)
def M_R_OnesAhead_l3 (F : Nat) (x1 : List Int) (x4 : Int) : Nat → (Int × Int) → Option Int
  | 0 => fun _ => none
  | k + 1 => fun s => M_R_OnesAhead_b3 F x1 x4 (M_R_OnesAhead_l3 F x1 x4 k) s.1 s.2
def M_R_OnesAhead (F : Nat) (x1 : List Int) (x4 : Int) : Option Int :=
  M_R_OnesAhead_l3 F x1 x4 F (0, 0)
/-! lampwright lampwrightref.RankBuild -/
def M_R_RankBuild_j4 (_F : Nat) (x5 : Int) (x70 : List Int) : Option (Int × List Int × Int) :=
  some (x5, x70, 0)
def M_R_RankBuild_b5 (F : Nat) (x1 : Int) (x5 : Int) (x16 : List Int) (rec5 : (Int × List Int) → Option (Int × List Int × Int)) (x86 : Int) (x89 : List Int) : Option (Int × List Int × Int) :=
  (if (decide ((imul .i64 x86 x5) ≤ x1)) then ((M_R_OnesAhead F x16 (imul .i64 x86 x5)).bind fun x112 => ((app 8796093022208 x89 ([x112] : List Int)).bind fun x115 => rec5 (iadd .i64 x86 1, x115))) else M_R_RankBuild_j4 F x5 x89)
def M_R_RankBuild_l5 (F : Nat) (x1 : Int) (x5 : Int) (x16 : List Int) : Nat → (Int × List Int) → Option (Int × List Int × Int)
  | 0 => fun _ => none
  | k + 1 => fun s => M_R_RankBuild_b5 F x1 x5 x16 (M_R_RankBuild_l5 F x1 x5 x16 k) s.1 s.2
def M_R_RankBuild_j2 (F : Nat) (x1 : Int) (x2 : List Int) (x5 : Int) (x14 : Int) : Option (Int × List Int × Int) :=
  (if ((x14 : Int) != 0) then some (0, ([] : List Int), x14) else ((M_R_BitList F x1 x2).bind fun x16 => M_R_RankBuild_l5 F x1 x5 x16 F (0, ([] : List Int))))
def M_R_RankBuild_j6 (F : Nat) (x1 : Int) (x2 : List Int) (x5 : Int) (x8 : Int) (x122 : Bool) : Option (Int × List Int × Int) :=
  (if x122 then M_R_RankBuild_j2 F x1 x2 x5 3 else M_R_RankBuild_j2 F x1 x2 x5 x8)
def M_R_RankBuild (F : Nat) (x1 : Int) (x2 : List Int) (x5 : Int) : Option (Int × List Int × Int) :=
  ((M_R_BitsCheck F x1 x2).bind fun x8 => (if ((x8 : Int) == 0) then ((M_R_between F x5 1 64).bind fun x124 => M_R_RankBuild_j6 F x1 x2 x5 x8 (!x124)) else M_R_RankBuild_j6 F x1 x2 x5 x8 false))
/-! lampwright lampwrightref.SameInts -/
def M_R_SameInts_j2 (_F : Nat) : Option Bool :=
  some true
def M_R_SameInts_b3 (F : Nat) (x1 : List Int) (x4 : List Int) (rec3 : Int → Option Bool) (x154 : Int) : Option Bool :=
  (if (decide (x154 < (x1.length : Int))) then ((idx x1 x154).bind fun x218 => ((idx x4 x154).bind fun x222 => (if ((x218 : Int) != x222) then some false else rec3 (iadd .i64 x154 1)))) else M_R_SameInts_j2 F)
def M_R_SameInts_l3 (F : Nat) (x1 : List Int) (x4 : List Int) : Nat → Int → Option Bool
  | 0 => fun _ => none
  | k + 1 => fun s => M_R_SameInts_b3 F x1 x4 (M_R_SameInts_l3 F x1 x4 k) s
def M_R_SameInts (F : Nat) (x1 : List Int) (x4 : List Int) : Option Bool :=
  (if (((x1.length : Int) : Int) != (x4.length : Int)) then some false else M_R_SameInts_l3 F x1 x4 F 0)
/-! lampwright lampwrightref.RankCheck -/
def M_R_RankCheck_j2 (_F : Nat) (x20 : Int) : Option Int :=
  some x20
def M_R_RankCheck_j3 (F : Nat) (x11 : (Int × List Int × Int)) (x23 : Bool) : Option Int :=
  (if x23 then M_R_RankCheck_j2 F 4 else M_R_RankCheck_j2 F x11.2.2)
def M_R_RankCheck (F : Nat) (x1 : Int) (x2 : List Int) (x5 : Int) (x6 : List Int) : Option Int :=
  ((M_R_RankBuild F x1 x2 x5).bind fun x11 => (if ((x11.2.2 : Int) == 0) then ((M_R_SameInts F x6 x11.2.1).bind fun x25 => M_R_RankCheck_j3 F x11 (!x25)) else M_R_RankCheck_j3 F x11 false))
/-! lampwright lampwrightref.RankSelect -/
def M_R_RankSelect_j8 (_F : Nat) : Option Int :=
  some (-1)
def M_R_RankSelect_j15 (_F : Nat) (rec13 : Int → Option Int) (x1 : List Int) (x4 : Int) (x5 : Int) (x88 : Int) (x122 : Int) : Option Int :=
  ((idx x1 x88).bind fun x123 => (if (((x123 : Int) == x4) && ((x122 : Int) == x5)) then some x88 else rec13 (iadd .i64 x88 1)))
def M_R_RankSelect_b13 (F : Nat) (x1 : List Int) (x4 : Int) (x5 : Int) (rec13 : Int → Option Int) (x88 : Int) : Option Int :=
  (if (decide (x88 < (x1.length : Int))) then ((M_R_OnesAhead F x1 x88).bind fun x120 => (if ((x4 : Int) == 0) then M_R_RankSelect_j15 F rec13 x1 x4 x5 x88 (isub .i64 x88 x120) else M_R_RankSelect_j15 F rec13 x1 x4 x5 x88 x120)) else M_R_RankSelect_j8 F)
def M_R_RankSelect_l13 (F : Nat) (x1 : List Int) (x4 : Int) (x5 : Int) : Nat → Int → Option Int
  | 0 => fun _ => none
  | k + 1 => fun s => M_R_RankSelect_b13 F x1 x4 x5 (M_R_RankSelect_l13 F x1 x4 x5 k) s
def M_R_RankSelect (F : Nat) (x1 : List Int) (x4 : Int) (x5 : Int) : Option Int :=
  M_R_RankSelect_l13 F x1 x4 x5 F 0
/-! lampwright lampwrightlaw.rankBegun -/
def M_L_rankBegun_j2 (_F : Nat) (x29 : Bool) : Option Bool :=
  some x29
def M_L_rankBegun_j1 (F : Nat) (x7 : (Int × List Int × Int)) (x11 : (Int × Int)) (x12 : (Int × Int)) (x22 : Bool) : Option Bool :=
  (if ((((x22 && ((x7.2.2 : Int) == 0)) && ((x11.1 : Int) == 5)) && ((x11.2 : Int) == 0)) && ((x12.2 : Int) == 5)) then ((M_rank_Check F 10 ([180, 192] : List Int) 4 ([] : List Int)).bind fun x30 => M_L_rankBegun_j2 F ((x30 : Int) == 4)) else M_L_rankBegun_j2 F false)
def M_L_rankBegun (F : Nat)  : Option Bool :=
  ((M_rank_Rank F 10 ([180, 192] : List Int) 6).bind fun x4 => ((M_rank_Select F 10 ([180, 192] : List Int) 1 4).bind fun x5 => ((M_rank_Select F 10 ([180, 192] : List Int) 0 0).bind fun x6 => ((M_rank_Build F 10 ([180, 192] : List Int) 4).bind fun x7 => ((M_rank_By F 10 ([180, 192] : List Int) x7.1 x7.2.1 9).bind fun x11 => ((M_rank_Select F 10 ([180, 192] : List Int) 1 6).bind fun x12 => (if (((((((x4.1 : Int) == 4) && ((x4.2 : Int) == 0)) && ((x5.1 : Int) == 8)) && ((x5.2 : Int) == 0)) && ((x6.1 : Int) == 1)) && ((x6.2 : Int) == 0)) then ((M_R_SameInts F x7.2.1 ([0, 3, 4] : List Int)).bind fun x33 => M_L_rankBegun_j1 F x7 x11 x12 x33) else M_L_rankBegun_j1 F x7 x11 x12 false)))))))
/-! lampwright lampwrightlaw.RankTells -/
def M_L_RankTells_j6 (_F : Nat) (x21 : (Int × Int)) (x55 : Int) (x56 : Int) (x69 : Bool) : Option Bool :=
  some ((x69 && ((x21.1 : Int) == x56)) && ((x21.2 : Int) == x55))
def M_L_RankTells_j5 (F : Nat) (x1 : Int) (x2 : List Int) (x9 : Int) (x10 : List Int) (x17 : (Int × List Int × Int)) (x21 : (Int × Int)) (x27 : Int) (x49 : (Int × List Int × Int)) (x55 : Int) (x56 : Int) (x65 : Bool) : Option Bool :=
  (if (x65 && ((x17.2.2 : Int) == x49.2.2)) then ((M_rank_Check F x1 x2 x9 x10).bind fun x72 => M_L_RankTells_j6 F x21 x55 x56 ((x72 : Int) == x27)) else M_L_RankTells_j6 F x21 x55 x56 false)
def M_L_RankTells_j4 (F : Nat) (x1 : Int) (x2 : List Int) (x9 : Int) (x10 : List Int) (x15 : (Int × Int)) (x16 : (Int × Int)) (x17 : (Int × List Int × Int)) (x21 : (Int × Int)) (x25 : Int) (x27 : Int) (x33 : Int) (x47 : Int) (x48 : Int) (x49 : (Int × List Int × Int)) (x55 : Int) (x56 : Int) : Option Bool :=
  ((M_L_rankBegun F).bind fun x57 => (if (((((x57 && ((x15.1 : Int) == x33)) && ((x15.2 : Int) == x25)) && ((x16.1 : Int) == x48)) && ((x16.2 : Int) == x47)) && ((x17.1 : Int) == x49.1)) then ((M_R_SameInts F x17.2.1 x49.2.1).bind fun x73 => M_L_RankTells_j5 F x1 x2 x9 x10 x17 x21 x27 x49 x55 x56 x73) else M_L_RankTells_j5 F x1 x2 x9 x10 x17 x21 x27 x49 x55 x56 false))
def M_L_RankTells_j3 (F : Nat) (x1 : Int) (x2 : List Int) (x8 : Int) (x9 : Int) (x10 : List Int) (x15 : (Int × Int)) (x16 : (Int × Int)) (x17 : (Int × List Int × Int)) (x21 : (Int × Int)) (x25 : Int) (x27 : Int) (x33 : Int) (x47 : Int) (x48 : Int) : Option Bool :=
  ((M_R_RankBuild F x1 x2 x8).bind fun x49 => (if ((x27 : Int) == 0) then (if ((x25 : Int) == 0) then M_L_RankTells_j4 F x1 x2 x9 x10 x15 x16 x17 x21 x25 x27 x33 x47 x48 x49 x25 x33 else M_L_RankTells_j4 F x1 x2 x9 x10 x15 x16 x17 x21 x25 x27 x33 x47 x48 x49 x25 0) else M_L_RankTells_j4 F x1 x2 x9 x10 x15 x16 x17 x21 x25 x27 x33 x47 x48 x49 x27 0))
def M_L_RankTells_j7 (F : Nat) (x1 : Int) (x2 : List Int) (x6 : Int) (x7 : Int) (x8 : Int) (x9 : Int) (x10 : List Int) (x15 : (Int × Int)) (x16 : (Int × Int)) (x17 : (Int × List Int × Int)) (x21 : (Int × Int)) (x25 : Int) (x26 : Int) (x27 : Int) (x33 : Int) (x79 : Bool) : Option Bool :=
  (if x79 then M_L_RankTells_j3 F x1 x2 x8 x9 x10 x15 x16 x17 x21 x25 x27 x33 3 0 else (if ((x26 : Int) == 0) then ((M_R_BitList F x1 x2).bind fun x80 => ((M_R_RankSelect F x80 x6 x7).bind fun x83 => (if (decide (x83 < 0)) then M_L_RankTells_j3 F x1 x2 x8 x9 x10 x15 x16 x17 x21 x25 x27 x33 5 0 else M_L_RankTells_j3 F x1 x2 x8 x9 x10 x15 x16 x17 x21 x25 x27 x33 x26 x83))) else M_L_RankTells_j3 F x1 x2 x8 x9 x10 x15 x16 x17 x21 x25 x27 x33 x26 0))
def M_L_RankTells_j1 (F : Nat) (x1 : Int) (x2 : List Int) (x6 : Int) (x7 : Int) (x8 : Int) (x9 : Int) (x10 : List Int) (x15 : (Int × Int)) (x16 : (Int × Int)) (x17 : (Int × List Int × Int)) (x21 : (Int × Int)) (x25 : Int) (x26 : Int) (x27 : Int) (x33 : Int) : Option Bool :=
  (if ((x26 : Int) == 0) then M_L_RankTells_j7 F x1 x2 x6 x7 x8 x9 x10 x15 x16 x17 x21 x25 x26 x27 x33 (((decide (x6 < 0)) || (decide (1 < x6))) || (decide (x7 < 0))) else M_L_RankTells_j7 F x1 x2 x6 x7 x8 x9 x10 x15 x16 x17 x21 x25 x26 x27 x33 false)
def M_L_RankTells (F : Nat) (x1 : Int) (x2 : List Int) (x5 : Int) (x6 : Int) (x7 : Int) (x8 : Int) (x9 : Int) (x10 : List Int) : Option Bool :=
  ((M_rank_Rank F x1 x2 x5).bind fun x15 => ((M_rank_Select F x1 x2 x6 x7).bind fun x16 => ((M_rank_Build F x1 x2 x8).bind fun x17 => ((M_rank_By F x1 x2 x9 x10 x5).bind fun x21 => ((M_R_ReadErr F x1 x2 x5).bind fun x25 => ((M_R_BitsCheck F x1 x2).bind fun x26 => ((M_R_RankCheck F x1 x2 x9 x10).bind fun x27 => (if ((x25 : Int) == 0) then ((M_R_BitList F x1 x2).bind fun x89 => ((M_R_OnesAhead F x89 x5).bind fun x92 => M_L_RankTells_j1 F x1 x2 x6 x7 x8 x9 x10 x15 x16 x17 x21 x25 x26 x27 x92)) else M_L_RankTells_j1 F x1 x2 x6 x7 x8 x9 x10 x15 x16 x17 x21 x25 x26 x27 0))))))))
/-! lampwright lampwrightlaw.RankBy -/
def M_L_RankBy_j1 (_F : Nat) (x33 : Bool) : Option Bool :=
  some x33
def M_L_RankBy (F : Nat) (x1 : Int) (x2 : List Int) (x5 : Int) (x6 : Int) (x7 : Int) : Option Bool :=
  ((M_rank_Rank F x1 x2 x5).bind fun x9 => ((M_rank_Build F x1 x2 x6).bind fun x10 => ((M_rank_Build F x1 x2 x7).bind fun x14 => ((M_L_rankBegun F).bind fun x20 => (if (!x20) then some false else (if ((((x9.2 : Int) != 0) || ((x10.2.2 : Int) != 0)) || ((x14.2.2 : Int) != 0)) then some true else ((M_rank_By F x1 x2 x10.1 x10.2.1 x5).bind fun x26 => ((M_rank_By F x1 x2 x14.1 x14.2.1 x5).bind fun x27 => (if (((((x26.2 : Int) == 0) && ((x27.2 : Int) == 0)) && ((x26.1 : Int) == x9.1)) && ((x27.1 : Int) == x9.1)) then ((M_rank_Check F x1 x2 x10.1 x10.2.1).bind fun x34 => M_L_RankBy_j1 F ((x34 : Int) == 0)) else M_L_RankBy_j1 F false)))))))))
/-! slices.Clone[[]byte,byte] -/
def M_slices_Clone_byte_byte (_F : Nat) (x1 : List Int) : Option (List Int) :=
  ((app 70368744177664 ([] : List Int) x1).bind fun x8 => some x8)
/-! lampwright bits.own -/
def M_bits_own (F : Nat) (x1 : Int) (x2 : List Int) : Option (Int × List Int) :=
  ((M_slices_Clone_byte_byte F x2).bind fun x10 => some (x1, x10))
/-! (*lampwright bits.writer).bit -/
def M_bits_writer_bit_j1 (_F : Nat) (x2 : Int) (x6 : Int) (x15 : List Int) : Option (Int × List Int) :=
  ((idx x15 (iquo .i64 x2 8)).bind fun x30 => (chk (decide (0 ≤ (irem x2 8))) (((idx x15 (iquo .i64 x2 8)).bind fun _x36 => (lett (x15.set (iquo .i64 x2 8).toNat (ior .u8 x30 (ishr .u8 (iconv .u8 (ishl .u64 x6 7)) (irem x2 8)))) fun x41 => some (iadd .i64 x2 1, x41))))))
def M_bits_writer_bit (F : Nat) (x2 : Int) (x3 : List Int) (x6 : Int) : Option (Int × List Int) :=
  (if (((irem x2 8) : Int) == 0) then ((app 70368744177664 x3 ([0] : List Int)).bind fun x46 => M_bits_writer_bit_j1 F x2 x6 x46) else M_bits_writer_bit_j1 F x2 x6 x3)
/-! (*lampwright bits.writer).number -/
def M_bits_writer_number_b1 (F : Nat) (x6 : Int) (rec1 : (Int × Int × List Int) → Option (Int × List Int)) (x18 : Int) (x19 : Int) (x22 : List Int) : Option (Int × List Int) :=
  (if (decide (0 ≤ x18)) then (chk (decide (0 ≤ x18)) (((M_bits_writer_bit F x19 x22 (iand .u64 (ishr .u64 x6 x18) 1)).bind fun x40 => rec1 (isub .i64 x18 1, x40.1, x40.2)))) else some (x19, x22))
def M_bits_writer_number_l1 (F : Nat) (x6 : Int) : Nat → (Int × Int × List Int) → Option (Int × List Int)
  | 0 => fun _ => none
  | k + 1 => fun s => M_bits_writer_number_b1 F x6 (M_bits_writer_number_l1 F x6 k) s.1 s.2.1 s.2.2
def M_bits_writer_number (F : Nat) (x2 : Int) (x3 : List Int) (x6 : Int) (x7 : Int) : Option (Int × List Int) :=
  M_bits_writer_number_l1 F x6 F (isub .i64 x7 1, x2, x3)
/-! lampwright bits.Add -/
def M_bits_Add (F : Nat) (x1 : Int) (x2 : List Int) (x5 : Int) (x6 : Int) : Option (Int × List Int) :=
  ((M_bits_own F x1 x2).bind fun x9 => ((M_bits_writer_number F x9.1 x9.2 x5 x6).bind fun x13 => some (x13.1, x13.2)))
/-! lampwright unary.Raw -/
def M_unary_Raw (F : Nat) (x1 : Int) : Option (Int × List Int) :=
  ((mk 140737488355328 (0 : Int) (iquo .u64 (iadd .u64 x1 7) 8)).bind fun x3 => ((M_bits_Add F (iconv .i64 x1) x3 1 1).bind fun x6 => some (x6.1, x6.2)))
/-! lampwright unary.Code -/
def M_unary_Code (F : Nat) (x1 : Int) : Option (Int × List Int × Int) :=
  (if (decide (8192 ≤ x1)) then some (0, ([] : List Int), 3) else ((M_unary_Raw F x1).bind fun x4 => some (x4.1, x4.2, 0)))
/-! lampwright unary.From -/
def M_unary_From_j2 (_F : Nat) : Option (Int × Int × Bool) :=
  some (0, 0, false)
def M_unary_From_b3 (F : Nat) (x1 : Int) (x2 : List Int) (x5 : Int) (rec3 : Int → Option (Int × Int × Bool)) (x33 : Int) : Option (Int × Int × Bool) :=
  (if (decide (x33 < x1)) then ((M_bits_At F x1 x2 x33).bind fun x44 => (if ((x44 : Int) == 1) then some (iconv .u64 (isub .i64 x33 x5), iadd .i64 x33 1, true) else rec3 (iadd .i64 x33 1))) else M_unary_From_j2 F)
def M_unary_From_l3 (F : Nat) (x1 : Int) (x2 : List Int) (x5 : Int) : Nat → Int → Option (Int × Int × Bool)
  | 0 => fun _ => none
  | k + 1 => fun s => M_unary_From_b3 F x1 x2 x5 (M_unary_From_l3 F x1 x2 x5 k) s
def M_unary_From (F : Nat) (x1 : Int) (x2 : List Int) (x5 : Int) : Option (Int × Int × Bool) :=
  M_unary_From_l3 F x1 x2 x5 F x5
/-! lampwright unary.Read -/
def M_unary_Read_j2 (F : Nat) (x1 : Int) (x2 : List Int) (x5 : Int) (x13 : Int) : Option (Int × Int × Int) :=
  (if ((x13 : Int) != 0) then some (0, 0, x13) else ((M_unary_From F x1 x2 x5).bind fun x15 => (if (!x15.2.2) then some (0, 0, 7) else some (x15.1, x15.2.1, 0))))
def M_unary_Read_j3 (F : Nat) (x1 : Int) (x2 : List Int) (x5 : Int) (x7 : Int) (x21 : Bool) : Option (Int × Int × Int) :=
  (if x21 then M_unary_Read_j2 F x1 x2 x5 3 else M_unary_Read_j2 F x1 x2 x5 x7)
def M_unary_Read (F : Nat) (x1 : Int) (x2 : List Int) (x5 : Int) : Option (Int × Int × Int) :=
  ((M_bits_Check F x1 x2).bind fun x7 => (if ((x7 : Int) == 0) then M_unary_Read_j3 F x1 x2 x5 x7 ((decide (x5 < 0)) || (decide (x1 < x5))) else M_unary_Read_j3 F x1 x2 x5 x7 false))
/-! lampwright bits.places -/
def M_bits_places (_F : Nat) (_x1 : Int) (_x2 : List Int) (_x5 : Int) (_x6 : Int) : Option Unit :=
  some ()
/-! lampwright bits.places$1 -/
def M_bits_places_1_b1 {σ τ : Type} (F : Nat) (yy : σ → Int → Option (σ ⊕ τ)) (x4 : Int) (x6 : Int) (x7 : List Int) (rec1 : (Int × σ) → Option (σ ⊕ τ)) (x22 : Int) (x23 : σ) : Option (σ ⊕ τ) :=
  (if (decide (x22 < x4)) then ((M_bits_At F x6 x7 x22).bind fun x44 => ((yy x23 x44).bind (Sum.elim (fun x45 => rec1 (iadd .i64 x22 1, x45)) (fun x46 => some (.inr x46))))) else some (.inl x23))
def M_bits_places_1_l1 {σ τ : Type} (F : Nat) (yy : σ → Int → Option (σ ⊕ τ)) (x4 : Int) (x6 : Int) (x7 : List Int) : Nat → (Int × σ) → Option (σ ⊕ τ)
  | 0 => fun _ => none
  | k + 1 => fun s => M_bits_places_1_b1 F yy x4 x6 x7 (M_bits_places_1_l1 F yy x4 x6 x7 k) s.1 s.2
def M_bits_places_1 {σ τ : Type} (F : Nat) (yy : σ → Int → Option (σ ⊕ τ)) (x2 : Int) (x4 : Int) (x6 : Int) (x7 : List Int) (s0 : σ) : Option (σ ⊕ τ) :=
  M_bits_places_1_l1 F yy x4 x6 x7 F (x2, s0)
/-! lampwright bits.Both -/
def M_bits_Both_r2 (F : Nat) (x45 : Int) (x48 : List Int) (x53 : Int) : Option ((Int × List Int) ⊕ Empty) :=
  ((M_bits_writer_bit F x45 x48 x53).bind fun x54 => some (.inl (x54.1, x54.2)))
def M_bits_Both (F : Nat) (x1 : Int) (x2 : List Int) (x5 : Int) (x6 : List Int) : Option (Int × List Int) :=
  ((M_bits_own F x1 x2).bind fun x12 => ((M_bits_places F x5 x6 0 x5).bind fun _x37 => ((M_bits_places_1 F (fun ((x45, x48) : (Int × List Int)) (x53 : Int) => M_bits_Both_r2 F x45 x48 x53) 0 x5 x5 x6 (x12.1, x12.2)).bind (Sum.elim (fun ((x45, x48) : (Int × List Int)) => some (x45, x48)) (fun t => t.elim)))))
/-! lampwright unary.Many -/
def M_unary_Many_j4 (_F : Nat) (x119 : Int) (x122 : List Int) : Option (Int × List Int × Int) :=
  some (x119, x122, 0)
def M_unary_Many_b5 (F : Nat) (x1 : List Int) (rec5 : (Int × Int × List Int) → Option (Int × List Int × Int)) (x144 : Int) (x145 : Int) (x148 : List Int) : Option (Int × List Int × Int) :=
  (if (decide (x144 < (x1.length : Int))) then ((idx x1 x144).bind fun x180 => ((M_unary_Raw F x180).bind fun x183 => ((M_bits_Both F x145 x148 x183.1 x183.2).bind fun x186 => rec5 (iadd .i64 x144 1, x186.1, x186.2)))) else M_unary_Many_j4 F x145 x148)
def M_unary_Many_l5 (F : Nat) (x1 : List Int) : Nat → (Int × Int × List Int) → Option (Int × List Int × Int)
  | 0 => fun _ => none
  | k + 1 => fun s => M_unary_Many_b5 F x1 (M_unary_Many_l5 F x1 k) s.1 s.2.1 s.2.2
def M_unary_Many_j2 (F : Nat) (x1 : List Int) (x49 : Int) : Option (Int × List Int × Int) :=
  (if (decide (8192 < x49)) then some (0, ([] : List Int), 8) else M_unary_Many_l5 F x1 F (0, 0, ([] : List Int)))
def M_unary_Many_b6 (F : Nat) (x1 : List Int) (rec6 : (Int × Int) → Option (Int × List Int × Int)) (x205 : Int) (x206 : Int) : Option (Int × List Int × Int) :=
  (if (decide (x206 < (x1.length : Int))) then ((idx x1 x206).bind fun x229 => (if (decide (8192 ≤ x229)) then some (0, ([] : List Int), 3) else (lett (imin (iadd .u64 (iadd .u64 x205 x229) 1) 8193) fun x233 => rec6 (x233, iadd .i64 x206 1)))) else M_unary_Many_j2 F x1 x205)
def M_unary_Many_l6 (F : Nat) (x1 : List Int) : Nat → (Int × Int) → Option (Int × List Int × Int)
  | 0 => fun _ => none
  | k + 1 => fun s => M_unary_Many_b6 F x1 (M_unary_Many_l6 F x1 k) s.1 s.2
def M_unary_Many (F : Nat) (x1 : List Int) : Option (Int × List Int × Int) :=
  M_unary_Many_l6 F x1 F (0, 0)
/-! lampwright unary.All -/
def M_unary_All_j10 (_F : Nat) (x90 : List Int) (x91 : Int) (x92 : Int) : Option (List Int × Int × Int) :=
  (if ((x92 : Int) != 0) then some (([] : List Int), 0, x92) else some (x90, x91, 0))
def M_unary_All_j17 (_F : Nat) (rec15 : (Int × List Int × Int × Int) → Option (List Int × Int × Int)) (x118 : Int) (x121 : List Int) (x159 : (Int × Int × Bool)) (x161 : Int) : Option (List Int × Int × Int) :=
  ((app 8796093022208 x121 ([x159.1] : List Int)).bind fun x164 => rec15 (isub .i64 x118 1, x164, x159.2.1, x161))
def M_unary_All_b15 (F : Nat) (x1 : Int) (x2 : List Int) (rec15 : (Int × List Int × Int × Int) → Option (List Int × Int × Int)) (x118 : Int) (x121 : List Int) (x122 : Int) (x123 : Int) : Option (List Int × Int × Int) :=
  (if (((x123 : Int) == 0) && (decide (0 < x118))) then ((M_unary_From F x1 x2 x122).bind fun x159 => (if (!x159.2.2) then M_unary_All_j17 F rec15 x118 x121 x159 7 else M_unary_All_j17 F rec15 x118 x121 x159 x123)) else M_unary_All_j10 F x121 x122 x123)
def M_unary_All_l15 (F : Nat) (x1 : Int) (x2 : List Int) : Nat → (Int × List Int × Int × Int) → Option (List Int × Int × Int)
  | 0 => fun _ => none
  | k + 1 => fun s => M_unary_All_b15 F x1 x2 (M_unary_All_l15 F x1 x2 k) s.1 s.2.1 s.2.2.1 s.2.2.2
def M_unary_All_j2 (F : Nat) (x1 : Int) (x2 : List Int) (x5 : Int) (x13 : Int) : Option (List Int × Int × Int) :=
  M_unary_All_l15 F x1 x2 F (x5, ([] : List Int), 0, x13)
def M_unary_All_j18 (F : Nat) (x1 : Int) (x2 : List Int) (x5 : Int) (x7 : Int) (x171 : Bool) : Option (List Int × Int × Int) :=
  (if x171 then M_unary_All_j2 F x1 x2 x5 3 else M_unary_All_j2 F x1 x2 x5 x7)
def M_unary_All (F : Nat) (x1 : Int) (x2 : List Int) (x5 : Int) : Option (List Int × Int × Int) :=
  ((M_bits_Check F x1 x2).bind fun x7 => (if ((x7 : Int) == 0) then M_unary_All_j18 F x1 x2 x5 x7 ((decide (x5 < 0)) || (decide (8192 < x5))) else M_unary_All_j18 F x1 x2 x5 x7 false))
/-! lampwright lampwrightref.PackBits -/
def M_R_PackBits_j59 (_F : Nat) (x1 : List Int) (x497 : List Int) : Option (Int × List Int) :=
  some ((x1.length : Int), x497)
def M_R_PackBits_j108 (_F : Nat) (rec98 : (Int × List Int) → Option (Int × List Int)) (x660 : Int) (x907 : List Int) : Option (Int × List Int) :=
  rec98 (iadd .i64 x660 8, x907)
def M_R_PackBits_j113 (F : Nat) (rec98 : (Int × List Int) → Option (Int × List Int)) (x660 : Int) (x663 : List Int) (x944 : Int) : Option (Int × List Int) :=
  ((app 70368744177664 x663 ([iconv .u8 x944] : List Int)).bind fun x947 => M_R_PackBits_j108 F rec98 x660 x947)
def M_R_PackBits_j117 (_F : Nat) (rec116 : (Int × Int) → Option (Int × List Int)) (x962 : Int) (x980 : Int) : Option (Int × List Int) :=
  rec116 (x980, iadd .i64 x962 1)
def M_R_PackBits_b116 (F : Nat) (rec98 : (Int × List Int) → Option (Int × List Int)) (x1 : List Int) (x660 : Int) (x663 : List Int) (rec116 : (Int × Int) → Option (Int × List Int)) (x961 : Int) (x962 : Int) : Option (Int × List Int) :=
  (if (decide (x962 < 8)) then (if (decide ((iadd .i64 x660 x962) < (x1.length : Int))) then ((idx x1 (iadd .i64 x660 x962)).bind fun x981 => M_R_PackBits_j117 F rec116 x962 (iadd .i64 (imul .i64 2 x961) x981)) else M_R_PackBits_j117 F rec116 x962 (imul .i64 2 x961)) else M_R_PackBits_j113 F rec98 x660 x663 x961)
def M_R_PackBits_l116 (F : Nat) (rec98 : (Int × List Int) → Option (Int × List Int)) (x1 : List Int) (x660 : Int) (x663 : List Int) : Nat → (Int × Int) → Option (Int × List Int)
  | 0 => fun _ => none
  | k + 1 => fun s => M_R_PackBits_b116 F rec98 x1 x660 x663 (M_R_PackBits_l116 F rec98 x1 x660 x663 k) s.1 s.2
def M_R_PackBits_b98 (F : Nat) (x1 : List Int) (rec98 : (Int × List Int) → Option (Int × List Int)) (x660 : Int) (x663 : List Int) : Option (Int × List Int) :=
  (if (decide (x660 < (x1.length : Int))) then M_R_PackBits_l116 F rec98 x1 x660 x663 F (0, 0) else M_R_PackBits_j59 F x1 x663)
def M_R_PackBits_l98 (F : Nat) (x1 : List Int) : Nat → (Int × List Int) → Option (Int × List Int)
  | 0 => fun _ => none
  | k + 1 => fun s => M_R_PackBits_b98 F x1 (M_R_PackBits_l98 F x1 k) s.1 s.2
def M_R_PackBits (F : Nat) (x1 : List Int) : Option (Int × List Int) :=
  M_R_PackBits_l98 F x1 F (0, ([] : List Int))
/-! lampwright lampwrightref.UnaryList -/
def M_R_UnaryList_j2 (_F : Nat) (x45 : List Int) : Option (List Int) :=
  ((app 8796093022208 x45 ([1] : List Int)).bind fun x48 => some x48)
def M_R_UnaryList_b3 (F : Nat) (x1 : Int) (rec3 : (List Int × Int) → Option (List Int)) (x65 : List Int) (x66 : Int) : Option (List Int) :=
  (if (decide (x66 < x1)) then ((app 8796093022208 x65 ([0] : List Int)).bind fun x88 => rec3 (x88, iadd .u64 x66 1)) else M_R_UnaryList_j2 F x65)
def M_R_UnaryList_l3 (F : Nat) (x1 : Int) : Nat → (List Int × Int) → Option (List Int)
  | 0 => fun _ => none
  | k + 1 => fun s => M_R_UnaryList_b3 F x1 (M_R_UnaryList_l3 F x1 k) s.1 s.2
def M_R_UnaryList (F : Nat) (x1 : Int) : Option (List Int) :=
  M_R_UnaryList_l3 F x1 F (([] : List Int), 0)
/-! lampwright lampwrightref.UnaryCode -/
def M_R_UnaryCode (F : Nat) (x1 : Int) : Option (Int × List Int × Int) :=
  (if (decide (8191 < x1)) then some (0, ([] : List Int), 3) else ((M_R_UnaryList F x1).bind fun x4 => ((M_R_PackBits F x4).bind fun x7 => some (x7.1, x7.2, 0))))
/-! lampwright lampwrightref.UnaryRead -/
def M_R_UnaryRead_j2 (_F : Nat) : Option (Int × Int) :=
  some (0, -1)
def M_R_UnaryRead_b3 (F : Nat) (x1 : List Int) (rec3 : (Int × Int) → Option (Int × Int)) (x80 : Int) (x81 : Int) : Option (Int × Int) :=
  (if (decide (x81 < (x1.length : Int))) then ((idx x1 x81).bind fun x114 => (if ((x114 : Int) == 1) then some (x80, iadd .i64 x81 1) else rec3 (iadd .u64 x80 1, iadd .i64 x81 1))) else M_R_UnaryRead_j2 F)
def M_R_UnaryRead_l3 (F : Nat) (x1 : List Int) : Nat → (Int × Int) → Option (Int × Int)
  | 0 => fun _ => none
  | k + 1 => fun s => M_R_UnaryRead_b3 F x1 (M_R_UnaryRead_l3 F x1 k) s.1 s.2
def M_R_UnaryRead (F : Nat) (x1 : List Int) (x4 : Int) : Option (Int × Int) :=
  M_R_UnaryRead_l3 F x1 F (0, x4)
/-! lampwright lampwrightref.UnaryMany -/
def M_R_UnaryMany_j7 (F : Nat) (x164 : List Int) : Option (Int × List Int × Int) :=
  ((M_R_PackBits F x164).bind fun x165 => some (x165.1, x165.2, 0))
def M_R_UnaryMany_b8 (F : Nat) (x1 : List Int) (rec8 : (List Int × Int) → Option (Int × List Int × Int)) (x190 : List Int) (x191 : Int) : Option (Int × List Int × Int) :=
  (if (decide (x191 < (x1.length : Int))) then ((idx x1 x191).bind fun x223 => ((M_R_UnaryList F x223).bind fun x226 => ((app 8796093022208 x190 x226).bind fun x229 => rec8 (x229, iadd .i64 x191 1)))) else M_R_UnaryMany_j7 F x190)
def M_R_UnaryMany_l8 (F : Nat) (x1 : List Int) : Nat → (List Int × Int) → Option (Int × List Int × Int)
  | 0 => fun _ => none
  | k + 1 => fun s => M_R_UnaryMany_b8 F x1 (M_R_UnaryMany_l8 F x1 k) s.1 s.2
def M_R_UnaryMany_j5 (F : Nat) (x1 : List Int) (x95 : Int) : Option (Int × List Int × Int) :=
  (if (decide (8192 < x95)) then some (0, ([] : List Int), 8) else M_R_UnaryMany_l8 F x1 F (([] : List Int), 0))
def M_R_UnaryMany_j12 (_F : Nat) (rec11 : (Int × Int) → Option (Int × List Int × Int)) (x264 : Int) (x309 : Int) : Option (Int × List Int × Int) :=
  rec11 (x309, iadd .i64 x264 1)
def M_R_UnaryMany_b11 (F : Nat) (x1 : List Int) (rec11 : (Int × Int) → Option (Int × List Int × Int)) (x263 : Int) (x264 : Int) : Option (Int × List Int × Int) :=
  (if (decide (x264 < (x1.length : Int))) then ((idx x1 x264).bind fun x314 => (if (decide (8191 < x314)) then some (0, ([] : List Int), 3) else (if (decide (x263 < 10000)) then ((idx x1 x264).bind fun x317 => (lett (iadd .i64 x263 (iadd .i64 (iconv .i64 x317) 1)) fun x320 => M_R_UnaryMany_j12 F rec11 x264 x320)) else M_R_UnaryMany_j12 F rec11 x264 x263))) else M_R_UnaryMany_j5 F x1 x263)
def M_R_UnaryMany_l11 (F : Nat) (x1 : List Int) : Nat → (Int × Int) → Option (Int × List Int × Int)
  | 0 => fun _ => none
  | k + 1 => fun s => M_R_UnaryMany_b11 F x1 (M_R_UnaryMany_l11 F x1 k) s.1 s.2
def M_R_UnaryMany (F : Nat) (x1 : List Int) : Option (Int × List Int × Int) :=
  M_R_UnaryMany_l11 F x1 F (0, 0)
/-! lampwright lampwrightref.UnaryAll -/
def M_R_UnaryAll_j4 (_F : Nat) (x55 : Int) (x58 : List Int) : Option (List Int × Int × Int) :=
  some (x58, x55, 0)
def M_R_UnaryAll_b5 (F : Nat) (x5 : Int) (x15 : List Int) (rec5 : (Int × List Int) → Option (List Int × Int × Int)) (x70 : Int) (x73 : List Int) : Option (List Int × Int × Int) :=
  (if (decide ((x73.length : Int) < x5)) then ((M_R_UnaryRead F x15 x70).bind fun x86 => (if (decide (x86.2 < 0)) then some (([] : List Int), 0, 7) else ((app 8796093022208 x73 ([x86.1] : List Int)).bind fun x90 => rec5 (x86.2, x90)))) else M_R_UnaryAll_j4 F x70 x73)
def M_R_UnaryAll_l5 (F : Nat) (x5 : Int) (x15 : List Int) : Nat → (Int × List Int) → Option (List Int × Int × Int)
  | 0 => fun _ => none
  | k + 1 => fun s => M_R_UnaryAll_b5 F x5 x15 (M_R_UnaryAll_l5 F x5 x15 k) s.1 s.2
def M_R_UnaryAll_j2 (F : Nat) (x1 : Int) (x2 : List Int) (x5 : Int) (x13 : Int) : Option (List Int × Int × Int) :=
  (if ((x13 : Int) != 0) then some (([] : List Int), 0, x13) else ((M_R_BitList F x1 x2).bind fun x15 => M_R_UnaryAll_l5 F x5 x15 F (0, ([] : List Int))))
def M_R_UnaryAll_j6 (F : Nat) (x1 : Int) (x2 : List Int) (x5 : Int) (x7 : Int) (x98 : Bool) : Option (List Int × Int × Int) :=
  (if x98 then M_R_UnaryAll_j2 F x1 x2 x5 3 else M_R_UnaryAll_j2 F x1 x2 x5 x7)
def M_R_UnaryAll (F : Nat) (x1 : Int) (x2 : List Int) (x5 : Int) : Option (List Int × Int × Int) :=
  ((M_R_BitsCheck F x1 x2).bind fun x7 => (if ((x7 : Int) == 0) then ((M_R_between F x5 0 8192).bind fun x100 => M_R_UnaryAll_j6 F x1 x2 x5 x7 (!x100)) else M_R_UnaryAll_j6 F x1 x2 x5 x7 false))
/-! lampwright lampwrightref.SameBytes -/
def M_R_SameBytes_j2 (_F : Nat) : Option Bool :=
  some true
def M_R_SameBytes_b3 (F : Nat) (x1 : List Int) (x4 : List Int) (rec3 : Int → Option Bool) (x154 : Int) : Option Bool :=
  (if (decide (x154 < (x1.length : Int))) then ((idx x1 x154).bind fun x218 => ((idx x4 x154).bind fun x222 => (if ((x218 : Int) != x222) then some false else rec3 (iadd .i64 x154 1)))) else M_R_SameBytes_j2 F)
def M_R_SameBytes_l3 (F : Nat) (x1 : List Int) (x4 : List Int) : Nat → Int → Option Bool
  | 0 => fun _ => none
  | k + 1 => fun s => M_R_SameBytes_b3 F x1 x4 (M_R_SameBytes_l3 F x1 x4 k) s
def M_R_SameBytes (F : Nat) (x1 : List Int) (x4 : List Int) : Option Bool :=
  (if (((x1.length : Int) : Int) != (x4.length : Int)) then some false else M_R_SameBytes_l3 F x1 x4 F 0)
/-! lampwright lampwrightref.SameBits -/
def M_R_SameBits_j1 (_F : Nat) (x13 : Bool) : Option Bool :=
  some x13
def M_R_SameBits (F : Nat) (x1 : Int) (x2 : List Int) (x5 : Int) (x6 : List Int) : Option Bool :=
  (if ((x1 : Int) == x5) then ((M_R_SameBytes F x2 x6).bind fun x14 => M_R_SameBits_j1 F x14) else M_R_SameBits_j1 F false)
/-! lampwright lampwrightref.SameNums -/
def M_R_SameNums_j2 (_F : Nat) : Option Bool :=
  some true
def M_R_SameNums_b3 (F : Nat) (x1 : List Int) (x4 : List Int) (rec3 : Int → Option Bool) (x154 : Int) : Option Bool :=
  (if (decide (x154 < (x1.length : Int))) then ((idx x1 x154).bind fun x218 => ((idx x4 x154).bind fun x222 => (if ((x218 : Int) != x222) then some false else rec3 (iadd .i64 x154 1)))) else M_R_SameNums_j2 F)
def M_R_SameNums_l3 (F : Nat) (x1 : List Int) (x4 : List Int) : Nat → Int → Option Bool
  | 0 => fun _ => none
  | k + 1 => fun s => M_R_SameNums_b3 F x1 x4 (M_R_SameNums_l3 F x1 x4 k) s
def M_R_SameNums (F : Nat) (x1 : List Int) (x4 : List Int) : Option Bool :=
  (if (((x1.length : Int) : Int) != (x4.length : Int)) then some false else M_R_SameNums_l3 F x1 x4 F 0)
/-! lampwright lampwrightlaw.unaryBegun -/
def M_L_unaryBegun_j2 (_F : Nat) (x12 : (List Int × Int × Int)) (x15 : (Int × Int × Int)) (x33 : Bool) : Option Bool :=
  some (((x33 && ((x12.2.1 : Int) == 4)) && ((x12.2.2 : Int) == 0)) && ((x15.2.2 : Int) == 7))
def M_L_unaryBegun_j1 (F : Nat) (x8 : (Int × List Int × Int)) (x12 : (List Int × Int × Int)) (x15 : (Int × Int × Int)) (x27 : Bool) : Option Bool :=
  (if (x27 && ((x8.2.2 : Int) == 0)) then ((M_R_SameNums F x12.1 ([0, 2] : List Int)).bind fun x39 => M_L_unaryBegun_j2 F x12 x15 x39) else M_L_unaryBegun_j2 F x12 x15 false)
def M_L_unaryBegun (F : Nat)  : Option Bool :=
  ((M_unary_Code F 3).bind fun x1 => ((M_unary_Read F x1.1 x1.2.1 1).bind fun x5 => ((M_unary_Many F ([0, 2, 1] : List Int)).bind fun x8 => ((M_unary_All F x8.1 x8.2.1 2).bind fun x12 => ((M_unary_Read F 0 ([] : List Int) 0).bind fun x15 => ((M_R_SameBits F x1.1 x1.2.1 4 ([16] : List Int)).bind fun x18 => (if ((((x18 && ((x1.2.2 : Int) == 0)) && ((x5.1 : Int) == 2)) && ((x5.2.1 : Int) == 4)) && ((x5.2.2 : Int) == 0)) then ((M_R_SameBits F x8.1 x8.2.1 6 ([148] : List Int)).bind fun x42 => M_L_unaryBegun_j1 F x8 x12 x15 x42) else M_L_unaryBegun_j1 F x8 x12 x15 false)))))))
/-! lampwright lampwrightlaw.UnaryTells -/
def M_L_UnaryTells_j4 (_F : Nat) (x21 : (List Int × Int × Int)) (x42 : (List Int × Int × Int)) (x59 : Bool) : Option Bool :=
  some ((x59 && ((x21.2.1 : Int) == x42.2.1)) && ((x21.2.2 : Int) == x42.2.2))
def M_L_UnaryTells_j3 (F : Nat) (x17 : (Int × List Int × Int)) (x21 : (List Int × Int × Int)) (x38 : (Int × List Int × Int)) (x42 : (List Int × Int × Int)) (x55 : Bool) : Option Bool :=
  (if (x55 && ((x17.2.2 : Int) == x38.2.2)) then ((M_R_SameNums F x21.1 x42.1).bind fun x62 => M_L_UnaryTells_j4 F x21 x42 x62) else M_L_UnaryTells_j4 F x21 x42 false)
def M_L_UnaryTells_j2 (F : Nat) (x12 : (Int × List Int × Int)) (x16 : (Int × Int × Int)) (x17 : (Int × List Int × Int)) (x21 : (List Int × Int × Int)) (x24 : (Int × List Int × Int)) (x35 : Int) (x36 : Int) (x37 : Int) (x38 : (Int × List Int × Int)) (x42 : (List Int × Int × Int)) (x48 : Bool) : Option Bool :=
  (if ((((x48 && ((x12.2.2 : Int) == x24.2.2)) && ((x16.1 : Int) == x36)) && ((x16.2.1 : Int) == x37)) && ((x16.2.2 : Int) == x35)) then ((M_R_SameBits F x17.1 x17.2.1 x38.1 x38.2.1).bind fun x63 => M_L_UnaryTells_j3 F x17 x21 x38 x42 x63) else M_L_UnaryTells_j3 F x17 x21 x38 x42 false)
def M_L_UnaryTells_j1 (F : Nat) (x2 : Int) (x3 : List Int) (x7 : List Int) (x10 : Int) (x12 : (Int × List Int × Int)) (x16 : (Int × Int × Int)) (x17 : (Int × List Int × Int)) (x21 : (List Int × Int × Int)) (x24 : (Int × List Int × Int)) (x35 : Int) (x36 : Int) (x37 : Int) : Option Bool :=
  ((M_R_UnaryMany F x7).bind fun x38 => ((M_R_UnaryAll F x2 x3 x10).bind fun x42 => ((M_L_unaryBegun F).bind fun x45 => (if x45 then ((M_R_SameBits F x12.1 x12.2.1 x24.1 x24.2.1).bind fun x64 => M_L_UnaryTells_j2 F x12 x16 x17 x21 x24 x35 x36 x37 x38 x42 x64) else M_L_UnaryTells_j2 F x12 x16 x17 x21 x24 x35 x36 x37 x38 x42 false))))
def M_L_UnaryTells (F : Nat) (x1 : Int) (x2 : Int) (x3 : List Int) (x6 : Int) (x7 : List Int) (x10 : Int) : Option Bool :=
  ((M_unary_Code F x1).bind fun x12 => ((M_unary_Read F x2 x3 x6).bind fun x16 => ((M_unary_Many F x7).bind fun x17 => ((M_unary_All F x2 x3 x10).bind fun x21 => ((M_R_UnaryCode F x1).bind fun x24 => ((M_R_ReadErr F x2 x3 x6).bind fun x28 => (if ((x28 : Int) == 0) then ((M_R_BitList F x2 x3).bind fun x65 => ((M_R_UnaryRead F x65 x6).bind fun x68 => (if (decide (x68.2 < 0)) then M_L_UnaryTells_j1 F x2 x3 x7 x10 x12 x16 x17 x21 x24 7 x68.1 0 else M_L_UnaryTells_j1 F x2 x3 x7 x10 x12 x16 x17 x21 x24 x28 x68.1 x68.2))) else M_L_UnaryTells_j1 F x2 x3 x7 x10 x12 x16 x17 x21 x24 x28 0 0)))))))
/-! lampwright lampwrightlaw.UnaryBack -/
def M_L_UnaryBack_j2 (_F : Nat) (x16 : Bool) : Option Bool :=
  some x16
def M_L_UnaryBack (F : Nat) (x1 : Int) : Option Bool :=
  ((M_unary_Code F x1).bind fun x2 => ((M_L_unaryBegun F).bind fun x8 => (if (!x8) then some false else (if ((x2.2.2 : Int) != 0) then (if (decide (8192 ≤ x1)) then ((M_R_SameBits F x2.1 x2.2.1 0 ([] : List Int)).bind fun x17 => M_L_UnaryBack_j2 F x17) else M_L_UnaryBack_j2 F false) else ((M_unary_Read F x2.1 x2.2.1 0).bind fun x18 => some (((((x18.2.2 : Int) == 0) && ((x18.1 : Int) == x1)) && ((x18.2.1 : Int) == x2.1)) && (((iconv .u64 x2.1) : Int) == (iadd .u64 x1 1))))))))
/-! lampwright bits.Cut -/
def M_bits_Cut_r4 (F : Nat) (x51 : Int) (x54 : List Int) (x59 : Int) : Option ((Int × List Int) ⊕ Empty) :=
  ((M_bits_writer_bit F x51 x54 x59).bind fun x60 => some (.inl (x60.1, x60.2)))
def M_bits_Cut_j2 (F : Nat) (x1 : Int) (x2 : List Int) (x5 : Int) (x6 : Int) (x19 : Int) : Option (Int × List Int × Int) :=
  (if ((x19 : Int) != 0) then some (0, ([] : List Int), x19) else ((M_bits_places F x1 x2 x5 x6).bind fun _x43 => ((M_bits_places_1 F (fun ((x51, x54) : (Int × List Int)) (x59 : Int) => M_bits_Cut_r4 F x51 x54 x59) x5 x6 x1 x2 (0, ([] : List Int))).bind (Sum.elim (fun ((x51, x54) : (Int × List Int)) => some (x51, x54, 0)) (fun t => t.elim)))))
def M_bits_Cut_j5 (F : Nat) (x1 : Int) (x2 : List Int) (x5 : Int) (x6 : Int) (x9 : Int) (x68 : Bool) : Option (Int × List Int × Int) :=
  (if x68 then M_bits_Cut_j2 F x1 x2 x5 x6 3 else M_bits_Cut_j2 F x1 x2 x5 x6 x9)
def M_bits_Cut (F : Nat) (x1 : Int) (x2 : List Int) (x5 : Int) (x6 : Int) : Option (Int × List Int × Int) :=
  ((M_bits_Check F x1 x2).bind fun x9 => (if ((x9 : Int) == 0) then M_bits_Cut_j5 F x1 x2 x5 x6 x9 ((((decide (x5 < 0)) || (decide (x1 < x5))) || (decide (x6 < x5))) || (decide (x1 < x6))) else M_bits_Cut_j5 F x1 x2 x5 x6 x9 false))
/-! lampwright bits.Join -/
def M_bits_Join_j2 (F : Nat) (x1 : Int) (x2 : List Int) (x5 : Int) (x6 : List Int) (x18 : Int) : Option (Int × List Int × Int) :=
  (if ((x18 : Int) != 0) then some (0, ([] : List Int), x18) else ((M_bits_Both F x1 x2 x5 x6).bind fun x20 => some (x20.1, x20.2, 0)))
def M_bits_Join_j1 (F : Nat) (x1 : Int) (x2 : List Int) (x5 : Int) (x6 : List Int) (x15 : Int) : Option (Int × List Int × Int) :=
  (if (((x15 : Int) == 0) && (decide (8192 < (iadd .i64 x1 x5)))) then M_bits_Join_j2 F x1 x2 x5 x6 8 else M_bits_Join_j2 F x1 x2 x5 x6 x15)
def M_bits_Join (F : Nat) (x1 : Int) (x2 : List Int) (x5 : Int) (x6 : List Int) : Option (Int × List Int × Int) :=
  ((M_bits_Check F x1 x2).bind fun x12 => (if ((x12 : Int) == 0) then ((M_bits_Check F x5 x6).bind fun x26 => M_bits_Join_j1 F x1 x2 x5 x6 x26) else M_bits_Join_j1 F x1 x2 x5 x6 x12))
/-! lampwright bits.Read -/
def M_bits_Read_j2 (_F : Nat) (x24 : Int) : Option (Int × Bool) :=
  some (x24, true)
def M_bits_Read_b3 (F : Nat) (x1 : Int) (x2 : List Int) (x5 : Int) (x6 : Int) (rec3 : (Int × Int) → Option (Int × Bool)) (x29 : Int) (x30 : Int) : Option (Int × Bool) :=
  (if (decide (x30 < x6)) then ((M_bits_At F x1 x2 (iadd .i64 x5 x30)).bind fun x38 => rec3 (ior .u64 (ishl .u64 x29 1) x38, iadd .i64 x30 1)) else M_bits_Read_j2 F x29)
def M_bits_Read_l3 (F : Nat) (x1 : Int) (x2 : List Int) (x5 : Int) (x6 : Int) : Nat → (Int × Int) → Option (Int × Bool)
  | 0 => fun _ => none
  | k + 1 => fun s => M_bits_Read_b3 F x1 x2 x5 x6 (M_bits_Read_l3 F x1 x2 x5 x6 k) s.1 s.2
def M_bits_Read (F : Nat) (x1 : Int) (x2 : List Int) (x5 : Int) (x6 : Int) : Option (Int × Bool) :=
  (if (decide ((isub .i64 x1 x5) < x6)) then some (0, false) else M_bits_Read_l3 F x1 x2 x5 x6 F (0, 0))
/-! lampwright bits.Get -/
def M_bits_Get_j2 (F : Nat) (x1 : Int) (x2 : List Int) (x5 : Int) (x6 : Int) (x18 : Int) : Option (Int × Int) :=
  (if ((x18 : Int) != 0) then some (0, x18) else ((M_bits_Read F x1 x2 x5 x6).bind fun x20 => (if (!x20.2) then some (0, 7) else some (x20.1, 0))))
def M_bits_Get_j3 (F : Nat) (x1 : Int) (x2 : List Int) (x5 : Int) (x6 : Int) (x8 : Int) (x28 : Bool) : Option (Int × Int) :=
  (if x28 then M_bits_Get_j2 F x1 x2 x5 x6 3 else M_bits_Get_j2 F x1 x2 x5 x6 x8)
def M_bits_Get (F : Nat) (x1 : Int) (x2 : List Int) (x5 : Int) (x6 : Int) : Option (Int × Int) :=
  ((M_bits_Check F x1 x2).bind fun x8 => (if ((x8 : Int) == 0) then M_bits_Get_j3 F x1 x2 x5 x6 x8 ((((decide (x6 < 0)) || (decide (64 < x6))) || (decide (x5 < 0))) || (decide (x1 < x5))) else M_bits_Get_j3 F x1 x2 x5 x6 x8 false))
/-! lampwright bits.Put -/
def M_bits_Put_j4 (F : Nat) (x1 : Int) (x2 : List Int) (x5 : Int) (x6 : Int) (x24 : Int) : Option (Int × List Int × Int) :=
  (if ((x24 : Int) != 0) then some (0, ([] : List Int), x24) else ((M_bits_Add F x1 x2 x5 x6).bind fun x26 => some (x26.1, x26.2, 0)))
def M_bits_Put_j6 (F : Nat) (x1 : Int) (x2 : List Int) (x5 : Int) (x6 : Int) (x9 : Int) (x36 : Bool) : Option (Int × List Int × Int) :=
  (if x36 then M_bits_Put_j4 F x1 x2 x5 x6 3 else (if (decide (8192 < (iadd .i64 x1 x6))) then M_bits_Put_j4 F x1 x2 x5 x6 8 else M_bits_Put_j4 F x1 x2 x5 x6 x9))
def M_bits_Put_j7 (F : Nat) (x1 : Int) (x2 : List Int) (x5 : Int) (x6 : Int) (x9 : Int) (x41 : Bool) : Option (Int × List Int × Int) :=
  M_bits_Put_j6 F x1 x2 x5 x6 x9 x41
def M_bits_Put (F : Nat) (x1 : Int) (x2 : List Int) (x5 : Int) (x6 : Int) : Option (Int × List Int × Int) :=
  ((M_bits_Check F x1 x2).bind fun x9 => (if ((x9 : Int) != 0) then M_bits_Put_j4 F x1 x2 x5 x6 x9 else (if ((decide (x6 < 0)) || (decide (64 < x6))) then M_bits_Put_j6 F x1 x2 x5 x6 x9 true else (if (decide (x6 < 64)) then (chk (decide (0 ≤ x6)) (M_bits_Put_j7 F x1 x2 x5 x6 x9 (((ishr .u64 x5 x6) : Int) != 0))) else M_bits_Put_j7 F x1 x2 x5 x6 x9 false))))
/-! lampwright lampwrightlaw.bitsBegun -/
def M_L_bitsBegun_j3 (_F : Nat) (x42 : Bool) : Option Bool :=
  some x42
def M_L_bitsBegun_j2 (F : Nat) (x14 : (Int × List Int × Int)) (x18 : (Int × Int)) (x35 : Bool) : Option Bool :=
  (if ((x35 && ((x14.2.2 : Int) == 0)) && ((x18.2 : Int) == 7)) then ((M_bits_Check F 3 ([1] : List Int)).bind fun x45 => M_L_bitsBegun_j3 F ((x45 : Int) == 1)) else M_L_bitsBegun_j3 F false)
def M_L_bitsBegun_j1 (F : Nat) (x1 : (Int × List Int × Int)) (x5 : (Int × List Int × Int)) (x9 : (Int × Int)) (x10 : (Int × List Int × Int)) (x14 : (Int × List Int × Int)) (x18 : (Int × Int)) (x27 : Bool) : Option Bool :=
  (if (((((x27 && ((x5.2.2 : Int) == 0)) && ((x9.1 : Int) == 9)) && ((x9.2 : Int) == 0)) && ((x10.1 : Int) == 13)) && ((x10.2.2 : Int) == 0)) then ((M_R_SameBits F x14.1 x14.2.1 x1.1 x1.2.1).bind fun x46 => M_L_bitsBegun_j2 F x14 x18 x46) else M_L_bitsBegun_j2 F x14 x18 false)
def M_L_bitsBegun (F : Nat)  : Option Bool :=
  ((M_bits_Put F 0 ([] : List Int) 5 3).bind fun x1 => ((M_bits_Put F x1.1 x1.2.1 9 7).bind fun x5 => ((M_bits_Get F x5.1 x5.2.1 3 7).bind fun x9 => ((M_bits_Join F x1.1 x1.2.1 x5.1 x5.2.1).bind fun x10 => ((M_bits_Cut F x5.1 x5.2.1 0 3).bind fun x14 => ((M_bits_Get F x5.1 x5.2.1 9 2).bind fun x18 => ((M_R_SameBits F x1.1 x1.2.1 3 ([160] : List Int)).bind fun x21 => (if (x21 && ((x1.2.2 : Int) == 0)) then ((M_R_SameBits F x5.1 x5.2.1 10 ([162, 64] : List Int)).bind fun x49 => M_L_bitsBegun_j1 F x1 x5 x9 x10 x14 x18 x49) else M_L_bitsBegun_j1 F x1 x5 x9 x10 x14 x18 false))))))))
/-! lampwright lampwrightlaw.UnaryMany -/
def M_L_UnaryMany_j5 (_F : Nat) (x51 : Bool) : Option Bool :=
  some x51
def M_L_UnaryMany_j4 (F : Nat) (x4 : Int) (x5 : List Int) (x14 : (List Int × Int × Int)) : Option Bool :=
  (if ((x14.2.2 : Int) != 0) then some ((((x14.1.length : Int) : Int) == 0) && ((x14.2.1 : Int) == 0)) else ((M_unary_Many F x14.1).bind fun x40 => ((M_bits_Cut F x4 x5 0 x14.2.1).bind fun x44 => (if (((x40.2.2 : Int) == 0) && ((x44.2.2 : Int) == 0)) then ((M_R_SameBits F x40.1 x40.2.1 x44.1 x44.2.1).bind fun x52 => M_L_UnaryMany_j5 F x52) else M_L_UnaryMany_j5 F false))))
def M_L_UnaryMany_j6 (F : Nat) (x4 : Int) (x5 : List Int) (x10 : (Int × List Int × Int)) (x14 : (List Int × Int × Int)) (x54 : (List Int × Int × Int)) (x59 : Bool) : Option Bool :=
  (if (x59 || ((x54.2.1 : Int) != x10.1)) then some false else M_L_UnaryMany_j4 F x4 x5 x14)
def M_L_UnaryMany_j2 (F : Nat) (x1 : List Int) (x4 : Int) (x5 : List Int) (x10 : (Int × List Int × Int)) (x14 : (List Int × Int × Int)) (x26 : Bool) : Option Bool :=
  (if x26 then some false else (if ((x10.2.2 : Int) == 0) then ((M_unary_All F x10.1 x10.2.1 (x1.length : Int)).bind fun x54 => (if ((x54.2.2 : Int) != 0) then M_L_UnaryMany_j6 F x4 x5 x10 x14 x54 true else ((M_R_SameNums F x54.1 x1).bind fun x62 => M_L_UnaryMany_j6 F x4 x5 x10 x14 x54 (!x62)))) else M_L_UnaryMany_j4 F x4 x5 x14))
def M_L_UnaryMany (F : Nat) (x1 : List Int) (x4 : Int) (x5 : List Int) (x8 : Int) : Option Bool :=
  ((M_unary_Many F x1).bind fun x10 => ((M_unary_All F x4 x5 x8).bind fun x14 => ((M_L_unaryBegun F).bind fun x23 => (if (!x23) then M_L_UnaryMany_j2 F x1 x4 x5 x10 x14 true else ((M_L_bitsBegun F).bind fun x65 => M_L_UnaryMany_j2 F x1 x4 x5 x10 x14 (!x65))))))
/-! lampwright lampwrightlaw.UnaryApart -/
def M_L_UnaryApart_j3 (_F : Nat) (x32 : Bool) : Option Bool :=
  some x32
def M_L_UnaryApart_j2 (F : Nat) (x1 : Int) (x2 : Int) (x3 : (Int × List Int × Int)) (x7 : (Int × List Int × Int)) (x20 : Bool) : Option Bool :=
  (if x20 then some false else (if ((((x3.2.2 : Int) != 0) || ((x7.2.2 : Int) != 0)) || (decide (x2 ≤ x1))) then some true else ((M_bits_Cut F x7.1 x7.2.1 0 x3.1).bind fun x26 => (if ((x26.2.2 : Int) == 0) then ((M_R_SameBits F x26.1 x26.2.1 x3.1 x3.2.1).bind fun x33 => M_L_UnaryApart_j3 F (!x33)) else M_L_UnaryApart_j3 F false))))
def M_L_UnaryApart (F : Nat) (x1 : Int) (x2 : Int) : Option Bool :=
  ((M_unary_Code F x1).bind fun x3 => ((M_unary_Code F x2).bind fun x7 => ((M_L_unaryBegun F).bind fun x17 => (if (!x17) then M_L_UnaryApart_j2 F x1 x2 x3 x7 true else ((M_L_bitsBegun F).bind fun x36 => M_L_UnaryApart_j2 F x1 x2 x3 x7 (!x36))))))
/-! lampwright lampwrightlaw.UnaryJoins -/
def M_L_UnaryJoins_j4 (_F : Nat) (x34 : Bool) : Option Bool :=
  some x34
def M_L_UnaryJoins_j7 (_F : Nat) (x1 : List Int) (x82 : Int) (x85 : Bool) : Option Bool :=
  some (x85 && ((x82 : Int) == (x1.length : Int)))
def M_L_UnaryJoins_j6 (F : Nat) (x1 : List Int) (x44 : (Int × List Int × Int)) (x48 : (Int × List Int × Int)) (x82 : Int) : Option Bool :=
  (if ((x44.2.2 : Int) == x48.2.2) then ((M_R_SameBits F x44.1 x44.2.1 x48.1 x48.2.1).bind fun x87 => M_L_UnaryJoins_j7 F x1 x82 x87) else M_L_UnaryJoins_j7 F x1 x82 false)
def M_L_UnaryJoins_b8 (F : Nat) (x1 : List Int) (x44 : (Int × List Int × Int)) (x48 : (Int × List Int × Int)) (x88 : List Int) (rec8 : (Int × Int) → Option Bool) (x99 : Int) (x100 : Int) : Option Bool :=
  (if (decide (x100 < (x88.length : Int))) then ((idx x88 x100).bind fun x114 => rec8 (iadd .i64 x99 x114, iadd .i64 x100 1)) else M_L_UnaryJoins_j6 F x1 x44 x48 x99)
def M_L_UnaryJoins_l8 (F : Nat) (x1 : List Int) (x44 : (Int × List Int × Int)) (x48 : (Int × List Int × Int)) (x88 : List Int) : Nat → (Int × Int) → Option Bool
  | 0 => fun _ => none
  | k + 1 => fun s => M_L_UnaryJoins_b8 F x1 x44 x48 x88 (M_L_UnaryJoins_l8 F x1 x44 x48 x88 k) s.1 s.2
def M_L_UnaryJoins_j2 (F : Nat) (x1 : List Int) (x4 : List Int) (x7 : (Int × List Int × Int)) (x11 : (Int × List Int × Int)) (x24 : Bool) : Option Bool :=
  (if x24 then some false else (if (((x7.2.2 : Int) != 0) || ((x11.2.2 : Int) != 0)) then (if ((x7.2.2 : Int) == 0) then M_L_UnaryJoins_j4 F true else ((M_R_SameBits F x7.1 x7.2.1 0 ([] : List Int)).bind fun x35 => M_L_UnaryJoins_j4 F x35)) else ((app 8796093022208 ([] : List Int) x1).bind fun x38 => ((app 8796093022208 x38 x4).bind fun x41 => ((M_unary_Many F x41).bind fun x44 => ((M_bits_Join F x7.1 x7.2.1 x11.1 x11.2.1).bind fun x48 => ((M_R_BitList F x7.1 x7.2.1).bind fun x88 => M_L_UnaryJoins_l8 F x1 x44 x48 x88 F (0, 0))))))))
def M_L_UnaryJoins (F : Nat) (x1 : List Int) (x4 : List Int) : Option Bool :=
  ((M_unary_Many F x1).bind fun x7 => ((M_unary_Many F x4).bind fun x11 => ((M_L_unaryBegun F).bind fun x21 => (if (!x21) then M_L_UnaryJoins_j2 F x1 x4 x7 x11 true else ((M_L_bitsBegun F).bind fun x120 => M_L_UnaryJoins_j2 F x1 x4 x7 x11 (!x120))))))
/-! lampwright lampwrightlaw.RankBack -/
def M_L_RankBack_j4 (F : Nat) (x1 : Int) (x2 : List Int) (x6 : Int) : Option Bool :=
  ((M_rank_Rank F x1 x2 x6).bind fun x34 => ((M_bits_Get F x1 x2 x6 1).bind fun x35 => (if (((x34.2 : Int) != 0) || ((x35.2 : Int) != 0)) then some true else (if ((x35.1 : Int) == 1) then ((M_rank_Select F x1 x2 1 x34.1).bind fun x42 => some (((x42.2 : Int) == 0) && ((x42.1 : Int) == x6))) else ((M_rank_Select F x1 x2 0 (isub .i64 x6 x34.1)).bind fun x44 => some (((x44.2 : Int) == 0) && ((x44.1 : Int) == x6)))))))
def M_L_RankBack_j3 (F : Nat) (x1 : Int) (x2 : List Int) (x5 : Int) (x6 : Int) (x9 : (Int × Int)) : Option Bool :=
  (if ((x9.2 : Int) == 0) then ((M_rank_Rank F x1 x2 x9.1).bind fun x48 => ((M_bits_Get F x1 x2 x9.1 1).bind fun x49 => (if (((((x48.2 : Int) != 0) || ((x49.2 : Int) != 0)) || (((isub .i64 x9.1 x48.1) : Int) != x5)) || ((x49.1 : Int) != 0)) then some false else M_L_RankBack_j4 F x1 x2 x6))) else M_L_RankBack_j4 F x1 x2 x6)
def M_L_RankBack_j2 (F : Nat) (x1 : Int) (x2 : List Int) (x5 : Int) (x6 : Int) (x8 : (Int × Int)) (x9 : (Int × Int)) (x19 : Bool) : Option Bool :=
  (if x19 then some false else (if ((x8.2 : Int) == 0) then ((M_rank_Rank F x1 x2 x8.1).bind fun x55 => ((M_bits_Get F x1 x2 x8.1 1).bind fun x56 => (if (((((x55.2 : Int) != 0) || ((x56.2 : Int) != 0)) || ((x55.1 : Int) != x5)) || ((x56.1 : Int) != 1)) then some false else M_L_RankBack_j3 F x1 x2 x5 x6 x9))) else M_L_RankBack_j3 F x1 x2 x5 x6 x9))
def M_L_RankBack (F : Nat) (x1 : Int) (x2 : List Int) (x5 : Int) (x6 : Int) : Option Bool :=
  ((M_rank_Select F x1 x2 1 x5).bind fun x8 => ((M_rank_Select F x1 x2 0 x5).bind fun x9 => ((M_L_rankBegun F).bind fun x16 => (if (!x16) then M_L_RankBack_j2 F x1 x2 x5 x6 x8 x9 true else ((M_L_bitsBegun F).bind fun x63 => M_L_RankBack_j2 F x1 x2 x5 x6 x8 x9 (!x63))))))
/-! lampwright lampwrightlaw.RankParts -/
def M_L_RankParts_j2 (F : Nat) (x1 : Int) (x2 : List Int) (x5 : Int) (x6 : List Int) (x9 : Int) (x12 : (Int × List Int × Int)) (x25 : Bool) : Option Bool :=
  (if x25 then some false else (if ((((x12.2.2 : Int) != 0) || (decide (x9 < 0))) || (decide (x5 < x9))) then some true else ((M_rank_Rank F x1 x2 x1).bind fun x31 => ((M_rank_Rank F x5 x6 x9).bind fun x32 => ((M_rank_Rank F x12.1 x12.2.1 (iadd .i64 x1 x9)).bind fun x33 => some ((((((x31.2 : Int) == 0) && ((x32.2 : Int) == 0)) && ((x33.2 : Int) == 0)) && ((x33.1 : Int) == (iadd .i64 x31.1 x32.1))) && (decide (x32.1 ≤ x9))))))))
def M_L_RankParts (F : Nat) (x1 : Int) (x2 : List Int) (x5 : Int) (x6 : List Int) (x9 : Int) : Option Bool :=
  ((M_bits_Join F x1 x2 x5 x6).bind fun x12 => ((M_L_rankBegun F).bind fun x22 => (if (!x22) then M_L_RankParts_j2 F x1 x2 x5 x6 x9 x12 true else ((M_L_bitsBegun F).bind fun x40 => M_L_RankParts_j2 F x1 x2 x5 x6 x9 x12 (!x40)))))
/-! lampwright lampwrightlaw.RankEnds -/
def M_L_RankEnds_j2 (F : Nat) (x1 : Int) (x2 : List Int) (x5 : Int) (x16 : Bool) : Option Bool :=
  (if x16 then some false else ((M_bits_Check F x1 x2).bind fun x19 => (if ((x19 : Int) != 0) then some true else ((M_rank_Rank F x1 x2 0).bind fun x20 => ((M_rank_Rank F x1 x2 x1).bind fun x21 => ((M_rank_Select F x1 x2 1 x21.1).bind fun x22 => ((M_rank_Select F x1 x2 0 (isub .i64 x1 x21.1)).bind fun x23 => (if ((((((x20.2 : Int) != 0) || ((x20.1 : Int) != 0)) || ((x21.2 : Int) != 0)) || ((x22.2 : Int) != 5)) || ((x23.2 : Int) != 5)) then some false else (if ((decide (x5 < 0)) || (decide (x1 ≤ x5))) then some true else ((M_rank_Rank F x1 x2 x5).bind fun x36 => ((M_rank_Rank F x1 x2 (iadd .i64 x5 1)).bind fun x37 => ((M_bits_Get F x1 x2 x5 1).bind fun x38 => some (((((x36.2 : Int) == 0) && ((x37.2 : Int) == 0)) && ((x38.2 : Int) == 0)) && ((x37.1 : Int) == (iadd .i64 x36.1 (iconv .i64 x38.1))))))))))))))))
def M_L_RankEnds (F : Nat) (x1 : Int) (x2 : List Int) (x5 : Int) : Option Bool :=
  ((M_L_rankBegun F).bind fun x13 => (if (!x13) then M_L_RankEnds_j2 F x1 x2 x5 true else ((M_L_bitsBegun F).bind fun x46 => M_L_RankEnds_j2 F x1 x2 x5 (!x46))))
end Go.Proofs.Ytbdfbheddihefaa
