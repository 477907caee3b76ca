/- What each Go function of this seat computes, in plain terms. -/
import Derived.Test.YtbdaopnokonmpaaSx
namespace Go.Proofs.Ytbdaopnokonmpaa
open Go SX
/-! lampwright varint.Add -/
def M_varint_Add_j2 (_F : Nat) (x48 : List Int) (x49 : Int) : Option (List Int) :=
  ((app 70368744177664 x48 ([iconv .u8 x49] : List Int)).bind fun x52 => some x52)
def M_varint_Add_b3 (F : Nat) (rec3 : (List Int × Int) → Option (List Int)) (x69 : List Int) (x70 : Int) : Option (List Int) :=
  (if (decide (128 ≤ x70)) then ((app 70368744177664 x69 ([ior .u8 (iconv .u8 x70) 128] : List Int)).bind fun x92 => rec3 (x92, ishr .u64 x70 7)) else M_varint_Add_j2 F x69 x70)
def M_varint_Add_l3 (F : Nat) : Nat → (List Int × Int) → Option (List Int)
  | 0 => fun _ => none
  | k + 1 => fun s => M_varint_Add_b3 F (M_varint_Add_l3 F k) s.1 s.2
def M_varint_Add (F : Nat) (x1 : List Int) (x4 : Int) : Option (List Int) :=
  M_varint_Add_l3 F F (x1, x4)
/-! lampwright varint.Write -/
def M_varint_Write_j2 (_F : Nat) (x59 : List Int) : Option (List Int × Int) :=
  some (x59, 0)
def M_varint_Write_b3 (F : Nat) (x1 : List Int) (rec3 : (List Int × Int) → Option (List Int × Int)) (x78 : List Int) (x79 : Int) : Option (List Int × Int) :=
  (if (decide (x79 < (x1.length : Int))) then ((idx x1 x79).bind fun x105 => ((M_varint_Add F x78 x105).bind fun x108 => (if (decide (4096 < (x108.length : Int))) then some (([] : List Int), 2) else rec3 (x108, iadd .i64 x79 1)))) else M_varint_Write_j2 F x78)
def M_varint_Write_l3 (F : Nat) (x1 : List Int) : Nat → (List Int × Int) → Option (List Int × Int)
  | 0 => fun _ => none
  | k + 1 => fun s => M_varint_Write_b3 F x1 (M_varint_Write_l3 F x1 k) s.1 s.2
def M_varint_Write (F : Nat) (x1 : List Int) : Option (List Int × Int) :=
  M_varint_Write_l3 F x1 F (([] : List Int), 0)
/-! lampwright varint.From -/
def M_varint_From_b1 (_F : Nat) (x1 : List Int) (x4 : Int) (rec1 : (Int × Int) → Option (Int × Int × Int)) (x37 : Int) (x38 : Int) : Option (Int × Int × Int) :=
  (if (decide ((x1.length : Int) ≤ (iadd .i64 x4 x38))) then some (0, 0, 7) else ((idx x1 (iadd .i64 x4 x38)).bind fun x89 => (if (((x38 : Int) == 9) && (decide (1 < x89))) then some (0, 0, 3) else (if ((decide (0 < x38)) && ((x89 : Int) == 0)) then some (0, 0, 1) else (chk (decide (0 ≤ (imul .i64 7 x38))) ((lett (ior .u64 x37 (ishl .u64 (iconv .u64 (iand .u8 x89 127)) (imul .i64 7 x38))) fun x99 => (if (decide (x89 < 128)) then some (x99, iadd .i64 (iadd .i64 x4 x38) 1, 0) else rec1 (x99, iadd .i64 x38 1)))))))))
def M_varint_From_l1 (F : Nat) (x1 : List Int) (x4 : Int) : Nat → (Int × Int) → Option (Int × Int × Int)
  | 0 => fun _ => none
  | k + 1 => fun s => M_varint_From_b1 F x1 x4 (M_varint_From_l1 F x1 x4 k) s.1 s.2
def M_varint_From (F : Nat) (x1 : List Int) (x4 : Int) : Option (Int × Int × Int) :=
  M_varint_From_l1 F x1 x4 F (0, 0)
/-! lampwright varint.Read -/
def M_varint_Read (F : Nat) (x1 : List Int) (x4 : Int) : Option (Int × Int × Int) :=
  (if (decide (4096 < (x1.length : Int))) then some (0, 0, 2) else (if ((decide (x4 < 0)) || (decide ((x1.length : Int) < x4))) then some (0, 0, 3) else ((M_varint_From F x1 x4).bind fun x9 => some (x9.1, x9.2.1, x9.2.2))))
/-! lampwright varint.each -/
def M_varint_each (_F : Nat) (_x1 : List Int) : Option Unit :=
  some ()
/-! lampwright varint.each$1 -/
def M_varint_each_1_b1 {σ τ : Type} (F : Nat) (yy : σ → (Int × Int) → Option (σ ⊕ τ)) (x2 : List Int) (rec1 : (Int × σ) → Option (σ ⊕ τ)) (x18 : Int) (x19 : σ) : Option (σ ⊕ τ) :=
  (if (decide (x18 < (x2.length : Int))) then ((M_varint_From F x2 x18).bind fun x36 => ((yy x19 (x36.1, x36.2.2)).bind (Sum.elim (fun x42 => (if ((x36.2.2 : Int) != 0) then some (.inl x42) else rec1 (x36.2.1, x42))) (fun x43 => some (.inr x43))))) else some (.inl x19))
def M_varint_each_1_l1 {σ τ : Type} (F : Nat) (yy : σ → (Int × Int) → Option (σ ⊕ τ)) (x2 : List Int) : Nat → (Int × σ) → Option (σ ⊕ τ)
  | 0 => fun _ => none
  | k + 1 => fun s => M_varint_each_1_b1 F yy x2 (M_varint_each_1_l1 F yy x2 k) s.1 s.2
def M_varint_each_1 {σ τ : Type} (F : Nat) (yy : σ → (Int × Int) → Option (σ ⊕ τ)) (x2 : List Int) (s0 : σ) : Option (σ ⊕ τ) :=
  M_varint_each_1_l1 F yy x2 F (0, s0)
/-! lampwright varint.All -/
def M_varint_All_r2 (_F : Nat) (x57 : List Int) (x71 : Int) (x72 : Int) : Option (List Int ⊕ (List Int × Int)) :=
  (if ((x72 : Int) != 0) then some (.inr (x57, x72)) else ((app 8796093022208 x57 ([x71] : List Int)).bind fun x76 => some (.inl x76)))
def M_varint_All (F : Nat) (x1 : List Int) : Option (List Int × Int) :=
  (if (decide (4096 < (x1.length : Int))) then some (([] : List Int), 2) else ((M_varint_each F x1).bind fun _x44 => ((M_varint_each_1 F (fun (x57 : List Int) ((x71, x72) : (Int × Int)) => M_varint_All_r2 F x57 x71 x72) x1 ([] : List Int)).bind (Sum.elim (fun (x57 : List Int) => some (x57, 0)) (fun ((_x69, x70) : (List Int × Int)) => some (([] : List Int), x70))))))
/-! lampwright lampwrightref.VarintBytes -/
def M_R_VarintBytes : Nat → Int → Option (List Int)
  | 0 => fun _ => none
  | F + 1 => fun x1 =>
    let self := M_R_VarintBytes F
    (if (decide (x1 < 128)) then some ([iconv .u8 x1] : List Int) else ((self (iquo .u64 x1 128)).bind fun x9 => ((app 70368744177664 ([iconv .u8 (iadd .u64 (irem x1 128) 128)] : List Int) x9).bind fun x12 => some x12)))
/-! lampwright lampwrightref.VarintRead -/
def M_R_VarintRead_j2 (_F : Nat) : Option (Int × Int × Int) :=
  some (0, 0, 7)
def M_R_VarintRead_b3 (F : Nat) (x1 : List Int) (x4 : Int) (rec3 : (Int × Int × Int) → Option (Int × Int × Int)) (x129 : Int) (x130 : Int) (x131 : Int) : Option (Int × Int × Int) :=
  (if (decide (x131 < (x1.length : Int))) then ((idx x1 x131).bind fun x178 => (if ((((isub .i64 x131 x4) : Int) == 9) && (decide (1 < (iconv .u64 x178)))) then some (0, 0, 3) else (if ((decide (x4 < x131)) && (((iconv .u64 x178) : Int) == 0)) then some (0, 0, 1) else (lett (iadd .u64 x129 (imul .u64 (irem (iconv .u64 x178) 128) x130)) fun x187 => (if (decide ((iconv .u64 x178) < 128)) then some (x187, iadd .i64 x131 1, 0) else rec3 (x187, imul .u64 x130 128, iadd .i64 x131 1)))))) else M_R_VarintRead_j2 F)
def M_R_VarintRead_l3 (F : Nat) (x1 : List Int) (x4 : Int) : Nat → (Int × Int × Int) → Option (Int × Int × Int)
  | 0 => fun _ => none
  | k + 1 => fun s => M_R_VarintRead_b3 F x1 x4 (M_R_VarintRead_l3 F x1 x4 k) s.1 s.2.1 s.2.2
def M_R_VarintRead (F : Nat) (x1 : List Int) (x4 : Int) : Option (Int × Int × Int) :=
  M_R_VarintRead_l3 F x1 x4 F (0, 1, x4)
/-! lampwright lampwrightref.VarintAll -/
def M_R_VarintAll_j2 (_F : Nat) (x42 : List Int) : Option (List Int × Int) :=
  some (x42, 0)
def M_R_VarintAll_b3 (F : Nat) (x1 : List Int) (rec3 : (List Int × Int) → Option (List Int × Int)) (x55 : List Int) (x56 : Int) : Option (List Int × Int) :=
  (if (decide (x56 < (x1.length : Int))) then ((M_R_VarintRead F x1 x56).bind fun x69 => (if ((x69.2.2 : Int) != 0) then some (([] : List Int), x69.2.2) else ((app 8796093022208 x55 ([x69.1] : List Int)).bind fun x73 => rec3 (x73, x69.2.1)))) else M_R_VarintAll_j2 F x55)
def M_R_VarintAll_l3 (F : Nat) (x1 : List Int) : Nat → (List Int × Int) → Option (List Int × Int)
  | 0 => fun _ => none
  | k + 1 => fun s => M_R_VarintAll_b3 F x1 (M_R_VarintAll_l3 F x1 k) s.1 s.2
def M_R_VarintAll (F : Nat) (x1 : List Int) : Option (List Int × Int) :=
  (if (decide (4096 < (x1.length : Int))) then some (([] : List Int), 2) else M_R_VarintAll_l3 F x1 F (([] : List Int), 0))
/-! lampwright varint.Fold -/
def M_varint_Fold (_F : Nat) (x1 : Int) : Option Int :=
  (lett (ixor .u64 (ishl .u64 (iconv .u64 x1) 1) (iconv .u64 (ishr .i64 x1 63))) fun x2 => some x2)
/-! lampwright varint.Unfold -/
def M_varint_Unfold (_F : Nat) (x1 : Int) : Option Int :=
  (lett (ixor .i64 (iconv .i64 (ishr .u64 x1 1)) (isub .i64 0 (iconv .i64 (iand .u64 x1 1)))) fun x2 => some x2)
/-! lampwright lampwrightref.SameBytes -/
def M_R_SameBytes_j2 (_F : Nat) : Option Bool :=
  some true
def M_R_SameBytes_b3 (F : Nat) (x1 : List Int) (x4 : List Int) (rec3 : Int → Option Bool) (x154 : Int) : Option Bool :=
  (if (decide (x154 < (x1.length : Int))) then ((idx x1 x154).bind fun x218 => ((idx x4 x154).bind fun x222 => (if ((x218 : Int) != x222) then some false else rec3 (iadd .i64 x154 1)))) else M_R_SameBytes_j2 F)
def M_R_SameBytes_l3 (F : Nat) (x1 : List Int) (x4 : List Int) : Nat → Int → Option Bool
  | 0 => fun _ => none
  | k + 1 => fun s => M_R_SameBytes_b3 F x1 x4 (M_R_SameBytes_l3 F x1 x4 k) s
def M_R_SameBytes (F : Nat) (x1 : List Int) (x4 : List Int) : Option Bool :=
  (if (((x1.length : Int) : Int) != (x4.length : Int)) then some false else M_R_SameBytes_l3 F x1 x4 F 0)
/-! lampwright lampwrightref.SameNums -/
def M_R_SameNums_j2 (_F : Nat) : Option Bool :=
  some true
def M_R_SameNums_b3 (F : Nat) (x1 : List Int) (x4 : List Int) (rec3 : Int → Option Bool) (x154 : Int) : Option Bool :=
  (if (decide (x154 < (x1.length : Int))) then ((idx x1 x154).bind fun x218 => ((idx x4 x154).bind fun x222 => (if ((x218 : Int) != x222) then some false else rec3 (iadd .i64 x154 1)))) else M_R_SameNums_j2 F)
def M_R_SameNums_l3 (F : Nat) (x1 : List Int) (x4 : List Int) : Nat → Int → Option Bool
  | 0 => fun _ => none
  | k + 1 => fun s => M_R_SameNums_b3 F x1 x4 (M_R_SameNums_l3 F x1 x4 k) s
def M_R_SameNums (F : Nat) (x1 : List Int) (x4 : List Int) : Option Bool :=
  (if (((x1.length : Int) : Int) != (x4.length : Int)) then some false else M_R_SameNums_l3 F x1 x4 F 0)
/-! lampwright lampwrightlaw.varintBegun -/
def M_L_varintBegun_j4 (_F : Nat) (x39 : Bool) : Option Bool :=
  some x39
def M_L_varintBegun_j3 (F : Nat) (x36 : Bool) : Option Bool :=
  (if x36 then ((M_varint_Unfold F 3).bind fun x40 => M_L_varintBegun_j4 F ((x40 : Int) == (-2))) else M_L_varintBegun_j4 F false)
def M_L_varintBegun_j2 (F : Nat) (x33 : Bool) : Option Bool :=
  (if x33 then ((M_varint_Fold F 2).bind fun x41 => M_L_varintBegun_j3 F ((x41 : Int) == 4)) else M_L_varintBegun_j3 F false)
def M_L_varintBegun_j1 (F : Nat) (x7 : (List Int × Int)) (x12 : (Int × Int × Int)) (x15 : (Int × Int × Int)) (x27 : Bool) : Option Bool :=
  (if (((x27 && ((x7.2 : Int) == 0)) && ((x12.2.2 : Int) == 1)) && ((x15.2.2 : Int) == 7)) then ((M_varint_Fold F (-1)).bind fun x42 => M_L_varintBegun_j2 F ((x42 : Int) == 1)) else M_L_varintBegun_j2 F false)
def M_L_varintBegun (F : Nat)  : Option Bool :=
  ((M_varint_Write F ([300, 0] : List Int)).bind fun x3 => ((M_varint_Read F x3.1 0).bind fun x6 => ((M_varint_All F x3.1).bind fun x7 => ((M_varint_Read F ([128, 0] : List Int) 0).bind fun x12 => ((M_varint_Read F ([128] : List Int) 0).bind fun x15 => ((M_R_SameBytes F x3.1 ([172, 2, 0] : List Int)).bind fun x18 => (if ((((x18 && ((x3.2 : Int) == 0)) && ((x6.1 : Int) == 300)) && ((x6.2.1 : Int) == 2)) && ((x6.2.2 : Int) == 0)) then ((M_R_SameNums F x7.1 ([300, 0] : List Int)).bind fun x45 => M_L_varintBegun_j1 F x7 x12 x15 x45) else M_L_varintBegun_j1 F x7 x12 x15 false)))))))
/-! lampwright lampwrightref.FoldOf -/
def M_R_FoldOf (_F : Nat) (x1 : Int) : Option Int :=
  (if (decide (x1 < 0)) then (lett (iadd .u64 (imul .u64 2 (iconv .u64 (isub .i64 0 (iadd .i64 x1 1)))) 1) fun x4 => some x4) else some (imul .u64 2 (iconv .u64 x1)))
/-! lampwright lampwrightlaw.VarintTells -/
def M_L_VarintTells_j8 (_F : Nat) (x13 : (List Int × Int)) (x102 : (List Int × Int)) (x123 : Bool) : Option Bool :=
  some (x123 && ((x13.2 : Int) == x102.2))
def M_L_VarintTells_j7 (F : Nat) (x9 : (List Int × Int)) (x12 : (Int × Int × Int)) (x13 : (List Int × Int)) (x94 : Int) (x99 : Int) (x100 : Int) (x101 : Int) (x102 : (List Int × Int)) (x116 : Bool) : Option Bool :=
  (if ((((x116 && ((x9.2 : Int) == x94)) && ((x12.1 : Int) == x100)) && ((x12.2.1 : Int) == x101)) && ((x12.2.2 : Int) == x99)) then ((M_R_SameNums F x13.1 x102.1).bind fun x125 => M_L_VarintTells_j8 F x13 x102 x125) else M_L_VarintTells_j8 F x13 x102 false)
def M_L_VarintTells_j6 (F : Nat) (x9 : (List Int × Int)) (x12 : (Int × Int × Int)) (x13 : (List Int × Int)) (x93 : List Int) (x94 : Int) (x99 : Int) (x100 : Int) (x101 : Int) (x102 : (List Int × Int)) (x113 : Bool) : Option Bool :=
  (if x113 then ((M_R_SameBytes F x9.1 x93).bind fun x126 => M_L_VarintTells_j7 F x9 x12 x13 x94 x99 x100 x101 x102 x126) else M_L_VarintTells_j7 F x9 x12 x13 x94 x99 x100 x101 x102 false)
def M_L_VarintTells_j5 (F : Nat) (x1 : Int) (x9 : (List Int × Int)) (x12 : (Int × Int × Int)) (x13 : (List Int × Int)) (x93 : List Int) (x94 : Int) (x99 : Int) (x100 : Int) (x101 : Int) (x102 : (List Int × Int)) (x109 : Bool) : Option Bool :=
  (if x109 then ((M_R_FoldOf F x1).bind fun x127 => ((M_varint_Unfold F x127).bind fun x128 => M_L_VarintTells_j6 F x9 x12 x13 x93 x94 x99 x100 x101 x102 ((x128 : Int) == x1))) else M_L_VarintTells_j6 F x9 x12 x13 x93 x94 x99 x100 x101 x102 false)
def M_L_VarintTells_j4 (F : Nat) (x1 : Int) (x5 : List Int) (x9 : (List Int × Int)) (x12 : (Int × Int × Int)) (x13 : (List Int × Int)) (x93 : List Int) (x94 : Int) (x99 : Int) (x100 : Int) (x101 : Int) : Option Bool :=
  ((M_R_VarintAll F x5).bind fun x102 => ((M_L_varintBegun F).bind fun x105 => (if x105 then ((M_varint_Fold F x1).bind fun x129 => ((M_R_FoldOf F x1).bind fun x130 => M_L_VarintTells_j5 F x1 x9 x12 x13 x93 x94 x99 x100 x101 x102 ((x129 : Int) == x130))) else M_L_VarintTells_j5 F x1 x9 x12 x13 x93 x94 x99 x100 x101 x102 false)))
def M_L_VarintTells_j3 (F : Nat) (x1 : Int) (x5 : List Int) (x8 : Int) (x9 : (List Int × Int)) (x12 : (Int × Int × Int)) (x13 : (List Int × Int)) (x93 : List Int) (x94 : Int) : Option Bool :=
  (if (decide (4096 < (x5.length : Int))) then M_L_VarintTells_j4 F x1 x5 x9 x12 x13 x93 x94 2 0 0 else (if ((decide (x8 < 0)) || (decide ((x5.length : Int) < x8))) then M_L_VarintTells_j4 F x1 x5 x9 x12 x13 x93 x94 3 0 0 else ((M_R_VarintRead F x5 x8).bind fun x132 => M_L_VarintTells_j4 F x1 x5 x9 x12 x13 x93 x94 x132.2.2 x132.1 x132.2.1)))
def M_L_VarintTells_j2 (F : Nat) (x1 : Int) (x5 : List Int) (x8 : Int) (x9 : (List Int × Int)) (x12 : (Int × Int × Int)) (x13 : (List Int × Int)) (x89 : List Int) : Option Bool :=
  (if (decide (4096 < (x89.length : Int))) then M_L_VarintTells_j3 F x1 x5 x8 x9 x12 x13 ([] : List Int) 2 else M_L_VarintTells_j3 F x1 x5 x8 x9 x12 x13 x89 0)
def M_L_VarintTells_b9 (F : Nat) (x1 : Int) (x2 : List Int) (x5 : List Int) (x8 : Int) (x9 : (List Int × Int)) (x12 : (Int × Int × Int)) (x13 : (List Int × Int)) (rec9 : (List Int × Int) → Option Bool) (x160 : List Int) (x161 : Int) : Option Bool :=
  (if ((decide (x161 < (x2.length : Int))) && (decide ((x160.length : Int) < 5000))) then ((idx x2 x161).bind fun x197 => ((M_R_VarintBytes F x197).bind fun x200 => ((app 70368744177664 x160 x200).bind fun x203 => rec9 (x203, iadd .i64 x161 1)))) else M_L_VarintTells_j2 F x1 x5 x8 x9 x12 x13 x160)
def M_L_VarintTells_l9 (F : Nat) (x1 : Int) (x2 : List Int) (x5 : List Int) (x8 : Int) (x9 : (List Int × Int)) (x12 : (Int × Int × Int)) (x13 : (List Int × Int)) : Nat → (List Int × Int) → Option Bool
  | 0 => fun _ => none
  | k + 1 => fun s => M_L_VarintTells_b9 F x1 x2 x5 x8 x9 x12 x13 (M_L_VarintTells_l9 F x1 x2 x5 x8 x9 x12 x13 k) s.1 s.2
def M_L_VarintTells (F : Nat) (x1 : Int) (x2 : List Int) (x5 : List Int) (x8 : Int) : Option Bool :=
  ((M_varint_Write F x2).bind fun x9 => ((M_varint_Read F x5 x8).bind fun x12 => ((M_varint_All F x5).bind fun x13 => M_L_VarintTells_l9 F x1 x2 x5 x8 x9 x12 x13 F (([] : List Int), 0))))
/-! lampwright lampwrightlaw.VarintFold$1 -/
def M_L_VarintFold_1 (_F : Nat) (x1 : Int) : Option Int :=
  (if (decide (x1 < 0)) then (lett (iadd .u64 (iconv .u64 (isub .i64 0 (iadd .i64 x1 1))) 1) fun x4 => some x4) else some (iconv .u64 x1))
/-! lampwright lampwrightlaw.VarintFold -/
def M_L_VarintFold_j3 (_F : Nat) (x27 : Bool) : Option Bool :=
  some x27
def M_L_VarintFold_j2 (F : Nat) (x1 : Int) (x2 : Int) (x21 : Bool) : Option Bool :=
  (if x21 then some false else ((M_L_VarintFold_1 F x1).bind fun x22 => ((M_L_VarintFold_1 F x2).bind fun x23 => (if (decide (x23 ≤ x22)) then M_L_VarintFold_j3 F true else ((M_varint_Fold F x1).bind fun x28 => ((M_varint_Fold F x2).bind fun x29 => M_L_VarintFold_j3 F (decide (x28 < x29))))))))
def M_L_VarintFold (F : Nat) (x1 : Int) (x2 : Int) (x3 : Int) : Option Bool :=
  ((M_L_varintBegun F).bind fun x6 => (if (!x6) then some false else ((M_varint_Fold F x1).bind fun x16 => ((M_varint_Unfold F x16).bind fun x17 => (if ((x17 : Int) != x1) then M_L_VarintFold_j2 F x1 x2 true else ((M_varint_Unfold F x3).bind fun x31 => ((M_varint_Fold F x31).bind fun x32 => M_L_VarintFold_j2 F x1 x2 ((x32 : Int) != x3))))))))
/-! lampwright lampwrightlaw.VarintBack -/
def M_L_VarintBack_j3 (_F : Nat) (x31 : Bool) : Option Bool :=
  some x31
def M_L_VarintBack_j2 (F : Nat) (x4 : List Int) (x10 : (List Int × Int)) : Option Bool :=
  (if ((x10.2 : Int) != 0) then some (((x10.1.length : Int) : Int) == 0) else ((M_varint_Write F x10.1).bind fun x26 => (if ((x26.2 : Int) == 0) then ((M_R_SameBytes F x26.1 x4).bind fun x32 => M_L_VarintBack_j3 F x32) else M_L_VarintBack_j3 F false)))
def M_L_VarintBack_j4 (F : Nat) (x4 : List Int) (x10 : (List Int × Int)) (x39 : Bool) : Option Bool :=
  (if x39 then some false else M_L_VarintBack_j2 F x4 x10)
def M_L_VarintBack (F : Nat) (x1 : List Int) (x4 : List Int) : Option Bool :=
  ((M_varint_Write F x1).bind fun x7 => ((M_varint_All F x4).bind fun x10 => ((M_L_varintBegun F).bind fun x15 => (if (!x15) then some false else (if ((x7.2 : Int) == 0) then ((M_varint_All F x7.1).bind fun x34 => (if ((x34.2 : Int) != 0) then M_L_VarintBack_j4 F x4 x10 true else ((M_R_SameNums F x34.1 x1).bind fun x41 => M_L_VarintBack_j4 F x4 x10 (!x41)))) else M_L_VarintBack_j2 F x4 x10)))))
/-! lampwright lampwrightlaw.VarintLong -/
def M_L_VarintLong_j1 (_F : Nat) (x20 : Bool) : Option Bool :=
  some x20
def M_L_VarintLong (F : Nat) (x1 : Int) (x2 : Int) : Option Bool :=
  ((M_varint_Write F ([x1] : List Int)).bind fun x5 => ((M_varint_Write F ([x2] : List Int)).bind fun x10 => ((M_L_varintBegun F).bind fun x13 => (if ((((x13 && ((x5.2 : Int) == 0)) && ((x10.2 : Int) == 0)) && (decide (1 ≤ (x5.1.length : Int)))) && (decide ((x10.1.length : Int) ≤ 10))) then M_L_VarintLong_j1 F ((decide (x2 < x1)) || (decide ((x5.1.length : Int) ≤ (x10.1.length : Int)))) else M_L_VarintLong_j1 F false))))
/-! lampwright lampwrightlaw.VarintJoins -/
def M_L_VarintJoins_j2 (_F : Nat) (x53 : Bool) : Option Bool :=
  some x53
def M_L_VarintJoins_j3 (F : Nat) (x64 : Bool) : Option Bool :=
  M_L_VarintJoins_j2 F x64
def M_L_VarintJoins (F : Nat) (x1 : List Int) (x4 : List Int) : Option Bool :=
  ((M_varint_All F x1).bind fun x7 => ((M_varint_All F x4).bind fun x10 => ((M_L_varintBegun F).bind fun x15 => (if (!x15) then some false else (if (((x7.2 : Int) != 0) || ((x10.2 : Int) != 0)) then some (((x7.2 : Int) == 0) || (((x7.1.length : Int) : Int) == 0)) else ((app 70368744177664 ([] : List Int) x1).bind fun x23 => ((app 70368744177664 x23 x4).bind fun x26 => ((M_varint_All F x26).bind fun x29 => (if ((x29.2 : Int) == 2) then M_L_VarintJoins_j2 F true else (if ((x29.2 : Int) == 0) then ((app 8796093022208 ([] : List Int) x7.1).bind fun x67 => ((app 8796093022208 x67 x10.1).bind fun x70 => ((M_R_SameNums F x29.1 x70).bind fun x73 => M_L_VarintJoins_j3 F x73))) else M_L_VarintJoins_j3 F false))))))))))
/-! lampwright lampwrightlaw.VarintCut -/
def M_L_VarintCut (F : Nat) (x1 : Int) (x2 : Int) : Option Bool :=
  ((M_varint_Write F ([x1] : List Int)).bind fun x5 => ((M_L_varintBegun F).bind fun x11 => (if ((!x11) || ((x5.2 : Int) != 0)) then some false else (if ((decide (x2 < 0)) || (decide ((x5.1.length : Int) ≤ x2))) then some true else ((sub x5.1 0 x2).bind fun x16 => ((M_varint_Read F x16 0).bind fun x19 => ((M_varint_Read F x5.1 0).bind fun x20 => some (((((x19.2.2 : Int) == 7) && ((x20.2.2 : Int) == 0)) && ((x20.1 : Int) == x1)) && ((x20.2.1 : Int) == (x5.1.length : Int))))))))))
end Go.Proofs.Ytbdaopnokonmpaa
