/- What each Go function of this seat computes, in plain terms. -/
import Derived.Test.YtlnmibipnabdiaaSx
namespace Go.Proofs.Ytlnmibipnabdiaa
open Go SX
/-! lampwright lampwrightref.between -/
def M_R_between (_F : Nat) (x1 : Int) (x2 : Int) (x3 : Int) : Option Bool :=
  some ((decide (x2 ≤ x1)) && (decide (x1 ≤ x3)))
/-! lampwright lampwrightref.RisingCheck -/
def M_R_RisingCheck_j8 (_F : Nat) : Option Int :=
  some 0
def M_R_RisingCheck_j15 (_F : Nat) (rec13 : Int → Option Int) (x255 : Int) (x368 : Bool) : Option Int :=
  (if x368 then some 4 else rec13 (iadd .i64 x255 1))
def M_R_RisingCheck_b13 (F : Nat) (x1 : List Int) (rec13 : Int → Option Int) (x255 : Int) : Option Int :=
  (if (decide (x255 < (x1.length : Int))) then ((idx x1 x255).bind fun x355 => ((M_R_between F x355 0 1048576).bind fun x358 => (if (!x358) then some 3 else (if (decide (0 < x255)) then ((idx x1 x255).bind fun x371 => ((idx x1 (isub .i64 x255 1)).bind fun x375 => M_R_RisingCheck_j15 F rec13 x255 (decide (x371 ≤ x375)))) else M_R_RisingCheck_j15 F rec13 x255 false)))) else M_R_RisingCheck_j8 F)
def M_R_RisingCheck_l13 (F : Nat) (x1 : List Int) : Nat → Int → Option Int
  | 0 => fun _ => none
  | k + 1 => fun s => M_R_RisingCheck_b13 F x1 (M_R_RisingCheck_l13 F x1 k) s
def M_R_RisingCheck (F : Nat) (x1 : List Int) : Option Int :=
  (if (decide (300 < (x1.length : Int))) then some 2 else M_R_RisingCheck_l13 F x1 F 0)
/-! lampwright lampwrightref.SameInts -/
def M_R_SameInts_j2 (_F : Nat) : Option Bool :=
  some true
def M_R_SameInts_b3 (F : Nat) (x1 : List Int) (x4 : List Int) (rec3 : Int → Option Bool) (x154 : Int) : Option Bool :=
  (if (decide (x154 < (x1.length : Int))) then ((idx x1 x154).bind fun x218 => ((idx x4 x154).bind fun x222 => (if ((x218 : Int) != x222) then some false else rec3 (iadd .i64 x154 1)))) else M_R_SameInts_j2 F)
def M_R_SameInts_l3 (F : Nat) (x1 : List Int) (x4 : List Int) : Nat → Int → Option Bool
  | 0 => fun _ => none
  | k + 1 => fun s => M_R_SameInts_b3 F x1 x4 (M_R_SameInts_l3 F x1 x4 k) s
def M_R_SameInts (F : Nat) (x1 : List Int) (x4 : List Int) : Option Bool :=
  (if (((x1.length : Int) : Int) != (x4.length : Int)) then some false else M_R_SameInts_l3 F x1 x4 F 0)
/-! lampwright gaps.node -/
def M_gaps_node (_F : Nat) (x1 : Int) : Option Bool :=
  some ((decide (0 ≤ x1)) && (decide (x1 ≤ 1048576)))
/-! lampwright gaps.Check -/
def M_gaps_Check_j2 (_F : Nat) : Option Int :=
  some 0
def M_gaps_Check_b3 (F : Nat) (x1 : List Int) (rec3 : (Int × Int) → Option Int) (x88 : Int) (x89 : Int) : Option Int :=
  (if (decide (x89 < (x1.length : Int))) then ((idx x1 x89).bind fun x121 => ((M_gaps_node F x121).bind fun x127 => (if (!x127) then some 3 else (if (decide (x121 ≤ x88)) then some 4 else rec3 (x121, iadd .i64 x89 1))))) else M_gaps_Check_j2 F)
def M_gaps_Check_l3 (F : Nat) (x1 : List Int) : Nat → (Int × Int) → Option Int
  | 0 => fun _ => none
  | k + 1 => fun s => M_gaps_Check_b3 F x1 (M_gaps_Check_l3 F x1 k) s.1 s.2
def M_gaps_Check (F : Nat) (x1 : List Int) : Option Int :=
  (if (decide (300 < (x1.length : Int))) then some 2 else M_gaps_Check_l3 F x1 F (-1, 0))
/-! lampwright runs.runs -/
def M_runs_runs (_F : Nat) (_x1 : List Int) : Option Unit :=
  some ()
/-! lampwright runs.runs$1 -/
def M_runs_runs_1_j39 {σ τ : Type} (_F : Nat) (yy : σ → (Int × Int) → Option (σ ⊕ τ)) (rec31 : (Int × σ) → Option (σ ⊕ τ)) (x2 : List Int) (x266 : Int) (x267 : σ) (x654 : Int) : Option (σ ⊕ τ) :=
  ((idx x2 x266).bind fun x662 => ((yy x267 (x662, x654)).bind (Sum.elim (fun x665 => rec31 (iadd .i64 x266 x654, x665)) (fun x666 => some (.inr x666)))))
def M_runs_runs_1_j46 {σ τ : Type} (F : Nat) (yy : σ → (Int × Int) → Option (σ ⊕ τ)) (rec31 : (Int × σ) → Option (σ ⊕ τ)) (rec44 : Int → Option (σ ⊕ τ)) (x2 : List Int) (x266 : Int) (x267 : σ) (x709 : Int) (x780 : Bool) : Option (σ ⊕ τ) :=
  (if x780 then rec44 (iadd .i64 x709 1) else M_runs_runs_1_j39 F yy rec31 x2 x266 x267 x709)
def M_runs_runs_1_b44 {σ τ : Type} (F : Nat) (yy : σ → (Int × Int) → Option (σ ⊕ τ)) (rec31 : (Int × σ) → Option (σ ⊕ τ)) (x2 : List Int) (x266 : Int) (x267 : σ) (rec44 : Int → Option (σ ⊕ τ)) (x709 : Int) : Option (σ ⊕ τ) :=
  (if (decide ((iadd .i64 x266 x709) < (x2.length : Int))) then ((idx x2 (iadd .i64 x266 x709)).bind fun x783 => ((idx x2 x266).bind fun x787 => M_runs_runs_1_j46 F yy rec31 rec44 x2 x266 x267 x709 ((x783 : Int) == (iadd .i64 x787 x709)))) else M_runs_runs_1_j46 F yy rec31 rec44 x2 x266 x267 x709 false)
def M_runs_runs_1_l44 {σ τ : Type} (F : Nat) (yy : σ → (Int × Int) → Option (σ ⊕ τ)) (rec31 : (Int × σ) → Option (σ ⊕ τ)) (x2 : List Int) (x266 : Int) (x267 : σ) : Nat → Int → Option (σ ⊕ τ)
  | 0 => fun _ => none
  | k + 1 => fun s => M_runs_runs_1_b44 F yy rec31 x2 x266 x267 (M_runs_runs_1_l44 F yy rec31 x2 x266 x267 k) s
def M_runs_runs_1_b31 {σ τ : Type} (F : Nat) (yy : σ → (Int × Int) → Option (σ ⊕ τ)) (x2 : List Int) (rec31 : (Int × σ) → Option (σ ⊕ τ)) (x266 : Int) (x267 : σ) : Option (σ ⊕ τ) :=
  (if (decide (x266 < (x2.length : Int))) then M_runs_runs_1_l44 F yy rec31 x2 x266 x267 F 1 else some (.inl x267))
def M_runs_runs_1_l31 {σ τ : Type} (F : Nat) (yy : σ → (Int × Int) → Option (σ ⊕ τ)) (x2 : List Int) : Nat → (Int × σ) → Option (σ ⊕ τ)
  | 0 => fun _ => none
  | k + 1 => fun s => M_runs_runs_1_b31 F yy x2 (M_runs_runs_1_l31 F yy x2 k) s.1 s.2
def M_runs_runs_1 {σ τ : Type} (F : Nat) (yy : σ → (Int × Int) → Option (σ ⊕ τ)) (x2 : List Int) (s0 : σ) : Option (σ ⊕ τ) :=
  M_runs_runs_1_l31 F yy x2 F (0, s0)
/-! lampwright runs.Raw -/
def M_runs_Raw_b8 (_F : Nat) (x255 : List (Int × Int)) (x312 : Int) (x313 : Int) (rec8 : (Int × List Int) → Option ((List Int × List (Int × Int)) ⊕ Empty)) (x338 : Int) (x341 : List Int) : Option ((List Int × List (Int × Int)) ⊕ Empty) :=
  (if (decide (x338 < x313)) then ((app 8796093022208 x341 ([iadd .i64 x312 x338] : List Int)).bind fun x363 => rec8 (iadd .i64 x338 1, x363)) else some (.inl (x341, x255)))
def M_runs_Raw_l8 (F : Nat) (x255 : List (Int × Int)) (x312 : Int) (x313 : Int) : Nat → (Int × List Int) → Option ((List Int × List (Int × Int)) ⊕ Empty)
  | 0 => fun _ => none
  | k + 1 => fun s => M_runs_Raw_b8 F x255 x312 x313 (M_runs_Raw_l8 F x255 x312 x313 k) s.1 s.2
def M_runs_Raw_r5 (F : Nat) (x4 : Int) (x252 : List Int) (x255 : List (Int × Int)) (x312 : Int) (x313 : Int) : Option ((List Int × List (Int × Int)) ⊕ Empty) :=
  (if (decide (x4 ≤ x313)) then ((app 4398046511104 x255 ([(x312, x313)] : List (Int × Int))).bind fun x323 => some (.inl (x252, x323))) else M_runs_Raw_l8 F x255 x312 x313 F (0, x252))
def M_runs_Raw (F : Nat) (x1 : List Int) (x4 : Int) : Option (List (Int × Int) × List Int) :=
  ((M_runs_runs F x1).bind fun _x188 => ((M_runs_runs_1 F (fun ((x252, x255) : (List Int × List (Int × Int))) ((x312, x313) : (Int × Int)) => M_runs_Raw_r5 F x4 x252 x255 x312 x313) x1 (([] : List Int), ([] : List (Int × Int)))).bind (Sum.elim (fun ((x252, x255) : (List Int × List (Int × Int))) => some (x255, x252)) (fun t => t.elim))))
/-! lampwright runs.Split -/
def M_runs_Split_j2 (F : Nat) (x1 : List Int) (x4 : Int) (x11 : Int) : Option (List (Int × Int) × List Int × Int) :=
  (if ((x11 : Int) != 0) then some (([] : List (Int × Int)), ([] : List Int), x11) else ((M_runs_Raw F x1 x4).bind fun x13 => some (x13.1, x13.2, 0)))
def M_runs_Split_j3 (F : Nat) (x1 : List Int) (x4 : Int) (x5 : Int) (x21 : Bool) : Option (List (Int × Int) × List Int × Int) :=
  (if x21 then M_runs_Split_j2 F x1 x4 3 else M_runs_Split_j2 F x1 x4 x5)
def M_runs_Split (F : Nat) (x1 : List Int) (x4 : Int) : Option (List (Int × Int) × List Int × Int) :=
  ((M_gaps_Check F x1).bind fun x5 => (if ((x5 : Int) == 0) then M_runs_Split_j3 F x1 x4 x5 ((decide (x4 < 2)) || (decide (300 < x4))) else M_runs_Split_j3 F x1 x4 x5 false))
/-! lampwright runs.within -/
def M_runs_within (_F : Nat) (x1 : Int) (x2 : Int) (x3 : Int) : Option Bool :=
  some ((decide (x2 ≤ x1)) && (decide (x1 ≤ x3)))
/-! lampwright runs.spread -/
def M_runs_spread_j25 (_F : Nat) (x462 : List Int) : Option (List Int × Int) :=
  some (x462, 0)
def M_runs_spread_j34 (_F : Nat) (rec32 : (List Int × Int) → Option (List Int × Int)) (x561 : Int) (x706 : List Int) : Option (List Int × Int) :=
  rec32 (x706, iadd .i64 x561 1)
def M_runs_spread_b35 (F : Nat) (rec32 : (List Int × Int) → Option (List Int × Int)) (x561 : Int) (x707 : (Int × Int)) (rec35 : (List Int × Int) → Option (List Int × Int)) (x725 : List Int) (x726 : Int) : Option (List Int × Int) :=
  (if (decide (x726 < x707.2)) then ((app 8796093022208 x725 ([iadd .i64 x707.1 x726] : List Int)).bind fun x748 => rec35 (x748, iadd .i64 x726 1)) else M_runs_spread_j34 F rec32 x561 x725)
def M_runs_spread_l35 (F : Nat) (rec32 : (List Int × Int) → Option (List Int × Int)) (x561 : Int) (x707 : (Int × Int)) : Nat → (List Int × Int) → Option (List Int × Int)
  | 0 => fun _ => none
  | k + 1 => fun s => M_runs_spread_b35 F rec32 x561 x707 (M_runs_spread_l35 F rec32 x561 x707 k) s.1 s.2
def M_runs_spread_b32 (F : Nat) (x1 : List (Int × Int)) (rec32 : (List Int × Int) → Option (List Int × Int)) (x560 : List Int) (x561 : Int) : Option (List Int × Int) :=
  (if (decide (x561 < (x1.length : Int))) then ((idx x1 x561).bind fun x707 => M_runs_spread_l35 F rec32 x561 x707 F (x560, 0)) else M_runs_spread_j25 F x560)
def M_runs_spread_l32 (F : Nat) (x1 : List (Int × Int)) : Nat → (List Int × Int) → Option (List Int × Int)
  | 0 => fun _ => none
  | k + 1 => fun s => M_runs_spread_b32 F x1 (M_runs_spread_l32 F x1 k) s.1 s.2
def M_runs_spread_j14 (F : Nat) (x1 : List (Int × Int)) : Option (List Int × Int) :=
  M_runs_spread_l32 F x1 F (([] : List Int), 0)
def M_runs_spread_j48 (_F : Nat) (rec44 : (Int × Int) → Option (List Int × Int)) (x807 : Int) (x808 : Int) (x891 : (Int × Int)) (x910 : Bool) : Option (List Int × Int) :=
  (if x910 then some (([] : List Int), 3) else (if (decide (x891.1 < (iadd .i64 x807 2))) then some (([] : List Int), 4) else rec44 (isub .i64 (iadd .i64 x891.1 x891.2) 1, iadd .i64 x808 1)))
def M_runs_spread_b44 (F : Nat) (x1 : List (Int × Int)) (rec44 : (Int × Int) → Option (List Int × Int)) (x807 : Int) (x808 : Int) : Option (List Int × Int) :=
  (if (decide (x808 < (x1.length : Int))) then ((idx x1 x808).bind fun x891 => ((M_runs_within F x891.1 0 1048576).bind fun x913 => (if (!x913) then M_runs_spread_j48 F rec44 x807 x808 x891 (!x913) else ((M_runs_within F x891.2 1 300).bind fun x914 => (if (!x914) then M_runs_spread_j48 F rec44 x807 x808 x891 (!x914) else M_runs_spread_j48 F rec44 x807 x808 x891 (decide (1048576 < (isub .i64 (iadd .i64 x891.1 x891.2) 1)))))))) else M_runs_spread_j14 F x1)
def M_runs_spread_l44 (F : Nat) (x1 : List (Int × Int)) : Nat → (Int × Int) → Option (List Int × Int)
  | 0 => fun _ => none
  | k + 1 => fun s => M_runs_spread_b44 F x1 (M_runs_spread_l44 F x1 k) s.1 s.2
def M_runs_spread (F : Nat) (x1 : List (Int × Int)) : Option (List Int × Int) :=
  (if (decide (300 < (x1.length : Int))) then some (([] : List Int), 2) else M_runs_spread_l44 F x1 F (-2, 0))
/-! slices.Grow[[]int,int] -/
def M_slices_Grow_int_int_j1 (_F : Nat) (x15 : List Int) : Option (List Int) :=
  some x15
def M_slices_Grow_int_int (F : Nat) (x1 : List Int) (c3 : Nat) (x4 : Int) : Option (List Int) :=
  (if (decide (x4 < 0)) then none else (lett (isub .i64 x4 (isub .i64 (c3 : Int) (x1.length : Int))) fun x16 => (if (decide (0 < x16)) then ((sub x1 0 (c3 : Int)).bind fun x17 => ((appz 8796093022208 x17 (0 : Int) x16).bind fun x18 => ((sub x18 0 (x1.length : Int)).bind fun x21 => M_slices_Grow_int_int_j1 F x21))) else M_slices_Grow_int_int_j1 F x1)))
/-! slices.Concat[[]int,int] -/
def M_slices_Concat_int_int_j4 (_F : Nat) (x102 : List Int) : Option (List Int) :=
  some x102
def M_slices_Concat_int_int_b5 (F : Nat) (x1 : List (List Int)) (rec5 : (List Int × Int) → Option (List Int)) (x121 : List Int) (x122 : Int) : Option (List Int) :=
  (if (decide (x122 < (x1.length : Int))) then ((idx x1 x122).bind fun x148 => ((app 8796093022208 x121 x148).bind fun x152 => rec5 (x152, iadd .i64 x122 1))) else M_slices_Concat_int_int_j4 F x121)
def M_slices_Concat_int_int_l5 (F : Nat) (x1 : List (List Int)) : Nat → (List Int × Int) → Option (List Int)
  | 0 => fun _ => none
  | k + 1 => fun s => M_slices_Concat_int_int_b5 F x1 (M_slices_Concat_int_int_l5 F x1 k) s.1 s.2
def M_slices_Concat_int_int_j2 (F : Nat) (x1 : List (List Int)) (x43 : Int) : Option (List Int) :=
  ((M_slices_Grow_int_int F ([] : List Int) 0 x43).bind fun x44 => M_slices_Concat_int_int_l5 F x1 F (x44, 0))
def M_slices_Concat_int_int_b6 (F : Nat) (x1 : List (List Int)) (rec6 : (Int × Int) → Option (List Int)) (x168 : Int) (x169 : Int) : Option (List Int) :=
  (if (decide (x169 < (x1.length : Int))) then ((idx x1 x169).bind fun x189 => (if (decide ((iadd .i64 x168 (x189.length : Int)) < 0)) then none else rec6 (iadd .i64 x168 (x189.length : Int), iadd .i64 x169 1))) else M_slices_Concat_int_int_j2 F x1 x168)
def M_slices_Concat_int_int_l6 (F : Nat) (x1 : List (List Int)) : Nat → (Int × Int) → Option (List Int)
  | 0 => fun _ => none
  | k + 1 => fun s => M_slices_Concat_int_int_b6 F x1 (M_slices_Concat_int_int_l6 F x1 k) s.1 s.2
def M_slices_Concat_int_int (F : Nat) (x1 : List (List Int)) : Option (List Int) :=
  M_slices_Concat_int_int_l6 F x1 F (0, 0)
/-! slices.Sort[[]int,int] -/
def M_slices_Sort_int_int (_F : Nat) (x1 : List Int) : Option (List Int) :=
  if x1.length < 4611686018427387904 then some (srt x1) else none
/-! slices.Compact[[]int,int] -/
def M_slices_Compact_int_int (_F : Nat) (x1 : List Int) : Option (List Int) :=
  if (Go.Lib.compact x1).length ≤ x1.length then some (Go.Lib.compact x1) else none
/-! slices.Clone[[]int,int] -/
def M_slices_Clone_int_int (_F : Nat) (x1 : List Int) : Option (List Int) :=
  ((app 8796093022208 ([] : List Int) x1).bind fun x8 => some x8)
/-! lampwright runs.Merge -/
def M_runs_Merge_j1 (F : Nat) (x4 : List Int) (x7 : (List Int × Int)) (x12 : Int) : Option (List Int × Int) :=
  (if ((x12 : Int) != 0) then some (([] : List Int), x12) else ((M_slices_Concat_int_int F ([x7.1, x4] : List (List Int))).bind fun x16 => ((M_slices_Sort_int_int F x16).bind fun x19 => (chk (decide (x19.length = x16.length)) (((M_slices_Clone_int_int F x19).bind fun x29 => ((M_slices_Compact_int_int F x29).bind fun x32 => (if (decide ((x32.length : Int) < (x19.length : Int))) then some (([] : List Int), 6) else (if (decide (300 < (x19.length : Int))) then some (([] : List Int), 2) else some (x19, 0))))))))))
def M_runs_Merge (F : Nat) (x1 : List (Int × Int)) (x4 : List Int) : Option (List Int × Int) :=
  ((M_runs_spread F x1).bind fun x7 => (if ((x7.2 : Int) == 0) then ((M_gaps_Check F x4).bind fun x38 => M_runs_Merge_j1 F x4 x7 x38) else M_runs_Merge_j1 F x4 x7 x7.2))
/-! lampwright runs.Count -/
def M_runs_Count (F : Nat) (x1 : List (Int × Int)) : Option (Int × Int) :=
  ((M_runs_Merge F x1 ([] : List Int)).bind fun x4 => some ((x4.1.length : Int), x4.2))
/-! lampwright lampwrightref.HasInt -/
def M_R_HasInt_j2 (_F : Nat) : Option Bool :=
  some false
def M_R_HasInt_b3 (F : Nat) (x1 : List Int) (x4 : Int) (rec3 : Int → Option Bool) (x47 : Int) : Option Bool :=
  (if (decide (x47 < (x1.length : Int))) then ((idx x1 x47).bind fun x64 => (if ((x64 : Int) == x4) then some true else rec3 (iadd .i64 x47 1))) else M_R_HasInt_j2 F)
def M_R_HasInt_l3 (F : Nat) (x1 : List Int) (x4 : Int) : Nat → Int → Option Bool
  | 0 => fun _ => none
  | k + 1 => fun s => M_R_HasInt_b3 F x1 x4 (M_R_HasInt_l3 F x1 x4 k) s
def M_R_HasInt (F : Nat) (x1 : List Int) (x4 : Int) : Option Bool :=
  M_R_HasInt_l3 F x1 x4 F 0
/-! lampwright lampwrightref.RunsSplit -/
def M_R_RunsSplit_j41 (_F : Nat) (x600 : List (Int × Int)) (x603 : List Int) : Option (List (Int × Int) × List Int) :=
  some (x600, x603)
def M_R_RunsSplit_j75 (_F : Nat) (rec68 : (List (Int × Int) × List Int × Int) → Option (List (Int × Int) × List Int)) (x808 : Int) (x1097 : List (Int × Int)) (x1100 : List Int) : Option (List (Int × Int) × List Int) :=
  rec68 (x1097, x1100, iadd .i64 x808 1)
def M_R_RunsSplit_j79 (F : Nat) (rec68 : (List (Int × Int) × List Int × Int) → Option (List (Int × Int) × List Int)) (x1 : List Int) (x4 : Int) (x804 : List (Int × Int)) (x807 : List Int) (x808 : Int) (x1131 : Int) (x1146 : Int) : Option (List (Int × Int) × List Int) :=
  (if (decide ((iadd .i64 (isub .i64 x1146 x1131) 1) < x4)) then ((idx x1 x808).bind fun x1147 => ((app 8796093022208 x807 ([x1147] : List Int)).bind fun x1152 => M_R_RunsSplit_j75 F rec68 x808 x804 x1152)) else ((idx x1 x808).bind fun x1155 => (if ((x1131 : Int) == x1155) then ((app 4398046511104 x804 ([(x1131, iadd .i64 (isub .i64 x1146 x1131) 1)] : List (Int × Int))).bind fun x1160 => M_R_RunsSplit_j75 F rec68 x808 x1160 x807) else M_R_RunsSplit_j75 F rec68 x808 x804 x807)))
def M_R_RunsSplit_b80 (F : Nat) (rec68 : (List (Int × Int) × List Int × Int) → Option (List (Int × Int) × List Int)) (x1 : List Int) (x4 : Int) (x804 : List (Int × Int)) (x807 : List Int) (x808 : Int) (x1131 : Int) (rec80 : Int → Option (List (Int × Int) × List Int)) (x1169 : Int) : Option (List (Int × Int) × List Int) :=
  ((M_R_HasInt F x1 (iadd .i64 x1169 1)).bind fun x1177 => (if x1177 then rec80 (iadd .i64 x1169 1) else M_R_RunsSplit_j79 F rec68 x1 x4 x804 x807 x808 x1131 x1169))
def M_R_RunsSplit_l80 (F : Nat) (rec68 : (List (Int × Int) × List Int × Int) → Option (List (Int × Int) × List Int)) (x1 : List Int) (x4 : Int) (x804 : List (Int × Int)) (x807 : List Int) (x808 : Int) (x1131 : Int) : Nat → Int → Option (List (Int × Int) × List Int)
  | 0 => fun _ => none
  | k + 1 => fun s => M_R_RunsSplit_b80 F rec68 x1 x4 x804 x807 x808 x1131 (M_R_RunsSplit_l80 F rec68 x1 x4 x804 x807 x808 x1131 k) s
def M_R_RunsSplit_j77 (F : Nat) (rec68 : (List (Int × Int) × List Int × Int) → Option (List (Int × Int) × List Int)) (x1 : List Int) (x4 : Int) (x804 : List (Int × Int)) (x807 : List Int) (x808 : Int) (x1113 : Int) (x1131 : Int) : Option (List (Int × Int) × List Int) :=
  M_R_RunsSplit_l80 F rec68 x1 x4 x804 x807 x808 x1131 F x1113
def M_R_RunsSplit_b81 (F : Nat) (rec68 : (List (Int × Int) × List Int × Int) → Option (List (Int × Int) × List Int)) (x1 : List Int) (x4 : Int) (x804 : List (Int × Int)) (x807 : List Int) (x808 : Int) (x1113 : Int) (rec81 : Int → Option (List (Int × Int) × List Int)) (x1183 : Int) : Option (List (Int × Int) × List Int) :=
  ((M_R_HasInt F x1 (isub .i64 x1183 1)).bind fun x1191 => (if x1191 then rec81 (isub .i64 x1183 1) else M_R_RunsSplit_j77 F rec68 x1 x4 x804 x807 x808 x1113 x1183))
def M_R_RunsSplit_l81 (F : Nat) (rec68 : (List (Int × Int) × List Int × Int) → Option (List (Int × Int) × List Int)) (x1 : List Int) (x4 : Int) (x804 : List (Int × Int)) (x807 : List Int) (x808 : Int) (x1113 : Int) : Nat → Int → Option (List (Int × Int) × List Int)
  | 0 => fun _ => none
  | k + 1 => fun s => M_R_RunsSplit_b81 F rec68 x1 x4 x804 x807 x808 x1113 (M_R_RunsSplit_l81 F rec68 x1 x4 x804 x807 x808 x1113 k) s
def M_R_RunsSplit_b68 (F : Nat) (x1 : List Int) (x4 : Int) (rec68 : (List (Int × Int) × List Int × Int) → Option (List (Int × Int) × List Int)) (x804 : List (Int × Int)) (x807 : List Int) (x808 : Int) : Option (List (Int × Int) × List Int) :=
  (if (decide (x808 < (x1.length : Int))) then ((idx x1 x808).bind fun x1109 => ((idx x1 x808).bind fun x1113 => M_R_RunsSplit_l81 F rec68 x1 x4 x804 x807 x808 x1113 F x1109)) else M_R_RunsSplit_j41 F x804 x807)
def M_R_RunsSplit_l68 (F : Nat) (x1 : List Int) (x4 : Int) : Nat → (List (Int × Int) × List Int × Int) → Option (List (Int × Int) × List Int)
  | 0 => fun _ => none
  | k + 1 => fun s => M_R_RunsSplit_b68 F x1 x4 (M_R_RunsSplit_l68 F x1 x4 k) s.1 s.2.1 s.2.2
def M_R_RunsSplit (F : Nat) (x1 : List Int) (x4 : Int) : Option (List (Int × Int) × List Int) :=
  M_R_RunsSplit_l68 F x1 x4 F (([] : List (Int × Int)), ([] : List Int), 0)
/-! lampwright lampwrightref.RunsMerge -/
def M_R_RunsMerge_j46 (_F : Nat) (x1313 : List Int) : Option (List Int × Int) :=
  (if (decide (300 < (x1313.length : Int))) then some (([] : List Int), 2) else some (x1313, 0))
def M_R_RunsMerge_j56 (_F : Nat) (rec53 : (List Int × Int × Int) → Option (List Int × Int)) (x4 : List Int) (x1044 : List Int) (x1404 : List Int) (x1405 : Int) (x1406 : Int) (x1540 : Bool) : Option (List Int × Int) :=
  (if x1540 then ((idx x1044 x1405).bind fun x1541 => ((app 8796093022208 x1404 ([x1541] : List Int)).bind fun x1546 => rec53 (x1546, iadd .i64 x1405 1, x1406))) else ((idx x4 x1406).bind fun x1549 => ((app 8796093022208 x1404 ([x1549] : List Int)).bind fun x1554 => rec53 (x1554, x1405, iadd .i64 x1406 1))))
def M_R_RunsMerge_j55 (F : Nat) (rec53 : (List Int × Int × Int) → Option (List Int × Int)) (x4 : List Int) (x1044 : List Int) (x1404 : List Int) (x1405 : Int) (x1406 : Int) (x1529 : Bool) : Option (List Int × Int) :=
  (if x1529 then some (([] : List Int), 6) else (if (decide ((x4.length : Int) ≤ x1406)) then M_R_RunsMerge_j56 F rec53 x4 x1044 x1404 x1405 x1406 true else (if (decide (x1405 < (x1044.length : Int))) then ((idx x1044 x1405).bind fun x1560 => ((idx x4 x1406).bind fun x1564 => M_R_RunsMerge_j56 F rec53 x4 x1044 x1404 x1405 x1406 (decide (x1560 < x1564)))) else M_R_RunsMerge_j56 F rec53 x4 x1044 x1404 x1405 x1406 false)))
def M_R_RunsMerge_b53 (F : Nat) (x4 : List Int) (x1044 : List Int) (rec53 : (List Int × Int × Int) → Option (List Int × Int)) (x1404 : List Int) (x1405 : Int) (x1406 : Int) : Option (List Int × Int) :=
  (if ((decide (x1405 < (x1044.length : Int))) || (decide (x1406 < (x4.length : Int)))) then (if (decide (x1405 < (x1044.length : Int))) then (if (decide (x1406 < (x4.length : Int))) then ((idx x1044 x1405).bind fun x1571 => ((idx x4 x1406).bind fun x1575 => M_R_RunsMerge_j55 F rec53 x4 x1044 x1404 x1405 x1406 ((x1571 : Int) == x1575))) else M_R_RunsMerge_j55 F rec53 x4 x1044 x1404 x1405 x1406 false) else M_R_RunsMerge_j55 F rec53 x4 x1044 x1404 x1405 x1406 false) else M_R_RunsMerge_j46 F x1404)
def M_R_RunsMerge_l53 (F : Nat) (x4 : List Int) (x1044 : List Int) : Nat → (List Int × Int × Int) → Option (List Int × Int)
  | 0 => fun _ => none
  | k + 1 => fun s => M_R_RunsMerge_b53 F x4 x1044 (M_R_RunsMerge_l53 F x4 x1044 k) s.1 s.2.1 s.2.2
def M_R_RunsMerge_j35 (F : Nat) (x4 : List Int) (x1044 : List Int) : Option (List Int × Int) :=
  ((M_R_RisingCheck F x4).bind fun x1045 => (if ((x1045 : Int) != 0) then some (([] : List Int), x1045) else M_R_RunsMerge_l53 F x4 x1044 F (([] : List Int), 0, 0)))
def M_R_RunsMerge_j85 (_F : Nat) (rec79 : (List Int × Int) → Option (List Int × Int)) (x1927 : Int) (x2444 : List Int) : Option (List Int × Int) :=
  rec79 (x2444, iadd .i64 x1927 1)
def M_R_RunsMerge_b90 (F : Nat) (rec79 : (List Int × Int) → Option (List Int × Int)) (x1 : List (Int × Int)) (x1927 : Int) (rec90 : (List Int × Int) → Option (List Int × Int)) (x2540 : List Int) (x2541 : Int) : Option (List Int × Int) :=
  ((idx x1 x1927).bind fun x2571 => (if (decide (x2541 < x2571.2)) then ((idx x1 x1927).bind fun x2582 => ((app 8796093022208 x2540 ([iadd .i64 x2582.1 x2541] : List Int)).bind fun x2587 => rec90 (x2587, iadd .i64 x2541 1))) else M_R_RunsMerge_j85 F rec79 x1927 x2540))
def M_R_RunsMerge_l90 (F : Nat) (rec79 : (List Int × Int) → Option (List Int × Int)) (x1 : List (Int × Int)) (x1927 : Int) : Nat → (List Int × Int) → Option (List Int × Int)
  | 0 => fun _ => none
  | k + 1 => fun s => M_R_RunsMerge_b90 F rec79 x1 x1927 (M_R_RunsMerge_l90 F rec79 x1 x1927 k) s.1 s.2
def M_R_RunsMerge_j89 (F : Nat) (rec79 : (List Int × Int) → Option (List Int × Int)) (x1 : List (Int × Int)) (x1926 : List Int) (x1927 : Int) (x2513 : Bool) : Option (List Int × Int) :=
  (if x2513 then some (([] : List Int), 4) else M_R_RunsMerge_l90 F rec79 x1 x1927 F (x1926, 0))
def M_R_RunsMerge_j87 (F : Nat) (rec79 : (List Int × Int) → Option (List Int × Int)) (x1 : List (Int × Int)) (x1926 : List Int) (x1927 : Int) (x2471 : Bool) : Option (List Int × Int) :=
  (if x2471 then some (([] : List Int), 3) else (if (decide (0 < x1927)) then ((idx x1 x1927).bind fun x2593 => ((idx x1 (isub .i64 x1927 1)).bind fun x2597 => ((idx x1 (isub .i64 x1927 1)).bind fun x2601 => M_R_RunsMerge_j89 F rec79 x1 x1926 x1927 (decide (x2593.1 < (iadd .i64 (iadd .i64 x2597.1 x2601.2) 1)))))) else M_R_RunsMerge_j89 F rec79 x1 x1926 x1927 false))
def M_R_RunsMerge_b79 (F : Nat) (x1 : List (Int × Int)) (x4 : List Int) (rec79 : (List Int × Int) → Option (List Int × Int)) (x1926 : List Int) (x1927 : Int) : Option (List Int × Int) :=
  (if (decide (x1927 < (x1.length : Int))) then ((idx x1 x1927).bind fun x2606 => ((M_R_between F x2606.1 0 1048576).bind fun x2610 => (if (!x2610) then M_R_RunsMerge_j87 F rec79 x1 x1926 x1927 true else ((M_R_between F x2606.2 1 300).bind fun x2612 => (if (!x2612) then M_R_RunsMerge_j87 F rec79 x1 x1926 x1927 true else M_R_RunsMerge_j87 F rec79 x1 x1926 x1927 (decide (1048576 < (isub .i64 (iadd .i64 x2606.1 x2606.2) 1)))))))) else M_R_RunsMerge_j35 F x4 x1926)
def M_R_RunsMerge_l79 (F : Nat) (x1 : List (Int × Int)) (x4 : List Int) : Nat → (List Int × Int) → Option (List Int × Int)
  | 0 => fun _ => none
  | k + 1 => fun s => M_R_RunsMerge_b79 F x1 x4 (M_R_RunsMerge_l79 F x1 x4 k) s.1 s.2
def M_R_RunsMerge (F : Nat) (x1 : List (Int × Int)) (x4 : List Int) : Option (List Int × Int) :=
  (if (decide (300 < (x1.length : Int))) then some (([] : List Int), 2) else M_R_RunsMerge_l79 F x1 x4 F (([] : List Int), 0))
/-! lampwright lampwrightref.SameRuns -/
def M_R_SameRuns_j2 (_F : Nat) : Option Bool :=
  some true
def M_R_SameRuns_b3 (F : Nat) (x1 : List (Int × Int)) (x4 : List (Int × Int)) (rec3 : Int → Option Bool) (x154 : Int) : Option Bool :=
  (if (decide (x154 < (x1.length : Int))) then ((idx x1 x154).bind fun x218 => ((idx x4 x154).bind fun x222 => (if (!(((x218.1 : Int) == x222.1) && ((x218.2 : Int) == x222.2))) then some false else rec3 (iadd .i64 x154 1)))) else M_R_SameRuns_j2 F)
def M_R_SameRuns_l3 (F : Nat) (x1 : List (Int × Int)) (x4 : List (Int × Int)) : Nat → Int → Option Bool
  | 0 => fun _ => none
  | k + 1 => fun s => M_R_SameRuns_b3 F x1 x4 (M_R_SameRuns_l3 F x1 x4 k) s
def M_R_SameRuns (F : Nat) (x1 : List (Int × Int)) (x4 : List (Int × Int)) : Option Bool :=
  (if (((x1.length : Int) : Int) != (x4.length : Int)) then some false else M_R_SameRuns_l3 F x1 x4 F 0)
/-! lampwright lampwrightlaw.runsBegun -/
def M_L_runsBegun_j2 (_F : Nat) (x8 : (List Int × Int)) (x11 : (Int × Int)) (x14 : (List Int × Int)) (x19 : (List Int × Int)) (x35 : Bool) : Option Bool :=
  some (((((x35 && ((x8.2 : Int) == 0)) && ((x11.1 : Int) == 3)) && ((x11.2 : Int) == 0)) && ((x14.2 : Int) == 4)) && ((x19.2 : Int) == 6))
def M_L_runsBegun_j1 (F : Nat) (x3 : (List (Int × Int) × List Int × Int)) (x8 : (List Int × Int)) (x11 : (Int × Int)) (x14 : (List Int × Int)) (x19 : (List Int × Int)) (x29 : Bool) : Option Bool :=
  (if (x29 && ((x3.2.2 : Int) == 0)) then ((M_R_SameInts F x8.1 ([1, 3, 4, 5, 8, 9] : List Int)).bind fun x43 => M_L_runsBegun_j2 F x8 x11 x14 x19 x43) else M_L_runsBegun_j2 F x8 x11 x14 x19 false)
def M_L_runsBegun (F : Nat)  : Option Bool :=
  ((M_runs_Split F ([1, 3, 4, 5, 8, 9] : List Int) 3).bind fun x3 => ((M_runs_Merge F x3.1 x3.2.1).bind fun x8 => ((M_runs_Count F x3.1).bind fun x11 => ((M_runs_Merge F ([(3, 2), (5, 1)] : List (Int × Int)) ([] : List Int)).bind fun x14 => ((M_runs_Merge F x3.1 ([4] : List Int)).bind fun x19 => ((M_R_SameRuns F x3.1 ([(3, 3)] : List (Int × Int))).bind fun x24 => (if x24 then ((M_R_SameInts F x3.2.1 ([1, 8, 9] : List Int)).bind fun x46 => M_L_runsBegun_j1 F x3 x8 x11 x14 x19 x46) else M_L_runsBegun_j1 F x3 x8 x11 x14 x19 false)))))))
/-! lampwright lampwrightlaw.RunsTell -/
def M_L_RunsTell_j6 (_F : Nat) (x16 : (List Int × Int)) (x19 : (Int × Int)) (x42 : (List Int × Int)) (x45 : (List Int × Int)) (x58 : Bool) : Option Bool :=
  some (((x58 && ((x16.2 : Int) == x42.2)) && ((x19.1 : Int) == (x45.1.length : Int))) && ((x19.2 : Int) == x45.2))
def M_L_RunsTell_j5 (F : Nat) (x11 : (List (Int × Int) × List Int × Int)) (x16 : (List Int × Int)) (x19 : (Int × Int)) (x26 : Int) (x42 : (List Int × Int)) (x45 : (List Int × Int)) (x54 : Bool) : Option Bool :=
  (if (x54 && ((x11.2.2 : Int) == x26)) then ((M_R_SameInts F x16.1 x42.1).bind fun x62 => M_L_RunsTell_j6 F x16 x19 x42 x45 x62) else M_L_RunsTell_j6 F x16 x19 x42 x45 false)
def M_L_RunsTell_j4 (F : Nat) (x11 : (List (Int × Int) × List Int × Int)) (x16 : (List Int × Int)) (x19 : (Int × Int)) (x26 : Int) (x41 : List Int) (x42 : (List Int × Int)) (x45 : (List Int × Int)) (x51 : Bool) : Option Bool :=
  (if x51 then ((M_R_SameInts F x11.2.1 x41).bind fun x63 => M_L_RunsTell_j5 F x11 x16 x19 x26 x42 x45 x63) else M_L_RunsTell_j5 F x11 x16 x19 x26 x42 x45 false)
def M_L_RunsTell_j3 (F : Nat) (x5 : List (Int × Int)) (x8 : List Int) (x11 : (List (Int × Int) × List Int × Int)) (x16 : (List Int × Int)) (x19 : (Int × Int)) (x26 : Int) (x38 : List (Int × Int)) (x41 : List Int) : Option Bool :=
  ((M_R_RunsMerge F x5 x8).bind fun x42 => ((M_R_RunsMerge F x5 ([] : List Int)).bind fun x45 => ((M_L_runsBegun F).bind fun x48 => (if x48 then ((M_R_SameRuns F x11.1 x38).bind fun x64 => M_L_RunsTell_j4 F x11 x16 x19 x26 x41 x42 x45 x64) else M_L_RunsTell_j4 F x11 x16 x19 x26 x41 x42 x45 false))))
def M_L_RunsTell_j2 (F : Nat) (x1 : List Int) (x4 : Int) (x5 : List (Int × Int)) (x8 : List Int) (x11 : (List (Int × Int) × List Int × Int)) (x16 : (List Int × Int)) (x19 : (Int × Int)) (x26 : Int) : Option Bool :=
  (if ((x26 : Int) == 0) then ((M_R_RunsSplit F x1 x4).bind fun x65 => M_L_RunsTell_j3 F x5 x8 x11 x16 x19 x26 x65.1 x65.2) else M_L_RunsTell_j3 F x5 x8 x11 x16 x19 x26 ([] : List (Int × Int)) ([] : List Int))
def M_L_RunsTell_j7 (F : Nat) (x1 : List Int) (x4 : Int) (x5 : List (Int × Int)) (x8 : List Int) (x11 : (List (Int × Int) × List Int × Int)) (x16 : (List Int × Int)) (x19 : (Int × Int)) (x20 : Int) (x73 : Bool) : Option Bool :=
  (if x73 then M_L_RunsTell_j2 F x1 x4 x5 x8 x11 x16 x19 3 else M_L_RunsTell_j2 F x1 x4 x5 x8 x11 x16 x19 x20)
def M_L_RunsTell (F : Nat) (x1 : List Int) (x4 : Int) (x5 : List (Int × Int)) (x8 : List Int) : Option Bool :=
  ((M_runs_Split F x1 x4).bind fun x11 => ((M_runs_Merge F x5 x8).bind fun x16 => ((M_runs_Count F x5).bind fun x19 => ((M_R_RisingCheck F x1).bind fun x20 => (if ((x20 : Int) == 0) then M_L_RunsTell_j7 F x1 x4 x5 x8 x11 x16 x19 x20 ((decide (x4 < 2)) || (decide (300 < x4))) else M_L_RunsTell_j7 F x1 x4 x5 x8 x11 x16 x19 x20 false)))))
/-! lampwright lampwrightlaw.RunsBack -/
def M_L_RunsBack_j5 (_F : Nat) (x65 : Bool) : Option Bool :=
  some x65
def M_L_RunsBack_j4 (F : Nat) (x4 : Int) (x5 : (List (Int × Int) × List Int × Int)) : Option Bool :=
  ((M_runs_Split F x5.2.1 x4).bind fun x57 => (if (((x57.2.2 : Int) == 0) && (((x57.1.length : Int) : Int) == 0)) then ((M_R_SameInts F x57.2.1 x5.2.1).bind fun x66 => M_L_RunsBack_j5 F x66) else M_L_RunsBack_j5 F false))
def M_L_RunsBack_b6 (F : Nat) (x4 : Int) (x5 : (List (Int × Int) × List Int × Int)) (rec6 : Int → Option Bool) (x77 : Int) : Option Bool :=
  (if (decide (x77 < (x5.1.length : Int))) then ((idx x5.1 x77).bind fun x94 => (if (decide (x94.2 < x4)) then some false else rec6 (iadd .i64 x77 1))) else M_L_RunsBack_j4 F x4 x5)
def M_L_RunsBack_l6 (F : Nat) (x4 : Int) (x5 : (List (Int × Int) × List Int × Int)) : Nat → Int → Option Bool
  | 0 => fun _ => none
  | k + 1 => fun s => M_L_RunsBack_b6 F x4 x5 (M_L_RunsBack_l6 F x4 x5 k) s
def M_L_RunsBack_j2 (F : Nat) (x4 : Int) (x5 : (List (Int × Int) × List Int × Int)) (x24 : Bool) : Option Bool :=
  (if x24 then some false else M_L_RunsBack_l6 F x4 x5 F 0)
def M_L_RunsBack (F : Nat) (x1 : List Int) (x4 : Int) : Option Bool :=
  ((M_runs_Split F x1 x4).bind fun x5 => ((M_L_runsBegun F).bind fun x12 => (if (!x12) then some false else (if ((x5.2.2 : Int) != 0) then some (((iadd .i64 (x5.1.length : Int) (x5.2.1.length : Int)) : Int) == 0) else ((M_runs_Merge F x5.1 x5.2.1).bind fun x14 => (if ((x14.2 : Int) != 0) then M_L_RunsBack_j2 F x4 x5 true else ((M_R_SameInts F x14.1 x1).bind fun x100 => M_L_RunsBack_j2 F x4 x5 (!x100))))))))
/-! lampwright lampwrightlaw.RunsOnly -/
def M_L_RunsOnly_j10 (_F : Nat) (x204 : Bool) : Option Bool :=
  some x204
def M_L_RunsOnly_j9 (F : Nat) (x4 : List Int) (x194 : (List (Int × Int) × List Int × Int)) (x201 : Bool) : Option Bool :=
  (if x201 then ((M_R_SameInts F x194.2.1 x4).bind fun x205 => M_L_RunsOnly_j10 F x205) else M_L_RunsOnly_j10 F false)
def M_L_RunsOnly_j8 (F : Nat) (x1 : List (Int × Int)) (x4 : List Int) (x7 : Int) (x8 : (List Int × Int)) : Option Bool :=
  ((M_R_RunsSplit F x4 x7).bind fun x189 => (if (decide (0 < (x189.1.length : Int))) then some true else ((M_runs_Split F x8.1 x7).bind fun x194 => (if ((x194.2.2 : Int) == 0) then ((M_R_SameRuns F x194.1 x1).bind fun x206 => M_L_RunsOnly_j9 F x4 x194 x206) else M_L_RunsOnly_j9 F x4 x194 false))))
def M_L_RunsOnly_j17 (_F : Nat) (rec15 : Int → Option Bool) (x262 : Int) (x357 : Bool) : Option Bool :=
  (if x357 then some true else rec15 (iadd .i64 x262 1))
def M_L_RunsOnly_b15 (F : Nat) (x1 : List (Int × Int)) (x4 : List Int) (x7 : Int) (x8 : (List Int × Int)) (rec15 : Int → Option Bool) (x262 : Int) : Option Bool :=
  (if (decide (x262 < (x1.length : Int))) then ((idx x1 x262).bind fun x359 => (if (decide (x359.2 < x7)) then M_L_RunsOnly_j17 F rec15 x262 true else ((idx x1 x262).bind fun x364 => ((M_R_HasInt F x4 (isub .i64 x364.1 1)).bind fun x368 => (if x368 then M_L_RunsOnly_j17 F rec15 x262 true else ((M_R_HasInt F x4 (iadd .i64 x364.1 x364.2)).bind fun x370 => M_L_RunsOnly_j17 F rec15 x262 x370)))))) else M_L_RunsOnly_j8 F x1 x4 x7 x8)
def M_L_RunsOnly_l15 (F : Nat) (x1 : List (Int × Int)) (x4 : List Int) (x7 : Int) (x8 : (List Int × Int)) : Nat → Int → Option Bool
  | 0 => fun _ => none
  | k + 1 => fun s => M_L_RunsOnly_b15 F x1 x4 x7 x8 (M_L_RunsOnly_l15 F x1 x4 x7 x8 k) s
def M_L_RunsOnly (F : Nat) (x1 : List (Int × Int)) (x4 : List Int) (x7 : Int) : Option Bool :=
  ((M_runs_Merge F x1 x4).bind fun x8 => ((M_L_runsBegun F).bind fun x13 => (if (!x13) then some false else (if ((((x8.2 : Int) != 0) || (decide (x7 < 2))) || (decide (300 < x7))) then some true else M_L_RunsOnly_l15 F x1 x4 x7 x8 F 0))))
/-! lampwright lampwrightlaw.RunsMore -/
def M_L_RunsMore_j95 (_F : Nat) (x5 : (List (Int × Int) × List Int × Int)) (x10 : (List (Int × Int) × List Int × Int)) : Option Bool :=
  some (decide ((x10.1.length : Int) ≤ (x5.1.length : Int)))
def M_L_RunsMore_j174 (_F : Nat) (rec158 : (Int × Int) → Option Bool) (x2008 : Int) (x2752 : Int) : Option Bool :=
  rec158 (x2752, iadd .i64 x2008 1)
def M_L_RunsMore_j182 (F : Nat) (rec158 : (Int × Int) → Option Bool) (x5 : (List (Int × Int) × List Int × Int)) (x2008 : Int) (x2875 : Int) : Option Bool :=
  (if (decide ((x5.1.length : Int) ≤ x2875)) then some false else M_L_RunsMore_j174 F rec158 x2008 x2875)
def M_L_RunsMore_j189 (F : Nat) (rec158 : (Int × Int) → Option Bool) (rec187 : Int → Option Bool) (x5 : (List (Int × Int) × List Int × Int)) (x2008 : Int) (x2917 : Int) (x2988 : Bool) : Option Bool :=
  (if x2988 then rec187 (iadd .i64 x2917 1) else M_L_RunsMore_j182 F rec158 x5 x2008 x2917)
def M_L_RunsMore_b187 (F : Nat) (rec158 : (Int × Int) → Option Bool) (x5 : (List (Int × Int) × List Int × Int)) (x10 : (List (Int × Int) × List Int × Int)) (x2008 : Int) (rec187 : Int → Option Bool) (x2917 : Int) : Option Bool :=
  (if (decide (x2917 < (x5.1.length : Int))) then ((idx x5.1 x2917).bind fun x2991 => ((idx x10.1 x2008).bind fun x2995 => M_L_RunsMore_j189 F rec158 rec187 x5 x2008 x2917 (!(((x2991.1 : Int) == x2995.1) && ((x2991.2 : Int) == x2995.2))))) else M_L_RunsMore_j189 F rec158 rec187 x5 x2008 x2917 false)
def M_L_RunsMore_l187 (F : Nat) (rec158 : (Int × Int) → Option Bool) (x5 : (List (Int × Int) × List Int × Int)) (x10 : (List (Int × Int) × List Int × Int)) (x2008 : Int) : Nat → Int → Option Bool
  | 0 => fun _ => none
  | k + 1 => fun s => M_L_RunsMore_b187 F rec158 x5 x10 x2008 (M_L_RunsMore_l187 F rec158 x5 x10 x2008 k) s
def M_L_RunsMore_b158 (F : Nat) (x5 : (List (Int × Int) × List Int × Int)) (x10 : (List (Int × Int) × List Int × Int)) (rec158 : (Int × Int) → Option Bool) (x2007 : Int) (x2008 : Int) : Option Bool :=
  (if (decide (x2008 < (x10.1.length : Int))) then M_L_RunsMore_l187 F rec158 x5 x10 x2008 F x2007 else M_L_RunsMore_j95 F x5 x10)
def M_L_RunsMore_l158 (F : Nat) (x5 : (List (Int × Int) × List Int × Int)) (x10 : (List (Int × Int) × List Int × Int)) : Nat → (Int × Int) → Option Bool
  | 0 => fun _ => none
  | k + 1 => fun s => M_L_RunsMore_b158 F x5 x10 (M_L_RunsMore_l158 F x5 x10 k) s.1 s.2
def M_L_RunsMore (F : Nat) (x1 : List Int) (x4 : Int) : Option Bool :=
  ((M_runs_Split F x1 x4).bind fun x5 => ((M_runs_Split F x1 (iadd .i64 x4 1)).bind fun x10 => ((M_L_runsBegun F).bind fun x17 => (if (!x17) then some false else (if ((x5.2.2 : Int) != 0) then some true else ((M_runs_Count F x5.1).bind fun x19 => (if (((x19.2 : Int) != 0) || (((iadd .i64 x19.1 (x5.2.1.length : Int)) : Int) != (x1.length : Int))) then some false else (if ((x10.2.2 : Int) != 0) then some ((x10.2.2 : Int) == 3) else M_L_RunsMore_l158 F x5 x10 F (0, 0)))))))))
/-! lampwright lampwrightlaw.RunsShift -/
def M_L_RunsShift_j18 (_F : Nat) (x6 : (List (Int × Int) × List Int × Int)) (x81 : (List (Int × Int) × List Int × Int)) : Option Bool :=
  some ((((x81.1.length : Int) : Int) == (x6.1.length : Int)) && (((x81.2.1.length : Int) : Int) == (x6.2.1.length : Int)))
def M_L_RunsShift_j25 (_F : Nat) (rec23 : Int → Option Bool) (x494 : Int) (x568 : Bool) : Option Bool :=
  (if x568 then some false else rec23 (iadd .i64 x494 1))
def M_L_RunsShift_b23 (F : Nat) (x5 : Int) (x6 : (List (Int × Int) × List Int × Int)) (x81 : (List (Int × Int) × List Int × Int)) (rec23 : Int → Option Bool) (x494 : Int) : Option Bool :=
  (if (decide (x494 < (x6.2.1.length : Int))) then (if (decide ((x81.2.1.length : Int) ≤ x494)) then M_L_RunsShift_j25 F rec23 x494 true else ((idx x81.2.1 x494).bind fun x571 => ((idx x6.2.1 x494).bind fun x575 => M_L_RunsShift_j25 F rec23 x494 ((x571 : Int) != (iadd .i64 x575 x5))))) else M_L_RunsShift_j18 F x6 x81)
def M_L_RunsShift_l23 (F : Nat) (x5 : Int) (x6 : (List (Int × Int) × List Int × Int)) (x81 : (List (Int × Int) × List Int × Int)) : Nat → Int → Option Bool
  | 0 => fun _ => none
  | k + 1 => fun s => M_L_RunsShift_b23 F x5 x6 x81 (M_L_RunsShift_l23 F x5 x6 x81 k) s
def M_L_RunsShift_j10 (F : Nat) (x5 : Int) (x6 : (List (Int × Int) × List Int × Int)) (x81 : (List (Int × Int) × List Int × Int)) : Option Bool :=
  M_L_RunsShift_l23 F x5 x6 x81 F 0
def M_L_RunsShift_j32 (_F : Nat) (rec30 : Int → Option Bool) (x658 : Int) (x795 : Bool) : Option Bool :=
  (if x795 then some false else rec30 (iadd .i64 x658 1))
def M_L_RunsShift_b30 (F : Nat) (x5 : Int) (x6 : (List (Int × Int) × List Int × Int)) (x81 : (List (Int × Int) × List Int × Int)) (rec30 : Int → Option Bool) (x658 : Int) : Option Bool :=
  (if (decide (x658 < (x6.1.length : Int))) then (if (decide ((x81.1.length : Int) ≤ x658)) then M_L_RunsShift_j32 F rec30 x658 true else ((idx x81.1 x658).bind fun x798 => ((idx x6.1 x658).bind fun x802 => (if ((x798.1 : Int) != (iadd .i64 x802.1 x5)) then M_L_RunsShift_j32 F rec30 x658 true else ((idx x81.1 x658).bind fun x807 => ((idx x6.1 x658).bind fun x811 => M_L_RunsShift_j32 F rec30 x658 ((x807.2 : Int) != x811.2))))))) else M_L_RunsShift_j10 F x5 x6 x81)
def M_L_RunsShift_l30 (F : Nat) (x5 : Int) (x6 : (List (Int × Int) × List Int × Int)) (x81 : (List (Int × Int) × List Int × Int)) : Nat → Int → Option Bool
  | 0 => fun _ => none
  | k + 1 => fun s => M_L_RunsShift_b30 F x5 x6 x81 (M_L_RunsShift_l30 F x5 x6 x81 k) s
def M_L_RunsShift_j2 (F : Nat) (x4 : Int) (x5 : Int) (x6 : (List (Int × Int) × List Int × Int)) (x80 : List Int) : Option Bool :=
  ((M_runs_Split F x80 x4).bind fun x81 => (if ((x81.2.2 : Int) != 0) then some ((x81.2.2 : Int) == 3) else M_L_RunsShift_l30 F x5 x6 x81 F 0))
def M_L_RunsShift_b33 (F : Nat) (x1 : List Int) (x4 : Int) (x5 : Int) (x6 : (List (Int × Int) × List Int × Int)) (rec33 : (List Int × Int) → Option Bool) (x837 : List Int) (x838 : Int) : Option Bool :=
  (if (decide (x838 < (x1.length : Int))) then ((idx x1 x838).bind fun x867 => ((app 8796093022208 x837 ([iadd .i64 x867 x5] : List Int)).bind fun x872 => rec33 (x872, iadd .i64 x838 1))) else M_L_RunsShift_j2 F x4 x5 x6 x837)
def M_L_RunsShift_l33 (F : Nat) (x1 : List Int) (x4 : Int) (x5 : Int) (x6 : (List (Int × Int) × List Int × Int)) : Nat → (List Int × Int) → Option Bool
  | 0 => fun _ => none
  | k + 1 => fun s => M_L_RunsShift_b33 F x1 x4 x5 x6 (M_L_RunsShift_l33 F x1 x4 x5 x6 k) s.1 s.2
def M_L_RunsShift (F : Nat) (x1 : List Int) (x4 : Int) (x5 : Int) : Option Bool :=
  ((M_runs_Split F x1 x4).bind fun x6 => ((M_L_runsBegun F).bind fun x13 => (if (!x13) then some false else (if ((((x6.2.2 : Int) != 0) || (decide (x5 < (-1048576)))) || (decide (1048576 < x5))) then some true else M_L_RunsShift_l33 F x1 x4 x5 x6 F (([] : List Int), 0)))))
/-! lampwright lampwrightlaw.RunsWhole -/
def M_L_RunsWhole_j6 (_F : Nat) (x89 : Bool) : Option Bool :=
  some x89
def M_L_RunsWhole_j4 (F : Nat) (x1 : Int) (x2 : Int) (x3 : Int) (x61 : List Int) (x62 : (List (Int × Int) × List Int × Int)) (x81 : Bool) : Option Bool :=
  (if x81 then some false else (if (decide (x2 < x3)) then (if (((x62.1.length : Int) : Int) == 0) then ((M_R_SameInts F x62.2.1 x61).bind fun x90 => M_L_RunsWhole_j6 F x90) else M_L_RunsWhole_j6 F false) else ((M_R_SameRuns F x62.1 ([(x1, x2)] : List (Int × Int))).bind fun x93 => some (x93 && (((x62.2.1.length : Int) : Int) == 0)))))
def M_L_RunsWhole_j2 (F : Nat) (x1 : Int) (x2 : Int) (x3 : Int) (x61 : List Int) : Option Bool :=
  ((M_runs_Split F x61 x3).bind fun x62 => ((M_runs_Merge F ([(x1, x2)] : List (Int × Int)) ([] : List Int)).bind fun x69 => (if (((x62.2.2 : Int) != 0) || ((x69.2 : Int) != 0)) then M_L_RunsWhole_j4 F x1 x2 x3 x61 x62 true else ((M_R_SameInts F x69.1 x61).bind fun x97 => M_L_RunsWhole_j4 F x1 x2 x3 x61 x62 (!x97)))))
def M_L_RunsWhole_b7 (F : Nat) (x1 : Int) (x2 : Int) (x3 : Int) (rec7 : (List Int × Int) → Option Bool) (x112 : List Int) (x113 : Int) : Option Bool :=
  (if (decide (x113 < x2)) then ((app 8796093022208 x112 ([iadd .i64 x1 x113] : List Int)).bind fun x135 => rec7 (x135, iadd .i64 x113 1)) else M_L_RunsWhole_j2 F x1 x2 x3 x112)
def M_L_RunsWhole_l7 (F : Nat) (x1 : Int) (x2 : Int) (x3 : Int) : Nat → (List Int × Int) → Option Bool
  | 0 => fun _ => none
  | k + 1 => fun s => M_L_RunsWhole_b7 F x1 x2 x3 (M_L_RunsWhole_l7 F x1 x2 x3 k) s.1 s.2
def M_L_RunsWhole (F : Nat) (x1 : Int) (x2 : Int) (x3 : Int) : Option Bool :=
  ((M_L_runsBegun F).bind fun x6 => (if (!x6) then some false else (if ((((((decide (x1 < 0)) || (decide (x2 < 1))) || (decide (300 < x2))) || (decide ((iadd .i64 (isub .i64 1048576 x2) 1) < x1))) || (decide (x3 < 2))) || (decide (300 < x3))) then some true else M_L_RunsWhole_l7 F x1 x2 x3 F (([] : List Int), 0))))
end Go.Proofs.Ytlnmibipnabdiaa
