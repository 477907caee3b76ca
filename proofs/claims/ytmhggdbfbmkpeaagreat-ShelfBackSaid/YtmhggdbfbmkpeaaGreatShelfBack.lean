/- Proved: for every input the law ShelfBack returns true, and what came in reads as it did. No conditions. -/
import Derived.Test.YtmhggdbfbmkpeaaGreatWalks4
import Derived.Test.YtmhggdbfbmkpeaaGreatPureShelf5p2
import Derived.ProofKit
namespace Go.Proofs.YtmhggdbfbmkpeaaGreat
open Go.ChangeShapes Go.WideShapes Go.ChangeAt Go.RowKit SX
theorem shelfBackOwn : ownKnob Tryz.prog.godebug = none := by kernel_rfl
theorem shelfBackLaid : laidOutB Tryz.prog = true := by kernel_rfl
set_option maxRecDepth 100000 in
theorem shelfBack_lifted (os : Os) (started : os.Started) (H : Type) (enc : TypeId × Value → H) :
    ReturnsInHanded {} Tryz.checked os 5 .any (Rows.shelfBackSpec.pre6 enc Tryz.prog Tryz.f5 Rows.shelfBackRow.domain false) (Rows.shelfBackSpec.post enc Tryz.prog Tryz.f5 false true false false) := by
  refine returnsInHanded_of_change (C := Tryz.checked) shelfBackOwn started (by kernel_rfl) Tryz.func5
    (ChangeSpec.witness6 (enc := enc) (C := Tryz.checked) false ⟨#[], #[.agg #[.int .i64 0, .int .i64 0, .int .i64 0, .int .i64 0, .int .i64 0, .slice none 0 0, .int .i64 0, .int .i64 0, .int .i64 0, .int .i64 0, .slice none 0 0, .int .i64 0, .slice none 0 0]], []⟩ 8 (by kernel_rfl) (by kernel_rfl) (by kernel_rfl) (by kernel_rfl)) ?_
  intro W base args ds gs before hval0 hW _ _
  have hval : ∀ (j : Nat) t v, Tryz.f5.params[j]? = some t → args[j]? = some v → Value.okWide Tryz.prog W .any base t v := hval0
  have hW' := hW
  obtain ⟨p, q, hA0, hV, rfl, _, _⟩ := hW
  have hA : DataW.TrodAll enc Tryz.prog W 0 (fun _ => true) true Tryz.f5.params.toList args.toList ds p := hA0
  rw [Tryz.params5] at hA hval
  obtain ⟨args⟩ := args
  obtain ⟨v0, r0, d0, s0, q0, z0, e0, rfl, rfl, h0, k0⟩ := trodAll_cons hA
  obtain ⟨e1, rfl, rfl⟩ := trodAll_nil k0
  subst e1
  obtain rfl : args = _ := e0
  obtain ⟨rfl, rfl⟩ := trodVars_none hV
  have o0 := hval 0 35 v0 rfl rfl
  obtain ⟨cs0, rfl, hz0⟩ := okWide_struct Tryz.underlying35 o0
  obtain ⟨z0_0, z0_1, z0_2, z0_3, z0_4, z0_5, z0_6, z0_7, z0_8, z0_9, z0_10, z0_11, z0_12, rfl⟩ := arr13 (hz0.trans (by kernel_rfl))
  obtain ⟨fu0, t0⟩ := h0
  obtain ⟨_, _, t0_0⟩ := zm (cs := [z0_0, z0_1, z0_2, z0_3, z0_4, z0_5, z0_6, z0_7, z0_8, z0_9, z0_10, z0_11, z0_12]) (cs' := [z0_0, z0_1, z0_2, z0_3, z0_4, z0_5]) Tryz.underlying35 (i := 0) rfl (k := 6) (by kernel_rfl) rfl t0
  obtain ⟨_, _, t0_1⟩ := zm (cs := [z0_0, z0_1, z0_2, z0_3, z0_4, z0_5]) (cs' := [z0_0]) Tryz.underlying31 (i := 0) rfl (k := 1) (by kernel_rfl) rfl t0_0
  obtain ⟨_, _, t0_2⟩ := zm (cs := [z0_0, z0_1, z0_2, z0_3, z0_4, z0_5]) (cs' := [z0_1, z0_2, z0_3]) Tryz.underlying31 (i := 1) rfl (k := 3) (by kernel_rfl) rfl t0_0
  obtain ⟨_, _, t0_3⟩ := zm (cs := [z0_1, z0_2, z0_3]) (cs' := [z0_1]) Tryz.underlying26 (i := 0) rfl (k := 1) (by kernel_rfl) rfl t0_2
  obtain ⟨_, _, t0_4⟩ := zm (cs := [z0_1, z0_2, z0_3]) (cs' := [z0_2]) Tryz.underlying26 (i := 1) rfl (k := 1) (by kernel_rfl) rfl t0_2
  obtain ⟨_, _, t0_5⟩ := zm (cs := [z0_1, z0_2, z0_3]) (cs' := [z0_3]) Tryz.underlying26 (i := 2) rfl (k := 1) (by kernel_rfl) rfl t0_2
  obtain ⟨_, _, t0_6⟩ := zm (cs := [z0_0, z0_1, z0_2, z0_3, z0_4, z0_5]) (cs' := [z0_4, z0_5]) Tryz.underlying31 (i := 2) rfl (k := 2) (by kernel_rfl) rfl t0_0
  obtain ⟨_, _, t0_7⟩ := zm (cs := [z0_4, z0_5]) (cs' := [z0_4]) Tryz.underlying29 (i := 0) rfl (k := 1) (by kernel_rfl) rfl t0_6
  obtain ⟨_, _, t0_8⟩ := zm (cs := [z0_4, z0_5]) (cs' := [z0_5]) Tryz.underlying29 (i := 1) rfl (k := 1) (by kernel_rfl) rfl t0_6
  obtain ⟨_, _, t0_9⟩ := zm (cs := [z0_0, z0_1, z0_2, z0_3, z0_4, z0_5, z0_6, z0_7, z0_8, z0_9, z0_10, z0_11, z0_12]) (cs' := [z0_6, z0_7, z0_8, z0_9, z0_10, z0_11, z0_12]) Tryz.underlying35 (i := 1) rfl (k := 7) (by kernel_rfl) rfl t0
  obtain ⟨_, _, t0_10⟩ := zm (cs := [z0_6, z0_7, z0_8, z0_9, z0_10, z0_11, z0_12]) (cs' := [z0_6]) Tryz.underlying33 (i := 0) rfl (k := 1) (by kernel_rfl) rfl t0_9
  obtain ⟨_, _, t0_11⟩ := zm (cs := [z0_6, z0_7, z0_8, z0_9, z0_10, z0_11, z0_12]) (cs' := [z0_7]) Tryz.underlying33 (i := 1) rfl (k := 1) (by kernel_rfl) rfl t0_9
  obtain ⟨_, _, t0_12⟩ := zm (cs := [z0_6, z0_7, z0_8, z0_9, z0_10, z0_11, z0_12]) (cs' := [z0_8]) Tryz.underlying33 (i := 2) rfl (k := 1) (by kernel_rfl) rfl t0_9
  obtain ⟨_, _, t0_13⟩ := zm (cs := [z0_6, z0_7, z0_8, z0_9, z0_10, z0_11, z0_12]) (cs' := [z0_9, z0_10]) Tryz.underlying33 (i := 3) rfl (k := 2) (by kernel_rfl) rfl t0_9
  obtain ⟨_, _, t0_14⟩ := zm (cs := [z0_9, z0_10]) (cs' := [z0_9]) Tryz.underlying29 (i := 0) rfl (k := 1) (by kernel_rfl) rfl t0_13
  obtain ⟨_, _, t0_15⟩ := zm (cs := [z0_9, z0_10]) (cs' := [z0_10]) Tryz.underlying29 (i := 1) rfl (k := 1) (by kernel_rfl) rfl t0_13
  obtain ⟨_, _, t0_16⟩ := zm (cs := [z0_6, z0_7, z0_8, z0_9, z0_10, z0_11, z0_12]) (cs' := [z0_11, z0_12]) Tryz.underlying33 (i := 4) rfl (k := 2) (by kernel_rfl) rfl t0_9
  obtain ⟨_, _, t0_17⟩ := zm (cs := [z0_11, z0_12]) (cs' := [z0_11]) Tryz.underlying29 (i := 0) rfl (k := 1) (by kernel_rfl) rfl t0_16
  obtain ⟨_, _, t0_18⟩ := zm (cs := [z0_11, z0_12]) (cs' := [z0_12]) Tryz.underlying29 (i := 1) rfl (k := 1) (by kernel_rfl) rfl t0_16
  have lf0 := qlr Tryz.underlying35 (ts := [3, 3, 3, 3, 3, 27, 3, 3, 3, 3, 27, 3, 27]) (by kernel_rfl) o0
  obtain ⟨m0_0, rfl, u0_0⟩ := j4 Tryz.underlying3 (lf0 0 _ 3 (by decide) rfl rfl) t0_1
  have g0_0 := vY u0_0
  obtain ⟨m0_1, rfl, u0_1⟩ := j4 Tryz.underlying3 (lf0 1 _ 3 (by decide) rfl rfl) t0_3
  have g0_1 := vY u0_1
  obtain ⟨m0_2, rfl, u0_2⟩ := j4 Tryz.underlying3 (lf0 2 _ 3 (by decide) rfl rfl) t0_4
  have g0_2 := vY u0_2
  obtain ⟨m0_3, rfl, u0_3⟩ := j4 Tryz.underlying3 (lf0 3 _ 3 (by decide) rfl rfl) t0_5
  have g0_3 := vY u0_3
  obtain ⟨m0_4, rfl, u0_4⟩ := j4 Tryz.underlying3 (lf0 4 _ 3 (by decide) rfl rfl) t0_7
  have g0_4 := vY u0_4
  obtain ⟨a0_5, c0_5, p0_5, rfl, n0_5, w0_5, l0_50⟩ := qeu Tryz.underlying27 Tryz.underlying5 (by kernel_rfl) (lf0 5 _ 27 (by decide) rfl rfl) t0_8
  have b0_5 := fun y hy => qfS (w0_5 y hy)
  have l0_5 : p0_5.length ≤ 9223372036854775807 := l0_50
  obtain ⟨m0_6, rfl, u0_6⟩ := j4 Tryz.underlying3 (lf0 6 _ 3 (by decide) rfl rfl) t0_10
  have g0_6 := vY u0_6
  obtain ⟨m0_7, rfl, u0_7⟩ := j4 Tryz.underlying3 (lf0 7 _ 3 (by decide) rfl rfl) t0_11
  have g0_7 := vY u0_7
  obtain ⟨m0_8, rfl, u0_8⟩ := j4 Tryz.underlying3 (lf0 8 _ 3 (by decide) rfl rfl) t0_12
  have g0_8 := vY u0_8
  obtain ⟨m0_9, rfl, u0_9⟩ := j4 Tryz.underlying3 (lf0 9 _ 3 (by decide) rfl rfl) t0_14
  have g0_9 := vY u0_9
  obtain ⟨a0_10, c0_10, p0_10, rfl, n0_10, w0_10, l0_100⟩ := qeu Tryz.underlying27 Tryz.underlying5 (by kernel_rfl) (lf0 10 _ 27 (by decide) rfl rfl) t0_15
  have b0_10 := fun y hy => qfS (w0_10 y hy)
  have l0_10 : p0_10.length ≤ 9223372036854775807 := l0_100
  obtain ⟨m0_11, rfl, u0_11⟩ := j4 Tryz.underlying3 (lf0 11 _ 3 (by decide) rfl rfl) t0_17
  have g0_11 := vY u0_11
  obtain ⟨a0_12, c0_12, p0_12, rfl, n0_12, w0_12, l0_120⟩ := qeu Tryz.underlying27 Tryz.underlying5 (by kernel_rfl) (lf0 12 _ 27 (by decide) rfl rfl) t0_18
  have b0_12 := fun y hy => qfS (w0_12 y hy)
  have l0_12 : p0_12.length ≤ 9223372036854775807 := l0_120
  clear hA0 hval0
  refine (qfV (2000200) m0_0 m0_1 m0_2 m0_3 m0_4 p0_5 a0_5 c0_5 m0_6 m0_7 m0_8 m0_9 p0_10 a0_10 c0_10 m0_11 p0_12 a0_12 c0_12 true (qlC (Nat.le_refl _) b0_5 g0_4 l0_5) W (Hp.start (qfx n0_5 (qfx n0_10 (qfx n0_12 qoA))))).mono ?_
  rintro e W' ⟨g, rfl, hr⟩
  exact ⟨_, rfl, qmJ shelfBackLaid (by kernel_rfl) rfl Tryz.underlying4 rfl hW' rfl hr.keep⟩
theorem shelfBack_holds : Rows.ShelfBackSaid :=
  OpenClaim.holds_of_wide 5 Tryz.f5 rfl rfl rfl rfl rfl rfl rfl ⟨rfl, rfl, rfl, rfl, rfl⟩ rfl rfl rfl rfl rfl (by kernel_rfl) Tryz.func5 (by kernel_rfl)
    (of_decide_eq_true (by kernel_rfl)) (by unfold Func.isWrapper; first | (rw [if_pos (by decide +kernel)]; kernel_rfl) | (rw [if_neg (by decide +kernel)]; exact ⟨rfl, rfl⟩))
    (fun os started H enc _ => shelfBack_lifted os started H enc)
end Go.Proofs.YtmhggdbfbmkpeaaGreat
