/- Proved: for every input the law FanoTells returns true, and what came in reads as it did. No conditions. -/
import Derived.Test.YtecangnmnkejfaaWalks3
import Derived.Test.YtecangnmnkejfaaPureFano7
import Derived.ProofKit
namespace Go.Proofs.Ytecangnmnkejfaa
open Go.ChangeShapes Go.WideShapes Go.ChangeAt Go.RowKit SX

theorem fanoTellsOwn : ownKnob Try.prog.godebug = none := by kernel_rfl
theorem fanoTellsLaid : laidOutB Try.prog = true := by kernel_rfl

set_option maxRecDepth 100000 in
theorem fanoTells_lifted (os : Os) (started : os.Started) (H : Type) (enc : TypeId × Value → H) :
    ReturnsInHanded {} Try.checked os 7 .any (Rows.fanoTellsSpec.pre6 enc Try.prog Try.f7 Rows.fanoTellsRow.domain false) (Rows.fanoTellsSpec.post enc Try.prog Try.f7 false true false false) := by
  refine returnsInHanded_of_change (C := Try.checked) fanoTellsOwn started (by kernel_rfl) Try.func7
    (ChangeSpec.witness6 (enc := enc) (C := Try.checked) false ⟨#[], #[.slice none 0 0, .int .i64 0, .agg #[.int .i64 0, .int .i64 0, .int .i64 0, .int .i64 0, .slice none 0 0, .int .i64 0, .slice none 0 0], .int .i64 0], []⟩ 8 (by kernel_rfl) (by kernel_rfl) (by kernel_rfl) (by kernel_rfl)) ?_
  intro W base args ds gs before hval0 hW _ _
  have hval : ∀ (j : Nat) t v, Try.f7.params[j]? = some t → args[j]? = some v → Value.okWide Try.prog W .any base t v := hval0
  have hW' := hW
  obtain ⟨p, q, hA0, hV, rfl, _, _⟩ := hW
  have hA : DataW.TrodAll enc Try.prog W 0 (fun _ => true) true Try.f7.params.toList args.toList ds p := hA0
  rw [Try.params7] at hA hval
  obtain ⟨args⟩ := args
  obtain ⟨v0, r0, d0, s0, q0, z0, e0, rfl, rfl, h0, k0⟩ := trodAll_cons hA
  obtain ⟨v1, r1, d1, s1, q1, z1, e1, rfl, rfl, h1, k1⟩ := trodAll_cons k0
  obtain ⟨v2, r2, d2, s2, q2, z2, e2, rfl, rfl, h2, k2⟩ := trodAll_cons k1
  obtain ⟨v3, r3, d3, s3, q3, z3, e3, rfl, rfl, h3, k3⟩ := trodAll_cons k2
  obtain ⟨e4, rfl, rfl⟩ := trodAll_nil k3
  subst e4
  subst e3
  subst e2
  subst e1
  obtain rfl : args = _ := e0
  obtain ⟨rfl, rfl⟩ := trodVars_none hV
  obtain ⟨a0, c0, p0, rfl, n0, w0, l00⟩ := arg_ints Try.underlying23 Try.underlying3 (by kernel_rfl) (hval 0 23 v0 rfl rfl) h0
  have b0 := fun y hy => i64_of_wf (w0 y hy)
  have l0 : p0.length ≤ 9223372036854775807 := l00
  obtain ⟨p1, rfl, rfl, rfl, w1⟩ := open_int Try.underlying3 (hval 1 3 v1 rfl rfl) h1
  have b1 := i64_of_wf w1
  have o2 := hval 2 51 v2 rfl rfl
  obtain ⟨cs2, rfl, hz2⟩ := okWide_struct Try.underlying51 o2
  obtain ⟨z2_0, z2_1, z2_2, z2_3, z2_4, z2_5, z2_6, rfl⟩ := arr7 (hz2.trans (by kernel_rfl))
  obtain ⟨fu2, t2⟩ := h2
  obtain ⟨_, _, t2_0⟩ := trod_field (cs := [z2_0, z2_1, z2_2, z2_3, z2_4, z2_5, z2_6]) (cs' := [z2_0]) Try.underlying51 (i := 0) rfl (k := 1) (by kernel_rfl) rfl t2
  obtain ⟨_, _, t2_1⟩ := trod_field (cs := [z2_0, z2_1, z2_2, z2_3, z2_4, z2_5, z2_6]) (cs' := [z2_1]) Try.underlying51 (i := 1) rfl (k := 1) (by kernel_rfl) rfl t2
  obtain ⟨_, _, t2_2⟩ := trod_field (cs := [z2_0, z2_1, z2_2, z2_3, z2_4, z2_5, z2_6]) (cs' := [z2_2]) Try.underlying51 (i := 2) rfl (k := 1) (by kernel_rfl) rfl t2
  obtain ⟨_, _, t2_3⟩ := trod_field (cs := [z2_0, z2_1, z2_2, z2_3, z2_4, z2_5, z2_6]) (cs' := [z2_3, z2_4]) Try.underlying51 (i := 3) rfl (k := 2) (by kernel_rfl) rfl t2
  obtain ⟨_, _, t2_4⟩ := trod_field (cs := [z2_3, z2_4]) (cs' := [z2_3]) Try.underlying26 (i := 0) rfl (k := 1) (by kernel_rfl) rfl t2_3
  obtain ⟨_, _, t2_5⟩ := trod_field (cs := [z2_3, z2_4]) (cs' := [z2_4]) Try.underlying26 (i := 1) rfl (k := 1) (by kernel_rfl) rfl t2_3
  obtain ⟨_, _, t2_6⟩ := trod_field (cs := [z2_0, z2_1, z2_2, z2_3, z2_4, z2_5, z2_6]) (cs' := [z2_5, z2_6]) Try.underlying51 (i := 4) rfl (k := 2) (by kernel_rfl) rfl t2
  obtain ⟨_, _, t2_7⟩ := trod_field (cs := [z2_5, z2_6]) (cs' := [z2_5]) Try.underlying26 (i := 0) rfl (k := 1) (by kernel_rfl) rfl t2_6
  obtain ⟨_, _, t2_8⟩ := trod_field (cs := [z2_5, z2_6]) (cs' := [z2_6]) Try.underlying26 (i := 1) rfl (k := 1) (by kernel_rfl) rfl t2_6
  have lf2 := agg_cells Try.underlying51 (ts := [3, 3, 3, 3, 24, 3, 24]) (by kernel_rfl) o2
  obtain ⟨m2_0, rfl, u2_0⟩ := leaf_int Try.underlying3 (lf2 0 _ 3 (by decide) rfl rfl) t2_0
  have g2_0 := i64_of_wf u2_0
  obtain ⟨m2_1, rfl, u2_1⟩ := leaf_int Try.underlying3 (lf2 1 _ 3 (by decide) rfl rfl) t2_1
  have g2_1 := i64_of_wf u2_1
  obtain ⟨m2_2, rfl, u2_2⟩ := leaf_int Try.underlying3 (lf2 2 _ 3 (by decide) rfl rfl) t2_2
  have g2_2 := i64_of_wf u2_2
  obtain ⟨m2_3, rfl, u2_3⟩ := leaf_int Try.underlying3 (lf2 3 _ 3 (by decide) rfl rfl) t2_4
  have g2_3 := i64_of_wf u2_3
  obtain ⟨a2_4, c2_4, p2_4, rfl, n2_4, w2_4, l2_40⟩ := leaf_ints Try.underlying24 Try.underlying5 (by kernel_rfl) (lf2 4 _ 24 (by decide) rfl rfl) t2_5
  have b2_4 := fun y hy => u8_of_wf (w2_4 y hy)
  have l2_4 : p2_4.length ≤ 9223372036854775807 := l2_40
  obtain ⟨m2_5, rfl, u2_5⟩ := leaf_int Try.underlying3 (lf2 5 _ 3 (by decide) rfl rfl) t2_7
  have g2_5 := i64_of_wf u2_5
  obtain ⟨a2_6, c2_6, p2_6, rfl, n2_6, w2_6, l2_60⟩ := leaf_ints Try.underlying24 Try.underlying5 (by kernel_rfl) (lf2 6 _ 24 (by decide) rfl rfl) t2_8
  have b2_6 := fun y hy => u8_of_wf (w2_6 y hy)
  have l2_6 : p2_6.length ≤ 9223372036854775807 := l2_60
  obtain ⟨p3, rfl, rfl, rfl, w3⟩ := open_int Try.underlying3 (hval 3 3 v3 rfl rfl) h3
  have b3 := i64_of_wf w3
  clear hA0 hval0
  refine (C_L_FanoTells (20000) p0 a0 c0 p1 m2_0 m2_1 m2_2 m2_3 p2_4 a2_4 c2_4 m2_5 p2_6 a2_6 c2_6 p3 true (law_ftells (Nat.le_refl _) ⟨b2_4, b2_6, g2_3, g2_5, l2_4, l2_6⟩) W (Hp.start (nec_cons n0 (nec_cons n2_4 (nec_cons n2_6 nec_nil))))).mono ?_
  rintro e W' ⟨g, rfl, hr⟩
  exact ⟨_, rfl, law_post fanoTellsLaid (by kernel_rfl) rfl Try.underlying4 rfl hW' rfl hr.keep⟩
theorem fanoTells_holds : Rows.FanoTellsSaid :=
  OpenClaim.holds_of_wide 7 Try.f7 rfl rfl rfl rfl rfl rfl rfl ⟨rfl, rfl, rfl, rfl, rfl⟩ rfl rfl rfl rfl rfl (by kernel_rfl) Try.func7 (by kernel_rfl)
    (of_decide_eq_true (by kernel_rfl)) (by unfold Func.isWrapper; first | (rw [if_pos (by decide +kernel)]; kernel_rfl) | (rw [if_neg (by decide +kernel)]; exact ⟨rfl, rfl⟩))
    (fun os started H enc _ => fanoTells_lifted os started H enc)
end Go.Proofs.Ytecangnmnkejfaa
