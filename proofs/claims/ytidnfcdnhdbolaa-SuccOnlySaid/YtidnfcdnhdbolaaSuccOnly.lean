/- Proved: for every input the law SuccOnly returns true, and what came in reads as it did. No conditions. -/
import Derived.Test.YtidnfcdnhdbolaaWalks3
import Derived.Test.YtidnfcdnhdbolaaPure
import Derived.ProofKit
namespace Go.Proofs.Ytidnfcdnhdbolaa
open Go.ChangeShapes Go.WideShapes Go.ChangeAt Go.RowKit SX

theorem succOnlyOwn : ownKnob Try.prog.godebug = none := by kernel_rfl
theorem succOnlyLaid : laidOutB Try.prog = true := by kernel_rfl

set_option maxRecDepth 100000 in
theorem succOnly_lifted (os : Os) (started : os.Started) (H : Type) (enc : TypeId × Value → H) :
    ReturnsInHanded {} Try.checked os 6 .any (Rows.succOnlySpec.pre6 enc Try.prog Try.f6 Rows.succOnlyRow.domain false) (Rows.succOnlySpec.post enc Try.prog Try.f6 false true false false) := by
  refine returnsInHanded_of_change (C := Try.checked) succOnlyOwn started (by kernel_rfl) Try.func6
    (ChangeSpec.witness6 (enc := enc) (C := Try.checked) false ⟨#[], #[.agg #[.int .i64 0, .slice none 0 0], .int .i64 0, .int .i64 0, .slice none 0 0, .agg #[.int .i64 0, .int .i64 0, .int .i64 0]], []⟩ 8 (by kernel_rfl) (by kernel_rfl) (by kernel_rfl) (by kernel_rfl)) ?_
  intro W base args ds gs before hval0 hW _ _
  have hval : ∀ (j : Nat) t v, Try.f6.params[j]? = some t → args[j]? = some v → Value.okWide Try.prog W .any base t v := hval0
  have hW' := hW
  obtain ⟨p, q, hA0, hV, rfl, _, _⟩ := hW
  have hA : DataW.TrodAll enc Try.prog W 0 (fun _ => true) true Try.f6.params.toList args.toList ds p := hA0
  rw [Try.params6] at hA hval
  obtain ⟨args⟩ := args
  obtain ⟨v0, r0, d0, s0, q0, z0, e0, rfl, rfl, h0, k0⟩ := trodAll_cons hA
  obtain ⟨v1, r1, d1, s1, q1, z1, e1, rfl, rfl, h1, k1⟩ := trodAll_cons k0
  obtain ⟨v2, r2, d2, s2, q2, z2, e2, rfl, rfl, h2, k2⟩ := trodAll_cons k1
  obtain ⟨v3, r3, d3, s3, q3, z3, e3, rfl, rfl, h3, k3⟩ := trodAll_cons k2
  obtain ⟨v4, r4, d4, s4, q4, z4, e4, rfl, rfl, h4, k4⟩ := trodAll_cons k3
  obtain ⟨e5, rfl, rfl⟩ := trodAll_nil k4
  subst e5
  subst e4
  subst e3
  subst e2
  subst e1
  obtain rfl : args = _ := e0
  obtain ⟨rfl, rfl⟩ := trodVars_none hV
  obtain ⟨m0, a0, c0, p0, rfl, u0, n0, w0, l00⟩ := arg_int_slice Try.underlying27 (by kernel_rfl) (by kernel_rfl) (by kernel_rfl) Try.underlying3 Try.underlying25 Try.underlying5 (by kernel_rfl) (hval 0 27 v0 rfl rfl) h0
  have g0 := i64_of_wf u0
  have b0 := fun y hy => u8_of_wf (w0 y hy)
  have l0 : p0.length ≤ 9223372036854775807 := l00
  obtain ⟨p1, rfl, rfl, rfl, w1⟩ := open_int Try.underlying3 (hval 1 3 v1 rfl rfl) h1
  have b1 := i64_of_wf w1
  obtain ⟨p2, rfl, rfl, rfl, w2⟩ := open_int Try.underlying3 (hval 2 3 v2 rfl rfl) h2
  have b2 := i64_of_wf w2
  obtain ⟨a3, c3, p3, rfl, n3, w3, l30⟩ := arg_ints Try.underlying22 Try.underlying3 (by kernel_rfl) (hval 3 22 v3 rfl rfl) h3
  have b3 := fun y hy => i64_of_wf (w3 y hy)
  have l3 : p3.length ≤ 9223372036854775807 := l30
  have o4 := hval 4 24 v4 rfl rfl
  obtain ⟨cs4, rfl, hz4⟩ := okWide_struct Try.underlying24 o4
  obtain ⟨z4_0, z4_1, z4_2, rfl⟩ := arr3 (hz4.trans (by kernel_rfl))
  obtain ⟨fu4, t4⟩ := h4
  obtain ⟨_, _, t4_0⟩ := trod_field (cs := [z4_0, z4_1, z4_2]) (cs' := [z4_0]) Try.underlying24 (i := 0) rfl (k := 1) (by kernel_rfl) rfl t4
  obtain ⟨_, _, t4_1⟩ := trod_field (cs := [z4_0, z4_1, z4_2]) (cs' := [z4_1]) Try.underlying24 (i := 1) rfl (k := 1) (by kernel_rfl) rfl t4
  obtain ⟨_, _, t4_2⟩ := trod_field (cs := [z4_0, z4_1, z4_2]) (cs' := [z4_2]) Try.underlying24 (i := 2) rfl (k := 1) (by kernel_rfl) rfl t4
  have lf4 := agg_cells Try.underlying24 (ts := [3, 3, 3]) (by kernel_rfl) o4
  obtain ⟨m4_0, rfl, u4_0⟩ := leaf_int Try.underlying3 (lf4 0 _ 3 (by decide) rfl rfl) t4_0
  have g4_0 := i64_of_wf u4_0
  obtain ⟨m4_1, rfl, u4_1⟩ := leaf_int Try.underlying3 (lf4 1 _ 3 (by decide) rfl rfl) t4_1
  have g4_1 := i64_of_wf u4_1
  obtain ⟨m4_2, rfl, u4_2⟩ := leaf_int Try.underlying3 (lf4 2 _ 3 (by decide) rfl rfl) t4_2
  have g4_2 := i64_of_wf u4_2
  clear hA0 hval0
  refine (C_L_SuccOnly (2000000) m0 p0 a0 c0 p1 p2 p3 a3 c3 m4_0 m4_1 m4_2 true (law_sonly (Nat.le_refl _) b0 g0 l0) W (Hp.start (nec_cons n0 (nec_cons n3 nec_nil)))).mono ?_
  rintro e W' ⟨g, rfl, hr⟩
  exact ⟨_, rfl, law_post succOnlyLaid (by kernel_rfl) rfl Try.underlying4 rfl hW' rfl hr.keep⟩
theorem succOnly_holds : Rows.SuccOnlySaid :=
  OpenClaim.holds_of_wide 6 Try.f6 rfl rfl rfl rfl rfl rfl rfl ⟨rfl, rfl, rfl, rfl, rfl⟩ rfl rfl rfl rfl rfl (by kernel_rfl) Try.func6 (by kernel_rfl)
    (of_decide_eq_true (by kernel_rfl)) (by unfold Func.isWrapper; first | (rw [if_pos (by decide +kernel)]; kernel_rfl) | (rw [if_neg (by decide +kernel)]; exact ⟨rfl, rfl⟩))
    (fun os started H enc _ => succOnly_lifted os started H enc)
end Go.Proofs.Ytidnfcdnhdbolaa
