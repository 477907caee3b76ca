/- Proved: for every input the law SuccCopy returns true, and what came in reads as it did. No conditions. -/
import Derived.Test.YtidnfcdnhdbolaaWalks2
import Derived.Test.YtidnfcdnhdbolaaPure
import Derived.ProofKit
namespace Go.Proofs.Ytidnfcdnhdbolaa
open Go.ChangeShapes Go.WideShapes Go.ChangeAt Go.RowKit SX

theorem succCopyOwn : ownKnob Try.prog.godebug = none := by kernel_rfl
theorem succCopyLaid : laidOutB Try.prog = true := by kernel_rfl

set_option maxRecDepth 100000 in
theorem succCopy_lifted (os : Os) (started : os.Started) (H : Type) (enc : TypeId × Value → H) :
    ReturnsInHanded {} Try.checked os 4 .any (Rows.succCopySpec.pre6 enc Try.prog Try.f4 Rows.succCopyRow.domain false) (Rows.succCopySpec.post enc Try.prog Try.f4 false true false false) := by
  refine returnsInHanded_of_change (C := Try.checked) succCopyOwn started (by kernel_rfl) Try.func4
    (ChangeSpec.witness6 (enc := enc) (C := Try.checked) false ⟨#[], #[.int .i64 0, .slice none 0 0, .agg #[.int .i64 0, .int .i64 0, .int .i64 0]], []⟩ 8 (by kernel_rfl) (by kernel_rfl) (by kernel_rfl) (by kernel_rfl)) ?_
  intro W base args ds gs before hval0 hW _ _
  have hval : ∀ (j : Nat) t v, Try.f4.params[j]? = some t → args[j]? = some v → Value.okWide Try.prog W .any base t v := hval0
  have hW' := hW
  obtain ⟨p, q, hA0, hV, rfl, _, _⟩ := hW
  have hA : DataW.TrodAll enc Try.prog W 0 (fun _ => true) true Try.f4.params.toList args.toList ds p := hA0
  rw [Try.params4] at hA hval
  obtain ⟨args⟩ := args
  obtain ⟨v0, r0, d0, s0, q0, z0, e0, rfl, rfl, h0, k0⟩ := trodAll_cons hA
  obtain ⟨v1, r1, d1, s1, q1, z1, e1, rfl, rfl, h1, k1⟩ := trodAll_cons k0
  obtain ⟨v2, r2, d2, s2, q2, z2, e2, rfl, rfl, h2, k2⟩ := trodAll_cons k1
  obtain ⟨e3, rfl, rfl⟩ := trodAll_nil k2
  subst e3
  subst e2
  subst e1
  obtain rfl : args = _ := e0
  obtain ⟨rfl, rfl⟩ := trodVars_none hV
  obtain ⟨p0, rfl, rfl, rfl, w0⟩ := open_int Try.underlying3 (hval 0 3 v0 rfl rfl) h0
  have b0 := i64_of_wf w0
  obtain ⟨a1, c1, p1, rfl, n1, w1, l10⟩ := arg_ints Try.underlying22 Try.underlying3 (by kernel_rfl) (hval 1 22 v1 rfl rfl) h1
  have b1 := fun y hy => i64_of_wf (w1 y hy)
  have l1 : p1.length ≤ 9223372036854775807 := l10
  have o2 := hval 2 24 v2 rfl rfl
  obtain ⟨cs2, rfl, hz2⟩ := okWide_struct Try.underlying24 o2
  obtain ⟨z2_0, z2_1, z2_2, rfl⟩ := arr3 (hz2.trans (by kernel_rfl))
  obtain ⟨fu2, t2⟩ := h2
  obtain ⟨_, _, t2_0⟩ := trod_field (cs := [z2_0, z2_1, z2_2]) (cs' := [z2_0]) Try.underlying24 (i := 0) rfl (k := 1) (by kernel_rfl) rfl t2
  obtain ⟨_, _, t2_1⟩ := trod_field (cs := [z2_0, z2_1, z2_2]) (cs' := [z2_1]) Try.underlying24 (i := 1) rfl (k := 1) (by kernel_rfl) rfl t2
  obtain ⟨_, _, t2_2⟩ := trod_field (cs := [z2_0, z2_1, z2_2]) (cs' := [z2_2]) Try.underlying24 (i := 2) rfl (k := 1) (by kernel_rfl) rfl t2
  have lf2 := agg_cells Try.underlying24 (ts := [3, 3, 3]) (by kernel_rfl) o2
  obtain ⟨m2_0, rfl, u2_0⟩ := leaf_int Try.underlying3 (lf2 0 _ 3 (by decide) rfl rfl) t2_0
  have g2_0 := i64_of_wf u2_0
  obtain ⟨m2_1, rfl, u2_1⟩ := leaf_int Try.underlying3 (lf2 1 _ 3 (by decide) rfl rfl) t2_1
  have g2_1 := i64_of_wf u2_1
  obtain ⟨m2_2, rfl, u2_2⟩ := leaf_int Try.underlying3 (lf2 2 _ 3 (by decide) rfl rfl) t2_2
  have g2_2 := i64_of_wf u2_2
  clear hA0 hval0
  refine (C_L_SuccCopy (2000000) p0 p1 a1 c1 m2_0 m2_1 m2_2 true (law_scopy (Nat.le_refl _) l1) W (Hp.start (nec_cons n1 nec_nil))).mono ?_
  rintro e W' ⟨g, rfl, hr⟩
  exact ⟨_, rfl, law_post succCopyLaid (by kernel_rfl) rfl Try.underlying4 rfl hW' rfl hr.keep⟩
theorem succCopy_holds : Rows.SuccCopySaid :=
  OpenClaim.holds_of_wide 4 Try.f4 rfl rfl rfl rfl rfl rfl rfl ⟨rfl, rfl, rfl, rfl, rfl⟩ rfl rfl rfl rfl rfl (by kernel_rfl) Try.func4 (by kernel_rfl)
    (of_decide_eq_true (by kernel_rfl)) (by unfold Func.isWrapper; first | (rw [if_pos (by decide +kernel)]; kernel_rfl) | (rw [if_neg (by decide +kernel)]; exact ⟨rfl, rfl⟩))
    (fun os started H enc _ => succCopy_lifted os started H enc)
end Go.Proofs.Ytidnfcdnhdbolaa
