/- Proved: for every input the law SuccShift returns true, and what came in reads as it did. No conditions. -/
import Derived.Test.YtidnfcdnhdbolaaWalks2
import Derived.Test.YtidnfcdnhdbolaaPure
import Derived.ProofKit
namespace Go.Proofs.Ytidnfcdnhdbolaa
open Go.ChangeShapes Go.WideShapes Go.ChangeAt Go.RowKit SX

theorem succShiftOwn : ownKnob Try.prog.godebug = none := by kernel_rfl
theorem succShiftLaid : laidOutB Try.prog = true := by kernel_rfl

set_option maxRecDepth 100000 in
theorem succShift_lifted (os : Os) (started : os.Started) (H : Type) (enc : TypeId × Value → H) :
    ReturnsInHanded {} Try.checked os 3 .any (Rows.succShiftSpec.pre6 enc Try.prog Try.f3 Rows.succShiftRow.domain false) (Rows.succShiftSpec.post enc Try.prog Try.f3 false true false false) := by
  refine returnsInHanded_of_change (C := Try.checked) succShiftOwn started (by kernel_rfl) Try.func3
    (ChangeSpec.witness6 (enc := enc) (C := Try.checked) false ⟨#[], #[.int .i64 0, .slice none 0 0, .slice none 0 0, .agg #[.int .i64 0, .int .i64 0, .int .i64 0], .int .i64 0], []⟩ 8 (by kernel_rfl) (by kernel_rfl) (by kernel_rfl) (by kernel_rfl)) ?_
  intro W base args ds gs before hval0 hW _ _
  have hval : ∀ (j : Nat) t v, Try.f3.params[j]? = some t → args[j]? = some v → Value.okWide Try.prog W .any base t v := hval0
  have hW' := hW
  obtain ⟨p, q, hA0, hV, rfl, _, _⟩ := hW
  have hA : DataW.TrodAll enc Try.prog W 0 (fun _ => true) true Try.f3.params.toList args.toList ds p := hA0
  rw [Try.params3] at hA hval
  obtain ⟨args⟩ := args
  obtain ⟨v0, r0, d0, s0, q0, z0, e0, rfl, rfl, h0, k0⟩ := trodAll_cons hA
  obtain ⟨v1, r1, d1, s1, q1, z1, e1, rfl, rfl, h1, k1⟩ := trodAll_cons k0
  obtain ⟨v2, r2, d2, s2, q2, z2, e2, rfl, rfl, h2, k2⟩ := trodAll_cons k1
  obtain ⟨v3, r3, d3, s3, q3, z3, e3, rfl, rfl, h3, k3⟩ := trodAll_cons k2
  obtain ⟨v4, r4, d4, s4, q4, z4, e4, rfl, rfl, h4, k4⟩ := trodAll_cons k3
  obtain ⟨e5, rfl, rfl⟩ := trodAll_nil k4
  subst e5
  subst e4
  subst e3
  subst e2
  subst e1
  obtain rfl : args = _ := e0
  obtain ⟨rfl, rfl⟩ := trodVars_none hV
  obtain ⟨p0, rfl, rfl, rfl, w0⟩ := open_int Try.underlying3 (hval 0 3 v0 rfl rfl) h0
  have b0 := i64_of_wf w0
  obtain ⟨a1, c1, p1, rfl, n1, w1, l10⟩ := arg_ints Try.underlying22 Try.underlying3 (by kernel_rfl) (hval 1 22 v1 rfl rfl) h1
  have b1 := fun y hy => i64_of_wf (w1 y hy)
  have l1 : p1.length ≤ 9223372036854775807 := l10
  obtain ⟨a2, c2, p2, rfl, n2, w2, l20⟩ := arg_ints Try.underlying22 Try.underlying3 (by kernel_rfl) (hval 2 22 v2 rfl rfl) h2
  have b2 := fun y hy => i64_of_wf (w2 y hy)
  have l2 : p2.length ≤ 9223372036854775807 := l20
  have o3 := hval 3 24 v3 rfl rfl
  obtain ⟨cs3, rfl, hz3⟩ := okWide_struct Try.underlying24 o3
  obtain ⟨z3_0, z3_1, z3_2, rfl⟩ := arr3 (hz3.trans (by kernel_rfl))
  obtain ⟨fu3, t3⟩ := h3
  obtain ⟨_, _, t3_0⟩ := trod_field (cs := [z3_0, z3_1, z3_2]) (cs' := [z3_0]) Try.underlying24 (i := 0) rfl (k := 1) (by kernel_rfl) rfl t3
  obtain ⟨_, _, t3_1⟩ := trod_field (cs := [z3_0, z3_1, z3_2]) (cs' := [z3_1]) Try.underlying24 (i := 1) rfl (k := 1) (by kernel_rfl) rfl t3
  obtain ⟨_, _, t3_2⟩ := trod_field (cs := [z3_0, z3_1, z3_2]) (cs' := [z3_2]) Try.underlying24 (i := 2) rfl (k := 1) (by kernel_rfl) rfl t3
  have lf3 := agg_cells Try.underlying24 (ts := [3, 3, 3]) (by kernel_rfl) o3
  obtain ⟨m3_0, rfl, u3_0⟩ := leaf_int Try.underlying3 (lf3 0 _ 3 (by decide) rfl rfl) t3_0
  have g3_0 := i64_of_wf u3_0
  obtain ⟨m3_1, rfl, u3_1⟩ := leaf_int Try.underlying3 (lf3 1 _ 3 (by decide) rfl rfl) t3_1
  have g3_1 := i64_of_wf u3_1
  obtain ⟨m3_2, rfl, u3_2⟩ := leaf_int Try.underlying3 (lf3 2 _ 3 (by decide) rfl rfl) t3_2
  have g3_2 := i64_of_wf u3_2
  obtain ⟨p4, rfl, rfl, rfl, w4⟩ := open_int Try.underlying3 (hval 4 3 v4 rfl rfl) h4
  have b4 := i64_of_wf w4
  clear hA0 hval0
  refine (C_L_SuccShift (2000000) p0 p1 a1 c1 p2 a2 c2 m3_0 m3_1 m3_2 p4 true (law_sshift (Nat.le_refl _)) W (Hp.start (nec_cons n1 (nec_cons n2 nec_nil)))).mono ?_
  rintro e W' ⟨g, rfl, hr⟩
  exact ⟨_, rfl, law_post succShiftLaid (by kernel_rfl) rfl Try.underlying4 rfl hW' rfl hr.keep⟩
theorem succShift_holds : Rows.SuccShiftSaid :=
  OpenClaim.holds_of_wide 3 Try.f3 rfl rfl rfl rfl rfl rfl rfl ⟨rfl, rfl, rfl, rfl, rfl⟩ rfl rfl rfl rfl rfl (by kernel_rfl) Try.func3 (by kernel_rfl)
    (of_decide_eq_true (by kernel_rfl)) (by unfold Func.isWrapper; first | (rw [if_pos (by decide +kernel)]; kernel_rfl) | (rw [if_neg (by decide +kernel)]; exact ⟨rfl, rfl⟩))
    (fun os started H enc _ => succShift_lifted os started H enc)
end Go.Proofs.Ytidnfcdnhdbolaa
