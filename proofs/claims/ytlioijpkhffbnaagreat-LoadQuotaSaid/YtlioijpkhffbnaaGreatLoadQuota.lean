/- Proved: for every input the law LoadQuota returns true, and what came in reads as it did. No conditions. -/
import Derived.Test.YtlioijpkhffbnaaGreatWalks4
import Derived.Test.YtlioijpkhffbnaaGreatPureLoad6p2
import Derived.ProofKit
namespace Go.Proofs.YtlioijpkhffbnaaGreat
open Go.ChangeShapes Go.WideShapes Go.ChangeAt Go.RowKit SX
theorem loadQuotaOwn : ownKnob Tryz.prog.godebug = none := by kernel_rfl
theorem loadQuotaLaid : laidOutB Tryz.prog = true := by kernel_rfl
set_option maxRecDepth 100000 in
theorem loadQuota_lifted (os : Os) (started : os.Started) (H : Type) (enc : TypeId × Value → H) :
    ReturnsInHanded {} Tryz.checked os 6 .any (Rows.loadQuotaSpec.pre6 enc Tryz.prog Tryz.f6 Rows.loadQuotaRow.domain false) (Rows.loadQuotaSpec.post enc Tryz.prog Tryz.f6 false true false false) := by
  refine returnsInHanded_of_change (C := Tryz.checked) loadQuotaOwn started (by kernel_rfl) Tryz.func6
    (ChangeSpec.witness6 (enc := enc) (C := Tryz.checked) false ⟨#[], #[.slice none 0 0, .agg #[.int .i64 0, .int .i64 0, .int .i64 0, .int .i64 0], .int .i64 0, .int .i64 0, .int .i64 0, .int .i64 0], []⟩ 8 (by kernel_rfl) (by kernel_rfl) (by kernel_rfl) (by kernel_rfl)) ?_
  intro W base args ds gs before hval0 hW _ _
  have hval : ∀ (j : Nat) t v, Tryz.f6.params[j]? = some t → args[j]? = some v → Value.okWide Tryz.prog W .any base t v := hval0
  have hW' := hW
  obtain ⟨p, q, hA0, hV, rfl, _, _⟩ := hW
  have hA : DataW.TrodAll enc Tryz.prog W 0 (fun _ => true) true Tryz.f6.params.toList args.toList ds p := hA0
  rw [Tryz.params6] at hA hval
  obtain ⟨args⟩ := args
  obtain ⟨v0, r0, d0, s0, q0, z0, e0, rfl, rfl, h0, k0⟩ := trodAll_cons hA
  obtain ⟨v1, r1, d1, s1, q1, z1, e1, rfl, rfl, h1, k1⟩ := trodAll_cons k0
  obtain ⟨v2, r2, d2, s2, q2, z2, e2, rfl, rfl, h2, k2⟩ := trodAll_cons k1
  obtain ⟨v3, r3, d3, s3, q3, z3, e3, rfl, rfl, h3, k3⟩ := trodAll_cons k2
  obtain ⟨v4, r4, d4, s4, q4, z4, e4, rfl, rfl, h4, k4⟩ := trodAll_cons k3
  obtain ⟨v5, r5, d5, s5, q5, z5, e5, rfl, rfl, h5, k5⟩ := trodAll_cons k4
  obtain ⟨e6, rfl, rfl⟩ := trodAll_nil k5
  subst e6
  subst e5
  subst e4
  subst e3
  subst e2
  subst e1
  obtain rfl : args = _ := e0
  obtain ⟨rfl, rfl⟩ := trodVars_none hV
  obtain ⟨a0, c0, p0, rfl, n0, w0, l00⟩ := qlB Tryz.underlying27 Tryz.underlying5 (by kernel_rfl) (hval 0 27 v0 rfl rfl) h0
  have b0 := fun y hy => qnB (w0 y hy)
  have l0 : p0.length ≤ 9223372036854775807 := l00
  have o1 := hval 1 29 v1 rfl rfl
  obtain ⟨cs1, rfl, hz1⟩ := okWide_struct Tryz.underlying29 o1
  obtain ⟨z1_0, z1_1, z1_2, z1_3, rfl⟩ := arr4 (hz1.trans (by kernel_rfl))
  obtain ⟨fu1, t1⟩ := h1
  obtain ⟨_, _, t1_0⟩ := qcg (cs := [z1_0, z1_1, z1_2, z1_3]) (cs' := [z1_0]) Tryz.underlying29 (i := 0) rfl (k := 1) (by kernel_rfl) rfl t1
  obtain ⟨_, _, t1_1⟩ := qcg (cs := [z1_0, z1_1, z1_2, z1_3]) (cs' := [z1_1]) Tryz.underlying29 (i := 1) rfl (k := 1) (by kernel_rfl) rfl t1
  obtain ⟨_, _, t1_2⟩ := qcg (cs := [z1_0, z1_1, z1_2, z1_3]) (cs' := [z1_2]) Tryz.underlying29 (i := 2) rfl (k := 1) (by kernel_rfl) rfl t1
  obtain ⟨_, _, t1_3⟩ := qcg (cs := [z1_0, z1_1, z1_2, z1_3]) (cs' := [z1_3]) Tryz.underlying29 (i := 3) rfl (k := 1) (by kernel_rfl) rfl t1
  have lf1 := qkR Tryz.underlying29 (ts := [3, 3, 3, 3]) (by kernel_rfl) o1
  obtain ⟨m1_0, rfl, u1_0⟩ := qdF Tryz.underlying3 (lf1 0 _ 3 (by decide) rfl rfl) t1_0
  have g1_0 := j5 u1_0
  obtain ⟨m1_1, rfl, u1_1⟩ := qdF Tryz.underlying3 (lf1 1 _ 3 (by decide) rfl rfl) t1_1
  have g1_1 := j5 u1_1
  obtain ⟨m1_2, rfl, u1_2⟩ := qdF Tryz.underlying3 (lf1 2 _ 3 (by decide) rfl rfl) t1_2
  have g1_2 := j5 u1_2
  obtain ⟨m1_3, rfl, u1_3⟩ := qdF Tryz.underlying3 (lf1 3 _ 3 (by decide) rfl rfl) t1_3
  have g1_3 := j5 u1_3
  obtain ⟨p2, rfl, rfl, rfl, w2⟩ := open_int Tryz.underlying3 (hval 2 3 v2 rfl rfl) h2
  have b2 := j5 w2
  obtain ⟨p3, rfl, rfl, rfl, w3⟩ := open_int Tryz.underlying3 (hval 3 3 v3 rfl rfl) h3
  have b3 := j5 w3
  obtain ⟨p4, rfl, rfl, rfl, w4⟩ := open_int Tryz.underlying3 (hval 4 3 v4 rfl rfl) h4
  have b4 := j5 w4
  obtain ⟨p5, rfl, rfl, rfl, w5⟩ := open_int Tryz.underlying3 (hval 5 3 v5 rfl rfl) h5
  have b5 := j5 w5
  clear hA0 hval0
  refine (qfo (2000000) p0 a0 c0 m1_0 m1_1 m1_2 m1_3 p2 p3 p4 p5 true (qig (Nat.le_refl _) b0) W (Hp.start (qmp n0 qn9))).mono ?_
  rintro e W' ⟨g, rfl, hr⟩
  exact ⟨_, rfl, qmg loadQuotaLaid (by kernel_rfl) rfl Tryz.underlying4 rfl hW' rfl hr.keep⟩
theorem loadQuota_holds : Rows.LoadQuotaSaid :=
  OpenClaim.holds_of_wide 6 Tryz.f6 rfl rfl rfl rfl rfl rfl rfl ⟨rfl, rfl, rfl, rfl, rfl⟩ rfl rfl rfl rfl rfl (by kernel_rfl) Tryz.func6 (by kernel_rfl)
    (of_decide_eq_true (by kernel_rfl)) (by unfold Func.isWrapper; first | (rw [if_pos (by decide +kernel)]; kernel_rfl) | (rw [if_neg (by decide +kernel)]; exact ⟨rfl, rfl⟩))
    (fun os started H enc _ => loadQuota_lifted os started H enc)
end Go.Proofs.YtlioijpkhffbnaaGreat
