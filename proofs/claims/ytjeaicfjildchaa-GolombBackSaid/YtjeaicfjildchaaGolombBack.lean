/- Proved: for every input the law GolombBack returns true, and what came in reads as it did. No conditions. -/
import Derived.Test.YtjeaicfjildchaaWalks2
import Derived.Test.YtjeaicfjildchaaPureGolomb5
import Derived.ProofKit
namespace Go.Proofs.Ytjeaicfjildchaa
open Go.ChangeShapes Go.WideShapes Go.ChangeAt Go.RowKit SX

theorem golombBackOwn : ownKnob Try.prog.godebug = none := by kernel_rfl
theorem golombBackLaid : laidOutB Try.prog = true := by kernel_rfl

set_option maxRecDepth 100000 in
theorem golombBack_lifted (os : Os) (started : os.Started) (H : Type) (enc : TypeId × Value → H) :
    ReturnsInHanded {} Try.checked os 12 .any (Rows.golombBackSpec.pre6 enc Try.prog Try.f12 Rows.golombBackRow.domain false) (Rows.golombBackSpec.post enc Try.prog Try.f12 false true false false) := by
  refine returnsInHanded_of_change (C := Try.checked) golombBackOwn started (by kernel_rfl) Try.func12
    (ChangeSpec.witness6 (enc := enc) (C := Try.checked) false ⟨#[], #[.int .u64 0, .int .u64 0, .int .i64 0, .agg #[.int .i64 0, .slice none 0 0]], []⟩ 8 (by kernel_rfl) (by kernel_rfl) (by kernel_rfl) (by kernel_rfl)) ?_
  intro W base args ds gs before hval0 hW _ _
  have hval : ∀ (j : Nat) t v, Try.f12.params[j]? = some t → args[j]? = some v → Value.okWide Try.prog W .any base t v := hval0
  have hW' := hW
  obtain ⟨p, q, hA0, hV, rfl, _, _⟩ := hW
  have hA : DataW.TrodAll enc Try.prog W 0 (fun _ => true) true Try.f12.params.toList args.toList ds p := hA0
  rw [Try.params12] at hA hval
  obtain ⟨args⟩ := args
  obtain ⟨v0, r0, d0, s0, q0, z0, e0, rfl, rfl, h0, k0⟩ := trodAll_cons hA
  obtain ⟨v1, r1, d1, s1, q1, z1, e1, rfl, rfl, h1, k1⟩ := trodAll_cons k0
  obtain ⟨v2, r2, d2, s2, q2, z2, e2, rfl, rfl, h2, k2⟩ := trodAll_cons k1
  obtain ⟨v3, r3, d3, s3, q3, z3, e3, rfl, rfl, h3, k3⟩ := trodAll_cons k2
  obtain ⟨e4, rfl, rfl⟩ := trodAll_nil k3
  subst e4
  subst e3
  subst e2
  subst e1
  obtain rfl : args = _ := e0
  obtain ⟨rfl, rfl⟩ := trodVars_none hV
  obtain ⟨p0, rfl, rfl, rfl, w0⟩ := open_int Try.underlying22 (hval 0 22 v0 rfl rfl) h0
  have b0 := u64_of_wf w0
  obtain ⟨p1, rfl, rfl, rfl, w1⟩ := open_int Try.underlying22 (hval 1 22 v1 rfl rfl) h1
  have b1 := u64_of_wf w1
  obtain ⟨p2, rfl, rfl, rfl, w2⟩ := open_int Try.underlying3 (hval 2 3 v2 rfl rfl) h2
  have b2 := i64_of_wf w2
  obtain ⟨m3, a3, c3, p3, rfl, u3, n3, w3, l30⟩ := arg_int_slice Try.underlying25 (by kernel_rfl) (by kernel_rfl) (by kernel_rfl) Try.underlying3 Try.underlying23 Try.underlying5 (by kernel_rfl) (hval 3 25 v3 rfl rfl) h3
  have g3 := i64_of_wf u3
  have b3 := fun y hy => u8_of_wf (w3 y hy)
  have l3 : p3.length ≤ 9223372036854775807 := l30
  clear hA0 hval0
  refine (C_L_GolombBack (20000) p0 p1 p2 m3 p3 a3 c3 true (law_gback (Nat.le_refl _) b0 g3 b3 l3) W (Hp.start (nec_cons n3 nec_nil))).mono ?_
  rintro e W' ⟨g, rfl, hr⟩
  exact ⟨_, rfl, law_post golombBackLaid (by kernel_rfl) rfl Try.underlying4 rfl hW' rfl hr.keep⟩
theorem golombBack_holds : Rows.GolombBackSaid :=
  OpenClaim.holds_of_wide 12 Try.f12 rfl rfl rfl rfl rfl rfl rfl ⟨rfl, rfl, rfl, rfl, rfl⟩ rfl rfl rfl rfl rfl (by kernel_rfl) Try.func12 (by kernel_rfl)
    (of_decide_eq_true (by kernel_rfl)) (by unfold Func.isWrapper; first | (rw [if_pos (by decide +kernel)]; kernel_rfl) | (rw [if_neg (by decide +kernel)]; exact ⟨rfl, rfl⟩))
    (fun os started H enc _ => golombBack_lifted os started H enc)
end Go.Proofs.Ytjeaicfjildchaa
