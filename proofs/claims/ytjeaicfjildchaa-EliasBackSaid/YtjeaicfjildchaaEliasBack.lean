/- Proved: for every input the law EliasBack returns true, and what came in reads as it did. No conditions. -/
import Derived.Test.YtjeaicfjildchaaWalks
import Derived.Test.YtjeaicfjildchaaPureElias4
import Derived.ProofKit
namespace Go.Proofs.Ytjeaicfjildchaa
open Go.ChangeShapes Go.WideShapes Go.ChangeAt Go.RowKit SX

theorem eliasBackOwn : ownKnob Try.prog.godebug = none := by kernel_rfl
theorem eliasBackLaid : laidOutB Try.prog = true := by kernel_rfl

set_option maxRecDepth 100000 in
theorem eliasBack_lifted (os : Os) (started : os.Started) (H : Type) (enc : TypeId × Value → H) :
    ReturnsInHanded {} Try.checked os 9 .any (Rows.eliasBackSpec.pre6 enc Try.prog Try.f9 Rows.eliasBackRow.domain false) (Rows.eliasBackSpec.post enc Try.prog Try.f9 false true false false) := by
  refine returnsInHanded_of_change (C := Try.checked) eliasBackOwn started (by kernel_rfl) Try.func9
    (ChangeSpec.witness6 (enc := enc) (C := Try.checked) false ⟨#[], #[.int .u64 0, .agg #[.int .i64 0, .slice none 0 0]], []⟩ 8 (by kernel_rfl) (by kernel_rfl) (by kernel_rfl) (by kernel_rfl)) ?_
  intro W base args ds gs before hval0 hW _ _
  have hval : ∀ (j : Nat) t v, Try.f9.params[j]? = some t → args[j]? = some v → Value.okWide Try.prog W .any base t v := hval0
  have hW' := hW
  obtain ⟨p, q, hA0, hV, rfl, _, _⟩ := hW
  have hA : DataW.TrodAll enc Try.prog W 0 (fun _ => true) true Try.f9.params.toList args.toList ds p := hA0
  rw [Try.params9] at hA hval
  obtain ⟨args⟩ := args
  obtain ⟨v0, r0, d0, s0, q0, z0, e0, rfl, rfl, h0, k0⟩ := trodAll_cons hA
  obtain ⟨v1, r1, d1, s1, q1, z1, e1, rfl, rfl, h1, k1⟩ := trodAll_cons k0
  obtain ⟨e2, rfl, rfl⟩ := trodAll_nil k1
  subst e2
  subst e1
  obtain rfl : args = _ := e0
  obtain ⟨rfl, rfl⟩ := trodVars_none hV
  obtain ⟨p0, rfl, rfl, rfl, w0⟩ := open_int Try.underlying22 (hval 0 22 v0 rfl rfl) h0
  have b0 := u64_of_wf w0
  obtain ⟨m1, a1, c1, p1, rfl, u1, n1, w1, l10⟩ := arg_int_slice Try.underlying25 (by kernel_rfl) (by kernel_rfl) (by kernel_rfl) Try.underlying3 Try.underlying23 Try.underlying5 (by kernel_rfl) (hval 1 25 v1 rfl rfl) h1
  have g1 := i64_of_wf u1
  have b1 := fun y hy => u8_of_wf (w1 y hy)
  have l1 : p1.length ≤ 9223372036854775807 := l10
  clear hA0 hval0
  refine (C_L_EliasBack (20000) p0 m1 p1 a1 c1 true (law_eback (Nat.le_refl _) b0 b1 g1 l1) W (Hp.start (nec_cons n1 nec_nil))).mono ?_
  rintro e W' ⟨g, rfl, hr⟩
  exact ⟨_, rfl, law_post eliasBackLaid (by kernel_rfl) rfl Try.underlying4 rfl hW' rfl hr.keep⟩
theorem eliasBack_holds : Rows.EliasBackSaid :=
  OpenClaim.holds_of_wide 9 Try.f9 rfl rfl rfl rfl rfl rfl rfl ⟨rfl, rfl, rfl, rfl, rfl⟩ rfl rfl rfl rfl rfl (by kernel_rfl) Try.func9 (by kernel_rfl)
    (of_decide_eq_true (by kernel_rfl)) (by unfold Func.isWrapper; first | (rw [if_pos (by decide +kernel)]; kernel_rfl) | (rw [if_neg (by decide +kernel)]; exact ⟨rfl, rfl⟩))
    (fun os started H enc _ => eliasBack_lifted os started H enc)
end Go.Proofs.Ytjeaicfjildchaa
