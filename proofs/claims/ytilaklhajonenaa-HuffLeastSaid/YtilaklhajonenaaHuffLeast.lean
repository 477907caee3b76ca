/- Proved: for every input the law HuffLeast returns true, and what came in reads as it did. No conditions. -/
import Derived.Test.YtilaklhajonenaaWalks2
import Derived.Test.YtilaklhajonenaaPure
import Derived.ProofKit
namespace Go.Proofs.Ytilaklhajonenaa
open Go.ChangeShapes Go.WideShapes Go.ChangeAt Go.RowKit SX

theorem huffLeastOwn : ownKnob Try.prog.godebug = none := by kernel_rfl
theorem huffLeastLaid : laidOutB Try.prog = true := by kernel_rfl

set_option maxRecDepth 100000 in
theorem huffLeast_lifted (os : Os) (started : os.Started) (H : Type) (enc : TypeId × Value → H) :
    ReturnsInHanded {} Try.checked os 10 .any (Rows.huffLeastSpec.pre6 enc Try.prog Try.f10 Rows.huffLeastRow.domain false) (Rows.huffLeastSpec.post enc Try.prog Try.f10 false true false false) := by
  refine returnsInHanded_of_change (C := Try.checked) huffLeastOwn started (by kernel_rfl) Try.func10
    (ChangeSpec.witness6 (enc := enc) (C := Try.checked) false ⟨#[], #[.slice none 0 0, .slice none 0 0], []⟩ 8 (by kernel_rfl) (by kernel_rfl) (by kernel_rfl) (by kernel_rfl)) ?_
  intro W base args ds gs before hval0 hW _ _
  have hval : ∀ (j : Nat) t v, Try.f10.params[j]? = some t → args[j]? = some v → Value.okWide Try.prog W .any base t v := hval0
  have hW' := hW
  obtain ⟨p, q, hA0, hV, rfl, _, _⟩ := hW
  have hA : DataW.TrodAll enc Try.prog W 0 (fun _ => true) true Try.f10.params.toList args.toList ds p := hA0
  rw [Try.params10] at hA hval
  obtain ⟨args⟩ := args
  obtain ⟨v0, r0, d0, s0, q0, z0, e0, rfl, rfl, h0, k0⟩ := trodAll_cons hA
  obtain ⟨v1, r1, d1, s1, q1, z1, e1, rfl, rfl, h1, k1⟩ := trodAll_cons k0
  obtain ⟨e2, rfl, rfl⟩ := trodAll_nil k1
  subst e2
  subst e1
  obtain rfl : args = _ := e0
  obtain ⟨rfl, rfl⟩ := trodVars_none hV
  obtain ⟨a0, c0, p0, rfl, n0, w0, l00⟩ := arg_ints Try.underlying22 Try.underlying3 (by kernel_rfl) (hval 0 22 v0 rfl rfl) h0
  have b0 := fun y hy => i64_of_wf (w0 y hy)
  have l0 : p0.length ≤ 9223372036854775807 := l00
  obtain ⟨a1, c1, p1, rfl, n1, w1, l10⟩ := arg_ints Try.underlying22 Try.underlying3 (by kernel_rfl) (hval 1 22 v1 rfl rfl) h1
  have b1 := fun y hy => i64_of_wf (w1 y hy)
  have l1 : p1.length ≤ 9223372036854775807 := l10
  clear hA0 hval0
  refine (C_L_HuffLeast (200000) p0 a0 c0 p1 a1 c1 true (law_hleast (by decide)) W (Hp.start (nec_cons n0 (nec_cons n1 nec_nil)))).mono ?_
  rintro e W' ⟨g, rfl, hr⟩
  exact ⟨_, rfl, law_post huffLeastLaid (by kernel_rfl) rfl Try.underlying4 rfl hW' rfl hr.keep⟩
theorem huffLeast_holds : Rows.HuffLeastSaid :=
  OpenClaim.holds_of_wide 10 Try.f10 rfl rfl rfl rfl rfl rfl rfl ⟨rfl, rfl, rfl, rfl, rfl⟩ rfl rfl rfl rfl rfl (by kernel_rfl) Try.func10 (by kernel_rfl)
    (of_decide_eq_true (by kernel_rfl)) (by unfold Func.isWrapper; first | (rw [if_pos (by decide +kernel)]; kernel_rfl) | (rw [if_neg (by decide +kernel)]; exact ⟨rfl, rfl⟩))
    (fun os started H enc _ => huffLeast_lifted os started H enc)
end Go.Proofs.Ytilaklhajonenaa
