/- Proved: for every input the law HuffBack returns true, and what came in reads as it did. No conditions. -/
import Derived.Test.YtilaklhajonenaaWalks2
import Derived.Test.YtilaklhajonenaaPureHuff11
import Derived.ProofKit
namespace Go.Proofs.Ytilaklhajonenaa
open Go.ChangeShapes Go.WideShapes Go.ChangeAt Go.RowKit SX

theorem huffBackOwn : ownKnob Try.prog.godebug = none := by kernel_rfl
theorem huffBackLaid : laidOutB Try.prog = true := by kernel_rfl

set_option maxRecDepth 100000 in
theorem huffBack_lifted (os : Os) (started : os.Started) (H : Type) (enc : TypeId × Value → H) :
    ReturnsInHanded {} Try.checked os 4 .any (Rows.huffBackSpec.pre6 enc Try.prog Try.f4 Rows.huffBackRow.domain false) (Rows.huffBackSpec.post enc Try.prog Try.f4 false true false false) := by
  refine returnsInHanded_of_change (C := Try.checked) huffBackOwn started (by kernel_rfl) Try.func4
    (ChangeSpec.witness6 (enc := enc) (C := Try.checked) false ⟨#[], #[.slice none 0 0, .int .i64 0], []⟩ 8 (by kernel_rfl) (by kernel_rfl) (by kernel_rfl) (by kernel_rfl)) ?_
  intro W base args ds gs before hval0 hW _ _
  have hval : ∀ (j : Nat) t v, Try.f4.params[j]? = some t → args[j]? = some v → Value.okWide Try.prog W .any base t v := hval0
  have hW' := hW
  obtain ⟨p, q, hA0, hV, rfl, _, _⟩ := hW
  have hA : DataW.TrodAll enc Try.prog W 0 (fun _ => true) true Try.f4.params.toList args.toList ds p := hA0
  rw [Try.params4] at hA hval
  obtain ⟨args⟩ := args
  obtain ⟨v0, r0, d0, s0, q0, z0, e0, rfl, rfl, h0, k0⟩ := trodAll_cons hA
  obtain ⟨v1, r1, d1, s1, q1, z1, e1, rfl, rfl, h1, k1⟩ := trodAll_cons k0
  obtain ⟨e2, rfl, rfl⟩ := trodAll_nil k1
  subst e2
  subst e1
  obtain rfl : args = _ := e0
  obtain ⟨rfl, rfl⟩ := trodVars_none hV
  obtain ⟨a0, c0, p0, rfl, n0, w0, l00⟩ := arg_ints Try.underlying22 Try.underlying3 (by kernel_rfl) (hval 0 22 v0 rfl rfl) h0
  have b0 := fun y hy => i64_of_wf (w0 y hy)
  have l0 : p0.length ≤ 9223372036854775807 := l00
  obtain ⟨p1, rfl, rfl, rfl, w1⟩ := open_int Try.underlying3 (hval 1 3 v1 rfl rfl) h1
  have b1 := i64_of_wf w1
  clear hA0 hval0
  refine (C_L_HuffBack (20003 + p0.length) p0 a0 c0 p1 true (law_hback (Nat.le_refl _) l0) W (Hp.start (nec_cons n0 nec_nil))).mono ?_
  rintro e W' ⟨g, rfl, hr⟩
  exact ⟨_, rfl, law_post huffBackLaid (by kernel_rfl) rfl Try.underlying4 rfl hW' rfl hr.keep⟩
theorem huffBack_holds : Rows.HuffBackSaid :=
  OpenClaim.holds_of_wide 4 Try.f4 rfl rfl rfl rfl rfl rfl rfl ⟨rfl, rfl, rfl, rfl, rfl⟩ rfl rfl rfl rfl rfl (by kernel_rfl) Try.func4 (by kernel_rfl)
    (of_decide_eq_true (by kernel_rfl)) (by unfold Func.isWrapper; first | (rw [if_pos (by decide +kernel)]; kernel_rfl) | (rw [if_neg (by decide +kernel)]; exact ⟨rfl, rfl⟩))
    (fun os started H enc _ => huffBack_lifted os started H enc)
end Go.Proofs.Ytilaklhajonenaa
