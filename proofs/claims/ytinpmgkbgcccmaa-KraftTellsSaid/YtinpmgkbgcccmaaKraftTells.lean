/- Proved: for every input the law KraftTells returns true, and what came in reads as it did. No conditions. -/
import Derived.Test.YtinpmgkbgcccmaaWalks3
import Derived.Test.YtinpmgkbgcccmaaPure
import Derived.ProofKit
namespace Go.Proofs.Ytinpmgkbgcccmaa
open Go.ChangeShapes Go.WideShapes Go.ChangeAt Go.RowKit SX

theorem kraftTellsOwn : ownKnob Try.prog.godebug = none := by kernel_rfl
theorem kraftTellsLaid : laidOutB Try.prog = true := by kernel_rfl

set_option maxRecDepth 100000 in
theorem kraftTells_lifted (os : Os) (started : os.Started) (H : Type) (enc : TypeId × Value → H) :
    ReturnsInHanded {} Try.checked os 3 .any (Rows.kraftTellsSpec.pre6 enc Try.prog Try.f3 Rows.kraftTellsRow.domain false) (Rows.kraftTellsSpec.post enc Try.prog Try.f3 false true false false) := by
  refine returnsInHanded_of_change (C := Try.checked) kraftTellsOwn started (by kernel_rfl) Try.func3
    (ChangeSpec.witness6 (enc := enc) (C := Try.checked) false ⟨#[], #[.slice none 0 0, .slice none 0 0, .agg #[.int .i64 0, .slice none 0 0], .int .i64 0], []⟩ 8 (by kernel_rfl) (by kernel_rfl) (by kernel_rfl) (by kernel_rfl)) ?_
  intro W base args ds gs before hval0 hW _ _
  have hval : ∀ (j : Nat) t v, Try.f3.params[j]? = some t → args[j]? = some v → Value.okWide Try.prog W .any base t v := hval0
  have hW' := hW
  obtain ⟨p, q, hA0, hV, rfl, _, _⟩ := hW
  have hA : DataW.TrodAll enc Try.prog W 0 (fun _ => true) true Try.f3.params.toList args.toList ds p := hA0
  rw [Try.params3] at hA hval
  obtain ⟨args⟩ := args
  obtain ⟨v0, r0, d0, s0, q0, z0, e0, rfl, rfl, h0, k0⟩ := trodAll_cons hA
  obtain ⟨v1, r1, d1, s1, q1, z1, e1, rfl, rfl, h1, k1⟩ := trodAll_cons k0
  obtain ⟨v2, r2, d2, s2, q2, z2, e2, rfl, rfl, h2, k2⟩ := trodAll_cons k1
  obtain ⟨v3, r3, d3, s3, q3, z3, e3, rfl, rfl, h3, k3⟩ := trodAll_cons k2
  obtain ⟨e4, rfl, rfl⟩ := trodAll_nil k3
  subst e4
  subst e3
  subst e2
  subst e1
  obtain rfl : args = _ := e0
  obtain ⟨rfl, rfl⟩ := trodVars_none hV
  obtain ⟨a0, c0, p0, rfl, n0, w0, l00⟩ := arg_ints Try.underlying22 Try.underlying3 (by kernel_rfl) (hval 0 22 v0 rfl rfl) h0
  have b0 := fun y hy => i64_of_wf (w0 y hy)
  have l0 : p0.length ≤ 9223372036854775807 := l00
  obtain ⟨a1, c1, p1, s1, rfl, n1, w1, l10⟩ := arg_islices (en := eN26) (inn := iN26) eN26_ok (fun _ => rfl) (fun _ => rfl) Try.underlying23 Try.underlying26 (by kernel_rfl) rfl rfl (by kernel_rfl) (by kernel_rfl) Try.underlying3 Try.underlying24 Try.underlying5 (by kernel_rfl) (hval 1 23 v1 rfl rfl) h1
  have b1 := fun x hx => And.intro (i64_of_wf (w1 x hx).1) (And.intro (fun y hy => u8_of_wf ((w1 x hx).2.1 y hy)) (show (x : Int × List Int).2.length ≤ 9223372036854775807 from (w1 x hx).2.2))
  have l1 : p1.length ≤ 9223372036854775807 := l10
  obtain ⟨m2, a2, c2, p2, rfl, u2, n2, w2, l20⟩ := arg_int_slice Try.underlying26 (by kernel_rfl) (by kernel_rfl) (by kernel_rfl) Try.underlying3 Try.underlying24 Try.underlying5 (by kernel_rfl) (hval 2 26 v2 rfl rfl) h2
  have g2 := i64_of_wf u2
  have b2 := fun y hy => u8_of_wf (w2 y hy)
  have l2 : p2.length ≤ 9223372036854775807 := l20
  obtain ⟨p3, rfl, rfl, rfl, w3⟩ := open_int Try.underlying3 (hval 3 3 v3 rfl rfl) h3
  have b3 := i64_of_wf w3
  clear hA0 hval0
  refine (C_L_KraftTells (20000) p0 a0 c0 p1 a1 (c1, s1) m2 p2 a2 c2 p3 true (kraftTells_true (Nat.le_refl _) (fun c hc => And.intro (b1 c hc).2.1 (And.intro (b1 c hc).1 (b1 c hc).2.2)) b2 g2 l2) W (Hp.start (nec_cons n0 (nec_cons n1 (nec_cons n2 nec_nil))))).mono ?_
  rintro e W' ⟨g, rfl, hr⟩
  exact ⟨_, rfl, law_post kraftTellsLaid (by kernel_rfl) rfl Try.underlying4 rfl hW' rfl hr.keep⟩
theorem kraftTells_holds : Rows.KraftTellsSaid :=
  OpenClaim.holds_of_wide 3 Try.f3 rfl rfl rfl rfl rfl rfl rfl ⟨rfl, rfl, rfl, rfl, rfl⟩ rfl rfl rfl rfl rfl (by kernel_rfl) Try.func3 (by kernel_rfl)
    (of_decide_eq_true (by kernel_rfl)) (by unfold Func.isWrapper; first | (rw [if_pos (by decide +kernel)]; kernel_rfl) | (rw [if_neg (by decide +kernel)]; exact ⟨rfl, rfl⟩))
    (fun os started H enc _ => kraftTells_lifted os started H enc)
end Go.Proofs.Ytinpmgkbgcccmaa
