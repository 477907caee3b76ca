/- Proved: for every input the law HuffTells returns true, and what came in reads as it did. No conditions. -/
import Derived.Test.YtilaklhajonenaaWalks2
import Derived.Test.YtilaklhajonenaaPureHuff13p2
import Derived.ProofKit
namespace Go.Proofs.Ytilaklhajonenaa
open Go.ChangeShapes Go.WideShapes Go.ChangeAt Go.RowKit SX

theorem huffTellsOwn : ownKnob Try.prog.godebug = none := by kernel_rfl
theorem huffTellsLaid : laidOutB Try.prog = true := by kernel_rfl

set_option maxRecDepth 100000 in
theorem huffTells_lifted (os : Os) (started : os.Started) (H : Type) (enc : TypeId × Value → H) :
    ReturnsInHanded {} Try.checked os 3 .any (Rows.huffTellsSpec.pre6 enc Try.prog Try.f3 Rows.huffTellsRow.domain false) (Rows.huffTellsSpec.post enc Try.prog Try.f3 false true false false) := by
  refine returnsInHanded_of_change (C := Try.checked) huffTellsOwn started (by kernel_rfl) Try.func3
    (ChangeSpec.witness6 (enc := enc) (C := Try.checked) false ⟨#[], #[.slice none 0 0, .slice none 0 0, .slice none 0 0, .int .i64 0, .agg #[.int .i64 0, .slice none 0 0], .int .i64 0], []⟩ 8 (by kernel_rfl) (by kernel_rfl) (by kernel_rfl) (by kernel_rfl)) ?_
  intro W base args ds gs before hval0 hW _ _
  have hval : ∀ (j : Nat) t v, Try.f3.params[j]? = some t → args[j]? = some v → Value.okWide Try.prog W .any base t v := hval0
  have hW' := hW
  obtain ⟨p, q, hA0, hV, rfl, _, _⟩ := hW
  have hA : DataW.TrodAll enc Try.prog W 0 (fun _ => true) true Try.f3.params.toList args.toList ds p := hA0
  rw [Try.params3] at hA hval
  obtain ⟨args⟩ := args
  obtain ⟨v0, r0, d0, s0, q0, z0, e0, rfl, rfl, h0, k0⟩ := trodAll_cons hA
  obtain ⟨v1, r1, d1, s1, q1, z1, e1, rfl, rfl, h1, k1⟩ := trodAll_cons k0
  obtain ⟨v2, r2, d2, s2, q2, z2, e2, rfl, rfl, h2, k2⟩ := trodAll_cons k1
  obtain ⟨v3, r3, d3, s3, q3, z3, e3, rfl, rfl, h3, k3⟩ := trodAll_cons k2
  obtain ⟨v4, r4, d4, s4, q4, z4, e4, rfl, rfl, h4, k4⟩ := trodAll_cons k3
  obtain ⟨v5, r5, d5, s5, q5, z5, e5, rfl, rfl, h5, k5⟩ := trodAll_cons k4
  obtain ⟨e6, rfl, rfl⟩ := trodAll_nil k5
  subst e6
  subst e5
  subst e4
  subst e3
  subst e2
  subst e1
  obtain rfl : args = _ := e0
  obtain ⟨rfl, rfl⟩ := trodVars_none hV
  obtain ⟨a0, c0, p0, rfl, n0, w0, l00⟩ := arg_ints Try.underlying22 Try.underlying3 (by kernel_rfl) (hval 0 22 v0 rfl rfl) h0
  have b0 := fun y hy => i64_of_wf (w0 y hy)
  have l0 : p0.length ≤ 9223372036854775807 := l00
  obtain ⟨a1, c1, p1, rfl, n1, w1, l10⟩ := arg_ints Try.underlying22 Try.underlying3 (by kernel_rfl) (hval 1 22 v1 rfl rfl) h1
  have b1 := fun y hy => i64_of_wf (w1 y hy)
  have l1 : p1.length ≤ 9223372036854775807 := l10
  obtain ⟨a2, c2, p2, rfl, n2, w2, l20⟩ := arg_ints Try.underlying22 Try.underlying3 (by kernel_rfl) (hval 2 22 v2 rfl rfl) h2
  have b2 := fun y hy => i64_of_wf (w2 y hy)
  have l2 : p2.length ≤ 9223372036854775807 := l20
  obtain ⟨p3, rfl, rfl, rfl, w3⟩ := open_int Try.underlying3 (hval 3 3 v3 rfl rfl) h3
  have b3 := i64_of_wf w3
  obtain ⟨m4, a4, c4, p4, rfl, u4, n4, w4, l40⟩ := arg_int_slice Try.underlying25 (by kernel_rfl) (by kernel_rfl) (by kernel_rfl) Try.underlying3 Try.underlying23 Try.underlying5 (by kernel_rfl) (hval 4 25 v4 rfl rfl) h4
  have g4 := i64_of_wf u4
  have b4 := fun y hy => u8_of_wf (w4 y hy)
  have l4 : p4.length ≤ 9223372036854775807 := l40
  obtain ⟨p5, rfl, rfl, rfl, w5⟩ := open_int Try.underlying3 (hval 5 3 v5 rfl rfl) h5
  have b5 := i64_of_wf w5
  clear hA0 hval0
  refine (C_L_HuffTells (20003 + p2.length) p0 a0 c0 p1 a1 c1 p2 a2 c2 p3 m4 p4 a4 c4 p5 true (law_htells (Nat.le_refl _) l2 b4 g4 l4) W (Hp.start (nec_cons n0 (nec_cons n1 (nec_cons n2 (nec_cons n4 nec_nil)))))).mono ?_
  rintro e W' ⟨g, rfl, hr⟩
  exact ⟨_, rfl, law_post huffTellsLaid (by kernel_rfl) rfl Try.underlying4 rfl hW' rfl hr.keep⟩
theorem huffTells_holds : Rows.HuffTellsSaid :=
  OpenClaim.holds_of_wide 3 Try.f3 rfl rfl rfl rfl rfl rfl rfl ⟨rfl, rfl, rfl, rfl, rfl⟩ rfl rfl rfl rfl rfl (by kernel_rfl) Try.func3 (by kernel_rfl)
    (of_decide_eq_true (by kernel_rfl)) (by unfold Func.isWrapper; first | (rw [if_pos (by decide +kernel)]; kernel_rfl) | (rw [if_neg (by decide +kernel)]; exact ⟨rfl, rfl⟩))
    (fun os started H enc _ => huffTells_lifted os started H enc)
end Go.Proofs.Ytilaklhajonenaa
