/- Proved: for every input the law StrongBack returns true, and what came in reads as it did. No conditions. -/
import Derived.Test.YtefoeebfidklgaaWalks2
import Derived.Test.YtefoeebfidklgaaPureStrong9
import Derived.ProofKit
namespace Go.Proofs.Ytefoeebfidklgaa
open Go.ChangeShapes Go.WideShapes Go.ChangeAt Go.RowKit SX

theorem strongBackOwn : ownKnob Try.prog.godebug = none := by kernel_rfl
theorem strongBackLaid : laidOutB Try.prog = true := by kernel_rfl

set_option maxRecDepth 100000 in
theorem strongBack_lifted (os : Os) (started : os.Started) (H : Type) (enc : TypeId × Value → H) :
    ReturnsInHanded {} Try.checked os 7 .any (Rows.strongBackSpec.pre6 enc Try.prog Try.f7 Rows.strongBackRow.domain false) (Rows.strongBackSpec.post enc Try.prog Try.f7 false true false false) := by
  refine returnsInHanded_of_change (C := Try.checked) strongBackOwn started (by kernel_rfl) Try.func7
    (ChangeSpec.witness6 (enc := enc) (C := Try.checked) false ⟨#[], #[.agg #[.slice none 0 0], .agg #[.int .i64 0, .int .i64 0]], []⟩ 8 (by kernel_rfl) (by kernel_rfl) (by kernel_rfl) (by kernel_rfl)) ?_
  intro W base args ds gs before hval0 hW _ _
  have hval : ∀ (j : Nat) t v, Try.f7.params[j]? = some t → args[j]? = some v → Value.okWide Try.prog W .any base t v := hval0
  have hW' := hW
  obtain ⟨p, q, hA0, hV, rfl, _, _⟩ := hW
  have hA : DataW.TrodAll enc Try.prog W 0 (fun _ => true) true Try.f7.params.toList args.toList ds p := hA0
  rw [Try.params7] at hA hval
  obtain ⟨args⟩ := args
  obtain ⟨v0, r0, d0, s0, q0, z0, e0, rfl, rfl, h0, k0⟩ := trodAll_cons hA
  obtain ⟨v1, r1, d1, s1, q1, z1, e1, rfl, rfl, h1, k1⟩ := trodAll_cons k0
  obtain ⟨e2, rfl, rfl⟩ := trodAll_nil k1
  subst e2
  subst e1
  obtain rfl : args = _ := e0
  obtain ⟨rfl, rfl⟩ := trodVars_none hV
  have o0 := hval 0 24 v0 rfl rfl
  obtain ⟨cs0, rfl, hz0⟩ := okWide_struct Try.underlying24 o0
  obtain ⟨z0_0, rfl⟩ := arr1 (hz0.trans (by kernel_rfl))
  obtain ⟨fu0, t0⟩ := h0
  obtain ⟨_, _, t0_0⟩ := trod_field (cs := [z0_0]) (cs' := [z0_0]) Try.underlying24 (i := 0) rfl (k := 1) (by kernel_rfl) rfl t0
  have lf0 := agg_cells Try.underlying24 (ts := [22]) (by kernel_rfl) o0
  obtain ⟨a0_0, c0_0, p0_0, s0_0, rfl, n0_0, w0_0, l0_00⟩ := leaf_lists (en := eN25) (inn := iN25) eN25_ok (fun _ => rfl) (fun _ => rfl) Try.underlying22 Try.underlying25 Try.underlying3 (by kernel_rfl) (by kernel_rfl) (lf0 0 _ 22 (by decide) rfl rfl) t0_0
  have b0_0 := fun l hl y hy => i64_of_wf ((w0_0 l hl).1 y hy)
  have l0_0 : p0_0.length ≤ 9223372036854775807 := l0_00
  have ll0_0 : ∀ l ∈ p0_0, l.length ≤ 9223372036854775807 := fun l hl => (w0_0 l hl).2
  have o1 := hval 1 48 v1 rfl rfl
  obtain ⟨cs1, rfl, hz1⟩ := okWide_struct Try.underlying48 o1
  obtain ⟨z1_0, z1_1, rfl⟩ := arr2 (hz1.trans (by kernel_rfl))
  obtain ⟨fu1, t1⟩ := h1
  obtain ⟨_, _, t1_0⟩ := trod_field (cs := [z1_0, z1_1]) (cs' := [z1_0]) Try.underlying48 (i := 0) rfl (k := 1) (by kernel_rfl) rfl t1
  obtain ⟨_, _, t1_1⟩ := trod_field (cs := [z1_0, z1_1]) (cs' := [z1_1]) Try.underlying48 (i := 1) rfl (k := 1) (by kernel_rfl) rfl t1
  have lf1 := agg_cells Try.underlying48 (ts := [3, 3]) (by kernel_rfl) o1
  obtain ⟨m1_0, rfl, u1_0⟩ := leaf_int Try.underlying3 (lf1 0 _ 3 (by decide) rfl rfl) t1_0
  have g1_0 := i64_of_wf u1_0
  obtain ⟨m1_1, rfl, u1_1⟩ := leaf_int Try.underlying3 (lf1 1 _ 3 (by decide) rfl rfl) t1_1
  have g1_1 := i64_of_wf u1_1
  clear hA0 hval0
  refine (C_L_StrongBack (200000) p0_0 a0_0 (c0_0, s0_0) m1_0 m1_1 true (strongBack_true (by decide)) W (Hp.start (nec_cons n0_0 nec_nil))).mono ?_
  rintro e W' ⟨g, rfl, hr⟩
  exact ⟨_, rfl, law_post strongBackLaid (by kernel_rfl) rfl Try.underlying4 rfl hW' rfl hr.keep⟩
theorem strongBack_holds : Rows.StrongBackSaid :=
  OpenClaim.holds_of_wide 7 Try.f7 rfl rfl rfl rfl rfl rfl rfl ⟨rfl, rfl, rfl, rfl, rfl⟩ rfl rfl rfl rfl rfl (by kernel_rfl) Try.func7 (by kernel_rfl)
    (of_decide_eq_true (by kernel_rfl)) (by unfold Func.isWrapper; first | (rw [if_pos (by decide +kernel)]; kernel_rfl) | (rw [if_neg (by decide +kernel)]; exact ⟨rfl, rfl⟩))
    (fun os started H enc _ => strongBack_lifted os started H enc)
end Go.Proofs.Ytefoeebfidklgaa
