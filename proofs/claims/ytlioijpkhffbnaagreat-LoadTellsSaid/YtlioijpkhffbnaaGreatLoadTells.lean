/- Proved: for every input the law LoadTells returns true, and what came in reads as it did. No conditions. -/
import Derived.Test.YtlioijpkhffbnaaGreatWalks6
import Derived.Test.YtlioijpkhffbnaaGreatPureLoad11p3
import Derived.ProofKit
namespace Go.Proofs.YtlioijpkhffbnaaGreat
open Go.ChangeShapes Go.WideShapes Go.ChangeAt Go.RowKit SX
theorem loadTellsOwn : ownKnob Tryz.prog.godebug = none := by kernel_rfl
theorem loadTellsLaid : laidOutB Tryz.prog = true := by kernel_rfl
set_option maxRecDepth 100000 in
theorem loadTells_lifted (os : Os) (started : os.Started) (H : Type) (enc : TypeId × Value → H) :
    ReturnsInHanded {} Tryz.checked os 3 .any (Rows.loadTellsSpec.pre6 enc Tryz.prog Tryz.f3 Rows.loadTellsRow.domain false) (Rows.loadTellsSpec.post enc Tryz.prog Tryz.f3 false true false false) := by
  refine returnsInHanded_of_change (C := Tryz.checked) loadTellsOwn started (by kernel_rfl) Tryz.func3
    (ChangeSpec.witness6 (enc := enc) (C := Tryz.checked) false ⟨#[], #[.agg #[.slice none 0 0], .int .i64 0, .agg #[.int .i64 0, .int .i64 0, .int .i64 0], .slice none 0 0, .agg #[.int .i64 0, .int .i64 0, .int .i64 0, .int .i64 0]], []⟩ 8 (by kernel_rfl) (by kernel_rfl) (by kernel_rfl) (by kernel_rfl)) ?_
  intro W base args ds gs before hval0 hW _ _
  have hval : ∀ (j : Nat) t v, Tryz.f3.params[j]? = some t → args[j]? = some v → Value.okWide Tryz.prog W .any base t v := hval0
  have hW' := hW
  obtain ⟨p, q, hA0, hV, rfl, _, _⟩ := hW
  have hA : DataW.TrodAll enc Tryz.prog W 0 (fun _ => true) true Tryz.f3.params.toList args.toList ds p := hA0
  rw [Tryz.params3] at hA hval
  obtain ⟨args⟩ := args
  obtain ⟨v0, r0, d0, s0, q0, z0, e0, rfl, rfl, h0, k0⟩ := trodAll_cons hA
  obtain ⟨v1, r1, d1, s1, q1, z1, e1, rfl, rfl, h1, k1⟩ := trodAll_cons k0
  obtain ⟨v2, r2, d2, s2, q2, z2, e2, rfl, rfl, h2, k2⟩ := trodAll_cons k1
  obtain ⟨v3, r3, d3, s3, q3, z3, e3, rfl, rfl, h3, k3⟩ := trodAll_cons k2
  obtain ⟨v4, r4, d4, s4, q4, z4, e4, rfl, rfl, h4, k4⟩ := trodAll_cons k3
  obtain ⟨e5, rfl, rfl⟩ := trodAll_nil k4
  subst e5
  subst e4
  subst e3
  subst e2
  subst e1
  obtain rfl : args = _ := e0
  obtain ⟨rfl, rfl⟩ := trodVars_none hV
  have o0 := hval 0 24 v0 rfl rfl
  obtain ⟨cs0, rfl, hz0⟩ := okWide_struct Tryz.underlying24 o0
  obtain ⟨z0_0, rfl⟩ := arr1 (hz0.trans (by kernel_rfl))
  obtain ⟨fu0, t0⟩ := h0
  obtain ⟨_, _, t0_0⟩ := qb5 (cs := [z0_0]) (cs' := [z0_0]) Tryz.underlying24 (i := 0) rfl (k := 1) (by kernel_rfl) rfl t0
  have lf0 := qi6 Tryz.underlying24 (ts := [22]) (by kernel_rfl) o0
  obtain ⟨a0_0, c0_0, p0_0, s0_0, rfl, n0_0, w0_0, l0_00⟩ := qqk (en := eN59) (inn := iN59) kL (fun _ => rfl) (fun _ => rfl) Tryz.underlying22 Tryz.underlying59 Tryz.underlying3 (by kernel_rfl) (by kernel_rfl) (lf0 0 _ 22 (by decide) rfl rfl) t0_0
  have b0_0 := fun l hl y hy => qcA ((w0_0 l hl).1 y hy)
  have l0_0 : p0_0.length ≤ 9223372036854775807 := l0_00
  have ll0_0 : ∀ l ∈ p0_0, l.length ≤ 9223372036854775807 := fun l hl => (w0_0 l hl).2
  obtain ⟨p1, rfl, rfl, rfl, w1⟩ := open_int Tryz.underlying3 (hval 1 3 v1 rfl rfl) h1
  have b1 := qcA w1
  have o2 := hval 2 26 v2 rfl rfl
  obtain ⟨cs2, rfl, hz2⟩ := okWide_struct Tryz.underlying26 o2
  obtain ⟨z2_0, z2_1, z2_2, rfl⟩ := arr3 (hz2.trans (by kernel_rfl))
  obtain ⟨fu2, t2⟩ := h2
  obtain ⟨_, _, t2_0⟩ := qb5 (cs := [z2_0, z2_1, z2_2]) (cs' := [z2_0]) Tryz.underlying26 (i := 0) rfl (k := 1) (by kernel_rfl) rfl t2
  obtain ⟨_, _, t2_1⟩ := qb5 (cs := [z2_0, z2_1, z2_2]) (cs' := [z2_1]) Tryz.underlying26 (i := 1) rfl (k := 1) (by kernel_rfl) rfl t2
  obtain ⟨_, _, t2_2⟩ := qb5 (cs := [z2_0, z2_1, z2_2]) (cs' := [z2_2]) Tryz.underlying26 (i := 2) rfl (k := 1) (by kernel_rfl) rfl t2
  have lf2 := qi6 Tryz.underlying26 (ts := [3, 3, 3]) (by kernel_rfl) o2
  obtain ⟨m2_0, rfl, u2_0⟩ := qfG Tryz.underlying3 (lf2 0 _ 3 (by decide) rfl rfl) t2_0
  have g2_0 := qcA u2_0
  obtain ⟨m2_1, rfl, u2_1⟩ := qfG Tryz.underlying3 (lf2 1 _ 3 (by decide) rfl rfl) t2_1
  have g2_1 := qcA u2_1
  obtain ⟨m2_2, rfl, u2_2⟩ := qfG Tryz.underlying3 (lf2 2 _ 3 (by decide) rfl rfl) t2_2
  have g2_2 := qcA u2_2
  obtain ⟨a3, c3, p3, rfl, n3, w3, l30⟩ := qs4 Tryz.underlying27 Tryz.underlying5 (by kernel_rfl) (hval 3 27 v3 rfl rfl) h3
  have b3 := fun y hy => qu8 (w3 y hy)
  have l3 : p3.length ≤ 9223372036854775807 := l30
  have o4 := hval 4 29 v4 rfl rfl
  obtain ⟨cs4, rfl, hz4⟩ := okWide_struct Tryz.underlying29 o4
  obtain ⟨z4_0, z4_1, z4_2, z4_3, rfl⟩ := arr4 (hz4.trans (by kernel_rfl))
  obtain ⟨fu4, t4⟩ := h4
  obtain ⟨_, _, t4_0⟩ := qb5 (cs := [z4_0, z4_1, z4_2, z4_3]) (cs' := [z4_0]) Tryz.underlying29 (i := 0) rfl (k := 1) (by kernel_rfl) rfl t4
  obtain ⟨_, _, t4_1⟩ := qb5 (cs := [z4_0, z4_1, z4_2, z4_3]) (cs' := [z4_1]) Tryz.underlying29 (i := 1) rfl (k := 1) (by kernel_rfl) rfl t4
  obtain ⟨_, _, t4_2⟩ := qb5 (cs := [z4_0, z4_1, z4_2, z4_3]) (cs' := [z4_2]) Tryz.underlying29 (i := 2) rfl (k := 1) (by kernel_rfl) rfl t4
  obtain ⟨_, _, t4_3⟩ := qb5 (cs := [z4_0, z4_1, z4_2, z4_3]) (cs' := [z4_3]) Tryz.underlying29 (i := 3) rfl (k := 1) (by kernel_rfl) rfl t4
  have lf4 := qi6 Tryz.underlying29 (ts := [3, 3, 3, 3]) (by kernel_rfl) o4
  obtain ⟨m4_0, rfl, u4_0⟩ := qfG Tryz.underlying3 (lf4 0 _ 3 (by decide) rfl rfl) t4_0
  have g4_0 := qcA u4_0
  obtain ⟨m4_1, rfl, u4_1⟩ := qfG Tryz.underlying3 (lf4 1 _ 3 (by decide) rfl rfl) t4_1
  have g4_1 := qcA u4_1
  obtain ⟨m4_2, rfl, u4_2⟩ := qfG Tryz.underlying3 (lf4 2 _ 3 (by decide) rfl rfl) t4_2
  have g4_2 := qcA u4_2
  obtain ⟨m4_3, rfl, u4_3⟩ := qfG Tryz.underlying3 (lf4 3 _ 3 (by decide) rfl rfl) t4_3
  have g4_3 := qcA u4_3
  clear hA0 hval0
  refine (qlc (2000000) p0_0 a0_0 (c0_0, s0_0) p1 m2_0 m2_1 m2_2 p3 a3 c3 m4_0 m4_1 m4_2 m4_3 true (qo7 (Nat.le_refl _) b3) W (Hp.start (qpb n0_0 (qpb n3 qvG)))).mono ?_
  rintro e W' ⟨g, rfl, hr⟩
  exact ⟨_, rfl, qtJ loadTellsLaid (by kernel_rfl) rfl Tryz.underlying4 rfl hW' rfl hr.keep⟩
theorem loadTells_holds : Rows.LoadTellsSaid :=
  OpenClaim.holds_of_wide 3 Tryz.f3 rfl rfl rfl rfl rfl rfl rfl ⟨rfl, rfl, rfl, rfl, rfl⟩ rfl rfl rfl rfl rfl (by kernel_rfl) Tryz.func3 (by kernel_rfl)
    (of_decide_eq_true (by kernel_rfl)) (by unfold Func.isWrapper; first | (rw [if_pos (by decide +kernel)]; kernel_rfl) | (rw [if_neg (by decide +kernel)]; exact ⟨rfl, rfl⟩))
    (fun os started H enc _ => loadTells_lifted os started H enc)
end Go.Proofs.YtlioijpkhffbnaaGreat
