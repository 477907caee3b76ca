/- Proved: for every input the law PackTells returns true, and what came in reads as it did. No conditions. -/
import Derived.Test.YtpnfijegoepiaaaGreatWalks5
import Derived.Test.YtpnfijegoepiaaaGreatPurePack12p2
import Derived.ProofKit
namespace Go.Proofs.YtpnfijegoepiaaaGreat
open Go.ChangeShapes Go.WideShapes Go.ChangeAt Go.RowKit SX
theorem packTellsOwn : ownKnob Tryz.prog.godebug = none := by kernel_rfl
theorem packTellsLaid : laidOutB Tryz.prog = true := by kernel_rfl
set_option maxRecDepth 100000 in
theorem packTells_lifted (os : Os) (started : os.Started) (H : Type) (enc : TypeId × Value → H) :
    ReturnsInHanded {} Tryz.checked os 3 .any (Rows.packTellsSpec.pre6 enc Tryz.prog Tryz.f3 Rows.packTellsRow.domain false) (Rows.packTellsSpec.post enc Tryz.prog Tryz.f3 false true false false) := by
  refine returnsInHanded_of_change (C := Tryz.checked) packTellsOwn started (by kernel_rfl) Tryz.func3
    (ChangeSpec.witness6 (enc := enc) (C := Tryz.checked) false ⟨#[], #[.agg #[.slice none 0 0], .agg #[.int .i64 0, .int .i64 0, .int .i64 0], .agg #[.int .i64 0, .int .i64 0, .int .i64 0, .int .i64 0, .int .i64 0, .slice none 0 0]], []⟩ 8 (by kernel_rfl) (by kernel_rfl) (by kernel_rfl) (by kernel_rfl)) ?_
  intro W base args ds gs before hval0 hW _ _
  have hval : ∀ (j : Nat) t v, Tryz.f3.params[j]? = some t → args[j]? = some v → Value.okWide Tryz.prog W .any base t v := hval0
  have hW' := hW
  obtain ⟨p, q, hA0, hV, rfl, _, _⟩ := hW
  have hA : DataW.TrodAll enc Tryz.prog W 0 (fun _ => true) true Tryz.f3.params.toList args.toList ds p := hA0
  rw [Tryz.params3] at hA hval
  obtain ⟨args⟩ := args
  obtain ⟨v0, r0, d0, s0, q0, z0, e0, rfl, rfl, h0, k0⟩ := trodAll_cons hA
  obtain ⟨v1, r1, d1, s1, q1, z1, e1, rfl, rfl, h1, k1⟩ := trodAll_cons k0
  obtain ⟨v2, r2, d2, s2, q2, z2, e2, rfl, rfl, h2, k2⟩ := trodAll_cons k1
  obtain ⟨e3, rfl, rfl⟩ := trodAll_nil k2
  subst e3
  subst e2
  subst e1
  obtain rfl : args = _ := e0
  obtain ⟨rfl, rfl⟩ := trodVars_none hV
  have o0 := hval 0 24 v0 rfl rfl
  obtain ⟨cs0, rfl, hz0⟩ := okWide_struct Tryz.underlying24 o0
  obtain ⟨z0_0, rfl⟩ := arr1 (hz0.trans (by kernel_rfl))
  obtain ⟨fu0, t0⟩ := h0
  obtain ⟨_, _, t0_0⟩ := yp (cs := [z0_0]) (cs' := [z0_0]) Tryz.underlying24 (i := 0) rfl (k := 1) (by kernel_rfl) rfl t0
  have lf0 := qg7 Tryz.underlying24 (ts := [22]) (by kernel_rfl) o0
  obtain ⟨a0_0, c0_0, p0_0, s0_0, rfl, n0_0, w0_0, l0_00⟩ := qna (en := eN37) (inn := iN37) kY (fun _ => rfl) (fun _ => rfl) Tryz.underlying22 Tryz.underlying37 Tryz.underlying3 (by kernel_rfl) (by kernel_rfl) (lf0 0 _ 22 (by decide) rfl rfl) t0_0
  have b0_0 := fun l hl y hy => qbc ((w0_0 l hl).1 y hy)
  have l0_0 : p0_0.length ≤ 9223372036854775807 := l0_00
  have ll0_0 : ∀ l ∈ p0_0, l.length ≤ 9223372036854775807 := fun l hl => (w0_0 l hl).2
  have o1 := hval 1 26 v1 rfl rfl
  obtain ⟨cs1, rfl, hz1⟩ := okWide_struct Tryz.underlying26 o1
  obtain ⟨z1_0, z1_1, z1_2, rfl⟩ := arr3 (hz1.trans (by kernel_rfl))
  obtain ⟨fu1, t1⟩ := h1
  obtain ⟨_, _, t1_0⟩ := yp (cs := [z1_0, z1_1, z1_2]) (cs' := [z1_0]) Tryz.underlying26 (i := 0) rfl (k := 1) (by kernel_rfl) rfl t1
  obtain ⟨_, _, t1_1⟩ := yp (cs := [z1_0, z1_1, z1_2]) (cs' := [z1_1]) Tryz.underlying26 (i := 1) rfl (k := 1) (by kernel_rfl) rfl t1
  obtain ⟨_, _, t1_2⟩ := yp (cs := [z1_0, z1_1, z1_2]) (cs' := [z1_2]) Tryz.underlying26 (i := 2) rfl (k := 1) (by kernel_rfl) rfl t1
  have lf1 := qg7 Tryz.underlying26 (ts := [3, 3, 3]) (by kernel_rfl) o1
  obtain ⟨m1_0, rfl, u1_0⟩ := qdf Tryz.underlying3 (lf1 0 _ 3 (by decide) rfl rfl) t1_0
  have g1_0 := qbc u1_0
  obtain ⟨m1_1, rfl, u1_1⟩ := qdf Tryz.underlying3 (lf1 1 _ 3 (by decide) rfl rfl) t1_1
  have g1_1 := qbc u1_1
  obtain ⟨m1_2, rfl, u1_2⟩ := qdf Tryz.underlying3 (lf1 2 _ 3 (by decide) rfl rfl) t1_2
  have g1_2 := qbc u1_2
  have o2 := hval 2 31 v2 rfl rfl
  obtain ⟨cs2, rfl, hz2⟩ := okWide_struct Tryz.underlying31 o2
  obtain ⟨z2_0, z2_1, z2_2, z2_3, z2_4, z2_5, rfl⟩ := arr6 (hz2.trans (by kernel_rfl))
  obtain ⟨fu2, t2⟩ := h2
  obtain ⟨_, _, t2_0⟩ := yp (cs := [z2_0, z2_1, z2_2, z2_3, z2_4, z2_5]) (cs' := [z2_0]) Tryz.underlying31 (i := 0) rfl (k := 1) (by kernel_rfl) rfl t2
  obtain ⟨_, _, t2_1⟩ := yp (cs := [z2_0, z2_1, z2_2, z2_3, z2_4, z2_5]) (cs' := [z2_1, z2_2, z2_3]) Tryz.underlying31 (i := 1) rfl (k := 3) (by kernel_rfl) rfl t2
  obtain ⟨_, _, t2_2⟩ := yp (cs := [z2_1, z2_2, z2_3]) (cs' := [z2_1]) Tryz.underlying26 (i := 0) rfl (k := 1) (by kernel_rfl) rfl t2_1
  obtain ⟨_, _, t2_3⟩ := yp (cs := [z2_1, z2_2, z2_3]) (cs' := [z2_2]) Tryz.underlying26 (i := 1) rfl (k := 1) (by kernel_rfl) rfl t2_1
  obtain ⟨_, _, t2_4⟩ := yp (cs := [z2_1, z2_2, z2_3]) (cs' := [z2_3]) Tryz.underlying26 (i := 2) rfl (k := 1) (by kernel_rfl) rfl t2_1
  obtain ⟨_, _, t2_5⟩ := yp (cs := [z2_0, z2_1, z2_2, z2_3, z2_4, z2_5]) (cs' := [z2_4, z2_5]) Tryz.underlying31 (i := 2) rfl (k := 2) (by kernel_rfl) rfl t2
  obtain ⟨_, _, t2_6⟩ := yp (cs := [z2_4, z2_5]) (cs' := [z2_4]) Tryz.underlying29 (i := 0) rfl (k := 1) (by kernel_rfl) rfl t2_5
  obtain ⟨_, _, t2_7⟩ := yp (cs := [z2_4, z2_5]) (cs' := [z2_5]) Tryz.underlying29 (i := 1) rfl (k := 1) (by kernel_rfl) rfl t2_5
  have lf2 := qg7 Tryz.underlying31 (ts := [3, 3, 3, 3, 3, 27]) (by kernel_rfl) o2
  obtain ⟨m2_0, rfl, u2_0⟩ := qdf Tryz.underlying3 (lf2 0 _ 3 (by decide) rfl rfl) t2_0
  have g2_0 := qbc u2_0
  obtain ⟨m2_1, rfl, u2_1⟩ := qdf Tryz.underlying3 (lf2 1 _ 3 (by decide) rfl rfl) t2_2
  have g2_1 := qbc u2_1
  obtain ⟨m2_2, rfl, u2_2⟩ := qdf Tryz.underlying3 (lf2 2 _ 3 (by decide) rfl rfl) t2_3
  have g2_2 := qbc u2_2
  obtain ⟨m2_3, rfl, u2_3⟩ := qdf Tryz.underlying3 (lf2 3 _ 3 (by decide) rfl rfl) t2_4
  have g2_3 := qbc u2_3
  obtain ⟨m2_4, rfl, u2_4⟩ := qdf Tryz.underlying3 (lf2 4 _ 3 (by decide) rfl rfl) t2_6
  have g2_4 := qbc u2_4
  obtain ⟨a2_5, c2_5, p2_5, rfl, n2_5, w2_5, l2_50⟩ := qo0 Tryz.underlying27 Tryz.underlying5 (by kernel_rfl) (lf2 5 _ 27 (by decide) rfl rfl) t2_7
  have b2_5 := fun y hy => qrm (w2_5 y hy)
  have l2_5 : p2_5.length ≤ 9223372036854775807 := l2_50
  clear hA0 hval0
  refine (qiN (2000000) p0_0 a0_0 (c0_0, s0_0) m1_0 m1_1 m1_2 m2_0 m2_1 m2_2 m2_3 m2_4 p2_5 a2_5 c2_5 true (qm8 (Nat.le_refl _) b2_5 g2_4 l2_5) W (Hp.start (qma n0_0 (qma n2_5 qrT)))).mono ?_
  rintro e W' ⟨g, rfl, hr⟩
  exact ⟨_, rfl, qp2 packTellsLaid (by kernel_rfl) rfl Tryz.underlying4 rfl hW' rfl hr.keep⟩
theorem packTells_holds : Rows.PackTellsSaid :=
  OpenClaim.holds_of_wide 3 Tryz.f3 rfl rfl rfl rfl rfl rfl rfl ⟨rfl, rfl, rfl, rfl, rfl⟩ rfl rfl rfl rfl rfl (by kernel_rfl) Tryz.func3 (by kernel_rfl)
    (of_decide_eq_true (by kernel_rfl)) (by unfold Func.isWrapper; first | (rw [if_pos (by decide +kernel)]; kernel_rfl) | (rw [if_neg (by decide +kernel)]; exact ⟨rfl, rfl⟩))
    (fun os started H enc _ => packTells_lifted os started H enc)
end Go.Proofs.YtpnfijegoepiaaaGreat
