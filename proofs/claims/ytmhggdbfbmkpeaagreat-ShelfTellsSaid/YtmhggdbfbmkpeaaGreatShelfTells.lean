/- Proved: for every input the law ShelfTells returns true, and what came in reads as it did. No conditions. -/
import Derived.Test.YtmhggdbfbmkpeaaGreatWalks7
import Derived.Test.YtmhggdbfbmkpeaaGreatPureShelf7p3
import Derived.ProofKit
namespace Go.Proofs.YtmhggdbfbmkpeaaGreat
open Go.ChangeShapes Go.WideShapes Go.ChangeAt Go.RowKit SX
theorem shelfTellsOwn : ownKnob Tryz.prog.godebug = none := by kernel_rfl
theorem shelfTellsLaid : laidOutB Tryz.prog = true := by kernel_rfl
set_option maxRecDepth 100000 in
theorem shelfTells_lifted (os : Os) (started : os.Started) (H : Type) (enc : TypeId × Value → H) :
    ReturnsInHanded {} Tryz.checked os 3 .any (Rows.shelfTellsSpec.pre6 enc Tryz.prog Tryz.f3 Rows.shelfTellsRow.domain false) (Rows.shelfTellsSpec.post enc Tryz.prog Tryz.f3 false true false false) := by
  refine returnsInHanded_of_change (C := Tryz.checked) shelfTellsOwn started (by kernel_rfl) Tryz.func3
    (ChangeSpec.witness6 (enc := enc) (C := Tryz.checked) false ⟨#[], #[.agg #[.slice none 0 0], .agg #[.int .i64 0, .int .i64 0, .int .i64 0], .agg #[.int .i64 0, .int .i64 0, .int .i64 0, .int .i64 0, .int .i64 0, .slice none 0 0, .int .i64 0, .int .i64 0, .int .i64 0, .int .i64 0, .slice none 0 0, .int .i64 0, .slice none 0 0], .int .i64 0, .int .i64 0], []⟩ 8 (by kernel_rfl) (by kernel_rfl) (by kernel_rfl) (by kernel_rfl)) ?_
  intro W base args ds gs before hval0 hW _ _
  have hval : ∀ (j : Nat) t v, Tryz.f3.params[j]? = some t → args[j]? = some v → Value.okWide Tryz.prog W .any base t v := hval0
  have hW' := hW
  obtain ⟨p, q, hA0, hV, rfl, _, _⟩ := hW
  have hA : DataW.TrodAll enc Tryz.prog W 0 (fun _ => true) true Tryz.f3.params.toList args.toList ds p := hA0
  rw [Tryz.params3] at hA hval
  obtain ⟨args⟩ := args
  obtain ⟨v0, r0, d0, s0, q0, z0, e0, rfl, rfl, h0, k0⟩ := trodAll_cons hA
  obtain ⟨v1, r1, d1, s1, q1, z1, e1, rfl, rfl, h1, k1⟩ := trodAll_cons k0
  obtain ⟨v2, r2, d2, s2, q2, z2, e2, rfl, rfl, h2, k2⟩ := trodAll_cons k1
  obtain ⟨v3, r3, d3, s3, q3, z3, e3, rfl, rfl, h3, k3⟩ := trodAll_cons k2
  obtain ⟨v4, r4, d4, s4, q4, z4, e4, rfl, rfl, h4, k4⟩ := trodAll_cons k3
  obtain ⟨e5, rfl, rfl⟩ := trodAll_nil k4
  subst e5
  subst e4
  subst e3
  subst e2
  subst e1
  obtain rfl : args = _ := e0
  obtain ⟨rfl, rfl⟩ := trodVars_none hV
  have o0 := hval 0 24 v0 rfl rfl
  obtain ⟨cs0, rfl, hz0⟩ := okWide_struct Tryz.underlying24 o0
  obtain ⟨z0_0, rfl⟩ := arr1 (hz0.trans (by kernel_rfl))
  obtain ⟨fu0, t0⟩ := h0
  obtain ⟨_, _, t0_0⟩ := zj (cs := [z0_0]) (cs' := [z0_0]) Tryz.underlying24 (i := 0) rfl (k := 1) (by kernel_rfl) rfl t0
  have lf0 := qjc Tryz.underlying24 (ts := [22]) (by kernel_rfl) o0
  obtain ⟨a0_0, c0_0, p0_0, s0_0, rfl, n0_0, w0_0, l0_00⟩ := qqd (en := eN39) (inn := iN39) vf (fun _ => rfl) (fun _ => rfl) Tryz.underlying22 Tryz.underlying39 Tryz.underlying3 (by kernel_rfl) (by kernel_rfl) (lf0 0 _ 22 (by decide) rfl rfl) t0_0
  have b0_0 := fun l hl y hy => kY ((w0_0 l hl).1 y hy)
  have l0_0 : p0_0.length ≤ 9223372036854775807 := l0_00
  have ll0_0 : ∀ l ∈ p0_0, l.length ≤ 9223372036854775807 := fun l hl => (w0_0 l hl).2
  have o1 := hval 1 26 v1 rfl rfl
  obtain ⟨cs1, rfl, hz1⟩ := okWide_struct Tryz.underlying26 o1
  obtain ⟨z1_0, z1_1, z1_2, rfl⟩ := arr3 (hz1.trans (by kernel_rfl))
  obtain ⟨fu1, t1⟩ := h1
  obtain ⟨_, _, t1_0⟩ := zj (cs := [z1_0, z1_1, z1_2]) (cs' := [z1_0]) Tryz.underlying26 (i := 0) rfl (k := 1) (by kernel_rfl) rfl t1
  obtain ⟨_, _, t1_1⟩ := zj (cs := [z1_0, z1_1, z1_2]) (cs' := [z1_1]) Tryz.underlying26 (i := 1) rfl (k := 1) (by kernel_rfl) rfl t1
  obtain ⟨_, _, t1_2⟩ := zj (cs := [z1_0, z1_1, z1_2]) (cs' := [z1_2]) Tryz.underlying26 (i := 2) rfl (k := 1) (by kernel_rfl) rfl t1
  have lf1 := qjc Tryz.underlying26 (ts := [3, 3, 3]) (by kernel_rfl) o1
  obtain ⟨m1_0, rfl, u1_0⟩ := qac Tryz.underlying3 (lf1 0 _ 3 (by decide) rfl rfl) t1_0
  have g1_0 := kY u1_0
  obtain ⟨m1_1, rfl, u1_1⟩ := qac Tryz.underlying3 (lf1 1 _ 3 (by decide) rfl rfl) t1_1
  have g1_1 := kY u1_1
  obtain ⟨m1_2, rfl, u1_2⟩ := qac Tryz.underlying3 (lf1 2 _ 3 (by decide) rfl rfl) t1_2
  have g1_2 := kY u1_2
  have o2 := hval 2 35 v2 rfl rfl
  obtain ⟨cs2, rfl, hz2⟩ := okWide_struct Tryz.underlying35 o2
  obtain ⟨z2_0, z2_1, z2_2, z2_3, z2_4, z2_5, z2_6, z2_7, z2_8, z2_9, z2_10, z2_11, z2_12, rfl⟩ := arr13 (hz2.trans (by kernel_rfl))
  obtain ⟨fu2, t2⟩ := h2
  obtain ⟨_, _, t2_0⟩ := zj (cs := [z2_0, z2_1, z2_2, z2_3, z2_4, z2_5, z2_6, z2_7, z2_8, z2_9, z2_10, z2_11, z2_12]) (cs' := [z2_0, z2_1, z2_2, z2_3, z2_4, z2_5]) Tryz.underlying35 (i := 0) rfl (k := 6) (by kernel_rfl) rfl t2
  obtain ⟨_, _, t2_1⟩ := zj (cs := [z2_0, z2_1, z2_2, z2_3, z2_4, z2_5]) (cs' := [z2_0]) Tryz.underlying31 (i := 0) rfl (k := 1) (by kernel_rfl) rfl t2_0
  obtain ⟨_, _, t2_2⟩ := zj (cs := [z2_0, z2_1, z2_2, z2_3, z2_4, z2_5]) (cs' := [z2_1, z2_2, z2_3]) Tryz.underlying31 (i := 1) rfl (k := 3) (by kernel_rfl) rfl t2_0
  obtain ⟨_, _, t2_3⟩ := zj (cs := [z2_1, z2_2, z2_3]) (cs' := [z2_1]) Tryz.underlying26 (i := 0) rfl (k := 1) (by kernel_rfl) rfl t2_2
  obtain ⟨_, _, t2_4⟩ := zj (cs := [z2_1, z2_2, z2_3]) (cs' := [z2_2]) Tryz.underlying26 (i := 1) rfl (k := 1) (by kernel_rfl) rfl t2_2
  obtain ⟨_, _, t2_5⟩ := zj (cs := [z2_1, z2_2, z2_3]) (cs' := [z2_3]) Tryz.underlying26 (i := 2) rfl (k := 1) (by kernel_rfl) rfl t2_2
  obtain ⟨_, _, t2_6⟩ := zj (cs := [z2_0, z2_1, z2_2, z2_3, z2_4, z2_5]) (cs' := [z2_4, z2_5]) Tryz.underlying31 (i := 2) rfl (k := 2) (by kernel_rfl) rfl t2_0
  obtain ⟨_, _, t2_7⟩ := zj (cs := [z2_4, z2_5]) (cs' := [z2_4]) Tryz.underlying29 (i := 0) rfl (k := 1) (by kernel_rfl) rfl t2_6
  obtain ⟨_, _, t2_8⟩ := zj (cs := [z2_4, z2_5]) (cs' := [z2_5]) Tryz.underlying29 (i := 1) rfl (k := 1) (by kernel_rfl) rfl t2_6
  obtain ⟨_, _, t2_9⟩ := zj (cs := [z2_0, z2_1, z2_2, z2_3, z2_4, z2_5, z2_6, z2_7, z2_8, z2_9, z2_10, z2_11, z2_12]) (cs' := [z2_6, z2_7, z2_8, z2_9, z2_10, z2_11, z2_12]) Tryz.underlying35 (i := 1) rfl (k := 7) (by kernel_rfl) rfl t2
  obtain ⟨_, _, t2_10⟩ := zj (cs := [z2_6, z2_7, z2_8, z2_9, z2_10, z2_11, z2_12]) (cs' := [z2_6]) Tryz.underlying33 (i := 0) rfl (k := 1) (by kernel_rfl) rfl t2_9
  obtain ⟨_, _, t2_11⟩ := zj (cs := [z2_6, z2_7, z2_8, z2_9, z2_10, z2_11, z2_12]) (cs' := [z2_7]) Tryz.underlying33 (i := 1) rfl (k := 1) (by kernel_rfl) rfl t2_9
  obtain ⟨_, _, t2_12⟩ := zj (cs := [z2_6, z2_7, z2_8, z2_9, z2_10, z2_11, z2_12]) (cs' := [z2_8]) Tryz.underlying33 (i := 2) rfl (k := 1) (by kernel_rfl) rfl t2_9
  obtain ⟨_, _, t2_13⟩ := zj (cs := [z2_6, z2_7, z2_8, z2_9, z2_10, z2_11, z2_12]) (cs' := [z2_9, z2_10]) Tryz.underlying33 (i := 3) rfl (k := 2) (by kernel_rfl) rfl t2_9
  obtain ⟨_, _, t2_14⟩ := zj (cs := [z2_9, z2_10]) (cs' := [z2_9]) Tryz.underlying29 (i := 0) rfl (k := 1) (by kernel_rfl) rfl t2_13
  obtain ⟨_, _, t2_15⟩ := zj (cs := [z2_9, z2_10]) (cs' := [z2_10]) Tryz.underlying29 (i := 1) rfl (k := 1) (by kernel_rfl) rfl t2_13
  obtain ⟨_, _, t2_16⟩ := zj (cs := [z2_6, z2_7, z2_8, z2_9, z2_10, z2_11, z2_12]) (cs' := [z2_11, z2_12]) Tryz.underlying33 (i := 4) rfl (k := 2) (by kernel_rfl) rfl t2_9
  obtain ⟨_, _, t2_17⟩ := zj (cs := [z2_11, z2_12]) (cs' := [z2_11]) Tryz.underlying29 (i := 0) rfl (k := 1) (by kernel_rfl) rfl t2_16
  obtain ⟨_, _, t2_18⟩ := zj (cs := [z2_11, z2_12]) (cs' := [z2_12]) Tryz.underlying29 (i := 1) rfl (k := 1) (by kernel_rfl) rfl t2_16
  have lf2 := qjc Tryz.underlying35 (ts := [3, 3, 3, 3, 3, 27, 3, 3, 3, 3, 27, 3, 27]) (by kernel_rfl) o2
  obtain ⟨m2_0, rfl, u2_0⟩ := qac Tryz.underlying3 (lf2 0 _ 3 (by decide) rfl rfl) t2_1
  have g2_0 := kY u2_0
  obtain ⟨m2_1, rfl, u2_1⟩ := qac Tryz.underlying3 (lf2 1 _ 3 (by decide) rfl rfl) t2_3
  have g2_1 := kY u2_1
  obtain ⟨m2_2, rfl, u2_2⟩ := qac Tryz.underlying3 (lf2 2 _ 3 (by decide) rfl rfl) t2_4
  have g2_2 := kY u2_2
  obtain ⟨m2_3, rfl, u2_3⟩ := qac Tryz.underlying3 (lf2 3 _ 3 (by decide) rfl rfl) t2_5
  have g2_3 := kY u2_3
  obtain ⟨m2_4, rfl, u2_4⟩ := qac Tryz.underlying3 (lf2 4 _ 3 (by decide) rfl rfl) t2_7
  have g2_4 := kY u2_4
  obtain ⟨a2_5, c2_5, p2_5, rfl, n2_5, w2_5, l2_50⟩ := qji Tryz.underlying27 Tryz.underlying5 (by kernel_rfl) (lf2 5 _ 27 (by decide) rfl rfl) t2_8
  have b2_5 := fun y hy => qld (w2_5 y hy)
  have l2_5 : p2_5.length ≤ 9223372036854775807 := l2_50
  obtain ⟨m2_6, rfl, u2_6⟩ := qac Tryz.underlying3 (lf2 6 _ 3 (by decide) rfl rfl) t2_10
  have g2_6 := kY u2_6
  obtain ⟨m2_7, rfl, u2_7⟩ := qac Tryz.underlying3 (lf2 7 _ 3 (by decide) rfl rfl) t2_11
  have g2_7 := kY u2_7
  obtain ⟨m2_8, rfl, u2_8⟩ := qac Tryz.underlying3 (lf2 8 _ 3 (by decide) rfl rfl) t2_12
  have g2_8 := kY u2_8
  obtain ⟨m2_9, rfl, u2_9⟩ := qac Tryz.underlying3 (lf2 9 _ 3 (by decide) rfl rfl) t2_14
  have g2_9 := kY u2_9
  obtain ⟨a2_10, c2_10, p2_10, rfl, n2_10, w2_10, l2_100⟩ := qji Tryz.underlying27 Tryz.underlying5 (by kernel_rfl) (lf2 10 _ 27 (by decide) rfl rfl) t2_15
  have b2_10 := fun y hy => qld (w2_10 y hy)
  have l2_10 : p2_10.length ≤ 9223372036854775807 := l2_100
  obtain ⟨m2_11, rfl, u2_11⟩ := qac Tryz.underlying3 (lf2 11 _ 3 (by decide) rfl rfl) t2_17
  have g2_11 := kY u2_11
  obtain ⟨a2_12, c2_12, p2_12, rfl, n2_12, w2_12, l2_120⟩ := qji Tryz.underlying27 Tryz.underlying5 (by kernel_rfl) (lf2 12 _ 27 (by decide) rfl rfl) t2_18
  have b2_12 := fun y hy => qld (w2_12 y hy)
  have l2_12 : p2_12.length ≤ 9223372036854775807 := l2_120
  obtain ⟨p3, rfl, rfl, rfl, w3⟩ := open_int Tryz.underlying3 (hval 3 3 v3 rfl rfl) h3
  have b3 := kY w3
  obtain ⟨p4, rfl, rfl, rfl, w4⟩ := open_int Tryz.underlying3 (hval 4 3 v4 rfl rfl) h4
  have b4 := kY w4
  clear hA0 hval0
  refine (qj6 (2000200) p0_0 a0_0 (c0_0, s0_0) m1_0 m1_1 m1_2 m2_0 m2_1 m2_2 m2_3 m2_4 p2_5 a2_5 c2_5 m2_6 m2_7 m2_8 m2_9 p2_10 a2_10 c2_10 m2_11 p2_12 a2_12 c2_12 p3 p4 true (qqb (Nat.le_refl _) b2_5 g2_4 l2_5) W (Hp.start (qiQ n0_0 (qiQ n2_5 (qiQ n2_10 (qiQ n2_12 qvF)))))).mono ?_
  rintro e W' ⟨g, rfl, hr⟩
  exact ⟨_, rfl, qtH shelfTellsLaid (by kernel_rfl) rfl Tryz.underlying4 rfl hW' rfl hr.keep⟩
theorem shelfTells_holds : Rows.ShelfTellsSaid :=
  OpenClaim.holds_of_wide 3 Tryz.f3 rfl rfl rfl rfl rfl rfl rfl ⟨rfl, rfl, rfl, rfl, rfl⟩ rfl rfl rfl rfl rfl (by kernel_rfl) Tryz.func3 (by kernel_rfl)
    (of_decide_eq_true (by kernel_rfl)) (by unfold Func.isWrapper; first | (rw [if_pos (by decide +kernel)]; kernel_rfl) | (rw [if_neg (by decide +kernel)]; exact ⟨rfl, rfl⟩))
    (fun os started H enc _ => shelfTells_lifted os started H enc)
end Go.Proofs.YtmhggdbfbmkpeaaGreat
