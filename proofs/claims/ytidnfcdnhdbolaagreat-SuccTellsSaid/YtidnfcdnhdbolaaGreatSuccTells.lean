/- Proved: for every input the law SuccTells returns true, and what came in reads as it did. No conditions. -/
import Derived.Test.YtidnfcdnhdbolaaGreatWalks3
import Derived.Test.YtidnfcdnhdbolaaGreatPureSucc11p2
import Derived.ProofKit
namespace Go.Proofs.YtidnfcdnhdbolaaGreat
open Go.ChangeShapes Go.WideShapes Go.ChangeAt Go.RowKit SX
theorem succTellsOwn : ownKnob Tryz.prog.godebug = none := by kernel_rfl
theorem succTellsLaid : laidOutB Tryz.prog = true := by kernel_rfl
set_option maxRecDepth 100000 in
theorem succTells_lifted (os : Os) (started : os.Started) (H : Type) (enc : TypeId × Value → H) :
    ReturnsInHanded {} Tryz.checked os 3 .any (Rows.succTellsSpec.pre6 enc Tryz.prog Tryz.f3 Rows.succTellsRow.domain false) (Rows.succTellsSpec.post enc Tryz.prog Tryz.f3 false true false false) := by
  refine returnsInHanded_of_change (C := Tryz.checked) succTellsOwn started (by kernel_rfl) Tryz.func3
    (ChangeSpec.witness6 (enc := enc) (C := Tryz.checked) false ⟨#[], #[.int .i64 0, .slice none 0 0, .slice none 0 0, .agg #[.int .i64 0, .int .i64 0, .int .i64 0], .agg #[.int .i64 0, .slice none 0 0], .int .i64 0], []⟩ 8 (by kernel_rfl) (by kernel_rfl) (by kernel_rfl) (by kernel_rfl)) ?_
  intro W base args ds gs before hval0 hW _ _
  have hval : ∀ (j : Nat) t v, Tryz.f3.params[j]? = some t → args[j]? = some v → Value.okWide Tryz.prog W .any base t v := hval0
  have hW' := hW
  obtain ⟨p, q, hA0, hV, rfl, _, _⟩ := hW
  have hA : DataW.TrodAll enc Tryz.prog W 0 (fun _ => true) true Tryz.f3.params.toList args.toList ds p := hA0
  rw [Tryz.params3] at hA hval
  obtain ⟨args⟩ := args
  obtain ⟨v0, r0, d0, s0, q0, z0, e0, rfl, rfl, h0, k0⟩ := trodAll_cons hA
  obtain ⟨v1, r1, d1, s1, q1, z1, e1, rfl, rfl, h1, k1⟩ := trodAll_cons k0
  obtain ⟨v2, r2, d2, s2, q2, z2, e2, rfl, rfl, h2, k2⟩ := trodAll_cons k1
  obtain ⟨v3, r3, d3, s3, q3, z3, e3, rfl, rfl, h3, k3⟩ := trodAll_cons k2
  obtain ⟨v4, r4, d4, s4, q4, z4, e4, rfl, rfl, h4, k4⟩ := trodAll_cons k3
  obtain ⟨v5, r5, d5, s5, q5, z5, e5, rfl, rfl, h5, k5⟩ := trodAll_cons k4
  obtain ⟨e6, rfl, rfl⟩ := trodAll_nil k5
  subst e6
  subst e5
  subst e4
  subst e3
  subst e2
  subst e1
  obtain rfl : args = _ := e0
  obtain ⟨rfl, rfl⟩ := trodVars_none hV
  obtain ⟨p0, rfl, rfl, rfl, w0⟩ := open_int Tryz.underlying3 (hval 0 3 v0 rfl rfl) h0
  have b0 := qb0 w0
  obtain ⟨a1, c1, p1, rfl, n1, w1, l10⟩ := qgL Tryz.underlying22 Tryz.underlying3 (by kernel_rfl) (hval 1 22 v1 rfl rfl) h1
  have b1 := fun y hy => qb0 (w1 y hy)
  have l1 : p1.length ≤ 9223372036854775807 := l10
  obtain ⟨a2, c2, p2, rfl, n2, w2, l20⟩ := qgL Tryz.underlying22 Tryz.underlying3 (by kernel_rfl) (hval 2 22 v2 rfl rfl) h2
  have b2 := fun y hy => qb0 (w2 y hy)
  have l2 : p2.length ≤ 9223372036854775807 := l20
  have o3 := hval 3 24 v3 rfl rfl
  obtain ⟨cs3, rfl, hz3⟩ := okWide_struct Tryz.underlying24 o3
  obtain ⟨z3_0, z3_1, z3_2, rfl⟩ := arr3 (hz3.trans (by kernel_rfl))
  obtain ⟨fu3, t3⟩ := h3
  obtain ⟨_, _, t3_0⟩ := qbX (cs := [z3_0, z3_1, z3_2]) (cs' := [z3_0]) Tryz.underlying24 (i := 0) rfl (k := 1) (by kernel_rfl) rfl t3
  obtain ⟨_, _, t3_1⟩ := qbX (cs := [z3_0, z3_1, z3_2]) (cs' := [z3_1]) Tryz.underlying24 (i := 1) rfl (k := 1) (by kernel_rfl) rfl t3
  obtain ⟨_, _, t3_2⟩ := qbX (cs := [z3_0, z3_1, z3_2]) (cs' := [z3_2]) Tryz.underlying24 (i := 2) rfl (k := 1) (by kernel_rfl) rfl t3
  have lf3 := qja Tryz.underlying24 (ts := [3, 3, 3]) (by kernel_rfl) o3
  obtain ⟨m3_0, rfl, u3_0⟩ := qhB Tryz.underlying3 (lf3 0 _ 3 (by decide) rfl rfl) t3_0
  have g3_0 := qb0 u3_0
  obtain ⟨m3_1, rfl, u3_1⟩ := qhB Tryz.underlying3 (lf3 1 _ 3 (by decide) rfl rfl) t3_1
  have g3_1 := qb0 u3_1
  obtain ⟨m3_2, rfl, u3_2⟩ := qhB Tryz.underlying3 (lf3 2 _ 3 (by decide) rfl rfl) t3_2
  have g3_2 := qb0 u3_2
  obtain ⟨m4, a4, c4, p4, rfl, u4, n4, w4, l40⟩ := qiy Tryz.underlying27 (by kernel_rfl) (by kernel_rfl) (by kernel_rfl) Tryz.underlying3 Tryz.underlying25 Tryz.underlying5 (by kernel_rfl) (hval 4 27 v4 rfl rfl) h4
  have g4 := qb0 u4
  have b4 := fun y hy => qpb (w4 y hy)
  have l4 : p4.length ≤ 9223372036854775807 := l40
  obtain ⟨p5, rfl, rfl, rfl, w5⟩ := open_int Tryz.underlying3 (hval 5 3 v5 rfl rfl) h5
  have b5 := qb0 w5
  clear hA0 hval0
  refine (qiP (2000000) p0 p1 a1 c1 p2 a2 c2 m3_0 m3_1 m3_2 m4 p4 a4 c4 p5 true (qlW (Nat.le_refl _) b4 g4 l4) W (Hp.start (qh2 n1 (qh2 n2 (qh2 n4 qpR))))).mono ?_
  rintro e W' ⟨g, rfl, hr⟩
  exact ⟨_, rfl, qoe succTellsLaid (by kernel_rfl) rfl Tryz.underlying4 rfl hW' rfl hr.keep⟩
theorem succTells_holds : Rows.SuccTellsSaid :=
  OpenClaim.holds_of_wide 3 Tryz.f3 rfl rfl rfl rfl rfl rfl rfl ⟨rfl, rfl, rfl, rfl, rfl⟩ rfl rfl rfl rfl rfl (by kernel_rfl) Tryz.func3 (by kernel_rfl)
    (of_decide_eq_true (by kernel_rfl)) (by unfold Func.isWrapper; first | (rw [if_pos (by decide +kernel)]; kernel_rfl) | (rw [if_neg (by decide +kernel)]; exact ⟨rfl, rfl⟩))
    (fun os started H enc _ => succTells_lifted os started H enc)
end Go.Proofs.YtidnfcdnhdbolaaGreat
