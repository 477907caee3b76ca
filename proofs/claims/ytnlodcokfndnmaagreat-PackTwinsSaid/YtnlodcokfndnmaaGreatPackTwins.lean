/- Proved: for every input the law PackTwins returns true, and what came in reads as it did. No conditions. -/
import Derived.Test.YtnlodcokfndnmaaGreatWalks3
import Derived.Test.YtnlodcokfndnmaaGreatPurePack13p2
import Derived.ProofKit
namespace Go.Proofs.YtnlodcokfndnmaaGreat
open Go.ChangeShapes Go.WideShapes Go.ChangeAt Go.RowKit SX
theorem packTwinsOwn : ownKnob Tryz.prog.godebug = none := by kernel_rfl
theorem packTwinsLaid : laidOutB Tryz.prog = true := by kernel_rfl
set_option maxRecDepth 100000 in
theorem packTwins_lifted (os : Os) (started : os.Started) (H : Type) (enc : TypeId × Value → H) :
    ReturnsInHanded {} Tryz.checked os 3 .any (Rows.packTwinsSpec.pre6 enc Tryz.prog Tryz.f3 Rows.packTwinsRow.domain false) (Rows.packTwinsSpec.post enc Tryz.prog Tryz.f3 false true false false) := by
  refine returnsInHanded_of_change (C := Tryz.checked) packTwinsOwn started (by kernel_rfl) Tryz.func3
    (ChangeSpec.witness6 (enc := enc) (C := Tryz.checked) false ⟨#[], #[.agg #[.slice none 0 0], .agg #[.int .i64 0, .int .i64 0, .int .i64 0], .int .i64 0], []⟩ 8 (by kernel_rfl) (by kernel_rfl) (by kernel_rfl) (by kernel_rfl)) ?_
  intro W base args ds gs before hval0 hW _ _
  have hval : ∀ (j : Nat) t v, Tryz.f3.params[j]? = some t → args[j]? = some v → Value.okWide Tryz.prog W .any base t v := hval0
  have hW' := hW
  obtain ⟨p, q, hA0, hV, rfl, _, _⟩ := hW
  have hA : DataW.TrodAll enc Tryz.prog W 0 (fun _ => true) true Tryz.f3.params.toList args.toList ds p := hA0
  rw [Tryz.params3] at hA hval
  obtain ⟨args⟩ := args
  obtain ⟨v0, r0, d0, s0, q0, z0, e0, rfl, rfl, h0, k0⟩ := trodAll_cons hA
  obtain ⟨v1, r1, d1, s1, q1, z1, e1, rfl, rfl, h1, k1⟩ := trodAll_cons k0
  obtain ⟨v2, r2, d2, s2, q2, z2, e2, rfl, rfl, h2, k2⟩ := trodAll_cons k1
  obtain ⟨e3, rfl, rfl⟩ := trodAll_nil k2
  subst e3
  subst e2
  subst e1
  obtain rfl : args = _ := e0
  obtain ⟨rfl, rfl⟩ := trodVars_none hV
  have o0 := hval 0 24 v0 rfl rfl
  obtain ⟨cs0, rfl, hz0⟩ := okWide_struct Tryz.underlying24 o0
  obtain ⟨z0_0, rfl⟩ := arr1 (hz0.trans (by kernel_rfl))
  obtain ⟨fu0, t0⟩ := h0
  obtain ⟨_, _, t0_0⟩ := qbx (cs := [z0_0]) (cs' := [z0_0]) Tryz.underlying24 (i := 0) rfl (k := 1) (by kernel_rfl) rfl t0
  have lf0 := qeU Tryz.underlying24 (ts := [22]) (by kernel_rfl) o0
  obtain ⟨a0_0, c0_0, p0_0, s0_0, rfl, n0_0, w0_0, l0_00⟩ := qhw (en := eN30) (inn := iN30) kI (fun _ => rfl) (fun _ => rfl) Tryz.underlying22 Tryz.underlying30 Tryz.underlying3 (by kernel_rfl) (by kernel_rfl) (lf0 0 _ 22 (by decide) rfl rfl) t0_0
  have b0_0 := fun l hl y hy => qa8 ((w0_0 l hl).1 y hy)
  have l0_0 : p0_0.length ≤ 9223372036854775807 := l0_00
  have ll0_0 : ∀ l ∈ p0_0, l.length ≤ 9223372036854775807 := fun l hl => (w0_0 l hl).2
  have o1 := hval 1 26 v1 rfl rfl
  obtain ⟨cs1, rfl, hz1⟩ := okWide_struct Tryz.underlying26 o1
  obtain ⟨z1_0, z1_1, z1_2, rfl⟩ := arr3 (hz1.trans (by kernel_rfl))
  obtain ⟨fu1, t1⟩ := h1
  obtain ⟨_, _, t1_0⟩ := qbx (cs := [z1_0, z1_1, z1_2]) (cs' := [z1_0]) Tryz.underlying26 (i := 0) rfl (k := 1) (by kernel_rfl) rfl t1
  obtain ⟨_, _, t1_1⟩ := qbx (cs := [z1_0, z1_1, z1_2]) (cs' := [z1_1]) Tryz.underlying26 (i := 1) rfl (k := 1) (by kernel_rfl) rfl t1
  obtain ⟨_, _, t1_2⟩ := qbx (cs := [z1_0, z1_1, z1_2]) (cs' := [z1_2]) Tryz.underlying26 (i := 2) rfl (k := 1) (by kernel_rfl) rfl t1
  have lf1 := qeU Tryz.underlying26 (ts := [3, 3, 3]) (by kernel_rfl) o1
  obtain ⟨m1_0, rfl, u1_0⟩ := qd3 Tryz.underlying3 (lf1 0 _ 3 (by decide) rfl rfl) t1_0
  have g1_0 := qa8 u1_0
  obtain ⟨m1_1, rfl, u1_1⟩ := qd3 Tryz.underlying3 (lf1 1 _ 3 (by decide) rfl rfl) t1_1
  have g1_1 := qa8 u1_1
  obtain ⟨m1_2, rfl, u1_2⟩ := qd3 Tryz.underlying3 (lf1 2 _ 3 (by decide) rfl rfl) t1_2
  have g1_2 := qa8 u1_2
  obtain ⟨p2, rfl, rfl, rfl, w2⟩ := open_int Tryz.underlying3 (hval 2 3 v2 rfl rfl) h2
  have b2 := qa8 w2
  clear hA0 hval0
  refine (qeu (2000000) p0_0 a0_0 (c0_0, s0_0) m1_0 m1_1 m1_2 p2 true (qhv (Nat.le_refl _)) W (Hp.start (qkl n0_0 qlU))).mono ?_
  rintro e W' ⟨g, rfl, hr⟩
  exact ⟨_, rfl, qkc packTwinsLaid (by kernel_rfl) rfl Tryz.underlying4 rfl hW' rfl hr.keep⟩
theorem packTwins_holds : Rows.PackTwinsSaid :=
  OpenClaim.holds_of_wide 3 Tryz.f3 rfl rfl rfl rfl rfl rfl rfl ⟨rfl, rfl, rfl, rfl, rfl⟩ rfl rfl rfl rfl rfl (by kernel_rfl) Tryz.func3 (by kernel_rfl)
    (of_decide_eq_true (by kernel_rfl)) (by unfold Func.isWrapper; first | (rw [if_pos (by decide +kernel)]; kernel_rfl) | (rw [if_neg (by decide +kernel)]; exact ⟨rfl, rfl⟩))
    (fun os started H enc _ => packTwins_lifted os started H enc)
end Go.Proofs.YtnlodcokfndnmaaGreat
