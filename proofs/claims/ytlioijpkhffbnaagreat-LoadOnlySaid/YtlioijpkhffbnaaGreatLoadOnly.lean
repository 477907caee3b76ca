/- Proved: for every input the law LoadOnly returns true, and what came in reads as it did. No conditions. -/
import Derived.Test.YtlioijpkhffbnaaGreatWalks4
import Derived.Test.YtlioijpkhffbnaaGreatPureLoad6p2
import Derived.ProofKit
namespace Go.Proofs.YtlioijpkhffbnaaGreat
open Go.ChangeShapes Go.WideShapes Go.ChangeAt Go.RowKit SX
theorem loadOnlyOwn : ownKnob Tryz.prog.godebug = none := by kernel_rfl
theorem loadOnlyLaid : laidOutB Tryz.prog = true := by kernel_rfl
set_option maxRecDepth 100000 in
theorem loadOnly_lifted (os : Os) (started : os.Started) (H : Type) (enc : TypeId × Value → H) :
    ReturnsInHanded {} Tryz.checked os 5 .any (Rows.loadOnlySpec.pre6 enc Tryz.prog Tryz.f5 Rows.loadOnlyRow.domain false) (Rows.loadOnlySpec.post enc Tryz.prog Tryz.f5 false true false false) := by
  refine returnsInHanded_of_change (C := Tryz.checked) loadOnlyOwn started (by kernel_rfl) Tryz.func5
    (ChangeSpec.witness6 (enc := enc) (C := Tryz.checked) false ⟨#[], #[.slice none 0 0, .agg #[.int .i64 0, .int .i64 0, .int .i64 0]], []⟩ 8 (by kernel_rfl) (by kernel_rfl) (by kernel_rfl) (by kernel_rfl)) ?_
  intro W base args ds gs before hval0 hW _ _
  have hval : ∀ (j : Nat) t v, Tryz.f5.params[j]? = some t → args[j]? = some v → Value.okWide Tryz.prog W .any base t v := hval0
  have hW' := hW
  obtain ⟨p, q, hA0, hV, rfl, _, _⟩ := hW
  have hA : DataW.TrodAll enc Tryz.prog W 0 (fun _ => true) true Tryz.f5.params.toList args.toList ds p := hA0
  rw [Tryz.params5] at hA hval
  obtain ⟨args⟩ := args
  obtain ⟨v0, r0, d0, s0, q0, z0, e0, rfl, rfl, h0, k0⟩ := trodAll_cons hA
  obtain ⟨v1, r1, d1, s1, q1, z1, e1, rfl, rfl, h1, k1⟩ := trodAll_cons k0
  obtain ⟨e2, rfl, rfl⟩ := trodAll_nil k1
  subst e2
  subst e1
  obtain rfl : args = _ := e0
  obtain ⟨rfl, rfl⟩ := trodVars_none hV
  obtain ⟨a0, c0, p0, rfl, n0, w0, l00⟩ := qlE Tryz.underlying27 Tryz.underlying5 (by kernel_rfl) (hval 0 27 v0 rfl rfl) h0
  have b0 := fun y hy => qnC (w0 y hy)
  have l0 : p0.length ≤ 9223372036854775807 := l00
  have o1 := hval 1 26 v1 rfl rfl
  obtain ⟨cs1, rfl, hz1⟩ := okWide_struct Tryz.underlying26 o1
  obtain ⟨z1_0, z1_1, z1_2, rfl⟩ := arr3 (hz1.trans (by kernel_rfl))
  obtain ⟨fu1, t1⟩ := h1
  obtain ⟨_, _, t1_0⟩ := qdo (cs := [z1_0, z1_1, z1_2]) (cs' := [z1_0]) Tryz.underlying26 (i := 0) rfl (k := 1) (by kernel_rfl) rfl t1
  obtain ⟨_, _, t1_1⟩ := qdo (cs := [z1_0, z1_1, z1_2]) (cs' := [z1_1]) Tryz.underlying26 (i := 1) rfl (k := 1) (by kernel_rfl) rfl t1
  obtain ⟨_, _, t1_2⟩ := qdo (cs := [z1_0, z1_1, z1_2]) (cs' := [z1_2]) Tryz.underlying26 (i := 2) rfl (k := 1) (by kernel_rfl) rfl t1
  have lf1 := qkV Tryz.underlying26 (ts := [3, 3, 3]) (by kernel_rfl) o1
  obtain ⟨m1_0, rfl, u1_0⟩ := qe1 Tryz.underlying3 (lf1 0 _ 3 (by decide) rfl rfl) t1_0
  have g1_0 := qd8 u1_0
  obtain ⟨m1_1, rfl, u1_1⟩ := qe1 Tryz.underlying3 (lf1 1 _ 3 (by decide) rfl rfl) t1_1
  have g1_1 := qd8 u1_1
  obtain ⟨m1_2, rfl, u1_2⟩ := qe1 Tryz.underlying3 (lf1 2 _ 3 (by decide) rfl rfl) t1_2
  have g1_2 := qd8 u1_2
  clear hA0 hval0
  refine (qgx (2000000) p0 a0 c0 m1_0 m1_1 m1_2 true (qi8 (Nat.le_refl _) b0) W (Hp.start (qms n0 qoa))).mono ?_
  rintro e W' ⟨g, rfl, hr⟩
  exact ⟨_, rfl, qmk loadOnlyLaid (by kernel_rfl) rfl Tryz.underlying4 rfl hW' rfl hr.keep⟩
theorem loadOnly_holds : Rows.LoadOnlySaid :=
  OpenClaim.holds_of_wide 5 Tryz.f5 rfl rfl rfl rfl rfl rfl rfl ⟨rfl, rfl, rfl, rfl, rfl⟩ rfl rfl rfl rfl rfl (by kernel_rfl) Tryz.func5 (by kernel_rfl)
    (of_decide_eq_true (by kernel_rfl)) (by unfold Func.isWrapper; first | (rw [if_pos (by decide +kernel)]; kernel_rfl) | (rw [if_neg (by decide +kernel)]; exact ⟨rfl, rfl⟩))
    (fun os started H enc _ => loadOnly_lifted os started H enc)
end Go.Proofs.YtlioijpkhffbnaaGreat
