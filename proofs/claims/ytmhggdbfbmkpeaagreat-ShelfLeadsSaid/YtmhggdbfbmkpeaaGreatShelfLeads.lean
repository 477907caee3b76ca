/- Proved: for every input the law ShelfLeads returns true, and what came in reads as it did. No conditions. -/
import Derived.Test.YtmhggdbfbmkpeaaGreatWalks5
import Derived.Test.YtmhggdbfbmkpeaaGreatPureShelf6p2
import Derived.ProofKit
namespace Go.Proofs.YtmhggdbfbmkpeaaGreat
open Go.ChangeShapes Go.WideShapes Go.ChangeAt Go.RowKit SX
theorem shelfLeadsOwn : ownKnob Tryz.prog.godebug = none := by kernel_rfl
theorem shelfLeadsLaid : laidOutB Tryz.prog = true := by kernel_rfl
set_option maxRecDepth 100000 in
theorem shelfLeads_lifted (os : Os) (started : os.Started) (H : Type) (enc : TypeId × Value → H) :
    ReturnsInHanded {} Tryz.checked os 7 .any (Rows.shelfLeadsSpec.pre6 enc Tryz.prog Tryz.f7 Rows.shelfLeadsRow.domain false) (Rows.shelfLeadsSpec.post enc Tryz.prog Tryz.f7 false true false false) := by
  refine returnsInHanded_of_change (C := Tryz.checked) shelfLeadsOwn started (by kernel_rfl) Tryz.func7
    (ChangeSpec.witness6 (enc := enc) (C := Tryz.checked) false ⟨#[], #[.agg #[.slice none 0 0], .agg #[.int .i64 0, .int .i64 0, .int .i64 0], .int .i64 0, .int .i64 0], []⟩ 8 (by kernel_rfl) (by kernel_rfl) (by kernel_rfl) (by kernel_rfl)) ?_
  intro W base args ds gs before hval0 hW _ _
  have hval : ∀ (j : Nat) t v, Tryz.f7.params[j]? = some t → args[j]? = some v → Value.okWide Tryz.prog W .any base t v := hval0
  have hW' := hW
  obtain ⟨p, q, hA0, hV, rfl, _, _⟩ := hW
  have hA : DataW.TrodAll enc Tryz.prog W 0 (fun _ => true) true Tryz.f7.params.toList args.toList ds p := hA0
  rw [Tryz.params7] at hA hval
  obtain ⟨args⟩ := args
  obtain ⟨v0, r0, d0, s0, q0, z0, e0, rfl, rfl, h0, k0⟩ := trodAll_cons hA
  obtain ⟨v1, r1, d1, s1, q1, z1, e1, rfl, rfl, h1, k1⟩ := trodAll_cons k0
  obtain ⟨v2, r2, d2, s2, q2, z2, e2, rfl, rfl, h2, k2⟩ := trodAll_cons k1
  obtain ⟨v3, r3, d3, s3, q3, z3, e3, rfl, rfl, h3, k3⟩ := trodAll_cons k2
  obtain ⟨e4, rfl, rfl⟩ := trodAll_nil k3
  subst e4
  subst e3
  subst e2
  subst e1
  obtain rfl : args = _ := e0
  obtain ⟨rfl, rfl⟩ := trodVars_none hV
  have o0 := hval 0 24 v0 rfl rfl
  obtain ⟨cs0, rfl, hz0⟩ := okWide_struct Tryz.underlying24 o0
  obtain ⟨z0_0, rfl⟩ := arr1 (hz0.trans (by kernel_rfl))
  obtain ⟨fu0, t0⟩ := h0
  obtain ⟨_, _, t0_0⟩ := qdU (cs := [z0_0]) (cs' := [z0_0]) Tryz.underlying24 (i := 0) rfl (k := 1) (by kernel_rfl) rfl t0
  have lf0 := qh0 Tryz.underlying24 (ts := [22]) (by kernel_rfl) o0
  obtain ⟨a0_0, c0_0, p0_0, s0_0, rfl, n0_0, w0_0, l0_00⟩ := qlL (en := eN39) (inn := iN39) km (fun _ => rfl) (fun _ => rfl) Tryz.underlying22 Tryz.underlying39 Tryz.underlying3 (by kernel_rfl) (by kernel_rfl) (lf0 0 _ 22 (by decide) rfl rfl) t0_0
  have b0_0 := fun l hl y hy => qcD ((w0_0 l hl).1 y hy)
  have l0_0 : p0_0.length ≤ 9223372036854775807 := l0_00
  have ll0_0 : ∀ l ∈ p0_0, l.length ≤ 9223372036854775807 := fun l hl => (w0_0 l hl).2
  have o1 := hval 1 26 v1 rfl rfl
  obtain ⟨cs1, rfl, hz1⟩ := okWide_struct Tryz.underlying26 o1
  obtain ⟨z1_0, z1_1, z1_2, rfl⟩ := arr3 (hz1.trans (by kernel_rfl))
  obtain ⟨fu1, t1⟩ := h1
  obtain ⟨_, _, t1_0⟩ := qdU (cs := [z1_0, z1_1, z1_2]) (cs' := [z1_0]) Tryz.underlying26 (i := 0) rfl (k := 1) (by kernel_rfl) rfl t1
  obtain ⟨_, _, t1_1⟩ := qdU (cs := [z1_0, z1_1, z1_2]) (cs' := [z1_1]) Tryz.underlying26 (i := 1) rfl (k := 1) (by kernel_rfl) rfl t1
  obtain ⟨_, _, t1_2⟩ := qdU (cs := [z1_0, z1_1, z1_2]) (cs' := [z1_2]) Tryz.underlying26 (i := 2) rfl (k := 1) (by kernel_rfl) rfl t1
  have lf1 := qh0 Tryz.underlying26 (ts := [3, 3, 3]) (by kernel_rfl) o1
  obtain ⟨m1_0, rfl, u1_0⟩ := qg7 Tryz.underlying3 (lf1 0 _ 3 (by decide) rfl rfl) t1_0
  have g1_0 := qcD u1_0
  obtain ⟨m1_1, rfl, u1_1⟩ := qg7 Tryz.underlying3 (lf1 1 _ 3 (by decide) rfl rfl) t1_1
  have g1_1 := qcD u1_1
  obtain ⟨m1_2, rfl, u1_2⟩ := qg7 Tryz.underlying3 (lf1 2 _ 3 (by decide) rfl rfl) t1_2
  have g1_2 := qcD u1_2
  obtain ⟨p2, rfl, rfl, rfl, w2⟩ := open_int Tryz.underlying3 (hval 2 3 v2 rfl rfl) h2
  have b2 := qcD w2
  obtain ⟨p3, rfl, rfl, rfl, w3⟩ := open_int Tryz.underlying3 (hval 3 3 v3 rfl rfl) h3
  have b3 := qcD w3
  clear hA0 hval0
  refine (qgz (2000200) p0_0 a0_0 (c0_0, s0_0) m1_0 m1_1 m1_2 p2 p3 true (qlJ (Nat.le_refl _)) W (Hp.start (qpo n0_0 qrg))).mono ?_
  rintro e W' ⟨g, rfl, hr⟩
  exact ⟨_, rfl, qpf shelfLeadsLaid (by kernel_rfl) rfl Tryz.underlying4 rfl hW' rfl hr.keep⟩
theorem shelfLeads_holds : Rows.ShelfLeadsSaid :=
  OpenClaim.holds_of_wide 7 Tryz.f7 rfl rfl rfl rfl rfl rfl rfl ⟨rfl, rfl, rfl, rfl, rfl⟩ rfl rfl rfl rfl rfl (by kernel_rfl) Tryz.func7 (by kernel_rfl)
    (of_decide_eq_true (by kernel_rfl)) (by unfold Func.isWrapper; first | (rw [if_pos (by decide +kernel)]; kernel_rfl) | (rw [if_neg (by decide +kernel)]; exact ⟨rfl, rfl⟩))
    (fun os started H enc _ => shelfLeads_lifted os started H enc)
end Go.Proofs.YtmhggdbfbmkpeaaGreat
