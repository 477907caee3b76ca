/- Proved: for every input the law LoadCut returns true, and what came in reads as it did. No conditions. -/
import Derived.Test.YtlioijpkhffbnaaGreatWalks4
import Derived.Test.YtlioijpkhffbnaaGreatPureLoad7p2
import Derived.ProofKit
import Derived.SizedLaws
namespace Go.Proofs.YtlioijpkhffbnaaGreat
open Go.ChangeShapes Go.WideShapes Go.ChangeAt Go.RowKit SX
theorem ints_size {H : Type} {enc : TypeId × Value → H} {P : Program} {W : World} {t e : TypeId} {k : IntKind} {a : Option Addr} {n c : Nat} {d : DataW H} {p : List MemPlace} {ts : List TypeId} {ds : List (DataW H)} {j : Nat}
    (hs : (DataW.weightsEach P ts ds).all (· ≤ reachBytes) = true) (hj : ts[j]? = some t) (hd : ds[j]? = some d) (ht : P.underlying t = some (.slice e)) (he : P.underlying e = some (.int k)) (hc : P.cellsOf e = 1)
    (h : DataW.Trod enc P W 0 (fun _ => true) true t (.slice a n c) d p) : n * P.bytesOf e ≤ reachBytes := by
  obtain ⟨fuel, hf⟩ := h
  rcases open_ints ht he hc hf with ⟨hcs, hx⟩ | ⟨a1, len, cap, zs, hcs, _, _, _, hlen, hx, _, _⟩
  · simp [Value.cells] at hcs
    obtain ⟨rfl, rfl, rfl⟩ := hcs
    simp
  · simp [Value.cells] at hcs
    obtain ⟨rfl, rfl, rfl⟩ := hcs
    have ex := congrArg Prod.fst hx
    simp only at ex
    rw [ex] at hd
    have h1 := sized_slice hs hj hd ht
    simp only [if_true] at hlen
    refine Nat.le_trans (Nat.mul_le_mul_right _ ?_) h1
    simp only [lits, List.length_map, List.length_take, List.length_drop]
    have h3 : n ≤ zs.length := by omega
    omega
theorem loadCutOwn : ownKnob Tryz.prog.godebug = none := by kernel_rfl
theorem loadCutLaid : laidOutB Tryz.prog = true := by kernel_rfl
set_option maxRecDepth 100000 in
theorem loadCut_lifted (os : Os) (started : os.Started) (H : Type) (enc : TypeId × Value → H) :
    ReturnsInHanded {} Tryz.checked os 7 .any (Rows.loadCutSpec.pre6 enc Tryz.prog Tryz.f7 Rows.loadCutRow.domain false) (Rows.loadCutSpec.post enc Tryz.prog Tryz.f7 false true false false) := by
  refine returnsInHanded_of_change_sized (C := Tryz.checked) loadCutOwn started (by kernel_rfl) Tryz.func7
    (ChangeSpec.witness6 (enc := enc) (C := Tryz.checked) false ⟨#[], #[.slice none 0 0, .slice none 0 0, .int .i64 0], []⟩ 8 (by kernel_rfl) (by kernel_rfl) (by kernel_rfl) (by kernel_rfl)) ?_
  intro W base args ds gs before hval0 hW _ hsz _
  have hval : ∀ (j : Nat) t v, Tryz.f7.params[j]? = some t → args[j]? = some v → Value.okWide Tryz.prog W .any base t v := hval0
  have hW' := hW
  obtain ⟨p, q, hA0, hV, rfl, _, _⟩ := hW
  have hA : DataW.TrodAll enc Tryz.prog W 0 (fun _ => true) true Tryz.f7.params.toList args.toList ds p := hA0
  rw [Tryz.params7] at hA hval
  obtain ⟨args⟩ := args
  obtain ⟨v0, r0, d0, s0, q0, z0, e0, rfl, rfl, h0, k0⟩ := trodAll_cons hA
  obtain ⟨v1, r1, d1, s1, q1, z1, e1, rfl, rfl, h1, k1⟩ := trodAll_cons k0
  obtain ⟨v2, r2, d2, s2, q2, z2, e2, rfl, rfl, h2, k2⟩ := trodAll_cons k1
  obtain ⟨e3, rfl, rfl⟩ := trodAll_nil k2
  subst e3
  subst e2
  subst e1
  obtain rfl : args = _ := e0
  obtain ⟨rfl, rfl⟩ := trodVars_none hV
  rw [Tryz.params7] at hsz
  obtain ⟨a0, c0, p0, rfl, n0, w0, l00⟩ := qhT Tryz.underlying27 Tryz.underlying5 (by kernel_rfl) (hval 0 27 v0 rfl rfl) h0
  have b0 := fun y hy => qiO (w0 y hy)
  have l0 : p0.length ≤ 9223372036854775807 := l00
  obtain ⟨a1, c1, p1, rfl, n1, w1, l10⟩ := qhT Tryz.underlying27 Tryz.underlying5 (by kernel_rfl) (hval 1 27 v1 rfl rfl) h1
  have b1 := fun y hy => qiO (w1 y hy)
  have l1 : p1.length ≤ 9223372036854775807 := l10
  obtain ⟨p2, rfl, rfl, rfl, w2⟩ := open_int Tryz.underlying3 (hval 2 3 v2 rfl rfl) h2
  have b2 := qkZ w2
  have sz1 : p1.length * Tryz.prog.bytesOf 5 ≤ reachBytes := ints_size (j := 1) hsz rfl rfl Tryz.underlying27 Tryz.underlying5 (by kernel_rfl) h1
  rw [show Tryz.prog.bytesOf 5 = 1 from by kernel_rfl, show reachBytes = 140737488351232 from rfl] at sz1
  clear hA0 hval0
  refine (qhz (2000000) p0 a0 c0 p1 a1 c1 p2 true (qk1 (Nat.le_refl _) b0 b1 (by rw [Nat.mul_one] at sz1; exact sz1)) W (Hp.start (qig n0 (qig n1 qn5)))).mono ?_
  rintro e W' ⟨g, rfl, hr⟩
  exact ⟨_, rfl, qmh loadCutLaid (by kernel_rfl) rfl Tryz.underlying4 rfl hW' rfl hr.keep⟩
theorem loadCut_holds : Rows.LoadCutSaid :=
  OpenClaim.holds_of_wide 7 Tryz.f7 rfl rfl rfl rfl rfl rfl rfl ⟨rfl, rfl, rfl, rfl, rfl⟩ rfl rfl rfl rfl rfl (by kernel_rfl) Tryz.func7 (by kernel_rfl)
    (of_decide_eq_true (by kernel_rfl)) (by unfold Func.isWrapper; first | (rw [if_pos (by decide +kernel)]; kernel_rfl) | (rw [if_neg (by decide +kernel)]; exact ⟨rfl, rfl⟩))
    (fun os started H enc _ => loadCut_lifted os started H enc)
end Go.Proofs.YtlioijpkhffbnaaGreat
