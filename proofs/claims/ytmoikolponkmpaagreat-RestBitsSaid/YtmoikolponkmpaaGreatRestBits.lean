/- Proved: for every input the law RestBits returns true, and what came in reads as it did. No conditions. -/
import Derived.Test.YtmoikolponkmpaaGreatWalks6
import Derived.Test.YtmoikolponkmpaaGreatPurep2
import Derived.ProofKit
import Derived.SizedLaws
namespace Go.Proofs.YtmoikolponkmpaaGreat
open Go.ChangeShapes Go.WideShapes Go.ChangeAt Go.RowKit SX
theorem ints_size {H : Type} {enc : TypeId × Value → H} {P : Program} {W : World} {t e : TypeId} {k : IntKind} {a : Option Addr} {n c : Nat} {d : DataW H} {p : List MemPlace} {ts : List TypeId} {ds : List (DataW H)} {j : Nat}
    (hs : (DataW.weightsEach P ts ds).all (· ≤ reachBytes) = true) (hj : ts[j]? = some t) (hd : ds[j]? = some d) (ht : P.underlying t = some (.slice e)) (he : P.underlying e = some (.int k)) (hc : P.cellsOf e = 1)
    (h : DataW.Trod enc P W 0 (fun _ => true) true t (.slice a n c) d p) : n * P.bytesOf e ≤ reachBytes := by
  obtain ⟨fuel, hf⟩ := h
  rcases open_ints ht he hc hf with ⟨hcs, hx⟩ | ⟨a1, len, cap, zs, hcs, _, _, _, hlen, hx, _, _⟩
  · simp [Value.cells] at hcs
    obtain ⟨rfl, rfl, rfl⟩ := hcs
    simp
  · simp [Value.cells] at hcs
    obtain ⟨rfl, rfl, rfl⟩ := hcs
    have ex := congrArg Prod.fst hx
    simp only at ex
    rw [ex] at hd
    have h1 := sized_slice hs hj hd ht
    simp only [if_true] at hlen
    refine Nat.le_trans (Nat.mul_le_mul_right _ ?_) h1
    simp only [lits, List.length_map, List.length_take, List.length_drop]
    have h3 : n ≤ zs.length := by omega
    omega
theorem isl_size {H : Type} {enc : TypeId × Value → H} {P : Program} {W : World} {b0 : Nat} {r : Reach} {t e : TypeId} {f0 f1 : Field} {k : IntKind} {v : Value} {a : Option Addr} {n c : Nat} {d : DataW H} {p : List MemPlace} {ts : List TypeId} {ds : List (DataW H)} {j : Nat}
    (hs : (DataW.weightsEach P ts ds).all (· ≤ reachBytes) = true) (hj : ts[j]? = some t) (hd : ds[j]? = some d) (ht : P.underlying t = some (.struct #[f0, f1])) (hone : Deep.oneCellFields P #[f0, f1] = true) (hC : P.cellsOf t = 2)
    (h1 : P.underlying f1.type = some (.slice e)) (he : P.underlying e = some (.int k)) (hc : P.cellsOf e = 1) (hv : Value.okWide P W r b0 t (.agg #[v, .slice a n c]))
    (h : DataW.Trod enc P W 0 (fun _ => true) true t (.agg #[v, .slice a n c]) d p) : n * P.bytesOf e ≤ reachBytes := by
  obtain ⟨v0, v1, y0, y1, m, hv1, rfl, _, _, t1⟩ := Joins.open_agg2 ht hone hC hv h
  obtain ⟨_, rfl⟩ : v = v0 ∧ Value.slice a n c = v1 := by simpa using hv1
  have hw : ∀ x ∈ y1.1.weights P f1.type, x ≤ reachBytes := fun x hx => by
    have := List.all_eq_true.1 hs x (DataW.weights_mem_each hj hd x (by simp [DataW.weights, ht, DataW.weightsEach, hx]))
    simpa using this
  rcases open_ints h1 he hc t1 with ⟨hcs, hx⟩ | ⟨a1, len, cap, zs, hcs, _, _, _, hlen, hx, _, _⟩
  · simp at hcs
    obtain ⟨rfl, rfl, rfl⟩ := hcs
    simp
  · simp at hcs
    obtain ⟨rfl, rfl, rfl⟩ := hcs
    have ex := congrArg Prod.fst hx
    simp only at ex
    have h2 := hw (((lits (H := H) k (zs.take n)).length + (lits (H := H) k (zs.drop n)).length) * P.bytesOf e) (by rw [ex]; simp [DataW.weights, h1])
    simp only [if_true] at hlen
    refine Nat.le_trans (Nat.mul_le_mul_right _ ?_) h2
    simp only [lits, List.length_map, List.length_take, List.length_drop]
    have h3 : n ≤ zs.length := by omega
    omega
theorem restBitsOwn : ownKnob Tryz.prog.godebug = none := by kernel_rfl
theorem restBitsLaid : laidOutB Tryz.prog = true := by kernel_rfl
set_option maxRecDepth 100000 in
theorem restBits_lifted (os : Os) (started : os.Started) (H : Type) (enc : TypeId × Value → H) :
    ReturnsInHanded {} Tryz.checked os 4 .any (Rows.restBitsSpec.pre6 enc Tryz.prog Tryz.f4 Rows.restBitsRow.domain false) (Rows.restBitsSpec.post enc Tryz.prog Tryz.f4 false true false false) := by
  refine returnsInHanded_of_change_sized (C := Tryz.checked) restBitsOwn started (by kernel_rfl) Tryz.func4
    (ChangeSpec.witness6 (enc := enc) (C := Tryz.checked) false ⟨#[], #[.agg #[.int .i64 0, .slice none 0 0], .agg #[.int .i64 0, .slice none 0 0], .int .u64 0, .slice none 0 0, .slice none 0 0, .int .i64 0], []⟩ 8 (by kernel_rfl) (by kernel_rfl) (by kernel_rfl) (by kernel_rfl)) ?_
  intro W base args ds gs before hval0 hW _ hsz _
  have hval : ∀ (j : Nat) t v, Tryz.f4.params[j]? = some t → args[j]? = some v → Value.okWide Tryz.prog W .any base t v := hval0
  have hW' := hW
  obtain ⟨p, q, hA0, hV, rfl, _, _⟩ := hW
  have hA : DataW.TrodAll enc Tryz.prog W 0 (fun _ => true) true Tryz.f4.params.toList args.toList ds p := hA0
  rw [Tryz.params4] at hA hval
  obtain ⟨args⟩ := args
  obtain ⟨v0, r0, d0, s0, q0, z0, e0, rfl, rfl, h0, k0⟩ := trodAll_cons hA
  obtain ⟨v1, r1, d1, s1, q1, z1, e1, rfl, rfl, h1, k1⟩ := trodAll_cons k0
  obtain ⟨v2, r2, d2, s2, q2, z2, e2, rfl, rfl, h2, k2⟩ := trodAll_cons k1
  obtain ⟨v3, r3, d3, s3, q3, z3, e3, rfl, rfl, h3, k3⟩ := trodAll_cons k2
  obtain ⟨v4, r4, d4, s4, q4, z4, e4, rfl, rfl, h4, k4⟩ := trodAll_cons k3
  obtain ⟨v5, r5, d5, s5, q5, z5, e5, rfl, rfl, h5, k5⟩ := trodAll_cons k4
  obtain ⟨e6, rfl, rfl⟩ := trodAll_nil k5
  subst e6
  subst e5
  subst e4
  subst e3
  subst e2
  subst e1
  obtain rfl : args = _ := e0
  obtain ⟨rfl, rfl⟩ := trodVars_none hV
  rw [Tryz.params4] at hsz
  obtain ⟨m0, a0, c0, p0, rfl, u0, n0, w0, l00⟩ := qeK Tryz.underlying25 (by kernel_rfl) (by kernel_rfl) (by kernel_rfl) Tryz.underlying3 Tryz.underlying23 Tryz.underlying5 (by kernel_rfl) (hval 0 25 v0 rfl rfl) h0
  have g0 := qeu u0
  have b0 := fun y hy => qkn (w0 y hy)
  have l0 : p0.length ≤ 9223372036854775807 := l00
  obtain ⟨m1, a1, c1, p1, rfl, u1, n1, w1, l10⟩ := qeK Tryz.underlying25 (by kernel_rfl) (by kernel_rfl) (by kernel_rfl) Tryz.underlying3 Tryz.underlying23 Tryz.underlying5 (by kernel_rfl) (hval 1 25 v1 rfl rfl) h1
  have g1 := qeu u1
  have b1 := fun y hy => qkn (w1 y hy)
  have l1 : p1.length ≤ 9223372036854775807 := l10
  obtain ⟨p2, rfl, rfl, rfl, w2⟩ := open_int Tryz.underlying80 (hval 2 80 v2 rfl rfl) h2
  have b2 := qii w2
  obtain ⟨a3, c3, p3, rfl, n3, w3, l30⟩ := qgK Tryz.underlying22 Tryz.underlying3 (by kernel_rfl) (hval 3 22 v3 rfl rfl) h3
  have b3 := fun y hy => qeu (w3 y hy)
  have l3 : p3.length ≤ 9223372036854775807 := l30
  obtain ⟨a4, c4, p4, rfl, n4, w4, l40⟩ := qgK Tryz.underlying33 Tryz.underlying80 (by kernel_rfl) (hval 4 33 v4 rfl rfl) h4
  have b4 := fun y hy => qii (w4 y hy)
  have l4 : p4.length ≤ 9223372036854775807 := l40
  obtain ⟨p5, rfl, rfl, rfl, w5⟩ := open_int Tryz.underlying3 (hval 5 3 v5 rfl rfl) h5
  have b5 := qeu w5
  have sz0 : p0.length * Tryz.prog.bytesOf 5 ≤ reachBytes := isl_size (j := 0) hsz rfl rfl Tryz.underlying25 (by kernel_rfl) (by kernel_rfl) Tryz.underlying23 Tryz.underlying5 (by kernel_rfl) (hval 0 25 _ rfl rfl) h0
  rw [show Tryz.prog.bytesOf 5 = 1 from by kernel_rfl, show reachBytes = 140737488351232 from rfl] at sz0
  have sz1 : p1.length * Tryz.prog.bytesOf 5 ≤ reachBytes := isl_size (j := 1) hsz rfl rfl Tryz.underlying25 (by kernel_rfl) (by kernel_rfl) Tryz.underlying23 Tryz.underlying5 (by kernel_rfl) (hval 1 25 _ rfl rfl) h1
  rw [show Tryz.prog.bytesOf 5 = 1 from by kernel_rfl, show reachBytes = 140737488351232 from rfl] at sz1
  have sz3 : p3.length * Tryz.prog.bytesOf 3 ≤ reachBytes := ints_size (j := 3) hsz rfl rfl Tryz.underlying22 Tryz.underlying3 (by kernel_rfl) h3
  rw [show Tryz.prog.bytesOf 3 = 8 from by kernel_rfl, show reachBytes = 140737488351232 from rfl] at sz3
  have sz4 : p4.length * Tryz.prog.bytesOf 80 ≤ reachBytes := ints_size (j := 4) hsz rfl rfl Tryz.underlying33 Tryz.underlying80 (by kernel_rfl) h4
  rw [show Tryz.prog.bytesOf 80 = 8 from by kernel_rfl, show reachBytes = 140737488351232 from rfl] at sz4
  clear hA0 hval0
  refine (qim (2000000 + p0.length + p1.length + p3.length + p4.length) m0 p0 a0 c0 m1 p1 a1 c1 p2 p3 a3 c3 p4 a4 c4 p5 true (qi0 (Nat.le_refl _) g0 b0 sz0 g1 b1 sz1 b2 sz3 b4 sz4) W (Hp.start (qfs n0 (qfs n1 (qfs n3 (qfs n4 qph)))))).mono ?_
  rintro e W' ⟨g, rfl, hr⟩
  exact ⟨_, rfl, qnA restBitsLaid (by kernel_rfl) rfl Tryz.underlying4 rfl hW' rfl hr.keep⟩
theorem restBits_holds : Rows.RestBitsSaid :=
  OpenClaim.holds_of_wide 4 Tryz.f4 rfl rfl rfl rfl rfl rfl rfl ⟨rfl, rfl, rfl, rfl, rfl⟩ rfl rfl rfl rfl rfl (by kernel_rfl) Tryz.func4 (by kernel_rfl)
    (of_decide_eq_true (by kernel_rfl)) (by unfold Func.isWrapper; first | (rw [if_pos (by decide +kernel)]; kernel_rfl) | (rw [if_neg (by decide +kernel)]; exact ⟨rfl, rfl⟩))
    (fun os started H enc _ => restBits_lifted os started H enc)
end Go.Proofs.YtmoikolponkmpaaGreat
