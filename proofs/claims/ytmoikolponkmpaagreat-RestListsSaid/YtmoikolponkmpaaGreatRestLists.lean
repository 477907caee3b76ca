/- Proved: for every input the law RestLists returns true, and what came in reads as it did. No conditions. -/
import Derived.Test.YtmoikolponkmpaaGreatWalks6
import Derived.Test.YtmoikolponkmpaaGreatPureRest7p2
import Derived.ProofKit
import Derived.SizedLaws
namespace Go.Proofs.YtmoikolponkmpaaGreat
open Go.ChangeShapes Go.WideShapes Go.ChangeAt Go.RowKit SX
theorem ints_size {H : Type} {enc : TypeId × Value → H} {P : Program} {W : World} {t e : TypeId} {k : IntKind} {a : Option Addr} {n c : Nat} {d : DataW H} {p : List MemPlace} {ts : List TypeId} {ds : List (DataW H)} {j : Nat}
    (hs : (DataW.weightsEach P ts ds).all (· ≤ reachBytes) = true) (hj : ts[j]? = some t) (hd : ds[j]? = some d) (ht : P.underlying t = some (.slice e)) (he : P.underlying e = some (.int k)) (hc : P.cellsOf e = 1)
    (h : DataW.Trod enc P W 0 (fun _ => true) true t (.slice a n c) d p) : n * P.bytesOf e ≤ reachBytes := by
  obtain ⟨fuel, hf⟩ := h
  rcases open_ints ht he hc hf with ⟨hcs, hx⟩ | ⟨a1, len, cap, zs, hcs, _, _, _, hlen, hx, _, _⟩
  · simp [Value.cells] at hcs
    obtain ⟨rfl, rfl, rfl⟩ := hcs
    simp
  · simp [Value.cells] at hcs
    obtain ⟨rfl, rfl, rfl⟩ := hcs
    have ex := congrArg Prod.fst hx
    simp only at ex
    rw [ex] at hd
    have h1 := sized_slice hs hj hd ht
    simp only [if_true] at hlen
    refine Nat.le_trans (Nat.mul_le_mul_right _ ?_) h1
    simp only [lits, List.length_map, List.length_take, List.length_drop]
    have h3 : n ≤ zs.length := by omega
    omega
theorem weights_mem_all {H : Type} {P : Program} {e : TypeId} {d : DataW H} {x : Nat} (hx : x ∈ d.weights P e) : ∀ {l : List (DataW H)}, d ∈ l → x ∈ DataW.weightsAll P e l
  | [], h => by simp at h
  | c :: l, h => by
    simp only [DataW.weightsAll, List.mem_append]
    rcases List.mem_cons.1 h with rfl | h
    · exact .inl hx
    · exact .inr (weights_mem_all hx h)
theorem lists_size {H : Type} {enc : TypeId × Value → H} {P : Program} {W : World} {t e e2 : TypeId} {k : IntKind} {ao : Option Addr} {cap fuel : Nat} {y : DataW H × List MemPlace} {xs : List (List Int)} {gs : List (Option Addr × Nat)}
    {en : List Int × (Option Addr × Nat) → List Value} {inn : List Int × (Option Addr × Nat) → List (World → Prop)} (hen : ∀ p, en p = [.slice p.2.1 p.1.length p.2.2])
    (ht : P.underlying t = some (.slice e)) (he : P.underlying e = some (.slice e2)) (he2 : P.underlying e2 = some (.int k)) (hc1 : P.cellsOf e = 1) (hc2 : P.cellsOf e2 = 1)
    (hs : SlN en inn 1 (.slice ao xs.length cap) xs gs W) (hw : ∀ x ∈ y.1.weights P t, x ≤ reachBytes) (h : DataW.trod enc P W 0 (fun _ => true) true fuel t [.slice ao xs.length cap] = some y) :
    xs.length * P.bytesOf e ≤ reachBytes ∧ ∀ l ∈ xs, l.length * P.bytesOf e2 ≤ reachBytes := by
  obtain ⟨hg, hS, _⟩ := hs
  rcases DataW.trod_slice ht h with ⟨hcs, _⟩ | ⟨a, len, cap', elems, rest, n, _, hcs, rfl, hb, hl, hm, hlen, hel, _, _⟩
  · simp only [List.cons.injEq, Value.slice.injEq, and_true] at hcs
    have : xs = [] := List.eq_nil_of_length_eq_zero hcs.2.1
    subst this
    simp
  · simp only [List.cons.injEq, Value.slice.injEq, and_true] at hcs
    obtain ⟨rfl, rfl, rfl⟩ := hcs
    refine ⟨?_, fun l hl' => ?_⟩
    · have := hw ((elems.length + rest.length) * P.bytesOf e) (by simp [DataW.weights, ht])
      exact Nat.le_trans (Nat.mul_le_mul_right _ (by omega)) this
    · obtain ⟨i, hi⟩ := List.mem_iff_getElem?.1 hl'
      have hil := (List.getElem?_eq_some_iff.1 hi).1
      have hgi : gs[i]? = some gs[i] := List.getElem?_eq_getElem (by omega)
      have hz : (xs.zip gs)[i]? = some (l, gs[i]) := by rw [List.getElem?_zip_eq_some]; exact ⟨hi, hgi⟩
      have hfm : ∀ (ps : List (List Int × (Option Addr × Nat))), ps.flatMap en = ps.map fun p => Value.slice p.2.1 p.1.length p.2.2 := by
        intro ps
        induction ps with
        | nil => rfl
        | cons p ps ih => simp [hen, ih]
      obtain ⟨⟨a0, c0, e1, _, _, hsp, hcell⟩, _⟩ := hS
      rw [hfm] at hsp hcell
      obtain ⟨ad, had, hc⟩ := hcell i (.slice gs[i].1 l.length gs[i].2) (by rw [List.getElem?_map, hz]; rfl)
      simp only [Value.slice.injEq] at e1
      obtain ⟨e1, _, _⟩ := e1
      subst e1
      cases had
      have hspot : a.spot = none := by
        rcases hsp a rfl with h1 | h1
        · have h5 := congrArg List.length h1
          have h6 := (List.getElem?_eq_some_iff.1 hz).1
          rw [List.length_map, List.length_nil] at h5
          omega
        · exact h1
      have h1 := hel i hil
      rw [hc1, Nat.mul_one, List.getElem?_eq_getElem (by omega), Option.bind_eq_some_iff] at h1
      obtain ⟨cs', h2, h3⟩ := h1
      have hlc : cs'.length = 1 := by
        rcases DataW.trod_slice he h3 with ⟨hcs, _⟩ | ⟨_, _, _, _, _, _, _, hcs, _⟩ <;> rw [hcs] <;> rfl
      obtain ⟨c, rfl⟩ : ∃ c, cs' = [c] := List.length_eq_one_iff.1 hlc
      have h4 := cell_of_cells?_one h2
      have e5 : a.add i = ⟨a.block, a.off + i, none⟩ := by
        obtain ⟨b, o, sp⟩ := a
        simp only at hspot
        subst hspot
        simp [Addr.add]
      rw [e5, hc] at h4
      cases h4
      have hwi : ∀ x ∈ (elems[i]'(by omega)).1.weights P e, x ≤ reachBytes := fun x hx => hw x (by
        simp only [DataW.weights, ht, List.mem_cons, List.mem_append]
        exact .inr (.inl (weights_mem_all hx (List.mem_map.2 ⟨_, List.getElem_mem (by omega), rfl⟩))))
      rcases open_ints he he2 hc2 h3 with ⟨hcs, _⟩ | ⟨a1, len1, cap1, zs, hcs, _, _, _, hlen1, hx, _, _⟩
      · simp only [List.cons.injEq, Value.slice.injEq, and_true] at hcs
        rw [hcs.2.1]; simp
      · simp only [List.cons.injEq, Value.slice.injEq, and_true] at hcs
        obtain ⟨_, rfl, rfl⟩ := hcs
        rw [hx] at hwi
        have h2 := hwi (((lits (H := H) k (zs.take l.length)).length + (lits (H := H) k (zs.drop l.length)).length) * P.bytesOf e2) (by simp [DataW.weights, he])
        simp only [if_true] at hlen1
        refine Nat.le_trans (Nat.mul_le_mul_right _ ?_) h2
        simp only [lits, List.length_map, List.length_take, List.length_drop]
        have h3 : l.length ≤ zs.length := by omega
        omega
theorem trod_fieldW {H : Type} {enc : TypeId × Value → H} {P : Program} {w : World} {base : Nat} {spare : Nat → Bool} {held : Bool} {t : TypeId} {fs : Array Field} {fuel : Nat} {cs cs' : List Value} {x : DataW H × List MemPlace} {i k : Nat} {f : Field} (ht : P.underlying t = some (.struct fs)) (hi : fs[i]? = some f) (hk : P.cellsOf f.type = k) (hc : (cs.drop f.offset).take k = cs') (h : DataW.trod enc P w base spare held fuel t cs = some x) :
    ∃ n y, DataW.trod enc P w base spare held n f.type cs' = some y ∧ ∀ z ∈ y.1.weights P f.type, z ∈ x.1.weights P t := by
  obtain ⟨xs, n, _, rfl, hl, hlen, hf⟩ := DataW.trod_struct ht h
  have h1 := hf i f hi
  obtain ⟨hlt, _⟩ := Array.getElem?_eq_some_iff.1 hi
  have hlt' : i < xs.length := by omega
  refine ⟨n, xs[i], by rw [← hc, ← hk, h1, List.getElem?_eq_getElem hlt'], fun z hz => ?_⟩
  simp only [DataW.weights, ht]
  refine DataW.weights_mem_each (j := i) (t := f.type) (d := xs[i].1) ?_ ?_ z hz
  · rw [List.getElem?_map, Array.getElem?_toList, hi]; rfl
  · rw [List.getElem?_map, List.getElem?_eq_getElem hlt']; rfl
theorem isl_size {H : Type} {enc : TypeId × Value → H} {P : Program} {W : World} {b0 : Nat} {r : Reach} {t e : TypeId} {f0 f1 : Field} {k : IntKind} {v : Value} {a : Option Addr} {n c : Nat} {d : DataW H} {p : List MemPlace} {ts : List TypeId} {ds : List (DataW H)} {j : Nat}
    (hs : (DataW.weightsEach P ts ds).all (· ≤ reachBytes) = true) (hj : ts[j]? = some t) (hd : ds[j]? = some d) (ht : P.underlying t = some (.struct #[f0, f1])) (hone : Deep.oneCellFields P #[f0, f1] = true) (hC : P.cellsOf t = 2)
    (h1 : P.underlying f1.type = some (.slice e)) (he : P.underlying e = some (.int k)) (hc : P.cellsOf e = 1) (hv : Value.okWide P W r b0 t (.agg #[v, .slice a n c]))
    (h : DataW.Trod enc P W 0 (fun _ => true) true t (.agg #[v, .slice a n c]) d p) : n * P.bytesOf e ≤ reachBytes := by
  obtain ⟨v0, v1, y0, y1, m, hv1, rfl, _, _, t1⟩ := Joins.open_agg2 ht hone hC hv h
  obtain ⟨_, rfl⟩ : v = v0 ∧ Value.slice a n c = v1 := by simpa using hv1
  have hw : ∀ x ∈ y1.1.weights P f1.type, x ≤ reachBytes := fun x hx => by
    have := List.all_eq_true.1 hs x (DataW.weights_mem_each hj hd x (by simp [DataW.weights, ht, DataW.weightsEach, hx]))
    simpa using this
  rcases open_ints h1 he hc t1 with ⟨hcs, hx⟩ | ⟨a1, len, cap, zs, hcs, _, _, _, hlen, hx, _, _⟩
  · simp at hcs
    obtain ⟨rfl, rfl, rfl⟩ := hcs
    simp
  · simp at hcs
    obtain ⟨rfl, rfl, rfl⟩ := hcs
    have ex := congrArg Prod.fst hx
    simp only at ex
    have h2 := hw (((lits (H := H) k (zs.take n)).length + (lits (H := H) k (zs.drop n)).length) * P.bytesOf e) (by rw [ex]; simp [DataW.weights, h1])
    simp only [if_true] at hlen
    refine Nat.le_trans (Nat.mul_le_mul_right _ ?_) h2
    simp only [lits, List.length_map, List.length_take, List.length_drop]
    have h3 : n ≤ zs.length := by omega
    omega
theorem restListsOwn : ownKnob Tryz.prog.godebug = none := by kernel_rfl
theorem restListsLaid : laidOutB Tryz.prog = true := by kernel_rfl
set_option maxRecDepth 100000 in
theorem restLists_lifted (os : Os) (started : os.Started) (H : Type) (enc : TypeId × Value → H) :
    ReturnsInHanded {} Tryz.checked os 3 .any (Rows.restListsSpec.pre6 enc Tryz.prog Tryz.f3 Rows.restListsRow.domain false) (Rows.restListsSpec.post enc Tryz.prog Tryz.f3 false true false false) := by
  refine returnsInHanded_of_change_sized (C := Tryz.checked) restListsOwn started (by kernel_rfl) Tryz.func3
    (ChangeSpec.witness6 (enc := enc) (C := Tryz.checked) false ⟨#[], #[.slice none 0 0, .slice none 0 0, .agg #[.int .i64 0, .slice none 0 0], .agg #[.int .i64 0, .int .i64 0, .int .i64 0], .agg #[.slice none 0 0], .int .i64 0, .int .i64 0], []⟩ 8 (by kernel_rfl) (by kernel_rfl) (by kernel_rfl) (by kernel_rfl)) ?_
  intro W base args ds gs before hval0 hW _ hsz _
  have hval : ∀ (j : Nat) t v, Tryz.f3.params[j]? = some t → args[j]? = some v → Value.okWide Tryz.prog W .any base t v := hval0
  have hW' := hW
  obtain ⟨p, q, hA0, hV, rfl, _, _⟩ := hW
  have hA : DataW.TrodAll enc Tryz.prog W 0 (fun _ => true) true Tryz.f3.params.toList args.toList ds p := hA0
  rw [Tryz.params3] at hA hval
  obtain ⟨args⟩ := args
  obtain ⟨v0, r0, d0, s0, q0, z0, e0, rfl, rfl, h0, k0⟩ := trodAll_cons hA
  obtain ⟨v1, r1, d1, s1, q1, z1, e1, rfl, rfl, h1, k1⟩ := trodAll_cons k0
  obtain ⟨v2, r2, d2, s2, q2, z2, e2, rfl, rfl, h2, k2⟩ := trodAll_cons k1
  obtain ⟨v3, r3, d3, s3, q3, z3, e3, rfl, rfl, h3, k3⟩ := trodAll_cons k2
  obtain ⟨v4, r4, d4, s4, q4, z4, e4, rfl, rfl, h4, k4⟩ := trodAll_cons k3
  obtain ⟨v5, r5, d5, s5, q5, z5, e5, rfl, rfl, h5, k5⟩ := trodAll_cons k4
  obtain ⟨v6, r6, d6, s6, q6, z6, e6, rfl, rfl, h6, k6⟩ := trodAll_cons k5
  obtain ⟨e7, rfl, rfl⟩ := trodAll_nil k6
  subst e7
  subst e6
  subst e5
  subst e4
  subst e3
  subst e2
  subst e1
  obtain rfl : args = _ := e0
  obtain ⟨rfl, rfl⟩ := trodVars_none hV
  rw [Tryz.params3] at hsz
  obtain ⟨a0, c0, p0, rfl, n0, w0, l00⟩ := qh5 Tryz.underlying22 Tryz.underlying3 (by kernel_rfl) (hval 0 22 v0 rfl rfl) h0
  have b0 := fun y hy => qa8 (w0 y hy)
  have l0 : p0.length ≤ 9223372036854775807 := l00
  obtain ⟨a1, c1, p1, rfl, n1, w1, l10⟩ := qh5 Tryz.underlying22 Tryz.underlying3 (by kernel_rfl) (hval 1 22 v1 rfl rfl) h1
  have b1 := fun y hy => qa8 (w1 y hy)
  have l1 : p1.length ≤ 9223372036854775807 := l10
  obtain ⟨m2, a2, c2, p2, rfl, u2, n2, w2, l20⟩ := qjy Tryz.underlying25 (by kernel_rfl) (by kernel_rfl) (by kernel_rfl) Tryz.underlying3 Tryz.underlying23 Tryz.underlying5 (by kernel_rfl) (hval 2 25 v2 rfl rfl) h2
  have g2 := qa8 u2
  have b2 := fun y hy => qsA (w2 y hy)
  have l2 : p2.length ≤ 9223372036854775807 := l20
  have o3 := hval 3 27 v3 rfl rfl
  obtain ⟨cs3, rfl, hz3⟩ := okWide_struct Tryz.underlying27 o3
  obtain ⟨z3_0, z3_1, z3_2, rfl⟩ := arr3 (hz3.trans (by kernel_rfl))
  obtain ⟨fu3, t3⟩ := h3
  obtain ⟨_, _, t3_0⟩ := qeV (cs := [z3_0, z3_1, z3_2]) (cs' := [z3_0]) Tryz.underlying27 (i := 0) rfl (k := 1) (by kernel_rfl) rfl t3
  obtain ⟨_, _, t3_1⟩ := qeV (cs := [z3_0, z3_1, z3_2]) (cs' := [z3_1]) Tryz.underlying27 (i := 1) rfl (k := 1) (by kernel_rfl) rfl t3
  obtain ⟨_, _, t3_2⟩ := qeV (cs := [z3_0, z3_1, z3_2]) (cs' := [z3_2]) Tryz.underlying27 (i := 2) rfl (k := 1) (by kernel_rfl) rfl t3
  have lf3 := qgW Tryz.underlying27 (ts := [3, 3, 3]) (by kernel_rfl) o3
  obtain ⟨m3_0, rfl, u3_0⟩ := qin Tryz.underlying3 (lf3 0 _ 3 (by decide) rfl rfl) t3_0
  have g3_0 := qa8 u3_0
  obtain ⟨m3_1, rfl, u3_1⟩ := qin Tryz.underlying3 (lf3 1 _ 3 (by decide) rfl rfl) t3_1
  have g3_1 := qa8 u3_1
  obtain ⟨m3_2, rfl, u3_2⟩ := qin Tryz.underlying3 (lf3 2 _ 3 (by decide) rfl rfl) t3_2
  have g3_2 := qa8 u3_2
  have o4 := hval 4 30 v4 rfl rfl
  obtain ⟨cs4, rfl, hz4⟩ := okWide_struct Tryz.underlying30 o4
  obtain ⟨z4_0, rfl⟩ := arr1 (hz4.trans (by kernel_rfl))
  obtain ⟨fu4, t4⟩ := h4
  obtain ⟨_, _, t4_0⟩ := qeV (cs := [z4_0]) (cs' := [z4_0]) Tryz.underlying30 (i := 0) rfl (k := 1) (by kernel_rfl) rfl t4
  have lf4 := qgW Tryz.underlying30 (ts := [28]) (by kernel_rfl) o4
  obtain ⟨a4_0, c4_0, p4_0, s4_0, rfl, n4_0, w4_0, l4_00⟩ := qns (en := eN22) (inn := iN22) zX (fun _ => rfl) (fun _ => rfl) Tryz.underlying28 Tryz.underlying22 Tryz.underlying3 (by kernel_rfl) (by kernel_rfl) (lf4 0 _ 28 (by decide) rfl rfl) t4_0
  have b4_0 := fun l hl y hy => qa8 ((w4_0 l hl).1 y hy)
  have l4_0 : p4_0.length ≤ 9223372036854775807 := l4_00
  have ll4_0 : ∀ l ∈ p4_0, l.length ≤ 9223372036854775807 := fun l hl => (w4_0 l hl).2
  obtain ⟨p5, rfl, rfl, rfl, w5⟩ := open_int Tryz.underlying3 (hval 5 3 v5 rfl rfl) h5
  have b5 := qa8 w5
  obtain ⟨p6, rfl, rfl, rfl, w6⟩ := open_int Tryz.underlying3 (hval 6 3 v6 rfl rfl) h6
  have b6 := qa8 w6
  have sz0 : p0.length * Tryz.prog.bytesOf 3 ≤ reachBytes := ints_size (j := 0) hsz rfl rfl Tryz.underlying22 Tryz.underlying3 (by kernel_rfl) h0
  rw [show Tryz.prog.bytesOf 3 = 8 from by kernel_rfl, show reachBytes = 140737488351232 from rfl] at sz0
  have sz1 : p1.length * Tryz.prog.bytesOf 3 ≤ reachBytes := ints_size (j := 1) hsz rfl rfl Tryz.underlying22 Tryz.underlying3 (by kernel_rfl) h1
  rw [show Tryz.prog.bytesOf 3 = 8 from by kernel_rfl, show reachBytes = 140737488351232 from rfl] at sz1
  have sz2 : p2.length * Tryz.prog.bytesOf 5 ≤ reachBytes := isl_size (j := 2) hsz rfl rfl Tryz.underlying25 (by kernel_rfl) (by kernel_rfl) Tryz.underlying23 Tryz.underlying5 (by kernel_rfl) (hval 2 25 _ rfl rfl) h2
  rw [show Tryz.prog.bytesOf 5 = 1 from by kernel_rfl, show reachBytes = 140737488351232 from rfl] at sz2
  obtain ⟨_, _, tw4, ww4⟩ := trod_fieldW (cs := [.slice a4_0 p4_0.length c4_0]) (cs' := [.slice a4_0 p4_0.length c4_0]) Tryz.underlying30 (i := 0) rfl (k := 1) (by kernel_rfl) rfl t4
  have sz4 := lists_size (fun _ => rfl) Tryz.underlying28 Tryz.underlying22 Tryz.underlying3 (by kernel_rfl) (by kernel_rfl) n4_0.here (fun x hx => of_decide_eq_true (List.all_eq_true.1 hsz x (DataW.weights_mem_each (j := 4) rfl rfl x (ww4 x hx)))) tw4
  rw [show Tryz.prog.bytesOf 22 = 24 from by kernel_rfl, show Tryz.prog.bytesOf 3 = 8 from by kernel_rfl, show reachBytes = 140737488351232 from rfl] at sz4
  clear hA0 hval0
  refine (qi7 (2000200 + (p4_0.map List.length).sum + p4_0.length + p0.length + p1.length + p2.length) p0 a0 c0 p1 a1 c1 m2 p2 a2 c2 m3_0 m3_1 m3_2 p4_0 a4_0 (c4_0, s4_0) p5 p6 true (qjD (Nat.le_refl _) sz0 sz1 g2 b2 sz2 sz4.2 sz4.1) W (Hp.start (qgE n0 (qgE n1 (qgE n2 (qgE n4_0 qtb)))))).mono ?_
  rintro e W' ⟨g, rfl, hr⟩
  exact ⟨_, rfl, qq7 restListsLaid (by kernel_rfl) rfl Tryz.underlying4 rfl hW' rfl hr.keep⟩
theorem restLists_holds : Rows.RestListsSaid :=
  OpenClaim.holds_of_wide 3 Tryz.f3 rfl rfl rfl rfl rfl rfl rfl ⟨rfl, rfl, rfl, rfl, rfl⟩ rfl rfl rfl rfl rfl (by kernel_rfl) Tryz.func3 (by kernel_rfl)
    (of_decide_eq_true (by kernel_rfl)) (by unfold Func.isWrapper; first | (rw [if_pos (by decide +kernel)]; kernel_rfl) | (rw [if_neg (by decide +kernel)]; exact ⟨rfl, rfl⟩))
    (fun os started H enc _ => restLists_lifted os started H enc)
end Go.Proofs.YtmoikolponkmpaaGreat
