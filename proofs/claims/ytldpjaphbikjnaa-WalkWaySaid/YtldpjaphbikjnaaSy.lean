/- A layer of rules for walking Go code: what a frame's slots hold, what blocks and rows of the heap hold; each rule speaks of a plain model's value: part 3. -/
import Derived.Test.YtldpjaphbikjnaaSx
import Derived.Lib.SmallJoins
import Derived.Deep.Slices
namespace SX
open Go Go.ChangeShapes Go.WideShapes Go.ChangeAt Go.RowKit Go.Joins Go.Deep

variable {H : Type} {enc : TypeId × Value → H} {P : Program}
/-- A struct's cells, each as its leaf's type wants it. -/
theorem agg_cells {W : World} {base : Nat} {t : TypeId} {ts : List TypeId} {fs : Array Field} {cs : Array Value} (hs : P.underlying t = some (.struct fs)) (hts : P.cellTypes P.depth t = some ts) (hv : Value.okWide P W .any base t (.agg cs)) :
    ∀ i v u, i < ts.length → cs[i]? = some v → ts[i]? = some u → Cell.okWide P W .any base u v := by
  unfold Value.okWide at hv
  rw [hs] at hv
  obtain ⟨cs', he, _, ts', h1, _, h2⟩ := hv
  cases he
  rw [hts] at h1
  cases h1
  intro i v u hi hc hu
  obtain ⟨u', h3, h4⟩ := h2 i v hc
  rw [Nat.mod_eq_of_lt hi, hu] at h3
  cases h3
  exact h4
/-- An argument that is a struct of an integer and a slice of integers. -/
theorem arg_int_slice {W : World} {base : Nat} {t e : TypeId} {f0 f1 : Field} {k0 k1 : IntKind} {v : Value} {d : DataW H} {p : List MemPlace} (hs : P.underlying t = some (.struct #[f0, f1])) (hone : oneCellFields P #[f0, f1] = true) (hC : P.cellsOf t = 2) (hts : P.cellTypes P.depth t = some [f0.type, f1.type])
    (h0 : P.underlying f0.type = some (.int k0)) (h1 : P.underlying f1.type = some (.slice e)) (he : P.underlying e = some (.int k1)) (hc : P.cellsOf e = 1)
    (hval : Value.okWide P W .any base t v) (h : DataW.Trod enc P W 0 (fun _ => true) true t v d p) :
    ∃ (n : Int) (a : Option Addr) (cap : Nat) (xs : List Int), v = .agg #[.int k0 n, .slice a xs.length cap] ∧ (Lit.int k0 n).wf = true ∧ Nec W [] (Sl (eI k1) 1 (.slice a xs.length cap) xs) ∧ (∀ n ∈ xs, (Lit.int k1 n).wf = true) ∧ xs.length ≤ maxLen := by
  obtain ⟨v0, v1, y0, y1, n, rfl, rfl, rfl, t0, t1⟩ := open_agg2 hs hone hC hval h
  have hcell := agg_cells hs hts hval
  have c0 := hcell 0 v0 f0.type (by simp) rfl rfl
  have c1 := hcell 1 v1 f1.type (by simp) rfl rfl
  have o0 : Value.okWide P W .any base f0.type v0 := by unfold Value.okWide; rw [h0]; exact c0
  have o1 : Value.okWide P W .any base f1.type v1 := by unfold Value.okWide; rw [h1]; exact c1
  have v0c : v0.cells = #[v0] := by
    obtain ⟨x, rfl⟩ := okWide_int h0 o0
    rfl
  have v1c : v1.cells = #[v1] := by
    obtain ⟨a, l, c, rfl⟩ := okWide_slice h1 o1
    rfl
  obtain ⟨x, rfl, _, _, wx⟩ := open_int h0 o0 (d := y0.1) (ps := y0.2) ⟨n, by rw [v0c]; exact t0⟩
  obtain ⟨a, cap, xs, rfl, hn, hw, hm⟩ := arg_ints h1 he hc o1 (d := y1.1) (p := y1.2) ⟨n, by rw [v1c]; exact t1⟩
  exact ⟨x, a, cap, xs, rfl, wx, hn, hw, hm⟩
end SX

namespace SX
open Go Go.ChangeShapes Go.WideShapes Go.ChangeAt Go.RowKit Go.Joins Go.Deep

variable {H : Type} {enc : TypeId × Value → H} {P : Program}
/-- One field of a struct's cells. -/
theorem trod_field {w : World} {base : Nat} {spare : Nat → Bool} {held : Bool} {t : TypeId} {fs : Array Field} {fuel : Nat} {cs cs' : List Value} {x : DataW H × List MemPlace} {i k : Nat} {f : Field} (ht : P.underlying t = some (.struct fs)) (hi : fs[i]? = some f) (hk : P.cellsOf f.type = k) (hc : (cs.drop f.offset).take k = cs') (h : DataW.trod enc P w base spare held fuel t cs = some x) :
    ∃ n y, DataW.trod enc P w base spare held n f.type cs' = some y := by
  obtain ⟨xs, n, _, rfl, hl, hlen, hf⟩ := DataW.trod_struct ht h
  have h1 := hf i f hi
  obtain ⟨hlt, _⟩ := Array.getElem?_eq_some_iff.1 hi
  have hlt' : i < xs.length := by omega
  refine ⟨n, xs[i], ?_⟩
  rw [← hc, ← hk, h1, List.getElem?_eq_getElem hlt']
theorem leaf_int {W : World} {base n : Nat} {t : TypeId} {k : IntKind} {v : Value} {y : DataW H × List MemPlace} (h0 : P.underlying t = some (.int k)) (hc : Cell.okWide P W .any base t v) (h : DataW.trod enc P W 0 (fun _ => true) true n t [v] = some y) :
    ∃ x, v = .int k x ∧ (Lit.int k x).wf = true := by
  have o0 : Value.okWide P W .any base t v := by unfold Value.okWide; rw [h0]; exact hc
  have vc : v.cells = #[v] := by
    obtain ⟨x, rfl⟩ := okWide_int h0 o0
    rfl
  obtain ⟨x, rfl, _, _, wx⟩ := open_int h0 o0 (d := y.1) (ps := y.2) ⟨n, by rw [vc]; exact h⟩
  exact ⟨x, rfl, wx⟩
theorem leaf_bool {W : World} {base n : Nat} {t : TypeId} {v : Value} {y : DataW H × List MemPlace} (h0 : P.underlying t = some .bool) (hc : Cell.okWide P W .any base t v) (_ : DataW.trod enc P W 0 (fun _ => true) true n t [v] = some y) :
    ∃ x : Bool, v = .bool x := by
  have o0 : Value.okWide P W .any base t v := by unfold Value.okWide; rw [h0]; exact hc
  exact okWide_bool h0 o0
theorem leaf_ints {W : World} {base n : Nat} {t e : TypeId} {k : IntKind} {v : Value} {y : DataW H × List MemPlace} (h1 : P.underlying t = some (.slice e)) (he : P.underlying e = some (.int k)) (hc1 : P.cellsOf e = 1) (hc : Cell.okWide P W .any base t v) (h : DataW.trod enc P W 0 (fun _ => true) true n t [v] = some y) :
    ∃ (a : Option Addr) (cap : Nat) (xs : List Int), v = .slice a xs.length cap ∧ Nec W [] (Sl (eI k) 1 v xs) ∧ (∀ n ∈ xs, (Lit.int k n).wf = true) ∧ xs.length ≤ maxLen := by
  have o1 : Value.okWide P W .any base t v := by unfold Value.okWide; rw [h1]; exact hc
  have vc : v.cells = #[v] := by
    obtain ⟨a, l, c, rfl⟩ := okWide_slice h1 o1
    rfl
  exact arg_ints h1 he hc1 o1 (d := y.1) (p := y.2) ⟨n, by rw [vc]; exact h⟩
theorem arr1 {α : Type} {cs : Array α} (h : cs.size = 1) : ∃ c0, cs = #[c0] := by
  obtain ⟨l⟩ := cs
  match l, h with
  | [c0], _ => exact ⟨c0, rfl⟩
theorem arr2 {α : Type} {cs : Array α} (h : cs.size = 2) : ∃ c0 c1, cs = #[c0, c1] := by
  obtain ⟨l⟩ := cs
  match l, h with
  | [c0, c1], _ => exact ⟨c0, c1, rfl⟩
theorem arr3 {α : Type} {cs : Array α} (h : cs.size = 3) : ∃ c0 c1 c2, cs = #[c0, c1, c2] := by
  obtain ⟨l⟩ := cs
  match l, h with
  | [c0, c1, c2], _ => exact ⟨c0, c1, c2, rfl⟩
theorem arr4 {α : Type} {cs : Array α} (h : cs.size = 4) : ∃ c0 c1 c2 c3, cs = #[c0, c1, c2, c3] := by
  obtain ⟨l⟩ := cs
  match l, h with
  | [c0, c1, c2, c3], _ => exact ⟨c0, c1, c2, c3, rfl⟩
theorem arr5 {α : Type} {cs : Array α} (h : cs.size = 5) : ∃ c0 c1 c2 c3 c4, cs = #[c0, c1, c2, c3, c4] := by
  obtain ⟨l⟩ := cs
  match l, h with
  | [c0, c1, c2, c3, c4], _ => exact ⟨c0, c1, c2, c3, c4, rfl⟩
theorem arr6 {α : Type} {cs : Array α} (h : cs.size = 6) : ∃ c0 c1 c2 c3 c4 c5, cs = #[c0, c1, c2, c3, c4, c5] := by
  obtain ⟨l⟩ := cs
  match l, h with
  | [c0, c1, c2, c3, c4, c5], _ => exact ⟨c0, c1, c2, c3, c4, c5, rfl⟩
theorem arr7 {α : Type} {cs : Array α} (h : cs.size = 7) : ∃ c0 c1 c2 c3 c4 c5 c6, cs = #[c0, c1, c2, c3, c4, c5, c6] := by
  obtain ⟨l⟩ := cs
  match l, h with
  | [c0, c1, c2, c3, c4, c5, c6], _ => exact ⟨c0, c1, c2, c3, c4, c5, c6, rfl⟩
theorem arr8 {α : Type} {cs : Array α} (h : cs.size = 8) : ∃ c0 c1 c2 c3 c4 c5 c6 c7, cs = #[c0, c1, c2, c3, c4, c5, c6, c7] := by
  obtain ⟨l⟩ := cs
  match l, h with
  | [c0, c1, c2, c3, c4, c5, c6, c7], _ => exact ⟨c0, c1, c2, c3, c4, c5, c6, c7, rfl⟩
theorem arr9 {α : Type} {cs : Array α} (h : cs.size = 9) : ∃ c0 c1 c2 c3 c4 c5 c6 c7 c8, cs = #[c0, c1, c2, c3, c4, c5, c6, c7, c8] := by
  obtain ⟨l⟩ := cs
  match l, h with
  | [c0, c1, c2, c3, c4, c5, c6, c7, c8], _ => exact ⟨c0, c1, c2, c3, c4, c5, c6, c7, c8, rfl⟩
theorem arr10 {α : Type} {cs : Array α} (h : cs.size = 10) : ∃ c0 c1 c2 c3 c4 c5 c6 c7 c8 c9, cs = #[c0, c1, c2, c3, c4, c5, c6, c7, c8, c9] := by
  obtain ⟨l⟩ := cs
  match l, h with
  | [c0, c1, c2, c3, c4, c5, c6, c7, c8, c9], _ => exact ⟨c0, c1, c2, c3, c4, c5, c6, c7, c8, c9, rfl⟩
theorem arr11 {α : Type} {cs : Array α} (h : cs.size = 11) : ∃ c0 c1 c2 c3 c4 c5 c6 c7 c8 c9 c10, cs = #[c0, c1, c2, c3, c4, c5, c6, c7, c8, c9, c10] := by
  obtain ⟨l⟩ := cs
  match l, h with
  | [c0, c1, c2, c3, c4, c5, c6, c7, c8, c9, c10], _ => exact ⟨c0, c1, c2, c3, c4, c5, c6, c7, c8, c9, c10, rfl⟩
theorem arr12 {α : Type} {cs : Array α} (h : cs.size = 12) : ∃ c0 c1 c2 c3 c4 c5 c6 c7 c8 c9 c10 c11, cs = #[c0, c1, c2, c3, c4, c5, c6, c7, c8, c9, c10, c11] := by
  obtain ⟨l⟩ := cs
  match l, h with
  | [c0, c1, c2, c3, c4, c5, c6, c7, c8, c9, c10, c11], _ => exact ⟨c0, c1, c2, c3, c4, c5, c6, c7, c8, c9, c10, c11, rfl⟩
end SX

namespace SX
open Go Go.ChangeShapes Go.WideShapes Go.ChangeAt Go.RowKit Go.Joins Go.Deep

theorem flatMap_div {α : Type} {enc : α → List Value} {size : Nat} (h : EncOk enc size) (h0 : 0 < size) : ∀ (xs : List α) (j : Nat) (u : Value), (xs.flatMap enc)[j]? = some u → ∃ x, xs[j / size]? = some x ∧ (enc x)[j % size]? = some u
  | [], j, u, hj => by simp at hj
  | x :: xs, j, u, hj => by
    rw [List.flatMap_cons] at hj
    by_cases hlt : j < size
    · rw [List.getElem?_append_left (by rw [h.len]; exact hlt)] at hj
      exact ⟨x, by rw [Nat.div_eq_of_lt hlt]; rfl, by rw [Nat.mod_eq_of_lt hlt]; exact hj⟩
    · rw [List.getElem?_append_right (by rw [h.len]; omega), h.len] at hj
      obtain ⟨y, h1, h2⟩ := flatMap_div h h0 xs (j - size) u hj
      have e1 : j / size = (j - size) / size + 1 := by
        rw [← Nat.add_div_right _ h0]; congr 1; omega
      have e2 : j % size = (j - size) % size := Nat.mod_eq_sub_mod (by omega)
      exact ⟨y, by rw [e1, List.getElem?_cons_succ]; exact h1, by rw [e2]; exact h2⟩
variable {H : Type} {enc : TypeId × Value → H} {P : Program}
/-- An argument that is a slice of elements that hold no addresses. -/
theorem arg_slice {α : Type} {enc' : α → List Value} {good : α → Prop} {size : Nat} (henc : EncOk enc' size) (h0 : 0 < size) {W : World} {base : Nat} {t e : TypeId} {v : Value} {d : DataW H} {p : List MemPlace} (ht : P.underlying t = some (.slice e)) (hc : P.cellsOf e = size)
    (hopen : ∀ n cs y, DataW.trod enc P W 0 (fun _ => true) true n e cs = some y → cs.length = size → ∃ x : α, cs = enc' x ∧ good x)
    (hval : Value.okWide P W .any base t v) (h : DataW.Trod enc P W 0 (fun _ => true) true t v d p) :
    ∃ (a : Option Addr) (cap : Nat) (xs : List α), v = .slice a xs.length cap ∧ Nec W [] (Sl enc' size v xs) ∧ (∀ x ∈ xs, good x) ∧ xs.length ≤ maxLen := by
  obtain ⟨a0, len0, cap0, rfl⟩ := okWide_slice ht hval
  obtain ⟨fuel, hf⟩ := h
  rcases open_slice ht hf with ⟨hcs, _⟩ | ⟨a, len, cap, m, n, D, Pl, hcs, _, hle, hmax, hmm, _, hx⟩
  · simp [Value.cells] at hcs
    obtain ⟨rfl, rfl, rfl⟩ := hcs
    refine ⟨none, 0, [], rfl, nec_cells ⟨⟨none, 0, rfl, Nat.le_refl _, by simp, by simp, fun j u hj => by simp at hj⟩, by simp⟩ (by simp), by simp, by simp⟩
  · simp [Value.cells] at hcs
    obtain ⟨rfl, rfl, rfl⟩ := hcs
    simp only [if_true] at hmm
    subst hmm
    have hspot : a.spot = none := by
      have hv : Cell.okWide P W .any base t (.slice (some a) len0 m) := by
        unfold Value.okWide at hval
        rw [ht] at hval
        exact hval
      unfold Cell.okWide Cell.ok at hv
      rw [ht] at hv
      simp only at hv
      exact hv.2.2.2.1
    have each : ∀ i, i < m → ∃ x : α, W.cells? 0 (a.add (i * size)) size = some (enc' x) ∧ good x := by
      intro i hi
      obtain ⟨cs', h1, h2⟩ := hx i hi
      rw [hc] at h1
      obtain ⟨x, rfl, hg⟩ := hopen n cs' _ h2 (World.cells?_some h1).2.1
      exact ⟨x, h1, hg⟩
    by_cases hm0 : m = 0
    · subst hm0
      have hl0 : len0 = 0 := by omega
      subst hl0
      refine ⟨some a, 0, [], rfl, nec_cells ⟨⟨some a, 0, rfl, Nat.le_refl _, by simp, fun ad e => by cases e; exact .inr hspot, fun j u hj => by simp at hj⟩, by simp⟩ (fun ad l c e hne => absurd rfl hne), by simp, by simp⟩
    · obtain ⟨x0, _⟩ := each 0 (by omega)
      haveI : Inhabited α := ⟨x0⟩
      obtain ⟨X, hX⟩ := choose_lt each
      have hL : ((List.range len0).map X).length = len0 := by simp
      have hcell : ∀ j u, (((List.range len0).map X).flatMap enc')[j]? = some u → W.cell? ⟨a.block, a.off + j, none⟩ = some u := by
        intro j u hj
        obtain ⟨x, h1, h2⟩ := flatMap_div henc h0 _ j u hj
        rw [List.getElem?_map] at h1
        cases hr : (List.range len0)[j / size]? with
        | none => rw [hr] at h1; simp at h1
        | some i =>
          rw [hr] at h1
          simp only [Option.map_some, Option.some.injEq] at h1
          subst h1
          have hi := (List.getElem?_eq_some_iff.1 hr)
          obtain ⟨hi1, hi2⟩ := hi
          simp only [List.length_range] at hi1
          simp only [List.getElem_range] at hi2
          subst hi2
          obtain ⟨_, _, hcl⟩ := World.cells?_some (hX (j / size) (by omega)).1
          have hmod : j % size < size := Nat.mod_lt _ h0
          have := hcl (j % size) hmod
          rw [h2] at this
          rw [addr_add' _ _ hspot, addr_add] at this
          rw [← this]
          congr 2
          rw [Nat.add_assoc, Nat.div_add_mod' j size]
      refine ⟨some a, m, (List.range len0).map X, by rw [hL], ?_, ?_, by rw [hL]; omega⟩
      · refine nec_cells ⟨⟨some a, m, by rw [hL], by rw [hL]; exact hle, hmax, fun ad e => by cases e; exact .inr hspot, fun j u hj => ⟨a, rfl, hcell j u hj⟩⟩, flatMap_len henc _⟩ fun ad l c e hne => ?_
        cases e
        have hpos : 0 < (((List.range len0).map X).flatMap enc').length := List.length_pos_iff.2 hne
        have := hcell 0 _ (List.getElem?_eq_getElem hpos)
        unfold World.cell? at this
        cases hh : W.heap[a.block]? with
        | none => simp only [hh] at this; simp at this
        | some o => exact (Array.getElem?_eq_some_iff.1 hh).1
      · intro x hx'
        obtain ⟨i, hi, rfl⟩ := List.mem_map.1 hx'
        exact (hX i (by have := List.mem_range.1 hi; omega)).2
/-- An argument that is a slice of structs of two integers. -/
theorem arg_pairs {W : World} {base : Nat} {t e : TypeId} {f0 f1 : Field} {k0 k1 : IntKind} {enc' : Int × Int → List Value} {v : Value} {d : DataW H} {p : List MemPlace} (henc : EncOk enc' 2) (hen : ∀ x : Int × Int, enc' x = [.int k0 x.1, .int k1 x.2]) (ht : P.underlying t = some (.slice e)) (he : P.underlying e = some (.struct #[f0, f1]))
    (hc : P.cellsOf e = 2) (o0 : f0.offset = 0) (o1 : f1.offset = 1) (c0 : P.cellsOf f0.type = 1) (c1 : P.cellsOf f1.type = 1) (h0 : P.underlying f0.type = some (.int k0)) (h1 : P.underlying f1.type = some (.int k1))
    (hval : Value.okWide P W .any base t v) (h : DataW.Trod enc P W 0 (fun _ => true) true t v d p) :
    ∃ (a : Option Addr) (cap : Nat) (xs : List (Int × Int)), v = .slice a xs.length cap ∧ Nec W [] (Sl enc' 2 v xs) ∧ (∀ x ∈ xs, (Lit.int k0 x.1).wf = true ∧ (Lit.int k1 x.2).wf = true) ∧ xs.length ≤ maxLen := by
  refine arg_slice (good := fun x : Int × Int => (Lit.int k0 x.1).wf = true ∧ (Lit.int k1 x.2).wf = true) henc (by decide) ht hc (fun n cs y hy hl => ?_) hval h
  match cs, hl with
  | [a0, a1], _ =>
    obtain ⟨_, _, t0⟩ := trod_field (cs := [a0, a1]) (cs' := [a0]) he (i := 0) rfl (k := 1) c0 (by show List.take 1 (List.drop f0.offset [a0, a1]) = _; rw [o0]; rfl) hy
    obtain ⟨_, _, t1⟩ := trod_field (cs := [a0, a1]) (cs' := [a1]) he (i := 1) rfl (k := 1) c1 (by show List.take 1 (List.drop f1.offset [a0, a1]) = _; rw [o1]; rfl) hy
    obtain ⟨m0, e0, _, w0⟩ := DataW.trod_int h0 t0
    obtain ⟨m1, e1, _, w1⟩ := DataW.trod_int h1 t1
    simp only [List.cons.injEq, and_true] at e0 e1
    subst e0 e1
    exact ⟨(m0, m1), (hen (m0, m1)).symm, w0, w1⟩
end SX

namespace SX
open Go Go.ChangeShapes Go.WideShapes Go.ChangeAt Go.RowKit Go.Joins Go.Deep

variable {H : Type} {enc : TypeId × Value → H} {P : Program}
/-- A slice of slices of integers: the leaf of an argument. -/
theorem leaf_lists {W : World} {base n : Nat} {t e e2 : TypeId} {k : IntKind} {v : Value} {y : DataW H × List MemPlace} {en : List Int × (Option Addr × Nat) → List Value} {inn : List Int × (Option Addr × Nat) → List (World → Prop)} (henc : EncOk en 1) (hen : ∀ p, en p = [.slice p.2.1 p.1.length p.2.2]) (hin : ∀ p, inn p = [Sl (eI k) 1 (.slice p.2.1 p.1.length p.2.2) p.1])
    (ht : P.underlying t = some (.slice e)) (he : P.underlying e = some (.slice e2)) (he2 : P.underlying e2 = some (.int k)) (hc1 : P.cellsOf e = 1) (hc2 : P.cellsOf e2 = 1) (hc : Cell.okWide P W .any base t v)
    (h : DataW.trod enc P W 0 (fun _ => true) true n t [v] = some y) :
    ∃ (a : Option Addr) (cap : Nat) (xs : List (List Int)) (gs : List (Option Addr × Nat)), v = .slice a xs.length cap ∧ Nec W [] (SlN en inn 1 (.slice a xs.length cap) xs gs) ∧ (∀ l ∈ xs, (∀ n ∈ l, (Lit.int k n).wf = true) ∧ l.length ≤ maxLen) ∧ xs.length ≤ maxLen := by
  have o1 : Value.okWide P W .any base t v := by unfold Value.okWide; rw [ht]; exact hc
  have vc : v.cells = #[v] := by
    obtain ⟨a, l, c, rfl⟩ := okWide_slice ht o1
    rfl
  have hopen : ∀ n cs y, DataW.trod enc P W 0 (fun _ => true) true n e cs = some y → cs.length = 1 → ∃ x : List Int × (Option Addr × Nat), cs = en x ∧ (Nec W [] (Sl (eI k) 1 (.slice x.2.1 x.1.length x.2.2) x.1) ∧ (∀ n ∈ x.1, (Lit.int k n).wf = true) ∧ x.1.length ≤ maxLen) := by
    intro n cs y hy hl
    match cs, hl with
    | [c0], _ =>
      rcases open_ints he he2 hc2 hy with ⟨hcs, _⟩ | ⟨a, len, cap, zs, hcs, _, hle, hmax, hlen, _, hcell, hwf⟩
      · simp only [List.cons.injEq, and_true] at hcs
        subst hcs
        exact ⟨([], (none, 0)), by rw [hen]; rfl, nec_cells ⟨⟨none, 0, rfl, Nat.le_refl _, by simp, by simp, fun j u hj => by simp at hj⟩, by simp⟩ (by simp), by simp, by simp⟩
      · simp only [List.cons.injEq, and_true] at hcs
        subst hcs
        simp only [if_true] at hlen
        have hL : (zs.take len).length = len := by rw [List.length_take]; omega
        have hfm : ∀ (l : List Int), l.flatMap (eI k) = l.map (fun x => Value.int k x) := by
          intro l
          induction l with
          | nil => rfl
          | cons x l ih => simp [eI, ih]
        have hspot : zs ≠ [] → a.spot = none := by
          intro hne
          obtain ⟨z, zs', rfl⟩ := List.exists_cons_of_ne_nil hne
          have := hcell 0 (by simp)
          unfold World.cell? at this
          have e0 : (a.add 0).spot = a.spot := by simp [Addr.add]
          cases hh : W.heap[(a.add 0).block]? with
          | none => rw [hh] at this; simp at this
          | some o =>
            rw [hh] at this
            cases o with
            | cells c _ _ =>
              simp only [e0] at this
              cases hs : a.spot with
              | none => rfl
              | some q => rw [hs] at this; simp at this
            | _ => simp at this
        have hj0 : ∀ j u, ((zs.take len).flatMap (eI k))[j]? = some u → W.cell? ⟨a.block, a.off + j, none⟩ = some u := by
          intro j u hj
          rw [hfm, List.getElem?_map] at hj
          cases hz : (zs.take len)[j]? with
          | none => rw [hz] at hj; simp at hj
          | some x =>
            rw [hz] at hj
            simp only [Option.map_some, Option.some.injEq] at hj
            subst hj
            have hj1 := (List.getElem?_eq_some_iff.1 hz).1
            have hj2 : j < zs.length := by rw [List.length_take] at hj1; omega
            have hne : zs ≠ [] := by rintro rfl; simp at hj2
            have := hcell j hj2
            have hx : zs.getD j 0 = x := by
              rw [List.getElem?_take_of_lt (by rw [List.length_take] at hj1; omega)] at hz
              simp [List.getD, hz]
            rw [hx, addr_add' _ _ (hspot hne)] at this
            exact this
        refine ⟨(zs.take len, (some a, cap)), by rw [hen, hL], ?_, fun n hn => hwf n (List.mem_of_mem_take hn), by show (zs.take len).length ≤ _; rw [hL]; omega⟩
        refine nec_cells ⟨⟨some a, cap, rfl, by show (zs.take len).length ≤ cap; rw [hL]; exact hle, hmax, fun ad e => ?_, fun j u hj => ⟨a, rfl, hj0 j u hj⟩⟩, by rw [hfm]; simp⟩ fun ad l c e hne => ?_
        · cases e
          by_cases hz : (zs.take len).flatMap (eI k) = []
          · exact .inl hz
          · exact .inr (hspot (by rintro rfl; simp at hz))
        · cases e
          have hpos := List.length_pos_iff.2 hne
          have := hj0 0 _ (List.getElem?_eq_getElem hpos)
          unfold World.cell? at this
          cases hh : W.heap[a.block]? with
          | none => simp only [hh] at this; simp at this
          | some o => exact (Array.getElem?_eq_some_iff.1 hh).1
  obtain ⟨a, cap, ps, hv, hs, hg, hm⟩ := arg_slice (good := fun x : List Int × (Option Addr × Nat) => Nec W [] (Sl (eI k) 1 (.slice x.2.1 x.1.length x.2.2) x.1) ∧ (∀ n ∈ x.1, (Lit.int k n).wf = true) ∧ x.1.length ≤ maxLen) henc (by decide) ht hc1 hopen o1 (d := y.1) (p := y.2) ⟨n, by rw [vc]; exact h⟩
  have hz : (ps.map (·.1)).zip (ps.map (·.2)) = ps := by
    have : ∀ ps : List (List Int × (Option Addr × Nat)), (ps.map (·.1)).zip (ps.map (·.2)) = ps := by
      intro ps
      induction ps with
      | nil => rfl
      | cons p ps ih => rw [List.map_cons, List.map_cons, List.zip_cons_cons, ih]
    exact this ps
  refine ⟨a, cap, ps.map (·.1), ps.map (·.2), by rw [List.length_map]; exact hv, fun w' hk => ⟨by simp, ?_, fun p hp φ hφ => ?_⟩, fun l hl => ?_, by rw [List.length_map]; exact hm⟩
  · rw [hz, List.length_map, ← hv]
    exact hs w' hk
  · rw [hz] at hp
    rw [hin] at hφ
    simp only [List.mem_singleton] at hφ
    subst hφ
    exact (hg p hp).1 w' hk
  · obtain ⟨p, hp, rfl⟩ := List.mem_map.1 hl
    exact (hg p hp).2
end SX

namespace SX
open Go Go.ChangeShapes Go.WideShapes Go.ChangeAt Go.RowKit Go.Joins Go.Deep

variable {H : Type} {enc : TypeId × Value → H} {P : Program}
/-- A slice of integers inside an argument's cell. -/
theorem open_list {W : World} {n : Nat} {e e2 : TypeId} {k : IntKind} {c0 : Value} {y : DataW H × List MemPlace} (he : P.underlying e = some (.slice e2)) (he2 : P.underlying e2 = some (.int k)) (hc2 : P.cellsOf e2 = 1)
    (hy : DataW.trod enc P W 0 (fun _ => true) true n e [c0] = some y) :
    ∃ x : List Int × (Option Addr × Nat), c0 = .slice x.2.1 x.1.length x.2.2 ∧ Nec W [] (Sl (eI k) 1 (.slice x.2.1 x.1.length x.2.2) x.1) ∧ (∀ n ∈ x.1, (Lit.int k n).wf = true) ∧ x.1.length ≤ maxLen := by
  rcases open_ints he he2 hc2 hy with ⟨hcs, _⟩ | ⟨a, len, cap, zs, hcs, _, hle, hmax, hlen, _, hcell, hwf⟩
  · simp only [List.cons.injEq, and_true] at hcs
    subst hcs
    exact ⟨([], (none, 0)), rfl, nec_cells ⟨⟨none, 0, rfl, Nat.le_refl _, by simp, by simp, fun j u hj => by simp at hj⟩, by simp⟩ (by simp), by simp, by simp⟩
  · simp only [List.cons.injEq, and_true] at hcs
    subst hcs
    simp only [if_true] at hlen
    have hL : (zs.take len).length = len := by rw [List.length_take]; omega
    have hfm : ∀ (l : List Int), l.flatMap (eI k) = l.map (fun x => Value.int k x) := by
      intro l
      induction l with
      | nil => rfl
      | cons x l ih => simp [eI, ih]
    have hspot : zs ≠ [] → a.spot = none := by
      intro hne
      obtain ⟨z, zs', rfl⟩ := List.exists_cons_of_ne_nil hne
      have := hcell 0 (by simp)
      unfold World.cell? at this
      have e0 : (a.add 0).spot = a.spot := by simp [Addr.add]
      cases hh : W.heap[(a.add 0).block]? with
      | none => rw [hh] at this; simp at this
      | some o =>
        rw [hh] at this
        cases o with
        | cells c _ _ =>
          simp only [e0] at this
          cases hs : a.spot with
          | none => rfl
          | some q => rw [hs] at this; simp at this
        | _ => simp at this
    have hj0 : ∀ j u, ((zs.take len).flatMap (eI k))[j]? = some u → W.cell? ⟨a.block, a.off + j, none⟩ = some u := by
      intro j u hj
      rw [hfm, List.getElem?_map] at hj
      cases hz : (zs.take len)[j]? with
      | none => rw [hz] at hj; simp at hj
      | some x =>
        rw [hz] at hj
        simp only [Option.map_some, Option.some.injEq] at hj
        subst hj
        have hj1 := (List.getElem?_eq_some_iff.1 hz).1
        have hj2 : j < zs.length := by rw [List.length_take] at hj1; omega
        have hne : zs ≠ [] := by rintro rfl; simp at hj2
        have := hcell j hj2
        have hx : zs.getD j 0 = x := by
          rw [List.getElem?_take_of_lt (by rw [List.length_take] at hj1; omega)] at hz
          simp [List.getD, hz]
        rw [hx, addr_add' _ _ (hspot hne)] at this
        exact this
    refine ⟨(zs.take len, (some a, cap)), by rw [hL], ?_, fun n hn => hwf n (List.mem_of_mem_take hn), by show (zs.take len).length ≤ _; rw [hL]; omega⟩
    refine nec_cells ⟨⟨some a, cap, rfl, by show (zs.take len).length ≤ cap; rw [hL]; exact hle, hmax, fun ad e => ?_, fun j u hj => ⟨a, rfl, hj0 j u hj⟩⟩, by rw [hfm]; simp⟩ fun ad l c e hne => ?_
    · cases e
      by_cases hz : (zs.take len).flatMap (eI k) = []
      · exact .inl hz
      · exact .inr (hspot (by rintro rfl; simp at hz))
    · cases e
      have hpos := List.length_pos_iff.2 hne
      have := hj0 0 _ (List.getElem?_eq_getElem hpos)
      unfold World.cell? at this
      cases hh : W.heap[a.block]? with
      | none => simp only [hh] at this; simp at this
      | some o => exact (Array.getElem?_eq_some_iff.1 hh).1
/-- A slice of structs of an integer and a slice of integers, as an argument. -/
theorem arg_islices {W : World} {base : Nat} {t e : TypeId} {f0 f1 : Field} {e2 : TypeId} {k0 k : IntKind} {v : Value} {d : DataW H} {p : List MemPlace} {en : (Int × List Int) × (Option Addr × Nat) → List Value} {inn : (Int × List Int) × (Option Addr × Nat) → List (World → Prop)} (henc : EncOk en 2)
    (hen : ∀ p, en p = [.int k0 p.1.1, .slice p.2.1 p.1.2.length p.2.2]) (hin : ∀ p, inn p = [Sl (eI k) 1 (.slice p.2.1 p.1.2.length p.2.2) p.1.2]) (ht : P.underlying t = some (.slice e)) (he : P.underlying e = some (.struct #[f0, f1]))
    (hc : P.cellsOf e = 2) (o0 : f0.offset = 0) (o1 : f1.offset = 1) (c0 : P.cellsOf f0.type = 1) (c1 : P.cellsOf f1.type = 1) (h0 : P.underlying f0.type = some (.int k0)) (h1 : P.underlying f1.type = some (.slice e2)) (h2 : P.underlying e2 = some (.int k)) (hc2 : P.cellsOf e2 = 1)
    (hval : Value.okWide P W .any base t v) (h : DataW.Trod enc P W 0 (fun _ => true) true t v d p) :
    ∃ (a : Option Addr) (cap : Nat) (xs : List (Int × List Int)) (gs : List (Option Addr × Nat)), v = .slice a xs.length cap ∧ Nec W [] (SlN en inn 2 (.slice a xs.length cap) xs gs) ∧ (∀ x ∈ xs, (Lit.int k0 x.1).wf = true ∧ (∀ n ∈ x.2, (Lit.int k n).wf = true) ∧ x.2.length ≤ maxLen) ∧ xs.length ≤ maxLen := by
  have hopen : ∀ n cs y, DataW.trod enc P W 0 (fun _ => true) true n e cs = some y → cs.length = 2 → ∃ x : (Int × List Int) × (Option Addr × Nat), cs = en x ∧ (Nec W [] (Sl (eI k) 1 (.slice x.2.1 x.1.2.length x.2.2) x.1.2) ∧ (Lit.int k0 x.1.1).wf = true ∧ (∀ n ∈ x.1.2, (Lit.int k n).wf = true) ∧ x.1.2.length ≤ maxLen) := by
    intro n cs y hy hl
    match cs, hl with
    | [a0, a1], _ =>
      obtain ⟨_, _, t0⟩ := trod_field (cs := [a0, a1]) (cs' := [a0]) he (i := 0) rfl (k := 1) c0 (by show List.take 1 (List.drop f0.offset [a0, a1]) = _; rw [o0]; rfl) hy
      obtain ⟨_, _, t1⟩ := trod_field (cs := [a0, a1]) (cs' := [a1]) he (i := 1) rfl (k := 1) c1 (by show List.take 1 (List.drop f1.offset [a0, a1]) = _; rw [o1]; rfl) hy
      obtain ⟨m0, e0, _, w0⟩ := DataW.trod_int h0 t0
      simp only [List.cons.injEq, and_true] at e0
      subst e0
      obtain ⟨x, rfl, hx1, hx2, hx3⟩ := open_list h1 h2 hc2 t1
      exact ⟨((m0, x.1), x.2), (hen ((m0, x.1), x.2)).symm, hx1, w0, hx2, hx3⟩
  obtain ⟨a, cap, ps, hv, hs, hg, hm⟩ := arg_slice (good := fun x : (Int × List Int) × (Option Addr × Nat) => Nec W [] (Sl (eI k) 1 (.slice x.2.1 x.1.2.length x.2.2) x.1.2) ∧ (Lit.int k0 x.1.1).wf = true ∧ (∀ n ∈ x.1.2, (Lit.int k n).wf = true) ∧ x.1.2.length ≤ maxLen) henc (by decide) ht hc hopen hval h
  have hz : (ps.map (·.1)).zip (ps.map (·.2)) = ps := by
    have : ∀ ps : List ((Int × List Int) × (Option Addr × Nat)), (ps.map (·.1)).zip (ps.map (·.2)) = ps := by
      intro ps
      induction ps with
      | nil => rfl
      | cons p ps ih => rw [List.map_cons, List.map_cons, List.zip_cons_cons, ih]
    exact this ps
  refine ⟨a, cap, ps.map (·.1), ps.map (·.2), by rw [List.length_map]; exact hv, fun w' hk => ⟨by simp, ?_, fun p hp φ hφ => ?_⟩, fun l hl => ?_, by rw [List.length_map]; exact hm⟩
  · rw [hz, List.length_map, ← hv]
    exact hs w' hk
  · rw [hz] at hp
    rw [hin] at hφ
    simp only [List.mem_singleton] at hφ
    subst hφ
    exact (hg p hp).1 w' hk
  · obtain ⟨p, hp, rfl⟩ := List.mem_map.1 hl
    exact (hg p hp).2
end SX

namespace SX
open Go

theorem wrap_i64 {n : Int} (h1 : -9223372036854775808 ≤ n) (h2 : n < 9223372036854775808) : IntKind.wrap .i64 n = n := by
  unfold IntKind.wrap
  simp only [IntKind.bits, IntKind.signed]
  simp only [show (2 ^ 64 : Int) = 18446744073709551616 from by decide, show (2 ^ (64 - 1) : Int) = 9223372036854775808 from by decide]
  split
  · rename_i h; simp at h; omega
  · rename_i h; simp at h; omega
theorem wrap_u64 {n : Int} (h1 : 0 ≤ n) (h2 : n < 18446744073709551616) : IntKind.wrap .u64 n = n := by
  unfold IntKind.wrap
  simp only [IntKind.bits, IntKind.signed]
  simp only [show (2 ^ 64 : Int) = 18446744073709551616 from by decide, Bool.false_and, Bool.false_eq_true, if_false]
  omega
theorem wrap_u8 {n : Int} (h1 : 0 ≤ n) (h2 : n < 256) : IntKind.wrap .u8 n = n := by
  unfold IntKind.wrap
  simp only [IntKind.bits, IntKind.signed]
  simp only [show (2 ^ 8 : Int) = 256 from by decide, Bool.false_and, Bool.false_eq_true, if_false]
  omega
theorem wrap_u64_mod (n : Int) : IntKind.wrap .u64 n = n % 18446744073709551616 := by
  unfold IntKind.wrap
  simp only [IntKind.bits, IntKind.signed]
  simp only [show (2 ^ 64 : Int) = 18446744073709551616 from by decide, Bool.false_and, Bool.false_eq_true, if_false]
theorem wrap_u8_mod (n : Int) : IntKind.wrap .u8 n = n % 256 := by
  unfold IntKind.wrap
  simp only [IntKind.bits, IntKind.signed]
  simp only [show (2 ^ 8 : Int) = 256 from by decide, Bool.false_and, Bool.false_eq_true, if_false]
theorem iadd_i64 {a b : Int} (h1 : -9223372036854775808 ≤ a + b) (h2 : a + b < 9223372036854775808) : iadd .i64 a b = a + b := wrap_i64 h1 h2
theorem isub_i64 {a b : Int} (h1 : -9223372036854775808 ≤ a - b) (h2 : a - b < 9223372036854775808) : isub .i64 a b = a - b := wrap_i64 h1 h2
theorem imul_i64 {a b : Int} (h1 : -9223372036854775808 ≤ a * b) (h2 : a * b < 9223372036854775808) : imul .i64 a b = a * b := wrap_i64 h1 h2
theorem idx_nat {α : Type} (xs : List α) (i : Nat) : idx xs (i : Int) = xs[i]? := by simp [idx]
theorem app_eq {α : Type} {lim : Nat} {xs ys : List α} (h : xs.length + ys.length ≤ lim) : app lim xs ys = some (xs ++ ys) := by simp [app, h]
theorem u64_of_wf {x : Int} (h : (Lit.int .u64 x).wf = true) : 0 ≤ x ∧ x < 18446744073709551616 := by
  simp [Lit.wf, IntKind.min, IntKind.max, IntKind.signed, IntKind.bits] at h
  exact ⟨by omega, by omega⟩
theorem i64_of_wf {x : Int} (h : (Lit.int .i64 x).wf = true) : -9223372036854775808 ≤ x ∧ x < 9223372036854775808 := by
  simp [Lit.wf, IntKind.min, IntKind.max, IntKind.signed, IntKind.bits] at h
  exact ⟨by omega, by omega⟩
theorem u8_of_wf {x : Int} (h : (Lit.int .u8 x).wf = true) : 0 ≤ x ∧ x < 256 := by
  simp [Lit.wf, IntKind.min, IntKind.max, IntKind.signed, IntKind.bits] at h
  exact ⟨by omega, by omega⟩
/-! ### Bits -/
theorem iand_mask {k : IntKind} {a : Int} {m : Nat} (ha : 0 ≤ a) (ha2 : a < 2 ^ k.bits) (hm : m ≤ k.bits) (hs : k.signed = false) : iand k a (2 ^ m - 1 : Nat) = a % 2 ^ m := by
  unfold iand
  obtain ⟨n, rfl⟩ := Int.eq_ofNat_of_zero_le ha
  have hn : n < 2 ^ k.bits := by exact_mod_cast ha2
  have h1 : (BitVec.ofInt k.bits (n : Int)) = BitVec.ofNat k.bits n := by simp
  have h2 : (BitVec.ofInt k.bits ((2 ^ m - 1 : Nat) : Int)) = BitVec.ofNat k.bits (2 ^ m - 1) := by simp
  rw [h1, h2, BitVec.toNat_and, BitVec.toNat_ofNat, BitVec.toNat_ofNat, Nat.mod_eq_of_lt hn]
  have h3 : 2 ^ m ≤ 2 ^ k.bits := Nat.pow_le_pow_right (by decide) hm
  have h0 : 0 < 2 ^ m := Nat.pow_pos (by decide)
  rw [Nat.mod_eq_of_lt (by omega), Nat.and_two_pow_sub_one_eq_mod]
  have h4 : n % 2 ^ m < 2 ^ k.bits := Nat.lt_of_lt_of_le (Nat.mod_lt _ h0) h3
  unfold IntKind.wrap
  simp only [hs, Bool.false_and, Bool.false_eq_true, if_false]
  rw [Int.emod_eq_of_lt (by omega) (by exact_mod_cast h4)]
  simp
/-- Bits that do not meet: 'or' adds. -/
theorem ior_add {k : IntKind} {a b : Int} {m : Nat} (ha : 0 ≤ a) (ham : a < 2 ^ m) (hb : 0 ≤ b) (hbm : b % 2 ^ m = 0) (hs : k.signed = false) (hab : a + b < 2 ^ k.bits) : ior k a b = a + b := by
  unfold ior
  obtain ⟨x, rfl⟩ := Int.eq_ofNat_of_zero_le ha
  obtain ⟨y, rfl⟩ := Int.eq_ofNat_of_zero_le hb
  have hx : x < 2 ^ m := by exact_mod_cast ham
  have hy : y % 2 ^ m = 0 := by exact_mod_cast hbm
  have hxy : x + y < 2 ^ k.bits := by exact_mod_cast hab
  have h1 : (BitVec.ofInt k.bits (x : Int)) = BitVec.ofNat k.bits x := by simp
  have h2 : (BitVec.ofInt k.bits (y : Int)) = BitVec.ofNat k.bits y := by simp
  rw [h1, h2, BitVec.toNat_or, BitVec.toNat_ofNat, BitVec.toNat_ofNat, Nat.mod_eq_of_lt (by omega), Nat.mod_eq_of_lt (by omega)]
  have h3 : x ||| y = x + y := by
    have hy2 : y = 2 ^ m * (y / 2 ^ m) := by
      have := Nat.div_add_mod y (2 ^ m); omega
    have h4 := Nat.two_pow_add_eq_or_of_lt hx (y / 2 ^ m)
    rw [← hy2] at h4
    rw [Nat.or_comm, ← h4, Nat.add_comm]
  rw [h3]
  unfold IntKind.wrap
  simp only [hs, Bool.false_and, Bool.false_eq_true, if_false]
  rw [Int.emod_eq_of_lt (by omega) (by exact_mod_cast hxy)]
  simp
theorem ishr_eq {k : IntKind} {a : Int} {m : Nat} (hm : m ≤ k.bits) : ishr k a (m : Int) = a / 2 ^ m := by
  unfold ishr
  have h : min ((m : Int).toNat) k.bits = m := by simp; omega
  rw [h, Int.fdiv_eq_ediv_of_nonneg _ (by exact_mod_cast Nat.zero_le _)]
theorem ishl_u64 {a : Int} {m : Nat} (hm : m ≤ 64) : ishl .u64 a (m : Int) = (a * 2 ^ m) % 18446744073709551616 := by
  unfold ishl
  have h : min ((m : Int).toNat) (IntKind.bits .u64) = m := by simp [IntKind.bits]; omega
  rw [h, wrap_u64_mod]
end SX

