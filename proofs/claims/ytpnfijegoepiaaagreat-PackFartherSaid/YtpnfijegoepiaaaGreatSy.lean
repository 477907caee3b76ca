/- A layer of rules for walking Go code: what a frame's slots hold, what blocks and rows of the heap hold; each rule speaks of a plain model's value: part 3. -/
import Derived.Test.YtpnfijegoepiaaaGreatSx
namespace SX
open Go Go.ChangeShapes Go.WideShapes Go.ChangeAt Go.RowKit Go.Joins Go.Deep
variable {H : Type} {enc : TypeId × Value → H} {P : Program}
theorem qi8 {W : World} {base n : Nat} {t e e2 : TypeId} {k : IntKind} {v : Value} {y : DataW H × List MemPlace} {en : List Int × (Option Addr × Nat) → List Value} {inn : List Int × (Option Addr × Nat) → List (World → Prop)} (henc : EncOk en 1) (hen : ∀ p, en p = [.slice p.2.1 p.1.length p.2.2]) (hin : ∀ p, inn p = [Sl (eI k) 1 (.slice p.2.1 p.1.length p.2.2) p.1])
    (ht : P.underlying t = some (.slice e)) (he : P.underlying e = some (.slice e2)) (he2 : P.underlying e2 = some (.int k)) (hc1 : P.cellsOf e = 1) (hc2 : P.cellsOf e2 = 1) (hc : Cell.okWide P W .any base t v)
    (h : DataW.trod enc P W 0 (fun _ => true) true n t [v] = some y) :
    ∃ (a : Option Addr) (cap : Nat) (xs : List (List Int)) (gs : List (Option Addr × Nat)), v = .slice a xs.length cap ∧ Nec W [] (SlN en inn 1 (.slice a xs.length cap) xs gs) ∧ (∀ l ∈ xs, (∀ n ∈ l, (Lit.int k n).wf = true) ∧ l.length ≤ maxLen) ∧ xs.length ≤ maxLen := by
  have o1 : Value.okWide P W .any base t v := by unfold Value.okWide; rw [ht]; exact hc
  have vc : v.cells = #[v] := by
    obtain ⟨a, l, c, rfl⟩ := okWide_slice ht o1
    rfl
  have hopen : ∀ n cs y, DataW.trod enc P W 0 (fun _ => true) true n e cs = some y → cs.length = 1 → ∃ x : List Int × (Option Addr × Nat), cs = en x ∧ (Nec W [] (Sl (eI k) 1 (.slice x.2.1 x.1.length x.2.2) x.1) ∧ (∀ n ∈ x.1, (Lit.int k n).wf = true) ∧ x.1.length ≤ maxLen) := by
    intro n cs y hy hl
    match cs, hl with
    | [c0], _ =>
      rcases open_ints he he2 hc2 hy with ⟨hcs, _⟩ | ⟨a, len, cap, zs, hcs, _, hle, hmax, hlen, _, hcell, hwf⟩
      · simp only [List.cons.injEq, and_true] at hcs
        subst hcs
        exact ⟨([], (none, 0)), by rw [hen]; rfl, j7 ⟨⟨none, 0, rfl, Nat.le_refl _, by simp, by simp, fun j u hj => by simp at hj⟩, by simp⟩ (by simp), by simp, by simp⟩
      · simp only [List.cons.injEq, and_true] at hcs
        subst hcs
        simp only [if_true] at hlen
        have hL : (zs.take len).length = len := by rw [List.length_take]; omega
        have hfm : ∀ (l : List Int), l.flatMap (eI k) = l.map (fun x => Value.int k x) := by
          intro l
          induction l with
          | nil => rfl
          | cons x l ih => simp [eI, ih]
        have hspot : zs ≠ [] → a.spot = none := by
          intro hne
          obtain ⟨z, zs', rfl⟩ := List.exists_cons_of_ne_nil hne
          have := hcell 0 (by simp)
          unfold World.cell? at this
          have e0 : (a.add 0).spot = a.spot := by simp [Addr.add]
          cases hh : W.heap[(a.add 0).block]? with
          | none => rw [hh] at this; simp at this
          | some o =>
            rw [hh] at this
            cases o with
            | cells c _ _ =>
              simp only [e0] at this
              cases hs : a.spot with
              | none => rfl
              | some q => rw [hs] at this; simp at this
            | _ => simp at this
        have hj0 : ∀ j u, ((zs.take len).flatMap (eI k))[j]? = some u → W.cell? ⟨a.block, a.off + j, none⟩ = some u := by
          intro j u hj
          rw [hfm, List.getElem?_map] at hj
          cases hz : (zs.take len)[j]? with
          | none => rw [hz] at hj; simp at hj
          | some x =>
            rw [hz] at hj
            simp only [Option.map_some, Option.some.injEq] at hj
            subst hj
            have hj1 := (List.getElem?_eq_some_iff.1 hz).1
            have hj2 : j < zs.length := by rw [List.length_take] at hj1; omega
            have hne : zs ≠ [] := by rintro rfl; simp at hj2
            have := hcell j hj2
            have hx : zs.getD j 0 = x := by
              rw [List.getElem?_take_of_lt (by rw [List.length_take] at hj1; omega)] at hz
              simp [List.getD, hz]
            rw [hx, qa5 _ _ (hspot hne)] at this
            exact this
        refine ⟨(zs.take len, (some a, cap)), by rw [hen, hL], ?_, fun n hn => hwf n (List.mem_of_mem_take hn), by show (zs.take len).length ≤ _; rw [hL]; omega⟩
        refine j7 ⟨⟨some a, cap, rfl, by show (zs.take len).length ≤ cap; rw [hL]; exact hle, hmax, fun ad e => ?_, fun j u hj => ⟨a, rfl, hj0 j u hj⟩⟩, by rw [hfm]; simp⟩ fun ad l c e hne => ?_
        · cases e
          by_cases hz : (zs.take len).flatMap (eI k) = []
          · exact .inl hz
          · exact .inr (hspot (by rintro rfl; simp at hz))
        · cases e
          have hpos := List.length_pos_iff.2 hne
          have := hj0 0 _ (List.getElem?_eq_getElem hpos)
          unfold World.cell? at this
          cases hh : W.heap[a.block]? with
          | none => simp only [hh] at this; simp at this
          | some o => exact (Array.getElem?_eq_some_iff.1 hh).1
  obtain ⟨a, cap, ps, hv, hs, hg, hm⟩ := qeX (good := fun x : List Int × (Option Addr × Nat) => Nec W [] (Sl (eI k) 1 (.slice x.2.1 x.1.length x.2.2) x.1) ∧ (∀ n ∈ x.1, (Lit.int k n).wf = true) ∧ x.1.length ≤ maxLen) henc (by decide) ht hc1 hopen o1 (d := y.1) (p := y.2) ⟨n, by rw [vc]; exact h⟩
  have hz : (ps.map (·.1)).zip (ps.map (·.2)) = ps := by
    have : ∀ ps : List (List Int × (Option Addr × Nat)), (ps.map (·.1)).zip (ps.map (·.2)) = ps := by
      intro ps
      induction ps with
      | nil => rfl
      | cons p ps ih => rw [List.map_cons, List.map_cons, List.zip_cons_cons, ih]
    exact this ps
  refine ⟨a, cap, ps.map (·.1), ps.map (·.2), by rw [List.length_map]; exact hv, fun w' hk => ⟨by simp, ?_, fun p hp φ hφ => ?_⟩, fun l hl => ?_, by rw [List.length_map]; exact hm⟩
  · rw [hz, List.length_map, ← hv]
    exact hs w' hk
  · rw [hz] at hp
    rw [hin] at hφ
    simp only [List.mem_singleton] at hφ
    subst hφ
    exact (hg p hp).1 w' hk
  · obtain ⟨p, hp, rfl⟩ := List.mem_map.1 hl
    exact (hg p hp).2
end SX
namespace SX
open Go Go.ChangeShapes Go.WideShapes Go.ChangeAt Go.RowKit Go.Joins Go.Deep
variable {H : Type} {enc : TypeId × Value → H} {P : Program}
theorem qkR {W : World} {n : Nat} {e e2 : TypeId} {k : IntKind} {c0 : Value} {y : DataW H × List MemPlace} (he : P.underlying e = some (.slice e2)) (he2 : P.underlying e2 = some (.int k)) (hc2 : P.cellsOf e2 = 1)
    (hy : DataW.trod enc P W 0 (fun _ => true) true n e [c0] = some y) :
    ∃ x : List Int × (Option Addr × Nat), c0 = .slice x.2.1 x.1.length x.2.2 ∧ Nec W [] (Sl (eI k) 1 (.slice x.2.1 x.1.length x.2.2) x.1) ∧ (∀ n ∈ x.1, (Lit.int k n).wf = true) ∧ x.1.length ≤ maxLen := by
  rcases open_ints he he2 hc2 hy with ⟨hcs, _⟩ | ⟨a, len, cap, zs, hcs, _, hle, hmax, hlen, _, hcell, hwf⟩
  · simp only [List.cons.injEq, and_true] at hcs
    subst hcs
    exact ⟨([], (none, 0)), rfl, j7 ⟨⟨none, 0, rfl, Nat.le_refl _, by simp, by simp, fun j u hj => by simp at hj⟩, by simp⟩ (by simp), by simp, by simp⟩
  · simp only [List.cons.injEq, and_true] at hcs
    subst hcs
    simp only [if_true] at hlen
    have hL : (zs.take len).length = len := by rw [List.length_take]; omega
    have hfm : ∀ (l : List Int), l.flatMap (eI k) = l.map (fun x => Value.int k x) := by
      intro l
      induction l with
      | nil => rfl
      | cons x l ih => simp [eI, ih]
    have hspot : zs ≠ [] → a.spot = none := by
      intro hne
      obtain ⟨z, zs', rfl⟩ := List.exists_cons_of_ne_nil hne
      have := hcell 0 (by simp)
      unfold World.cell? at this
      have e0 : (a.add 0).spot = a.spot := by simp [Addr.add]
      cases hh : W.heap[(a.add 0).block]? with
      | none => rw [hh] at this; simp at this
      | some o =>
        rw [hh] at this
        cases o with
        | cells c _ _ =>
          simp only [e0] at this
          cases hs : a.spot with
          | none => rfl
          | some q => rw [hs] at this; simp at this
        | _ => simp at this
    have hj0 : ∀ j u, ((zs.take len).flatMap (eI k))[j]? = some u → W.cell? ⟨a.block, a.off + j, none⟩ = some u := by
      intro j u hj
      rw [hfm, List.getElem?_map] at hj
      cases hz : (zs.take len)[j]? with
      | none => rw [hz] at hj; simp at hj
      | some x =>
        rw [hz] at hj
        simp only [Option.map_some, Option.some.injEq] at hj
        subst hj
        have hj1 := (List.getElem?_eq_some_iff.1 hz).1
        have hj2 : j < zs.length := by rw [List.length_take] at hj1; omega
        have hne : zs ≠ [] := by rintro rfl; simp at hj2
        have := hcell j hj2
        have hx : zs.getD j 0 = x := by
          rw [List.getElem?_take_of_lt (by rw [List.length_take] at hj1; omega)] at hz
          simp [List.getD, hz]
        rw [hx, qa5 _ _ (hspot hne)] at this
        exact this
    refine ⟨(zs.take len, (some a, cap)), by rw [hL], ?_, fun n hn => hwf n (List.mem_of_mem_take hn), by show (zs.take len).length ≤ _; rw [hL]; omega⟩
    refine j7 ⟨⟨some a, cap, rfl, by show (zs.take len).length ≤ cap; rw [hL]; exact hle, hmax, fun ad e => ?_, fun j u hj => ⟨a, rfl, hj0 j u hj⟩⟩, by rw [hfm]; simp⟩ fun ad l c e hne => ?_
    · cases e
      by_cases hz : (zs.take len).flatMap (eI k) = []
      · exact .inl hz
      · exact .inr (hspot (by rintro rfl; simp at hz))
    · cases e
      have hpos := List.length_pos_iff.2 hne
      have := hj0 0 _ (List.getElem?_eq_getElem hpos)
      unfold World.cell? at this
      cases hh : W.heap[a.block]? with
      | none => simp only [hh] at this; simp at this
      | some o => exact (Array.getElem?_eq_some_iff.1 hh).1
theorem qnA {W : World} {base : Nat} {t e : TypeId} {f0 f1 : Field} {e2 : TypeId} {k0 k : IntKind} {v : Value} {d : DataW H} {p : List MemPlace} {en : (Int × List Int) × (Option Addr × Nat) → List Value} {inn : (Int × List Int) × (Option Addr × Nat) → List (World → Prop)} (henc : EncOk en 2)
    (hen : ∀ p, en p = [.int k0 p.1.1, .slice p.2.1 p.1.2.length p.2.2]) (hin : ∀ p, inn p = [Sl (eI k) 1 (.slice p.2.1 p.1.2.length p.2.2) p.1.2]) (ht : P.underlying t = some (.slice e)) (he : P.underlying e = some (.struct #[f0, f1]))
    (hc : P.cellsOf e = 2) (o0 : f0.offset = 0) (o1 : f1.offset = 1) (c0 : P.cellsOf f0.type = 1) (c1 : P.cellsOf f1.type = 1) (h0 : P.underlying f0.type = some (.int k0)) (h1 : P.underlying f1.type = some (.slice e2)) (h2 : P.underlying e2 = some (.int k)) (hc2 : P.cellsOf e2 = 1)
    (hval : Value.okWide P W .any base t v) (h : DataW.Trod enc P W 0 (fun _ => true) true t v d p) :
    ∃ (a : Option Addr) (cap : Nat) (xs : List (Int × List Int)) (gs : List (Option Addr × Nat)), v = .slice a xs.length cap ∧ Nec W [] (SlN en inn 2 (.slice a xs.length cap) xs gs) ∧ (∀ x ∈ xs, (Lit.int k0 x.1).wf = true ∧ (∀ n ∈ x.2, (Lit.int k n).wf = true) ∧ x.2.length ≤ maxLen) ∧ xs.length ≤ maxLen := by
  have hopen : ∀ n cs y, DataW.trod enc P W 0 (fun _ => true) true n e cs = some y → cs.length = 2 → ∃ x : (Int × List Int) × (Option Addr × Nat), cs = en x ∧ (Nec W [] (Sl (eI k) 1 (.slice x.2.1 x.1.2.length x.2.2) x.1.2) ∧ (Lit.int k0 x.1.1).wf = true ∧ (∀ n ∈ x.1.2, (Lit.int k n).wf = true) ∧ x.1.2.length ≤ maxLen) := by
    intro n cs y hy hl
    match cs, hl with
    | [a0, a1], _ =>
      obtain ⟨_, _, t0⟩ := jY (cs := [a0, a1]) (cs' := [a0]) he (i := 0) rfl (k := 1) c0 (by show List.take 1 (List.drop f0.offset [a0, a1]) = _; rw [o0]; rfl) hy
      obtain ⟨_, _, t1⟩ := jY (cs := [a0, a1]) (cs' := [a1]) he (i := 1) rfl (k := 1) c1 (by show List.take 1 (List.drop f1.offset [a0, a1]) = _; rw [o1]; rfl) hy
      obtain ⟨m0, e0, _, w0⟩ := DataW.trod_int h0 t0
      simp only [List.cons.injEq, and_true] at e0
      subst e0
      obtain ⟨x, rfl, hx1, hx2, hx3⟩ := qkR h1 h2 hc2 t1
      exact ⟨((m0, x.1), x.2), (hen ((m0, x.1), x.2)).symm, hx1, w0, hx2, hx3⟩
  obtain ⟨a, cap, ps, hv, hs, hg, hm⟩ := qeX (good := fun x : (Int × List Int) × (Option Addr × Nat) => Nec W [] (Sl (eI k) 1 (.slice x.2.1 x.1.2.length x.2.2) x.1.2) ∧ (Lit.int k0 x.1.1).wf = true ∧ (∀ n ∈ x.1.2, (Lit.int k n).wf = true) ∧ x.1.2.length ≤ maxLen) henc (by decide) ht hc hopen hval h
  have hz : (ps.map (·.1)).zip (ps.map (·.2)) = ps := by
    have : ∀ ps : List ((Int × List Int) × (Option Addr × Nat)), (ps.map (·.1)).zip (ps.map (·.2)) = ps := by
      intro ps
      induction ps with
      | nil => rfl
      | cons p ps ih => rw [List.map_cons, List.map_cons, List.zip_cons_cons, ih]
    exact this ps
  refine ⟨a, cap, ps.map (·.1), ps.map (·.2), by rw [List.length_map]; exact hv, fun w' hk => ⟨by simp, ?_, fun p hp φ hφ => ?_⟩, fun l hl => ?_, by rw [List.length_map]; exact hm⟩
  · rw [hz, List.length_map, ← hv]
    exact hs w' hk
  · rw [hz] at hp
    rw [hin] at hφ
    simp only [List.mem_singleton] at hφ
    subst hφ
    exact (hg p hp).1 w' hk
  · obtain ⟨p, hp, rfl⟩ := List.mem_map.1 hl
    exact (hg p hp).2
end SX
namespace SX
open Go
theorem yB {n : Int} (h1 : -9223372036854775808 ≤ n) (h2 : n < 9223372036854775808) : IntKind.wrap .i64 n = n := by
  unfold IntKind.wrap
  simp only [IntKind.bits, IntKind.signed]
  simp only [show (2 ^ 64 : Int) = 18446744073709551616 from by decide, show (2 ^ (64 - 1) : Int) = 9223372036854775808 from by decide]
  split
  · rename_i h; simp at h; omega
  · rename_i h; simp at h; omega
theorem yS {n : Int} (h1 : 0 ≤ n) (h2 : n < 18446744073709551616) : IntKind.wrap .u64 n = n := by
  unfold IntKind.wrap
  simp only [IntKind.bits, IntKind.signed]
  simp only [show (2 ^ 64 : Int) = 18446744073709551616 from by decide, Bool.false_and, Bool.false_eq_true, if_false]
  omega
theorem qnw {n : Int} (h1 : 0 ≤ n) (h2 : n < 256) : IntKind.wrap .u8 n = n := by
  unfold IntKind.wrap
  simp only [IntKind.bits, IntKind.signed]
  simp only [show (2 ^ 8 : Int) = 256 from by decide, Bool.false_and, Bool.false_eq_true, if_false]
  omega
theorem qeU (n : Int) : IntKind.wrap .u64 n = n % 18446744073709551616 := by
  unfold IntKind.wrap
  simp only [IntKind.bits, IntKind.signed]
  simp only [show (2 ^ 64 : Int) = 18446744073709551616 from by decide, Bool.false_and, Bool.false_eq_true, if_false]
theorem qiW (n : Int) : IntKind.wrap .u8 n = n % 256 := by
  unfold IntKind.wrap
  simp only [IntKind.bits, IntKind.signed]
  simp only [show (2 ^ 8 : Int) = 256 from by decide, Bool.false_and, Bool.false_eq_true, if_false]
theorem zy {a b : Int} (h1 : -9223372036854775808 ≤ a + b) (h2 : a + b < 9223372036854775808) : iadd .i64 a b = a + b := yB h1 h2
theorem kj {a b : Int} (h1 : -9223372036854775808 ≤ a - b) (h2 : a - b < 9223372036854775808) : isub .i64 a b = a - b := yB h1 h2
theorem qoz {a b : Int} (h1 : -9223372036854775808 ≤ a * b) (h2 : a * b < 9223372036854775808) : imul .i64 a b = a * b := yB h1 h2
theorem zW {α : Type} (xs : List α) (i : Nat) : idx xs (i : Int) = xs[i]? := by simp [idx]
theorem jr {α : Type} {lim : Nat} {xs ys : List α} (h : xs.length + ys.length ≤ lim) : app lim xs ys = some (xs ++ ys) := by simp [app, h]
theorem qou {x : Int} (h : (Lit.int .u64 x).wf = true) : 0 ≤ x ∧ x < 18446744073709551616 := by
  simp [Lit.wf, IntKind.min, IntKind.max, IntKind.signed, IntKind.bits] at h
  exact ⟨by omega, by omega⟩
theorem qdD {x : Int} (h : (Lit.int .i64 x).wf = true) : -9223372036854775808 ≤ x ∧ x < 9223372036854775808 := by
  simp [Lit.wf, IntKind.min, IntKind.max, IntKind.signed, IntKind.bits] at h
  exact ⟨by omega, by omega⟩
theorem qoL {x : Int} (h : (Lit.int .u8 x).wf = true) : 0 ≤ x ∧ x < 256 := by
  simp [Lit.wf, IntKind.min, IntKind.max, IntKind.signed, IntKind.bits] at h
  exact ⟨by omega, by omega⟩
theorem qdE {k : IntKind} {a : Int} {m : Nat} (ha : 0 ≤ a) (ha2 : a < 2 ^ k.bits) (hm : m ≤ k.bits) (hs : k.signed = false) : iand k a (2 ^ m - 1 : Nat) = a % 2 ^ m := by
  unfold iand
  obtain ⟨n, rfl⟩ := Int.eq_ofNat_of_zero_le ha
  have hn : n < 2 ^ k.bits := by exact_mod_cast ha2
  have h1 : (BitVec.ofInt k.bits (n : Int)) = BitVec.ofNat k.bits n := by simp
  have h2 : (BitVec.ofInt k.bits ((2 ^ m - 1 : Nat) : Int)) = BitVec.ofNat k.bits (2 ^ m - 1) := by simp
  rw [h1, h2, BitVec.toNat_and, BitVec.toNat_ofNat, BitVec.toNat_ofNat, Nat.mod_eq_of_lt hn]
  have h3 : 2 ^ m ≤ 2 ^ k.bits := Nat.pow_le_pow_right (by decide) hm
  have h0 : 0 < 2 ^ m := Nat.pow_pos (by decide)
  rw [Nat.mod_eq_of_lt (by omega), Nat.and_two_pow_sub_one_eq_mod]
  have h4 : n % 2 ^ m < 2 ^ k.bits := Nat.lt_of_lt_of_le (Nat.mod_lt _ h0) h3
  unfold IntKind.wrap
  simp only [hs, Bool.false_and, Bool.false_eq_true, if_false]
  rw [Int.emod_eq_of_lt (by omega) (by exact_mod_cast h4)]
  simp
theorem qj1 {k : IntKind} {a b : Int} {m : Nat} (ha : 0 ≤ a) (ham : a < 2 ^ m) (hb : 0 ≤ b) (hbm : b % 2 ^ m = 0) (hs : k.signed = false) (hab : a + b < 2 ^ k.bits) : ior k a b = a + b := by
  unfold ior
  obtain ⟨x, rfl⟩ := Int.eq_ofNat_of_zero_le ha
  obtain ⟨y, rfl⟩ := Int.eq_ofNat_of_zero_le hb
  have hx : x < 2 ^ m := by exact_mod_cast ham
  have hy : y % 2 ^ m = 0 := by exact_mod_cast hbm
  have hxy : x + y < 2 ^ k.bits := by exact_mod_cast hab
  have h1 : (BitVec.ofInt k.bits (x : Int)) = BitVec.ofNat k.bits x := by simp
  have h2 : (BitVec.ofInt k.bits (y : Int)) = BitVec.ofNat k.bits y := by simp
  rw [h1, h2, BitVec.toNat_or, BitVec.toNat_ofNat, BitVec.toNat_ofNat, Nat.mod_eq_of_lt (by omega), Nat.mod_eq_of_lt (by omega)]
  have h3 : x ||| y = x + y := by
    have hy2 : y = 2 ^ m * (y / 2 ^ m) := by
      have := Nat.div_add_mod y (2 ^ m); omega
    have h4 := Nat.two_pow_add_eq_or_of_lt hx (y / 2 ^ m)
    rw [← hy2] at h4
    rw [Nat.or_comm, ← h4, Nat.add_comm]
  rw [h3]
  unfold IntKind.wrap
  simp only [hs, Bool.false_and, Bool.false_eq_true, if_false]
  rw [Int.emod_eq_of_lt (by omega) (by exact_mod_cast hxy)]
  simp
theorem qeD {k : IntKind} {a : Int} {m : Nat} (hm : m ≤ k.bits) : ishr k a (m : Int) = a / 2 ^ m := by
  unfold ishr
  have h : min ((m : Int).toNat) k.bits = m := by simp; omega
  rw [h, Int.fdiv_eq_ediv_of_nonneg _ (by exact_mod_cast Nat.zero_le _)]
theorem qf8 {a : Int} {m : Nat} (hm : m ≤ 64) : ishl .u64 a (m : Int) = (a * 2 ^ m) % 18446744073709551616 := by
  unfold ishl
  have h : min ((m : Int).toNat) (IntKind.bits .u64) = m := by simp [IntKind.bits]; omega
  rw [h, qeU]
end SX
