/- Plain facts of what the functions of this seat compute. -/
import Derived.Test.YtfjkpdlcdceenaaGreatDoorModels
import Derived.KernelRfl
import Derived.Lib.SlicesCompact
import Derived.Lib.SplitLaws
namespace Go.Proofs.YtfjkpdlcdceenaaGreatDoor
open Go SX
theorem qhf {a b : Nat} (h : a + b < 9223372036854775808) : iadd .i64 (a : Int) (b : Int) = ((a + b : Nat) : Int) := by rw [qbB (by omega) (by omega)]; omega
theorem yb {a : Nat} (h : a + 1 < 9223372036854775808) : iadd .i64 (a : Int) 1 = ((a + 1 : Nat) : Int) := by rw [qbB (by omega) (by omega)]; omega
def nb (n : Nat) : Nat → List Int
  | 0 => []
  | w + 1 => ((n / 2 ^ w % 2 : Nat) : Int) :: nb n w
def len (x : Nat) : Nat := if x = 0 then 0 else x.log2 + 1
def sh (m : Nat) : Nat := len (m - 1)
def dd (m : Nat) : Nat := 2 ^ sh m - m
def le (n m : Nat) : List Int := if n < dd m then nb n (sh m - 1) else nb (n + dd m) (sh m)
theorem qbg (F : Nat) {xs : List Int} (hm : xs.length ≤ 1000000) : ∀ (k i : Nat), xs.length < k + i → i ≤ xs.length → kj F xs xs k (i : Int) = some true
  | 0, _, _, _ => by omega
  | k + 1, i, h, hi => by
    show yn F xs xs (kj F xs xs k) (i : Int) = _
    unfold yn
    by_cases hlt : i < xs.length
    · rw [if_pos (by simp; omega), yc, List.getElem?_eq_getElem hlt]
      simp only [Option.bind_some]
      rw [if_neg (by simp), yb (by omega)]
      exact qbg F hm k (i + 1) (by omega) (by omega)
    · rw [if_neg (by simp; omega)]; rfl
theorem qd8 {F : Nat} {xs : List Int} (hF : xs.length < F) (hm : xs.length ≤ 1000000) : kZ F xs xs = some true := by
  unfold kZ
  rw [if_neg (by simp)]
  exact qbg F hm F 0 (by omega) (by omega)
def kE {σ τ : Type} (yy : σ → (Int × Int) → Option (σ ⊕ τ)) : List (Int × Int) → σ → Option (σ ⊕ τ)
  | [], s => some (.inl s)
  | r :: R, s => (yy s r).bind (Sum.elim (fun s' => kE yy R s') (fun t => some (.inr t)))
def rowE (n : Int) : Int → List Int → Int
  | _, [] => 0
  | last, x :: l => if x < 0 ∨ n ≤ x then 3 else if x ≤ last then 4 else rowE n x l
def gE (n : Int) : List (List Int) → Int
  | [] => 0
  | l :: g => if rowE n (-1) l ≠ 0 then rowE n (-1) l else gE n g
def gtot : List (List Int) → Nat
  | [] => 0
  | l :: g => l.length + gtot g
def gchk (g : List (List Int)) : Int := if 100 < g.length then 2 else if gE g.length g ≠ 0 then gE g.length g else if 600 < gtot g then 2 else 0
theorem qbp : ∀ {n last : Int} {l : List Int}, rowE n last l = 0 ↔ (l.Pairwise (· < ·) ∧ ∀ x ∈ l, last < x) ∧ ∀ x ∈ l, 0 ≤ x ∧ x < n
  | n, last, [] => by simp [rowE]
  | n, last, x :: l => by
    unfold rowE
    by_cases h1 : x < 0 ∨ n ≤ x
    · rw [if_pos h1]
      constructor
      · intro h; simp at h
      · rintro ⟨_, h⟩; have := h x (by simp); omega
    · rw [if_neg h1]
      by_cases h2 : x ≤ last
      · rw [if_pos h2]
        constructor
        · intro h; simp at h
        · rintro ⟨⟨_, h⟩, _⟩; have := h x (by simp); omega
      · rw [if_neg h2, qbp, List.pairwise_cons]
        constructor
        · rintro ⟨⟨a1, a2⟩, a3⟩
          refine ⟨⟨⟨a2, a1⟩, fun y hy => ?_⟩, fun y hy => ?_⟩
          · rcases List.mem_cons.1 hy with rfl | hy
            · omega
            · have := a2 y hy; omega
          · rcases List.mem_cons.1 hy with rfl | hy
            · omega
            · exact a3 y hy
        · rintro ⟨⟨⟨a1, a2⟩, a3⟩, a4⟩
          exact ⟨⟨a2, a1⟩, fun y hy => a4 y (by simp [hy])⟩
theorem qda {n last : Int} : ∀ {l : List Int}, -1 ≤ last → last < n → rowE n last l = 0 → last + 1 + l.length ≤ n
  | [], h1, h2, _ => by simp; omega
  | x :: l, h1, h2, h => by
    unfold rowE at h
    split at h
    · simp at h
    · split at h
      · simp at h
      · have := qda (l := l) (by omega) (by omega) h
        rw [List.length_cons]; omega
theorem qfk {n : Int} : ∀ {g : List (List Int)}, gE n g = 0 ↔ ∀ l ∈ g, rowE n (-1) l = 0
  | [] => by simp [gE]
  | l :: g => by
    unfold gE
    by_cases h : rowE n (-1) l = 0
    · rw [if_neg (by simp [h]), qfk]; simp [h]
    · rw [if_pos h]; simp [h]
def Gr (g : List (List Int)) : Prop := g.length ≤ 100 ∧ (∀ l ∈ g, l.Pairwise (· < ·) ∧ ∀ x ∈ l, 0 ≤ x ∧ x < g.length) ∧ gtot g ≤ 600
theorem qet {g : List (List Int)} : gchk g = 0 ↔ Gr g := by
  unfold gchk Gr
  by_cases h1 : 100 < g.length
  · rw [if_pos h1]; simp; omega
  · rw [if_neg h1]
    by_cases h2 : gE g.length g = 0
    · rw [if_neg (by simp [h2])]
      have h3 := qfk.1 h2
      have h4 : ∀ l ∈ g, l.Pairwise (· < ·) ∧ ∀ x ∈ l, 0 ≤ x ∧ x < (g.length : Int) := fun l hl => by
        have := qbp.1 (h3 l hl)
        exact ⟨this.1.1, this.2⟩
      by_cases h5 : 600 < gtot g
      · rw [if_pos h5]; simp; omega
      · rw [if_neg h5]
        exact ⟨fun _ => ⟨by omega, h4, by omega⟩, fun _ => rfl⟩
    · rw [if_pos h2]
      refine ⟨fun h => absurd h h2, fun h => absurd (qfk.2 fun l hl => qbp.2 ⟨⟨(h.2.1 l hl).1, fun x hx => ?_⟩, (h.2.1 l hl).2⟩) h2⟩
      have := (h.2.1 l hl).2 x hx; omega
theorem qhe {g : List (List Int)} (h : Gr g) {l : List Int} (hl : l ∈ g) : l.length ≤ 100 := by
  have h1 := (h.2.1 l hl).2
  have h2 : rowE g.length (-1) l = 0 := qbp.2 ⟨⟨(h.2.1 l hl).1, fun x hx => by have := h1 x hx; omega⟩, h1⟩
  have := qda (by omega) (by omega) h2
  have := h.1
  omega
theorem qdo {F : Nat} {rec38 : (Int × Int) → Option Int} {g : List (List Int)} {m i : Int} {l : List Int} (hg : g.length ≤ 100) : ∀ (k j : Nat) (last : Int), 102 < k + j → (j : Int) ≤ last + 1 → last < g.length → -1 ≤ last →
    zG F rec38 g m i l k (last, (j : Int)) = if rowE g.length last (l.drop j) ≠ 0 then some (rowE g.length last (l.drop j)) else kS F rec38 m i l
  | 0, j, last, h, h1, h2, h3 => by omega
  | k + 1, j, last, h, h1, h2, h3 => by
    show kR F rec38 g m i l (zG F rec38 g m i l k) last (j : Int) = _
    unfold kR
    by_cases hlt : j < l.length
    · rw [if_pos (by simp; omega), yc, List.getElem?_eq_getElem hlt, List.drop_eq_getElem_cons hlt]
      simp only [Option.bind_some]
      unfold rowE
      by_cases c1 : l[j] < 0 ∨ (g.length : Int) ≤ l[j]
      · rw [if_pos (by simpa using c1), if_pos c1, if_pos (by decide)]
      · rw [if_neg (by simpa using c1), if_neg c1]
        by_cases c2 : l[j] ≤ last
        · rw [if_pos (by simpa using c2), if_pos c2, if_pos (by decide)]
        · rw [if_neg (by simpa using c2), if_neg c2, yb (by omega)]
          exact qdo hg k (j + 1) l[j] (by omega) (by omega) (by omega) (by omega)
    · rw [if_neg (by simp; omega), List.drop_eq_nil_of_le (by omega)]
      rw [if_neg (by simp [rowE])]
theorem qcl {F : Nat} (hF : 1000 ≤ F) {g : List (List Int)} (hg : g.length ≤ 100) : ∀ (k i : Nat) (m : Nat), g.length < k + i → i ≤ g.length → m ≤ 100 * i →
    qI F g k ((m : Int), (i : Int)) = if gE g.length (g.drop i) ≠ 0 then some (gE g.length (g.drop i)) else if 600 < m + gtot (g.drop i) then some 2 else some 0
  | 0, _, _, _, _, _ => by omega
  | k + 1, i, m, h, hi, hm => by
    show kQ F g (qI F g k) (m : Int) (i : Int) = _
    unfold kQ
    by_cases hlt : i < g.length
    · rw [if_pos (by simp; omega), yc, List.getElem?_eq_getElem hlt, List.drop_eq_getElem_cons hlt]
      simp only [Option.bind_some]
      have hin := qdo (F := F) (rec38 := qI F g k) (m := (m : Int)) (i := (i : Int)) (l := g[i]) hg F 0 (-1) (by omega) (by omega) (by omega) (by omega)
      rw [List.drop_zero, show ((0 : Nat) : Int) = 0 from rfl] at hin
      rw [hin]
      unfold gE gtot
      by_cases hr : rowE g.length (-1) g[i] = 0
      · have hlen := qda (by omega) (by omega) hr
        have e : (if rowE (g.length : Int) (-1) g[i] ≠ 0 then rowE (g.length : Int) (-1) g[i] else gE (g.length : Int) (g.drop (i + 1))) = gE (g.length : Int) (g.drop (i + 1)) := if_neg (by simp [hr])
        rw [if_neg (show ¬ rowE (g.length : Int) (-1) g[i] ≠ 0 by simp [hr]), e]
        unfold kS yY
        rw [qhf (by omega), yb (by omega), qcl hF hg k (i + 1) (m + g[i].length) (by omega) (by omega) (by omega), Nat.add_assoc]
      · rw [if_pos (by simpa using hr)]
        have e : (if rowE (g.length : Int) (-1) g[i] ≠ 0 then rowE (g.length : Int) (-1) g[i] else gE (g.length : Int) (g.drop (i + 1))) = rowE (g.length : Int) (-1) g[i] := if_pos hr
        rw [e, if_pos hr]
    · rw [if_neg (by simp; omega), List.drop_eq_nil_of_le (by omega)]
      unfold yX
      rw [if_neg (show ¬ gE (g.length : Int) [] ≠ 0 by simp [gE])]
      by_cases h6 : 600 < m
      · rw [if_pos (by simp; omega), if_pos (by simpa [gtot] using h6)]
      · rw [if_neg (by simp; omega), if_neg (by simpa [gtot] using h6)]
theorem qcg {F : Nat} (hF : 1000 ≤ F) {g : List (List Int)} : zD F g = some (gchk g) := by
  unfold zD gchk
  by_cases h : 100 < g.length
  · rw [if_pos (by simp; omega), if_pos h]
  · have := qcl hF (g := g) (by omega) F 0 0 (by omega) (by omega) (by omega)
    rw [List.drop_zero, Nat.zero_add, show ((0 : Nat) : Int) = 0 from rfl] at this
    rw [if_neg (by simp; omega), if_neg h, this]
    split
    · rfl
    · split <;> rfl
def af (i : Nat) : List (List Int) → List (Int × Int)
  | [] => []
  | l :: g => l.map (fun x => ((i : Int), x)) ++ af (i + 1) g
theorem qbe {σ τ : Type} {yy : σ → (Int × Int) → Option (σ ⊕ τ)} : ∀ (A B : List (Int × Int)) (s : σ), kE yy (A ++ B) s = (kE yy A s).bind (Sum.elim (fun s' => kE yy B s') (fun t => some (.inr t)))
  | [], B, s => rfl
  | p :: A, B, s => by
    show (yy s p).bind _ = ((yy s p).bind _).bind _
    cases yy s p with
    | none => rfl
    | some r =>
      cases r with
      | inl s' => exact qbe A B s'
      | inr t => rfl
theorem qe9 {σ τ : Type} {F : Nat} {yy : σ → (Int × Int) → Option (σ ⊕ τ)} {rec7 : (Int × σ) → Option (σ ⊕ τ)} {i : Int} {l : List Int} (hm : l.length ≤ 1000000) : ∀ (k j : Nat) (s : σ), l.length < k + j → j ≤ l.length →
    zF F yy rec7 i l k ((j : Int), s) = (kE yy ((l.drop j).map fun x => (i, x)) s).bind (Sum.elim (fun s' => k6 F yy rec7 i s') (fun t => some (.inr t)))
  | 0, _, _, _, _ => by omega
  | k + 1, j, s, h, hj => by
    show kP F yy rec7 i l (zF F yy rec7 i l k) (j : Int) s = _
    unfold kP
    by_cases hlt : j < l.length
    · rw [if_pos (by simp; omega), yc, List.getElem?_eq_getElem hlt, List.drop_eq_getElem_cons hlt, List.map_cons]
      simp only [Option.bind_some, kE]
      cases yy s (i, l[j]) with
      | none => rfl
      | some r =>
        cases r with
        | inl s' =>
          simp only [Option.bind_some, Sum.elim_inl]
          rw [yb (by omega)]
          exact qe9 hm k (j + 1) s' (by omega) (by omega)
        | inr t => rfl
    · rw [if_neg (by simp; omega), List.drop_eq_nil_of_le (by omega)]
      rfl
theorem qel {σ τ : Type} {F : Nat} {yy : σ → (Int × Int) → Option (σ ⊕ τ)} {g : List (List Int)} (hm : g.length ≤ 1000000) (hr : ∀ l ∈ g, l.length ≤ 1000000 ∧ l.length < F) : ∀ (k i : Nat) (s : σ), g.length < k + i → i ≤ g.length →
    qQ F yy g k ((i : Int), s) = kE yy (af i (g.drop i)) s
  | 0, _, _, _, _ => by omega
  | k + 1, i, s, h, hi => by
    show k5 F yy g (qQ F yy g k) (i : Int) s = _
    unfold k5
    by_cases hlt : i < g.length
    · have hrow := hr _ (List.getElem_mem hlt)
      rw [if_pos (by simp; omega), yc, List.getElem?_eq_getElem hlt, List.drop_eq_getElem_cons hlt]
      simp only [Option.bind_some]
      have := qe9 (F := F) (yy := yy) (rec7 := qQ F yy g k) (i := (i : Int)) hrow.1 F 0 s (by omega) (by omega)
      rw [List.drop_zero, show ((0 : Nat) : Int) = 0 from rfl] at this
      rw [this]
      unfold af
      rw [qbe]
      congr 1
      funext r
      cases r with
      | inl s' =>
        simp only [Sum.elim_inl]
        unfold k6
        rw [yb (by omega)]
        exact qel hm hr k (i + 1) s' (by omega) (by omega)
      | inr t => rfl
    · rw [if_neg (by simp; omega), List.drop_eq_nil_of_le (by omega)]
      rfl
theorem qha {σ τ : Type} {F : Nat} {yy : σ → (Int × Int) → Option (σ ⊕ τ)} {g : List (List Int)} {s : σ} (hF : g.length < F) (hm : g.length ≤ 1000000) (hr : ∀ l ∈ g, l.length ≤ 1000000 ∧ l.length < F) : zV F yy g s = kE yy (af 0 g) s := by
  unfold zV
  have := qel (yy := yy) hm hr F 0 s (by omega) (by omega)
  rw [List.drop_zero] at this
  exact this
theorem qeE {σ τ : Type} {F : Nat} {yy : σ → (Int × Int) → Option (σ ⊕ τ)} {l : List (Int × Int)} (hm : l.length ≤ 1000000) : ∀ (k i : Nat) (s : σ), l.length < k + i → i ≤ l.length →
    qu F yy l k ((i : Int), s) = kE yy (l.drop i) s
  | 0, _, _, _, _ => by omega
  | k + 1, i, s, h, hi => by
    show qO F yy l (qu F yy l k) (i : Int) s = _
    unfold qO
    by_cases hlt : i < l.length
    · rw [if_pos (by simp; omega), yc, List.getElem?_eq_getElem hlt, List.drop_eq_getElem_cons hlt]
      simp only [Option.bind_some, kE]
      cases yy s l[i] with
      | none => rfl
      | some r =>
        cases r with
        | inl s' =>
          simp only [Option.bind_some, Sum.elim_inl]
          rw [yb (by omega)]
          exact qeE hm k (i + 1) s' (by omega) (by omega)
        | inr t => rfl
    · rw [if_neg (by simp; omega), List.drop_eq_nil_of_le (by omega)]
      rfl
theorem qdr {τ : Type} {lim : Nat} {f : Int × Int → Int × Int} {yy : List (Int × Int) → (Int × Int) → Option (List (Int × Int) ⊕ τ)} (hy : ∀ s p, yy s p = (app lim s [f p]).bind fun z => some (.inl z)) : ∀ (L s : List (Int × Int)), s.length + L.length ≤ lim → kE yy L s = some (.inl (s ++ L.map f))
  | [], s, _ => by simp [kE]
  | p :: L, s, h => by
    rw [List.length_cons] at h
    show (yy s p).bind _ = _
    rw [hy, yZ (by simp; omega)]
    simp only [Option.bind_some, Sum.elim_inl]
    rw [qdr hy L (s ++ [f p]) (by simp; omega)]
    simp
theorem qe8 : ∀ (i : Nat) (g : List (List Int)), (af i g).length = gtot g
  | _, [] => rfl
  | i, l :: g => by unfold af gtot; rw [List.length_append, List.length_map, qe8 (i + 1) g]
theorem qcZ {F : Nat} {l : List (Int × Int)} (hF : l.length < F) (hm : l.length ≤ 1000000) : qo F l = some l := by
  unfold qo qr zr
  have := fun yy => qeE (σ := List (Int × Int)) (τ := Empty) (F := F) (yy := yy) hm F 0 [] (by omega) (by omega)
  rw [show ((0 : Nat) : Int) = 0 from rfl] at this
  rw [this, List.drop_zero, qdr (lim := 4398046511104) (f := fun p => p) ?hy l [] (by simp; omega)]
  · simp
  · exact fun s p => rfl
def lexLt (p q : Int × Int) : Prop := p.1 < q.1 ∨ (p.1 = q.1 ∧ p.2 < q.2)
instance decLex (p q : Int × Int) : Decidable (lexLt p q) := by unfold lexLt; infer_instance
theorem qcq (a : Int × Int) : ¬ lexLt a a := by unfold lexLt; omega
theorem qfs (a b d : Int × Int) : lexLt a b → lexLt b d → lexLt a d := by unfold lexLt; omega
theorem qcr (a b : Int × Int) : lexLt a b ∨ a = b ∨ lexLt b a := by
  obtain ⟨a1, a2⟩ := a
  obtain ⟨b1, b2⟩ := b
  simp only [lexLt, Prod.mk.injEq]; omega
theorem qbw {F : Nat} {x y : Int} : kn F x y = some (if x < y then -1 else if y < x then 1 else 0) := by
  unfold kn yo
  simp only [bne_self_eq_false, Option.bind_some, Bool.false_eq_true, if_false, decide_eq_true_eq]
  split
  · rfl
  · split <;> rfl
theorem qht {F : Nat} (hF : 3 ≤ F) {x y : Int} : vF F [x, y] = some (if x ≠ 0 then x else y) := by
  obtain ⟨k, rfl⟩ := Nat.exists_eq_add_of_le hF
  rw [Nat.add_comm]
  unfold vF
  show zx (k + 3) [x, y] (zN (k + 3) [x, y] (k + 2)) 0 = _
  unfold zx
  rw [if_pos (by simp)]
  show ((some x).bind _) = _
  simp only [Option.bind_some]
  by_cases hx : x = 0
  · rw [if_neg (by simp [hx]), if_neg (by simp [hx])]
    show zx (k + 3) [x, y] (zN (k + 3) [x, y] (k + 1)) 1 = _
    unfold zx
    rw [if_pos (by simp)]
    show ((some y).bind _) = _
    simp only [Option.bind_some]
    by_cases hy : y = 0
    · rw [if_neg (by simp [hy]), hy]
      show zx (k + 3) [x, y] (zN (k + 3) [x, y] k) 2 = _
      unfold zx
      rw [if_neg (by simp)]
      rfl
    · rw [if_pos (by simp [hy])]
  · rw [if_pos (by simp [hx]), if_pos hx]
theorem qfx {F : Nat} (hF : 3 ≤ F) (a b : Int × Int) : ∃ z, vm F a.1 a.2 b.1 b.2 = some z ∧ (z < 0 ↔ lexLt a b) := by
  unfold vm
  rw [qbw, qbw]
  simp only [Option.bind_some]
  rw [qht hF]
  simp only [Option.bind_some]
  unfold lexLt
  by_cases h1 : a.1 < b.1
  · exact ⟨-1, by simp [h1], by simp [h1]⟩
  · by_cases h2 : b.1 < a.1
    · exact ⟨1, by simp [h1, h2], by omega⟩
    · refine ⟨if a.2 < b.2 then -1 else if b.2 < a.2 then 1 else 0, by simp [h1, h2], ?_⟩
      split
      · omega
      · split <;> omega
def srtA (l : List (Int × Int)) : List (Int × Int) := l.mergeSort fun a b => decide (¬ lexLt b a)
theorem jG (l : List (Int × Int)) : (srtA l).Perm l := List.mergeSort_perm l _
theorem qey (l : List (Int × Int)) : (srtA l).Pairwise fun a b => ¬ lexLt b a := by
  have h := List.pairwise_mergeSort (le := fun a b : Int × Int => decide (¬ lexLt b a)) (fun a b c h1 h2 => by simp only [decide_eq_true_eq] at *; unfold lexLt at *; omega) (fun a b => by simp only [Bool.or_eq_true, decide_eq_true_eq]; unfold lexLt; omega) l
  exact h.imp (fun h => by simpa using h)
theorem qaX (l : List (Int × Int)) : (srtA l).length = l.length := (jG l).length_eq
theorem qeN {l : List (Int × Int)} (h : l.Pairwise lexLt) : l.Nodup := List.Pairwise.imp (S := fun a b => a ≠ b) (fun {a b} h (he : a = b) => qcq a (by rw [← he] at h; exact h)) h
theorem qdK {l : List (Int × Int)} (h : l.Nodup) : (srtA l).Pairwise lexLt := by
  have h1 : (srtA l).Nodup := (jG l).nodup_iff.2 h
  refine (List.Pairwise.and (qey l) h1).imp fun {a b} h => ?_
  rcases qcr a b with h2 | h2 | h2
  · exact h2
  · exact absurd h2 h.2
  · exact absurd h2 h.1
theorem qdG {F : Nat} {l : List (Int × Int)} (hF : 3 ≤ F) (hl : l.length ≤ 1000000) : qA F l = some (srtA l) :=
  qfI (lt := lexLt) (fun a _ b _ => qfx hF a b) qcq qfs qcr (by omega) (jG l) (qey l)
theorem qch {F : Nat} {l : List (Int × Int)} (hF : 3 ≤ F) (hF2 : l.length < F) (hl : l.length ≤ 1000000) : qd F l = some (srtA l) := by
  unfold qd
  rw [qcZ hF2 hl]
  simp only [Option.bind_some]
  rw [qdG hF hl]
  simp [chk, qaX]
theorem pwx : ∀ {A B : List Int}, A.Pairwise (· < ·) → B.Pairwise (· < ·) → (∀ z, z ∈ A ↔ z ∈ B) → A = B := by
  intro A B hA hB h
  have nd : ∀ {C : List Int}, C.Pairwise (· < ·) → C.Nodup := fun hC => hC.imp fun h => by omega
  exact List.Perm.eq_of_pairwise (le := fun x y : Int => x < y) (fun a b _ _ h1 h2 => by omega) hA hB ((List.perm_ext_iff_of_nodup (nd hA) (nd hB)).2 h)
def rowOf (l : List (Int × Int)) (i : Int) : List Int := (l.filter fun p => decide (p.1 = i)).map (·.2)
def tab (n : Nat) (l : List (Int × Int)) : List (List Int) := (List.range n).map fun (i : Nat) => rowOf l (i : Int)
theorem qbq (n : Nat) (l : List (Int × Int)) : (tab n l).length = n := by simp [tab]
theorem qeB {n i : Nat} {l : List (Int × Int)} (h : i < n) : (tab n l)[i]? = some (rowOf l i) := by simp [tab, h]
theorem qcy (l : List (Int × Int)) (i : Int) : (rowOf l i).length ≤ l.length := by
  unfold rowOf
  rw [List.length_map]
  exact List.length_filter_le _ _
theorem qgc {n a : Nat} {l : List (Int × Int)} {b : Int} : tab n (l ++ [((a : Int), b)]) = (tab n l).set a (rowOf l a ++ [b]) := by
  apply List.ext_getElem (by simp [tab])
  intro i h1 h2
  rw [qbq] at h1
  rw [List.getElem_set]
  simp only [tab, List.getElem_map, List.getElem_range]
  by_cases h : a = i
  · rw [if_pos h, ← h]; simp [rowOf]
  · rw [if_neg h]
    have : ¬ (a : Int) = (i : Int) := by omega
    simp [rowOf, this]
theorem qgY (n : Nat) : tab n [] = List.replicate n [] := by
  apply List.ext_getElem (by simp [tab])
  intro i h1 h2
  simp [tab, rowOf]
theorem qhg {n : Nat} {lim : Nat} (h : n ≤ lim) : mk lim ([] : List Int) (n : Int) = some (tab n []) := by
  unfold mk
  rw [if_pos ⟨by omega, by omega⟩, qgY]; simp
def InR (n : Nat) (l : List (Int × Int)) : Prop := ∀ p ∈ l, 0 ≤ p.1 ∧ p.1 < (n : Int) ∧ 0 ≤ p.2 ∧ p.2 < (n : Int)
theorem qa9 {α : Type} {l : List α} {j : Nat} (h : j < l.length) : l.take (j + 1) = l.take j ++ [l[j]] := by
  rw [List.take_add_one, List.getElem?_eq_getElem h]; rfl
theorem qep {F n : Nat} {l : List (Int × Int)} (hl : ∀ p ∈ l, 0 ≤ p.1 ∧ p.1 < (n : Int)) (hm : l.length ≤ 1000000) : ∀ (k j : Nat), l.length < k + j → j ≤ l.length →
    z6 F l k ((j : Int), tab n (l.take j)) = some (tab n l)
  | 0, _, _, _ => by omega
  | k + 1, j, h, hj => by
    show k7 F l (z6 F l k) (j : Int) (tab n (l.take j)) = _
    unfold k7
    by_cases hlt : j < l.length
    · obtain ⟨h1, h2⟩ := hl _ (List.getElem_mem hlt)
      have hrec := qep (F := F) hl hm k (j + 1) (by omega) (by omega)
      obtain ⟨a, ha⟩ := Int.eq_ofNat_of_zero_le h1
      have e : l[j] = ((a : Int), l[j].2) := by rw [← ha]
      rw [qa9 hlt, e, qgc] at hrec
      have hrl := qcy (l.take j) (a : Int)
      rw [List.length_take] at hrl
      rw [if_pos (by simp; omega), yc, List.getElem?_eq_getElem hlt]
      simp only [Option.bind_some]
      rw [ha, yc, qeB (by omega)]
      simp only [Option.bind_some]
      rw [yZ (by simp; omega)]
      simp only [Option.bind_some, lett]
      rw [yb (by omega), Int.toNat_natCast]
      exact hrec
    · rw [if_neg (by simp; omega), List.take_of_length_le (by omega)]
      rfl
theorem qfe {F n : Nat} {l : List (Int × Int)} (hl : ∀ p ∈ l, 0 ≤ p.1 ∧ p.1 < (n : Int)) (hm : l.length ≤ 1000000) (hF : l.length < F) (hn : n ≤ 1000000) : kM F (n : Int) l = some (tab n l) := by
  unfold kM
  rw [qhg (by omega)]
  simp only [Option.bind_some]
  have := qep (F := F) hl hm F 0 (by omega) (by omega)
  rw [List.take_zero] at this
  exact this
def IsTab (n : Nat) (l : List (Int × Int)) (T : List (List Int)) : Prop :=
  T.length = n ∧ ∀ (i : Nat) (r : List Int), T[i]? = some r → r.Pairwise (· < ·) ∧ ∀ x, x ∈ r ↔ ((i : Int), x) ∈ l
theorem qd4 {n : Nat} {l l' : List (Int × Int)} {T T' : List (List Int)} (h : IsTab n l T) (h' : IsTab n l' T') (hm : ∀ p, p ∈ l ↔ p ∈ l') : T = T' := by
  apply List.ext_getElem (by rw [h.1, h'.1])
  intro i h1 h2
  have a := h.2 i _ (List.getElem?_eq_getElem h1)
  have b := h'.2 i _ (List.getElem?_eq_getElem h2)
  exact pwx a.1 b.1 fun z => by rw [a.2, b.2, hm]
theorem qeQ {l : List (Int × Int)} {i x : Int} : x ∈ rowOf l i ↔ (i, x) ∈ l := by
  unfold rowOf
  rw [List.mem_map]
  constructor
  · rintro ⟨p, hp, rfl⟩
    obtain ⟨h1, h2⟩ := List.mem_filter.1 hp
    have : p.1 = i := by simpa using h2
    rw [← this]; exact h1
  · intro h
    exact ⟨(i, x), List.mem_filter.2 ⟨h, by simp⟩, rfl⟩
theorem qfC {l : List (Int × Int)} {i : Int} (h : l.Pairwise lexLt) : (rowOf l i).Pairwise (· < ·) := by
  unfold rowOf
  rw [List.pairwise_map]
  refine (h.filter _).imp_of_mem fun {a b} ha hb hab => ?_
  have h1 := (List.mem_filter.1 ha).2
  have h2 := (List.mem_filter.1 hb).2
  simp only [decide_eq_true_eq] at h1 h2
  unfold lexLt at hab; omega
theorem qe5 {n : Nat} {l : List (Int × Int)} (h : l.Pairwise lexLt) : IsTab n l (tab n l) := by
  refine ⟨qbq n l, fun i r hr => ?_⟩
  have hi : i < n := by have := (List.getElem?_eq_some_iff.1 hr).1; rwa [qbq] at this
  rw [qeB hi] at hr
  cases hr
  exact ⟨qfC h, fun x => qeQ⟩
theorem qdt {n : Nat} {l l' : List (Int × Int)} {T : List (List Int)} (h : IsTab n l T) (hm : ∀ p, p ∈ l ↔ p ∈ l') : IsTab n l' T :=
  ⟨h.1, fun i r hr => ⟨(h.2 i r hr).1, fun x => by rw [(h.2 i r hr).2, hm]⟩⟩
theorem qc8 : ∀ {g : List (List Int)} {k : Nat} {p : Int × Int}, p ∈ af k g ↔ ∃ i r, g[i]? = some r ∧ p.1 = ((k + i : Nat) : Int) ∧ p.2 ∈ r
  | [], k, p => by simp [af]
  | l :: g, k, p => by
    unfold af
    rw [List.mem_append, qc8 (g := g), List.mem_map]
    constructor
    · rintro (⟨x, hx, rfl⟩ | ⟨i, r, h1, h2, h3⟩)
      · exact ⟨0, l, by simp, by simp, hx⟩
      · exact ⟨i + 1, r, by simpa using h1, by omega, h3⟩
    · rintro ⟨i, r, h1, h2, h3⟩
      cases i with
      | zero =>
        simp only [List.getElem?_cons_zero, Option.some.injEq] at h1
        subst h1
        exact .inl ⟨p.2, h3, by rw [Nat.add_zero] at h2; rw [← h2]⟩
      | succ i =>
        refine .inr ⟨i, r, by simpa using h1, by omega, h3⟩
theorem qg2 : ∀ {g : List (List Int)} {k : Nat}, (∀ r ∈ g, r.Pairwise (· < ·)) → (af k g).Pairwise lexLt
  | [], k, _ => by simp [af]
  | l :: g, k, h => by
    unfold af
    rw [List.pairwise_append]
    refine ⟨?_, qg2 fun r hr => h r (by simp [hr]), ?_⟩
    · rw [List.pairwise_map]
      exact (h l (by simp)).imp fun h => .inr ⟨rfl, h⟩
    · intro a ha b hb
      obtain ⟨x, _, rfl⟩ := List.mem_map.1 ha
      obtain ⟨i, r, _, h2, _⟩ := qc8.1 hb
      left
      show (k : Int) < b.1
      omega
theorem qe7 {g : List (List Int)} (h : ∀ r ∈ g, r.Pairwise (· < ·)) : IsTab g.length (af 0 g) g := by
  refine ⟨rfl, fun i r hr => ⟨h r (List.mem_of_getElem? hr), fun x => ?_⟩⟩
  rw [qc8]
  constructor
  · intro hx; exact ⟨i, r, hr, by simp, hx⟩
  · rintro ⟨i', r', h1, h2, h3⟩
    have : i' = i := by simp at h2; omega
    subst this
    rw [hr] at h1
    cases h1
    exact h3
theorem qg3 {g : List (List Int)} (h : Gr g) : InR g.length (af 0 g) := fun p hp => by
  obtain ⟨i, r, h1, h2, h3⟩ := qc8.1 hp
  have h4 := (List.getElem?_eq_some_iff.1 h1).1
  have h5 := (h.2.1 r (List.mem_of_getElem? h1)).2 _ h3
  refine ⟨by omega, by omega, h5.1, h5.2⟩
theorem qg4 {g : List (List Int)} (h : Gr g) : ∀ r ∈ g, r.Pairwise (· < ·) := fun r hr => (h.2.1 r hr).1
def ofE (n : Int) : List (Int × Int) → List (Int × Int) → Int
  | _, [] => 0
  | seen, p :: l => if p.1 < 0 ∨ n ≤ p.1 ∨ p.2 < 0 ∨ n ≤ p.2 then 3 else if p ∈ seen then 6 else ofE n (seen ++ [p]) l
theorem qfw {n : Int} {seen : List (Int × Int)} {p : Int × Int} {l : List (Int × Int)} : ofE n seen (p :: l) = if p.1 < 0 ∨ n ≤ p.1 ∨ p.2 < 0 ∨ n ≤ p.2 then 3 else if p ∈ seen then 6 else ofE n (seen ++ [p]) l := rfl
theorem qd6 {n : Nat} : ∀ {l seen : List (Int × Int)}, ofE n seen l = 0 ↔ InR n l ∧ l.Nodup ∧ ∀ p ∈ l, p ∉ seen
  | [], seen => by simp [ofE, InR]
  | p :: l, seen => by
    unfold ofE
    by_cases h1 : p.1 < 0 ∨ (n : Int) ≤ p.1 ∨ p.2 < 0 ∨ (n : Int) ≤ p.2
    · rw [if_pos h1]
      refine ⟨fun h => by simp at h, fun h => ?_⟩
      have := h.1 p (by simp); omega
    · rw [if_neg h1]
      by_cases h2 : p ∈ seen
      · rw [if_pos h2]
        refine ⟨fun h => by simp at h, fun h => ?_⟩
        exact absurd h2 (h.2.2 p (by simp))
      · rw [if_neg h2, qd6, List.nodup_cons]
        constructor
        · rintro ⟨a1, a2, a3⟩
          refine ⟨fun q hq => ?_, ⟨fun hp => a3 p hp (by simp), a2⟩, fun q hq => ?_⟩
          · rcases List.mem_cons.1 hq with rfl | hq
            · omega
            · exact a1 q hq
          · rcases List.mem_cons.1 hq with rfl | hq
            · exact h2
            · exact fun h => a3 q hq (by simp [h])
        · rintro ⟨a1, ⟨a2, a3⟩, a4⟩
          refine ⟨fun q hq => a1 q (by simp [hq]), a3, fun q hq h => ?_⟩
          rcases List.mem_append.1 h with h | h
          · exact a4 q (by simp [hq]) h
          · have : q = p := by simpa using h
            subst this; exact a2 hq
def ofM (n : Int) (l : List (Int × Int)) : List (List Int) × Int :=
  if n < 0 ∨ 100 < n then ([], 3) else if 600 < l.length then ([], 2) else if ofE n [] l ≠ 0 then ([], ofE n [] l) else (tab n.toNat (srtA l), 0)
theorem qhs {F n : Nat} {l : List (Int × Int)} (hF : 1000 ≤ F) (hn : n ≤ 100) (hl : l.length ≤ 600) : ∀ (k j : Nat), l.length < k + j → j ≤ l.length → (ofE n [] l = ofE n (l.take j) (l.drop j)) →
    kN F (n : Int) l k ((j : Int), l.take j) = some (if ofE n [] l ≠ 0 then ([], ofE n [] l) else (tab n (srtA l), 0))
  | 0, _, _, _, _ => by omega
  | k + 1, j, h, hj, he => by
    show vl F (n : Int) l (kN F (n : Int) l k) (j : Int) (l.take j) = _
    unfold vl
    by_cases hlt : j < l.length
    · have hrec := qhs (F := F) hF hn hl k (j + 1) (by omega) (by omega)
      rw [if_pos (by simp; omega), yc, List.getElem?_eq_getElem hlt]
      simp only [Option.bind_some]
      rw [List.drop_eq_getElem_cons hlt, qfw] at he
      by_cases h1 : l[j].1 < 0 ∨ (n : Int) ≤ l[j].1 ∨ l[j].2 < 0 ∨ (n : Int) ≤ l[j].2
      · rw [if_pos h1] at he
        rw [if_pos (by simp only [Bool.or_eq_true, decide_eq_true_eq]; omega), if_pos (by rw [he]; decide), he]
      · rw [if_neg h1] at he
        rw [if_neg (by simp only [Bool.or_eq_true, decide_eq_true_eq]; omega)]
        by_cases h2 : l[j] ∈ l.take j
        · rw [if_pos h2] at he
          rw [if_pos (by simpa using h2), if_pos (by rw [he]; decide), he]
        · rw [if_neg h2, ← qa9 hlt] at he
          rw [if_neg (by simpa using h2)]
          have : sins (l.take j) (l[j].1, l[j].2) = some (l.take (j + 1)) := by
            unfold sins
            rw [if_neg h2, qa9 hlt]
          rw [this]
          simp only [Option.bind_some]
          rw [yb (by omega)]
          exact hrec he
    · rw [List.drop_eq_nil_of_le (by omega)] at he
      have he : ofE n [] l = 0 := he
      obtain ⟨a1, a2, _⟩ := qd6.1 he
      rw [if_neg (by simp; omega), if_neg (by rw [he]; decide)]
      unfold jr q4
      simp only [Option.bind_some]
      rw [qch (by omega) (by omega) (by omega)]
      simp only [Option.bind_some]
      rw [qfe (fun p hp => by have := a1 p ((jG l).mem_iff.1 hp); omega) (by rw [qaX]; omega) (by rw [qaX]; omega) (by omega)]
      rfl
theorem qhr {F : Nat} {n : Int} {l : List (Int × Int)} (hF : 1000 ≤ F) : yF F n l = some (ofM n l) := by
  unfold yF ofM
  by_cases h1 : n < 0 ∨ 100 < n
  · rw [if_pos (by simpa using h1), if_pos h1]
  · rw [if_neg (by simpa using h1), if_neg h1]
    by_cases h2 : 600 < l.length
    · rw [if_pos (by simp; omega), if_pos h2]
    · rw [if_neg (by simp; omega), if_neg h2]
      obtain ⟨m, rfl⟩ := Int.eq_ofNat_of_zero_le (show 0 ≤ n by omega)
      have := qhs (F := F) (n := m) (l := l) hF (by omega) (by omega) F 0 (by omega) (by omega) (by simp)
      rw [List.take_zero] at this
      exact this
theorem qew {n : Nat} {l : List (Int × Int)} (hn : n ≤ 100) (hl : l.length ≤ 600) (h1 : InR n l) (h2 : l.Nodup) : ofM n l = (tab n (srtA l), 0) := by
  have h3 : ofE n [] l = 0 := qd6.2 ⟨h1, h2, fun p _ => by simp⟩
  unfold ofM
  rw [if_neg (by omega), if_neg (by omega), if_neg (by rw [h3]; decide), Int.toNat_natCast]
theorem qeV {n : Nat} {l : List (Int × Int)} (h : l.Nodup) : IsTab n l (tab n (srtA l)) :=
  qdt (qe5 (qdK h)) fun _ => (jG l).mem_iff
theorem qfn {g : List (List Int)} (h : Gr g) : (af 0 g).length ≤ 600 := by rw [qe8]; exact h.2.2
theorem qfo {g : List (List Int)} (h : Gr g) : (af 0 g).Nodup := qeN (qg2 (qg4 h))
theorem qgy {g T : List (List Int)} (h : Gr g) {l : List (Int × Int)} (hT : IsTab g.length l T) (hm : ∀ p, p ∈ l ↔ p ∈ af 0 g) : T = g :=
  qd4 hT (qe7 (qg4 h)) hm
theorem qaW {F : Nat} {xs : List (List Int)} (hm : xs.length ≤ 1000000) (hr : ∀ r ∈ xs, r.length ≤ 1000000 ∧ r.length < F) : ∀ (k i : Nat), xs.length < k + i → i ≤ xs.length → zZ F xs xs k (i : Int) = some true
  | 0, _, _, _ => by omega
  | k + 1, i, h, hi => by
    show k3 F xs xs (zZ F xs xs k) (i : Int) = _
    unfold k3
    by_cases hlt : i < xs.length
    · have := hr _ (List.getElem_mem hlt)
      rw [if_pos (by simp; omega), yc, List.getElem?_eq_getElem hlt]
      simp only [Option.bind_some]
      rw [qd8 this.2 this.1]
      simp only [Option.bind_some]
      rw [if_neg (by simp), yb (by omega)]
      exact qaW hm hr k (i + 1) (by omega) (by omega)
    · rw [if_neg (by simp; omega)]
      rfl
theorem qbM {F : Nat} {xs : List (List Int)} (hF : xs.length < F) (hm : xs.length ≤ 1000000) (hr : ∀ r ∈ xs, r.length ≤ 1000000 ∧ r.length < F) : zU F xs xs = some true := by
  unfold zU
  rw [if_neg (by simp)]
  exact qaW hm hr F 0 (by omega) (by omega)
def Sm (g : List (List Int)) : Prop := g.length ≤ 100 ∧ ∀ r ∈ g, r.length ≤ 1200
theorem qbL {F : Nat} {g : List (List Int)} (hF : 2000 ≤ F) (h : Sm g) : zt F g g = some true := by
  unfold zt
  have := h.1
  rw [qbM (by omega) (by omega) (fun r hr => by have := h.2 r hr; omega)]
  rfl
theorem qa7 : Sm [] := ⟨by simp, fun r hr => by simp at hr⟩
theorem qhi {n : Nat} {l : List (Int × Int)} (hn : n ≤ 100) (hl : l.length ≤ 1200) : Sm (tab n l) := ⟨by rw [qbq]; exact hn, fun r hr => by
  obtain ⟨i, hi, rfl⟩ := List.mem_map.1 hr
  have := qcy l (i : Int)
  omega⟩
theorem qhu {n : Int} {l : List (Int × Int)} : Sm (ofM n l).1 := by
  unfold ofM
  split
  · exact qa7
  · split
    · exact qa7
    · split
      · exact qa7
      · exact qhi (by omega) (by rw [qaX]; omega)
def By (s : List Int) : Prop := ∀ x ∈ s, 0 ≤ x ∧ x < 256
def cut8 (c : UInt8) : List UInt8 → List (List UInt8)
  | [] => [[]]
  | x :: t => if x = c then [] :: cut8 c t else match cut8 c t with | [] => [[x]] | h :: r => (x :: h) :: r
theorem qd3 (t : List UInt8) (c : UInt8) : -1 ≤ Lib.index t [c] := Lib.index_ge t [c]
theorem qbc (x : UInt8) (t : List UInt8) (c : UInt8) : Lib.index (x :: t) [c] = if x = c then 0 else if Lib.index t [c] = -1 then -1 else Lib.index t [c] + 1 := by
  rw [show Lib.index (x :: t) [c] = if [c].isPrefixOf (x :: t) then 0 else if Lib.index t [c] == -1 then -1 else Lib.index t [c] + 1 from rfl]
  by_cases h : x = c
  · subst h
    simp [List.isPrefixOf]
  · have h2 : ([c].isPrefixOf (x :: t)) = false := by
      simp only [List.isPrefixOf, Bool.and_true, beq_eq_false_iff_ne]
      exact fun e => h e.symm
    rw [if_neg (by rw [h2]; simp), if_neg h]
    simp
theorem qbP (c : UInt8) (k : Nat) (s : List UInt8) : Lib.splitK [c] 0 (k + 1) s = if Lib.index s [c] == -1 then [s] else s.take ((Lib.index s [c]).toNat + 0) :: Lib.splitK [c] 0 k (s.drop ((Lib.index s [c]).toNat + 1)) := rfl
theorem qbO (c : UInt8) : ∀ (L : List UInt8), Lib.splitK [c] 0 (L.count c) L = cut8 c L
  | [] => rfl
  | x :: t => by
    have ih := qbO c t
    unfold cut8
    by_cases h : x = c
    · subst h
      rw [List.count_cons_self, if_pos rfl, ← ih]
      rw [qbP, qbc, if_pos rfl]
      simp
    · rw [if_neg h, ← ih, List.count_cons_of_ne (fun e => h e)]
      cases hk : t.count c with
      | zero => rfl
      | succ k =>
        rw [qbP, qbP, qbc, if_neg h]
        have hge := qd3 t c
        by_cases hi : Lib.index t [c] = -1
        · simp [hi]
        · have e1 : ∃ i : Nat, Lib.index t [c] = i := ⟨(Lib.index t [c]).toNat, by omega⟩
          obtain ⟨i, hi2⟩ := e1
          rw [hi2]
          have n1 : ¬ ((i : Int) = -1) := by omega
          have n2 : ¬ ((i : Int) + 1 = -1) := by omega
          have e2 : ((i : Int) + 1).toNat = i + 1 := by omega
          simp [n1, n2, e2]
def cutI (c : Int) : List Int → List (List Int)
  | [] => [[]]
  | x :: t => if x = c then [] :: cutI c t else match cutI c t with | [] => [[x]] | h :: r => (x :: h) :: r
theorem qeJ (c x : Int) (t : List Int) : cutI c (x :: t) = if x = c then [] :: cutI c t else match cutI c t with | [] => [[x]] | h :: r => (x :: h) :: r := rfl
def u8 (n : Int) : UInt8 := UInt8.ofNat n.toNat
theorem qgg {a b : Int} (ha : 0 ≤ a ∧ a < 256) (hb : 0 ≤ b ∧ b < 256) : u8 a = u8 b ↔ a = b := by
  constructor
  · intro h
    have h1 : b8 a = b8 b := by
      show ((u8 a).toNat : Int) = ((u8 b).toNat : Int)
      rw [h]
    rw [qae ha.1 ha.2, qae hb.1 hb.2] at h1
    exact h1
  · rintro rfl; rfl
def toI (l : List UInt8) : List Int := l.map fun u => (u.toNat : Int)
theorem qfg {c : Int} (hc : 0 ≤ c ∧ c < 256) : ∀ (s : List Int), By s → (cut8 (u8 c) (s.map u8)).map toI = cutI c s
  | [], _ => rfl
  | x :: t, h => by
    have hx := h x (List.mem_cons_self ..)
    have ih := qfg hc t fun y hy => h y (List.mem_cons_of_mem _ hy)
    have hb : ((u8 x).toNat : Int) = x := qae hx.1 hx.2
    rw [List.map_cons]
    unfold cut8 cutI
    by_cases e : x = c
    · subst e
      rw [if_pos rfl, if_pos rfl, List.map_cons, ih]
      rfl
    · rw [if_neg (fun e2 => e ((qgg hx hc).1 e2)), if_neg e, ← ih]
      cases cut8 (u8 c) (t.map u8) with
      | nil => show [toI [u8 x]] = [[x]]; simp [toI, hb]
      | cons a r =>
        show toI (u8 x :: a) :: r.map toI = (x :: toI a) :: r.map toI
        rw [show toI (u8 x :: a) = ((u8 x).toNat : Int) :: toI a from rfl, hb]
theorem qbQ {c : Int} {s : List Int} (hc : 0 ≤ c ∧ c < 256) (hs : By s) (hl : s.length < 4294967281) : splitM s [c] = some (cutI c s) := by
  unfold splitM
  simp only [hl, if_true]
  congr 1
  have h1 := Lib.splitB_data (bstr [c]) 0 (Lib.countB (bstr s) (bstr [c])) (bstr s)
  have h2 : Lib.countB (bstr s) (bstr [c]) = (s.map u8).count (u8 c) := by
    show Lib.count (bstr s).data.toList (bstr [c]).data.toList = _
    rw [qY, qY]
    exact Lib.count_one _ _
  rw [h2] at h1 ⊢
  rw [qY, qY] at h1
  have h3 : Lib.splitK [u8 c] 0 ((s.map u8).count (u8 c)) (s.map u8) = cut8 (u8 c) (s.map u8) := qbO _ _
  have h4 : ([c].map fun n => UInt8.ofNat n.toNat) = [u8 c] := rfl
  have h5 : (s.map fun n => UInt8.ofNat n.toNat) = s.map u8 := rfl
  rw [h4, h5, h3] at h1
  rw [← qfg hc s hs, ← h1, List.map_map]
  rfl
theorem qer (c : Int) (s : List Int) : cutI c s ≠ [] := by
  cases s with
  | nil => simp [cutI]
  | cons x t =>
    unfold cutI
    split
    · simp
    · split <;> simp
theorem qaM {c : Int} : ∀ {s : List Int}, By s → ∀ l ∈ cutI c s, By l
  | [], _, l, hl => by simp [cutI] at hl; subst hl; exact fun x hx => by simp at hx
  | x :: t, h, l, hl => by
    have ht : By t := fun y hy => h y (List.mem_cons_of_mem _ hy)
    have hx := h x (List.mem_cons_self ..)
    unfold cutI at hl
    split at hl
    · rcases List.mem_cons.1 hl with rfl | hl
      · exact fun x hx => by simp at hx
      · exact qaM ht l hl
    · have ih := fun l hl => qaM (c := c) ht l hl
      cases he : cutI c t with
      | nil => exact absurd he (qer c t)
      | cons a r =>
        rw [he] at hl ih
        rcases List.mem_cons.1 hl with rfl | hl
        · intro y hy
          rcases List.mem_cons.1 hy with rfl | hy
          · exact hx
          · exact ih a (List.mem_cons_self ..) y hy
        · exact ih l (List.mem_cons_of_mem _ hl)
theorem qdp {c : Int} : ∀ (s : List Int), (cutI c s).length ≤ s.length + 1
  | [] => by simp [cutI]
  | x :: t => by
    have ih := qdp (c := c) t
    unfold cutI
    split
    · simp; omega
    · cases he : cutI c t with
      | nil => simp
      | cons a r => rw [he] at ih; simp at ih ⊢; omega
theorem qfh {c : Int} {a s : List Int} (h : c ∉ a) : cutI c (a ++ c :: s) = a :: cutI c s := by
  induction a with
  | nil => simp [cutI]
  | cons x t ih =>
    have h1 : ¬ x = c := fun e => h (by rw [e]; exact List.mem_cons_self ..)
    have ih := ih fun e => h (List.mem_cons_of_mem _ e)
    rw [List.cons_append, qeJ, if_neg h1, ih]
theorem qeK {c : Int} {a : List Int} (h : c ∉ a) : cutI c a = [a] := by
  induction a with
  | nil => rfl
  | cons x t ih =>
    have h1 : ¬ x = c := fun e => h (by rw [e]; exact List.mem_cons_self ..)
    have ih := ih fun e => h (List.mem_cons_of_mem _ e)
    unfold cutI
    rw [if_neg h1, ih]
theorem qap {c : Int} : ∀ (a : List Int), cutI c (a ++ [c]) = cutI c a ++ [[]]
  | [] => by simp [cutI]
  | x :: t => by
    have ih := qap (c := c) t
    rw [List.cons_append]
    by_cases e : x = c
    · unfold cutI
      rw [if_pos e, if_pos e, ih]
      rfl
    · unfold cutI
      rw [if_neg e, if_neg e, ih]
      cases he : cutI c t with
      | nil => exact absurd he (qer c t)
      | cons a r => rfl
def linesI : List Int → List (List Int)
  | [] => []
  | x :: t => if x = 10 then [] :: linesI t else match linesI t with | [] => [[x]] | h :: r => (x :: h) :: r
theorem jm (x : Int) (t : List Int) : linesI (x :: t) = if x = 10 then [] :: linesI t else match linesI t with | [] => [[x]] | h :: r => (x :: h) :: r := rfl
theorem qbD (x : Int) (t : List Int) : linesI (x :: t) ≠ [] := by
  unfold linesI
  split
  · simp
  · split <;> simp
theorem vY : ∀ (s : List Int), cutI 10 s = if s = [] ∨ s.getLast? = some 10 then linesI s ++ [[]] else linesI s
  | [] => rfl
  | [x] => by
    by_cases e : x = 10
    · subst e; rfl
    · simp [cutI, linesI, e]
  | x :: y :: t => by
    have ih := vY (y :: t)
    have hg : (x :: y :: t).getLast? = (y :: t).getLast? := by simp [List.getLast?_cons_cons]
    have h0 : (x :: y :: t = [] ∨ (x :: y :: t).getLast? = some 10) ↔ (y :: t = [] ∨ (y :: t).getLast? = some 10) := by rw [hg]; simp
    rw [show cutI 10 (x :: y :: t) = if x = 10 then [] :: cutI 10 (y :: t) else match cutI 10 (y :: t) with | [] => [[x]] | h :: r => (x :: h) :: r from rfl, ih,
      show linesI (x :: y :: t) = if x = 10 then [] :: linesI (y :: t) else match linesI (y :: t) with | [] => [[x]] | h :: r => (x :: h) :: r from rfl]
    have hne := qbD y t
    by_cases hq : y :: t = [] ∨ (y :: t).getLast? = some 10
    · rw [if_pos hq, if_pos (h0.2 hq)]
      by_cases e : x = 10
      · rw [if_pos e, if_pos e]; rfl
      · rw [if_neg e, if_neg e]
        cases he : linesI (y :: t) with
        | nil => exact absurd he hne
        | cons a r => rfl
    · rw [if_neg hq, if_neg (fun h => hq (h0.1 h))]
theorem qdv (a : List Int) : linesI (a ++ [10]) = cutI 10 a := by
  have h := vY (a ++ [10])
  rw [if_pos (Or.inr (by simp)), qap] at h
  exact (List.append_cancel_right h).symm
theorem qeO {s : List Int} (h : By s) : ∀ l ∈ linesI s, By l := fun l hl => by
  have h1 := vY s
  have h2 : l ∈ cutI 10 s := by rw [h1]; split <;> simp [hl]
  exact qaM h l h2
theorem qaS : ∀ (s : List Int), ∀ l ∈ linesI s, l.length ≤ s.length
  | [], l, h => by simp [linesI] at h
  | x :: t, l, h => by
    have ih := qaS t
    rw [jm] at h
    split at h
    · rcases List.mem_cons.1 h with rfl | h
      · simp
      · have := ih l h; simp; omega
    · cases he : linesI t with
      | nil => rw [he] at h; simp at h; subst h; simp
      | cons a r =>
        rw [he] at h ih
        rcases List.mem_cons.1 h with rfl | h
        · have := ih a (List.mem_cons_self ..); simp; omega
        · have := ih l (List.mem_cons_of_mem _ h); simp; omega
theorem qd5 {a s : List Int} (h : (10 : Int) ∉ a) : linesI (a ++ 10 :: s) = a :: linesI s := by
  induction a with
  | nil => simp [linesI]
  | cons x t ih =>
    have h1 : ¬ x = 10 := fun e => h (by rw [e]; exact List.mem_cons_self ..)
    have ih := ih fun e => h (List.mem_cons_of_mem _ e)
    rw [List.cons_append, jm, if_neg h1, ih]
theorem qfc {a b : ByteArray} (h : (a == b) = true) : a = b := by
  obtain ⟨x⟩ := a
  obtain ⟨y⟩ := b
  have h2 : (x == y) = true := h
  rw [beq_iff_eq.1 h2]
theorem qfb (a b : ByteArray) : (a == b) = decide (a = b) := by
  rw [← qcV]
  by_cases h : a = b
  · subst h; simp
  · rw [decide_eq_false h]
    rw [beq_eq_false_iff_ne]
    intro e
    have h2 := qcV a b
    rw [beq_iff_eq.2 e] at h2
    exact h (qfc h2.symm)
theorem bq {a b : List Int} (ha : By a) (hb : By b) : (bstr a == bstr b) = decide (a = b) := by
  rw [qfb]
  by_cases e : a = b
  · subst e; simp
  · rw [decide_eq_false e, decide_eq_false fun h => e (qfd ha hb h)]
theorem qhb : By [] := fun x hx => by simp at hx
theorem qcX {c : Int} (h : 0 ≤ c ∧ c < 256) : By [c] := fun y hy => by simp at hy; subst hy; exact h
theorem qdn {s : List Int} (h : By s) : (bstr s == bstr []) = decide (s = []) := bq h qhb
theorem qeW {F : Nat} {s : List Int} (h : By s) (hl : s.length ≤ 1000000000) : kp F s [10] = some (if s.getLast? = some 10 then s.dropLast else s) := by
  unfold kp zq zw
  rcases List.eq_nil_or_concat s with rfl | ⟨a, x, rfl⟩
  · simp [qG]
  · have hx := h x (by simp)
    rw [List.concat_eq_append] at *
    have hln : (a ++ [x]).length = a.length + 1 := by simp
    have e1 : isub .i64 (((a ++ [x]).length : Int)) (([10] : List Int).length : Int) = (a.length : Int) := by
      rw [qfp (by rw [hln]; simp) (by rw [hln] at hl ⊢; simp; omega)]
      simp
    have e2 : decide ((([10] : List Int).length : Int) ≤ ((a ++ [x]).length : Int)) = true := by simp; omega
    have e3 : sub (a ++ [x]) (a.length : Int) ((a ++ [x]).length : Int) = some [x] := by
      unfold sub
      rw [if_pos ⟨by omega, by omega, by omega⟩]
      simp only [Int.toNat_natCast, hln]
      rw [List.take_of_length_le (by rw [hln]; omega)]
      simp
    have e4 : sub (a ++ [x]) 0 (a.length : Int) = some a := by
      unfold sub
      rw [if_pos ⟨by omega, by omega, by omega⟩]
      simp
    have e5 : (bstr [x] == bstr [10]) = decide (x = 10) := by
      rw [bq (qcX hx) (qcX (by decide))]
      simp
    rw [e1, e2, e3]
    simp only [if_true, Option.bind_some, qG, e5, e4]
    by_cases e : x = 10
    · simp [e]
    · simp [e]
theorem qft {F : Nat} {s : List Int} (h : By s) (hl : s.length ≤ 1000000000) : vG F s = some (linesI s) := by
  unfold vG
  rw [qdn h]
  by_cases e : s = []
  · subst e; rfl
  · rw [qeW h hl]
    simp only [e, decide_false, Bool.false_eq_true, if_false, Option.bind_some]
    by_cases h10 : s.getLast? = some 10
    · rw [if_pos h10]
      rcases List.eq_nil_or_concat s with rfl | ⟨a, x, rfl⟩
      · exact absurd rfl e
      · have hx : x = 10 := by simpa using h10
        subst hx
        have ha : By a := fun y hy => h y (by simp [hy])
        simp only [List.concat_eq_append, List.dropLast_concat]
        rw [qbQ (by decide) ha (by simp at hl; omega), Option.bind_some, qdv]
    · rw [if_neg h10, qbQ (by decide) h (by omega), Option.bind_some]
      have := vY s
      rw [if_neg (fun hq => by rcases hq with hq | hq; exact e hq; exact h10 hq)] at this
      rw [this]
def ne0 (w : List Int) : Bool := decide (w ≠ [])
def wordsI (s : List Int) : List (List Int) := (cutI 32 s).filter ne0
def hsh (ws : List (List Int)) : Bool := match ws with | (x :: _) :: _ => decide (x = 35) | _ => false
def wdsI (s : List Int) : List (List Int) := if hsh (wordsI s) then [] else wordsI s
theorem qcF {s : List Int} (h : By s) : ∀ w ∈ wordsI s, By w ∧ w ≠ [] := fun w hw => by
  obtain ⟨h1, h2⟩ := List.mem_filter.1 hw
  exact ⟨qaM h w h1, by simpa [ne0] using h2⟩
theorem qg0 {s : List Int} (h : By s) : ∀ w ∈ wdsI s, By w ∧ w ≠ [] := fun w hw => by
  unfold wdsI at hw
  split at hw
  · simp at hw
  · exact qcF h w hw
theorem qhm {F : Nat} {ws : List (List Int)} (h : ∀ w ∈ ws, By w ∧ w ≠ []) : kK F ws = some (if hsh ws then [] else ws) := by
  unfold kK
  cases ws with
  | nil => rfl
  | cons w r =>
    obtain ⟨h1, h2⟩ := h w (List.mem_cons_self ..)
    cases w with
    | nil => exact absurd rfl h2
    | cons x t =>
      have hx := h1 x (List.mem_cons_self ..)
      rw [if_pos (by simp)]
      simp only [show idx ((x :: t) :: r) 0 = some (x :: t) from rfl, show idx (x :: t) 0 = some x from rfl, Option.bind_some, yr, qae hx.1 hx.2, hsh]
      by_cases e : x = 35
      · simp [e]
      · simp [e]
theorem qgi {F : Nat} {L : List (List Int)} (hb : ∀ l ∈ L, By l) (hm : L.length ≤ 1000000000) : ∀ (k i : Nat) (acc : List (List Int)), L.length < k + i → i ≤ L.length → acc.length ≤ i →
    zC F L k (acc, (i : Int)) = kK F (acc ++ (L.drop i).filter ne0)
  | 0, _, _, _, _, _ => by omega
  | k + 1, i, acc, h, hi, ha => by
    show k9 F L (zC F L k) acc (i : Int) = _
    unfold k9
    by_cases hlt : i < L.length
    · rw [if_pos (by simp; omega), yc, List.getElem?_eq_getElem hlt, List.drop_eq_getElem_cons hlt]
      simp only [Option.bind_some]
      have hl := hb L[i] (List.getElem_mem hlt)
      rw [qdn hl]
      unfold ya
      by_cases e : L[i] = []
      · rw [List.filter_cons_of_neg (by simp [ne0, e])]
        simp only [e, decide_true, Bool.not_true, Bool.false_eq_true, if_false]
        rw [yb (by omega)]
        exact qgi hb hm k (i + 1) acc (by omega) (by omega) (by omega)
      · rw [List.filter_cons_of_pos (by simp [ne0, e])]
        simp only [e, decide_false, Bool.not_false, if_true]
        rw [yZ (by simp; omega), Option.bind_some]
        rw [yb (by omega), qgi hb hm k (i + 1) (acc ++ [L[i]]) (by omega) (by omega) (by simp; omega), List.append_assoc]
        rfl
    · rw [if_neg (by simp; omega), List.drop_eq_nil_of_le (by omega)]
      simp
theorem qgj {F : Nat} {s : List Int} (h : By s) (hl : s.length ≤ 900000000) (hF : s.length + 1 < F) : vH F s = some (wdsI s) := by
  unfold vH
  rw [qbQ (by decide) h (by omega), Option.bind_some]
  have hlen := qdp (c := 32) s
  have := qgi (F := F) (L := cutI 32 s) (qaM h) (by omega) F 0 [] (by omega) (by omega) (by simp)
  rw [show (((0 : Nat) : Int)) = 0 from rfl, List.drop_zero, List.nil_append] at this
  rw [this]
  exact qhm (qcF h)
def dgt (x : Int) : Bool := decide (48 ≤ x ∧ x ≤ 57)
def valI (n : Int) : List Int → Int
  | [] => n
  | x :: t => valI (10 * n + (x - 48)) t
def numI (w : List Int) : Int := if w.length ≤ 6 ∧ w.all dgt = true then valI 0 w else -1
theorem qd0 {α : Type} {p : α → Bool} : ∀ {l : List α}, l.dropWhile p = [] ↔ ∀ x ∈ l, p x = true
  | [] => by simp
  | x :: t => by
    rw [List.dropWhile_cons]
    by_cases h : p x = true
    · rw [if_pos h, qd0 (l := t)]
      simp [h]
    · rw [if_neg h]
      simp [h]
theorem qgf {α : Type} {p : α → Bool} {x : α} : ∀ {l : List α}, x ∈ l.takeWhile p → p x = true
  | [], h => by simp at h
  | y :: t, h => by
    rw [List.takeWhile_cons] at h
    by_cases hy : p y = true
    · rw [if_pos hy] at h
      rcases List.mem_cons.1 h with rfl | h
      · exact hy
      · exact qgf h
    · rw [if_neg hy] at h
      simp at h
theorem qge (l cs : List UInt8) : (Lib.trimS l cs = []) ↔ l.all (fun x => cs.contains x) = true := by
  unfold Lib.trimS Lib.trimLeftS Lib.trimRightS
  constructor
  · intro h
    rw [qd0] at h
    rw [List.all_eq_true]
    intro x hx
    by_cases hc : cs.contains x = true
    · exact hc
    · have hm : x ∈ l.reverse.dropWhile (cs.contains ·) := by
        have h1 : x ∈ l.reverse := List.mem_reverse.2 hx
        rw [← List.takeWhile_append_dropWhile (p := (cs.contains ·)) (l := l.reverse)] at h1
        rcases List.mem_append.1 h1 with h1 | h1
        · exact absurd (qgf h1) hc
        · exact h1
      exact h x (List.mem_reverse.2 hm)
  · intro h
    have h1 : l.reverse.dropWhile (cs.contains ·) = [] := by
      rw [qd0]
      intro x hx
      exact List.all_eq_true.1 h x (List.mem_reverse.1 hx)
    rw [h1]
    rfl
theorem qhc {x : Int} (hx : 0 ≤ x ∧ x < 256) : (([48, 49, 50, 51, 52, 53, 54, 55, 56, 57] : List Int).map u8).contains (u8 x) = dgt x := by
  have h1 : ∀ y : Int, 0 ≤ y → y < 256 → (u8 x = u8 y ↔ x = y) := fun y h0 h1 => qgg hx ⟨h0, h1⟩
  rw [Bool.eq_iff_iff]
  simp only [List.contains_iff_mem, List.map_cons, List.map_nil, List.mem_cons, List.not_mem_nil, or_false, dgt, decide_eq_true_eq]
  rw [h1 48 (by decide) (by decide), h1 49 (by decide) (by decide), h1 50 (by decide) (by decide), h1 51 (by decide) (by decide), h1 52 (by decide) (by decide), h1 53 (by decide) (by decide), h1 54 (by decide) (by decide), h1 55 (by decide) (by decide), h1 56 (by decide) (by decide), h1 57 (by decide) (by decide)]
  omega
theorem qgd {w : List Int} (h : By w) (hl : w.length ≤ 1000) : ∃ y, trimM w [48, 49, 50, 51, 52, 53, 54, 55, 56, 57] = some y ∧ (!(bstr y == bstr [])) = !(w.all dgt) := by
  unfold trimM
  rw [if_pos ⟨by decide, by decide, by decide, by omega⟩]
  refine ⟨_, rfl, ?_⟩
  rw [jP, qfb]
  congr 1
  rw [Bool.eq_iff_iff, decide_eq_true_eq]
  have h1 : ∀ l : List UInt8, (({ data := l.toArray } : ByteArray) = bstr []) ↔ l = [] := fun l => by
    constructor
    · intro e
      have := congrArg (fun b => b.data.toList) e
      simpa [qY] using this
    · rintro rfl; rfl
  rw [h1, qge, qY, qY, List.all_map]
  rw [← Bool.eq_iff_iff]
  rw [Bool.eq_iff_iff, List.all_eq_true, List.all_eq_true]
  refine forall₂_congr fun x hx => ?_
  rw [← qhc (h x hx)]
  rfl
theorem qes : ∀ (w : List Int) (n : Nat), w.all dgt = true → Lib.decFrom n (w.map u8) = some (valI n w).toNat
  | [], n, _ => by simp [Lib.decFrom, valI]
  | x :: t, n, hd => by
    rw [List.all_cons, Bool.and_eq_true] at hd
    obtain ⟨hx, ht⟩ := hd
    have hx : 48 ≤ x ∧ x ≤ 57 := by simpa [dgt] using hx
    have h1 : ((u8 x).toNat : Int) = x := qae (by omega) (by omega)
    rw [List.map_cons]
    unfold Lib.decFrom Lib.digitVal
    rw [if_pos (by omega)]
    show Lib.decFrom (n * 10 + ((u8 x).toNat - 48)) (t.map u8) = _
    rw [qes t _ ht]
    show _ = some (valI (10 * (n : Int) + (x - 48)) t).toNat
    congr 3
    omega
theorem qeD : ∀ (w : List Int) (n : Int), w.all dgt = true → 0 ≤ n → 0 ≤ valI n w
  | [], _, _, h => h
  | x :: t, n, hd, h => by
    rw [List.all_cons, Bool.and_eq_true] at hd
    have hx : 48 ≤ x ∧ x ≤ 57 := by simpa [dgt] using hd.1
    exact qeD t _ hd.2 (by omega)
theorem qfa {w : List Int} (hd : w.all dgt = true) (h0 : w ≠ []) (hl : w.length ≤ 6) : atoiM w = some (valI 0 w) := by
  unfold atoiM
  rw [if_pos (by omega), qY]
  cases w with
  | nil => exact absurd rfl h0
  | cons x t =>
    have hx : 48 ≤ x ∧ x ≤ 57 := by
      rw [List.all_cons, Bool.and_eq_true] at hd
      simpa [dgt] using hd.1
    have h1 : ((u8 x).toNat : Int) = x := qae (by omega) (by omega)
    have n45 : ¬ u8 x = 45 := fun e => by rw [e] at h1; simp at h1; omega
    have n43 : ¬ u8 x = 43 := fun e => by rw [e] at h1; simp at h1; omega
    have hv := qes (x :: t) 0 hd
    have hnn := qeD (x :: t) 0 hd (by decide)
    show Lib.atoi (u8 x :: t.map u8) = _
    unfold Lib.atoi Lib.decNat
    simp only [beq_iff_eq, n45, n43, if_false]
    rw [List.map_cons] at hv
    simp only [List.isEmpty_cons, Bool.false_eq_true, if_false, hv, Option.map_some]
    congr 1
    rw [show (((0 : Nat) : Int)) = 0 from rfl]
    omega
theorem qa4 {F : Nat} {w : List Int} (h : By w) (h0 : w ≠ []) : zu F w = some (numI w) := by
  unfold zu
  by_cases hl : w.length ≤ 6
  · rw [if_neg (by simp; omega)]
    obtain ⟨y, e1, e2⟩ := qgd h (by omega)
    rw [e1, Option.bind_some, e2]
    unfold kx numI
    cases hd : w.all dgt with
    | false => simp
    | true => simp [qfa hd h0 hl, hl]
  · rw [if_pos (by simp; omega)]
    unfold kx numI
    rw [if_pos rfl, if_neg (by omega)]
def stepI (n : Int) (A : List (Int × Int)) (ws : List (List Int)) : Int × Int × List (Int × Int) :=
  if n < 0 then
    match ws with
    | [w] => if numI w < 0 then (1, n, A) else if 100 < numI w then (3, n, A) else (0, numI w, A)
    | _ => (1, n, A)
  else
    match ws with
    | [u, v] => if numI u < 0 ∨ numI v < 0 then (1, n, A) else if n ≤ numI u ∨ n ≤ numI v then (3, n, A) else if (numI u, numI v) ∈ A then (6, n, A) else if A.length = 600 then (2, n, A) else (0, n, A ++ [(numI u, numI v)])
    | _ => (1, n, A)
def goI : List (List Int) → Int → Int → List (Int × Int) → (Int × Int) ⊕ (Int × List (Int × Int))
  | [], _, n, A => .inr (n, A)
  | l :: L, i, n, A => if wdsI l = [] then goI L (i + 1) n A else if (stepI n A (wdsI l)).1 ≠ 0 then .inl (i + 1, (stepI n A (wdsI l)).1) else goI L (i + 1) (stepI n A (wdsI l)).2.1 (stepI n A (wdsI l)).2.2
def endI (n : Int) (A : List (Int × Int)) : List (List Int) × Int × Int := if n < 0 then ([], 0, 5) else ((ofM n A).1, 0, (ofM n A).2)
def outI : (Int × Int) ⊕ (Int × List (Int × Int)) → List (List Int) × Int × Int := Sum.elim (fun p => ([], p.1, p.2)) (fun q => endI q.1 q.2)
def parseI (s : List Int) : List (List Int) × Int × Int := if 20000 < s.length ∨ 1000 < (linesI s).length then ([], 0, 2) else outI (goI (linesI s) 0 (-1) [])
theorem qgz {F : Nat} {n : Int} {A : List (Int × Int)} {ws : List (List Int)} (hn : n < 0) (h : ∀ w ∈ ws, By w ∧ w ≠ []) :
    kC F n A A ws = some ((stepI n A ws).1, (stepI n A ws).2.1, (stepI n A ws).2.2, (stepI n A ws).2.2) := by
  unfold kC kb stepI
  rw [if_pos hn]
  match ws, h with
  | [], _ => simp
  | [w], h =>
    obtain ⟨h1, h2⟩ := h w (List.mem_cons_self ..)
    simp only [show idx [w] 0 = some w from rfl, Option.bind_some, qa4 h1 h2]
    by_cases e1 : numI w < 0
    · simp [e1]
    · by_cases e2 : 100 < numI w
      · simp [e1, e2]
      · simp [e1, e2]
  | _ :: _ :: r, _ =>
    rw [if_pos (by simp; omega)]
    simp
theorem qfG {A : List (Int × Int)} {p : Int × Int} (h : p ∉ A) : sins A p = some (A ++ [p]) := by unfold sins; rw [if_neg h]
theorem qfz {F : Nat} {n : Int} {A : List (Int × Int)} {ws : List (List Int)} (hA : A.length ≤ 600) (h : ∀ w ∈ ws, By w ∧ w ≠ []) :
    kD F n A A ws = some ((stepI n A ws).1, (stepI n A ws).2.1, (stepI n A ws).2.2, (stepI n A ws).2.2) := by
  unfold kD
  by_cases hn : n < 0
  · rw [if_pos (by simpa using hn), qgz hn h]
    rfl
  · rw [if_neg (by simpa using hn)]
    unfold stepI
    rw [if_neg hn]
    match ws, h with
    | [], _ => simp
    | [w], _ => simp
    | [u, v], h =>
      obtain ⟨u1, u2⟩ := h u (by simp)
      obtain ⟨v1, v2⟩ := h v (by simp)
      simp only [show idx [u, v] 0 = some u from rfl, show idx [u, v] 1 = some v from rfl, Option.bind_some, qa4 u1 u2, qa4 v1 v2]
      rw [if_neg (by simp)]
      unfold zA kd ke
      by_cases e1 : numI u < 0
      · simp [e1]
      by_cases e2 : numI v < 0
      · simp [e1, e2]
      by_cases e3 : n ≤ numI u
      · simp [e1, e2, e3]
      by_cases e4 : n ≤ numI v
      · simp [e1, e2, e3, e4]
      by_cases e5 : (numI u, numI v) ∈ A
      · simp [e1, e2, e3, e4, e5]
      by_cases e6 : A.length = 600
      · simp [e1, e2, e3, e4, e5, e6]
      · have e7 : ¬ ((A.length : Int) = 600) := by omega
        simp only [e1, e2, e3, e4, e5, e6, e7, decide_false, Bool.or_false, Bool.false_eq_true, if_false, or_self, beq_iff_eq, yZ (show A.length + [(numI u, numI v)].length ≤ 4398046511104 by simp; omega), qfG e5, Option.bind_some]
    | _ :: _ :: _ :: r, _ =>
      rw [if_pos (by simp; omega)]
theorem qfK {n : Int} {A : List (Int × Int)} {ws : List (List Int)} (hA : A.length ≤ 600) : (stepI n A ws).2.2.length ≤ 600 := by
  unfold stepI
  split
  · split
    · split
      · exact hA
      · split <;> exact hA
    · exact hA
  · split
    · split
      · exact hA
      · split
        · exact hA
        · split
          · exact hA
          · split
            · exact hA
            · simp; omega
    · exact hA
theorem qc9 {F : Nat} {L : List (List Int)} (hF : 1000 ≤ F) (hb : ∀ l ∈ L, By l ∧ l.length ≤ 900000000 ∧ l.length + 1 < F) (hm : L.length ≤ 1000) : ∀ (k i : Nat) (n : Int) (A : List (Int × Int)), L.length < k + i → i ≤ L.length → A.length ≤ 600 →
    zO F L k ((i : Int), n, A, A) = some (outI (goI (L.drop i) i n A))
  | 0, _, _, _, _, _, _ => by omega
  | k + 1, i, n, A, h, hi, hA => by
    show yp F L (zO F L k) (i : Int) n A A = _
    unfold yp
    by_cases hlt : i < L.length
    · rw [if_pos (by simp; omega), yc, List.getElem?_eq_getElem hlt, List.drop_eq_getElem_cons hlt]
      obtain ⟨b1, b2, b3⟩ := hb L[i] (List.getElem_mem hlt)
      simp only [Option.bind_some, qgj b1 b2 b3]
      unfold k8 goI
      rw [yb (by omega)]
      by_cases e : wdsI L[i] = []
      · rw [if_pos (by simp [e]), if_pos e, qc9 hF hb hm k (i + 1) n A (by omega) (by omega) hA]
        rfl
      · have hl : (wdsI L[i]).length ≠ 0 := fun h => e (List.length_eq_zero_iff.1 h)
        rw [if_neg (by simp; exact e), if_neg e, qfz hA (qg0 b1)]
        simp only [Option.bind_some]
        by_cases e2 : (stepI n A (wdsI L[i])).1 = 0
        · rw [if_neg (by simp [e2]), if_neg (by simp [e2]), qc9 hF hb hm k (i + 1) _ _ (by omega) (by omega) (qfK hA)]
          rfl
        · rw [if_pos (by simpa using e2), if_pos e2]
          rfl
    · rw [if_neg (by simp; omega), List.drop_eq_nil_of_le (by omega)]
      unfold vB yq
      show _ = some (endI n A)
      unfold endI
      by_cases e : n < 0
      · rw [if_pos (by simpa using e), if_pos e]
      · rw [if_neg (by simpa using e), if_neg e, qhr hF]
        rfl
theorem v6 {F : Nat} {s : List Int} (h : By s) (hl : s.length ≤ 900000000) (hF : 100000 ≤ F) : qM F s = some (parseI s) := by
  unfold qM
  rw [qft h (by omega), Option.bind_some]
  unfold parseI
  by_cases e : 20000 < s.length ∨ 1000 < (linesI s).length
  · rw [if_pos (by simp only [Bool.or_eq_true, decide_eq_true_eq]; omega), if_pos e]
  · rw [if_neg (by simp only [Bool.or_eq_true, decide_eq_true_eq]; omega), if_neg e]
    have hsh : ∀ l ∈ linesI s, l.length ≤ s.length := qaS s
    have := qc9 (F := F) (L := linesI s) (by omega) (fun l hl => ⟨qeO h l hl, by have := hsh l hl; omega, by have := hsh l hl; omega⟩) (by omega) F 0 (-1) [] (by omega) (by omega) (by simp)
    rw [List.drop_zero] at this
    exact this
def InvI (n : Int) (A : List (Int × Int)) : Prop := (n < 0 ∧ A = []) ∨ (0 ≤ n ∧ n ≤ 100 ∧ InR n.toNat A ∧ A.Nodup ∧ A.length ≤ 600)
theorem qg5 : InvI (-1) [] := .inl ⟨by decide, rfl⟩
theorem qfJ {n : Int} {A : List (Int × Int)} {ws : List (List Int)} (h : InvI n A) (h0 : (stepI n A ws).1 = 0) : InvI (stepI n A ws).2.1 (stepI n A ws).2.2 := by
  unfold stepI at h0 ⊢
  rcases h with ⟨hn, rfl⟩ | ⟨hn, hn2, hr, hnd, hlen⟩
  · rw [if_pos hn] at h0 ⊢
    match ws, h0 with
    | [], h0 => simp at h0
    | [w], h0 =>
      simp only at h0 ⊢
      by_cases e1 : numI w < 0
      · simp [e1] at h0
      · by_cases e2 : 100 < numI w
        · simp [e1, e2] at h0
        · simp only [e1, e2, if_false]
          exact .inr ⟨by omega, by omega, fun p hp => by simp at hp, List.nodup_nil, by simp⟩
    | _ :: _ :: r, h0 => simp at h0
  · rw [if_neg (by omega)] at h0 ⊢
    match ws, h0 with
    | [], h0 => simp at h0
    | [w], h0 => simp at h0
    | [u, v], h0 =>
      simp only at h0 ⊢
      by_cases e1 : numI u < 0 ∨ numI v < 0
      · simp [e1] at h0
      by_cases e2 : n ≤ numI u ∨ n ≤ numI v
      · simp [e1, e2] at h0
      by_cases e3 : (numI u, numI v) ∈ A
      · simp [e1, e2, e3] at h0
      by_cases e4 : A.length = 600
      · simp [e1, e2, e3, e4] at h0
      · simp only [e1, e2, e3, e4, if_false]
        refine .inr ⟨hn, hn2, fun p hp => ?_, ?_, by simp; omega⟩
        · rcases List.mem_append.1 hp with hp | hp
          · exact hr p hp
          · simp at hp
            subst hp
            simp only
            omega
        · rw [List.nodup_append]
          exact ⟨hnd, by simp, fun a ha b hb => by simp at hb; subst hb; exact fun e => e3 (e ▸ ha)⟩
    | _ :: _ :: _ :: r, h0 => simp at h0
theorem qhd {n : Int} {A : List (Int × Int)} (h : InvI n A) (hn : 0 ≤ n) : ofM n A = (tab n.toNat (srtA A), 0) := by
  rcases h with ⟨h1, _⟩ | ⟨h1, h2, h3, h4, h5⟩
  · omega
  · have := qew (n := n.toNat) (by omega) h5 h3 h4
    rw [Int.toNat_of_nonneg hn] at this
    exact this
theorem qc5 : ∀ {L : List (List Int)} {i n : Int} {A : List (Int × Int)} {q : Int × List (Int × Int)}, InvI n A → goI L i n A = .inr q → InvI q.1 q.2
  | [], i, n, A, q, h, hg => by simp [goI] at hg; subst hg; exact h
  | l :: L, i, n, A, q, h, hg => by
    unfold goI at hg
    split at hg
    · exact qc5 h hg
    · split at hg
      · simp at hg
      · rename_i h0
        exact qc5 (qfJ h (by simpa using h0)) hg
theorem qdu {a : List Int} (h : (10 : Int) ∉ a) (h0 : a ≠ []) : linesI a = [a] := by
  have h1 := vY a
  rw [qeK h, if_neg (by
    intro h2
    rcases h2 with h2 | h2
    · exact h0 h2
    · exact h (List.mem_of_getLast? h2))] at h1
  exact h1.symm
def dcI (n : Int) : List Int := if n < 10 then [48 + n] else if n < 100 then [48 + n / 10, 48 + n % 10] else [48 + n / 100, 48 + n / 10 % 10, 48 + n % 10]
theorem qc0 {n : Int} (h : 0 ≤ n ∧ n < 1000) : By (dcI n) := fun x hx => by
  unfold dcI at hx
  split at hx
  · simp at hx; omega
  · split at hx
    · simp at hx; omega
    · simp at hx; omega
theorem qaN (n : Int) : 1 ≤ (dcI n).length ∧ (dcI n).length ≤ 3 := by
  unfold dcI
  split
  · simp
  · split <;> simp
theorem dg1 {u : Nat} (h : u < 10) : Lib.decDigits u = [UInt8.ofNat (48 + u)] := by
  unfold Lib.decDigits
  rw [dif_pos h]
theorem dg2 {u : Nat} (h : ¬ u < 10) : Lib.decDigits u = Lib.decDigits (u / 10) ++ [UInt8.ofNat (48 + u % 10)] := by
  rw [Lib.decDigits, dif_neg h]
theorem qdR {u : Nat} (h : u < 10) : toI [UInt8.ofNat (48 + u)] = [48 + (u : Int)] := by
  have : ((48 + u) % 256 : Nat) = 48 + u := by omega
  simp [toI, this]
theorem qeC (a b : List UInt8) : toI (a ++ b) = toI a ++ toI b := by simp [toI]
theorem qhp {n : Int} (h : 0 ≤ n ∧ n < 1000) : toI (Lib.decDigits n.toNat) = dcI n := by
  unfold dcI
  by_cases h1 : n < 10
  · rw [if_pos h1, dg1 (by omega), qdR (by omega)]
    congr 1; omega
  · rw [if_neg h1, dg2 (by omega), qeC, qdR (by omega)]
    by_cases h2 : n < 100
    · rw [if_pos h2, dg1 (by omega), qdR (by omega)]
      simp only [List.cons_append, List.nil_append, List.cons.injEq, and_true]
      omega
    · rw [if_neg h2, dg2 (by omega), qeC, qdR (by omega), dg1 (by omega), qdR (by omega)]
      simp only [List.cons_append, List.nil_append, List.cons.injEq, and_true]
      omega
theorem qc6 {n : Int} (h : 0 ≤ n ∧ n < 1000) : itoaB n = some (dcI n) := by
  unfold itoaB
  rw [if_pos h, ← qhp h]
  unfold Lib.itoa
  rw [if_neg (by omega)]
  rfl
def arcI (p : Int × Int) : List Int := dcI p.1 ++ 32 :: (dcI p.2 ++ [10])
def txtI (n : Int) (A : List (Int × Int)) : List Int := dcI n ++ 10 :: A.flatMap arcI
def Sml (A : List (Int × Int)) : Prop := ∀ p ∈ A, (0 ≤ p.1 ∧ p.1 < 1000) ∧ (0 ≤ p.2 ∧ p.2 < 1000)
theorem qa2 {a b : List Int} (ha : By a) (hb : By b) : By (a ++ b) := fun x hx => by
  rcases List.mem_append.1 hx with h | h
  · exact ha x h
  · exact hb x h
theorem qaL {x : Int} {b : List Int} (ha : 0 ≤ x ∧ x < 256) (hb : By b) : By (x :: b) := fun y hy => by
  rcases List.mem_cons.1 hy with rfl | h
  · exact ha
  · exact hb y h
theorem qem {p : Int × Int} (h : (0 ≤ p.1 ∧ p.1 < 1000) ∧ (0 ≤ p.2 ∧ p.2 < 1000)) : By (arcI p) := qa2 (qc0 h.1) (qaL (by decide) (qa2 (qc0 h.2) (qcX (by decide))))
theorem qdl (p : Int × Int) : (arcI p).length ≤ 8 := by
  have h1 := qaN p.1
  have h2 := qaN p.2
  unfold arcI
  simp
  omega
theorem qgv {A : List (Int × Int)} (h : Sml A) : By (A.flatMap arcI) := fun x hx => by
  obtain ⟨p, hp, hx⟩ := List.mem_flatMap.1 hx
  exact qem (h p hp) x hx
theorem qgZ {n : Int} {A : List (Int × Int)} (hn : 0 ≤ n ∧ n < 1000) (h : Sml A) : By (txtI n A) := qa2 (qc0 hn) (qaL (by decide) (qgv h))
theorem qfu {a : List Int} (h : By a) : a.map b8 = a := by
  conv => rhs; rw [← List.map_id a]
  exact List.map_congr_left fun x hx => qae (h x hx).1 (h x hx).2
theorem qgD {F : Nat} {acc : List Int} {p : Int × Int} (h : (0 ≤ p.1 ∧ p.1 < 1000) ∧ (0 ≤ p.2 ∧ p.2 < 1000)) (ha : acc.length ≤ 1000000) : kJ F acc p.1 p.2 = some (.inl (acc ++ arcI p)) := by
  unfold kJ
  have h1 := qaN p.1
  have h2 := qaN p.2
  rw [qc6 h.1, qc6 h.2]
  simp only [Option.bind_some]
  rw [yZ (by simp; omega), Option.bind_some, yZ (by simp; omega), Option.bind_some, yZ (by simp; omega), Option.bind_some]
  have e : dcI p.1 ++ [32] ++ dcI p.2 ++ [10] = arcI p := by simp [arcI]
  rw [e, qfu (qem h), yZ (by have := qdl p; omega), Option.bind_some]
theorem qbH {F : Nat} {yy : List Int → (Int × Int) → Option (List Int ⊕ Empty)} (hy : ∀ s p, yy s p = kJ F s p.1 p.2) : ∀ (L : List (Int × Int)) (acc : List Int), Sml L → acc.length + 8 * L.length ≤ 1000000 → kE yy L acc = some (.inl (acc ++ L.flatMap arcI))
  | [], acc, _, _ => by simp [kE]
  | p :: L, acc, h, hl => by
    have hp := qdl p
    rw [List.length_cons] at hl
    show (yy acc p).bind _ = _
    rw [hy, qgD (h p (List.mem_cons_self ..)) (by omega)]
    show kE yy L (acc ++ arcI p) = _
    rw [qbH hy L (acc ++ arcI p) (fun q hq => h q (List.mem_cons_of_mem _ hq)) (by simp; omega), List.append_assoc]
    rfl
theorem qfH {g : List (List Int)} (h : Gr g) : Sml (af 0 g) := fun p hp => by
  have := qg3 h p hp
  have h1 := h.1
  omega
theorem qfA {F : Nat} {g : List (List Int)} (hF : 1000 ≤ F) : kB F g = some (if gchk g ≠ 0 then ([], gchk g) else (txtI g.length (af 0 g), 0)) := by
  unfold kB
  rw [qcg hF, Option.bind_some]
  by_cases e : gchk g = 0
  · rw [if_neg (by simp [e]), if_neg (by simp [e])]
    have hg := qet.1 e
    have h1 := hg.1
    have hn : (0 : Int) ≤ (g.length : Int) ∧ (g.length : Int) < 1000 := by omega
    have hd := qaN (g.length : Int)
    rw [qc6 hn, Option.bind_some, yZ (by simp; omega), Option.bind_some]
    have hby : By (dcI (g.length : Int) ++ [10]) := qa2 (qc0 hn) (qcX (by decide))
    rw [qfu hby, yZ (by simp; omega), Option.bind_some]
    show ((zV F _ g _).bind _) = _
    rw [qha (by omega) (by omega) (fun l hl => by have := qhe hg hl; omega), qbH (F := F) (fun _ _ => rfl) _ _ (qfH hg) (by have := qfn hg; simp; omega)]
    simp only [Option.bind_some, Sum.elim_inl]
    have e2 : [] ++ (dcI (g.length : Int) ++ [10]) ++ (af 0 g).flatMap arcI = txtI (g.length : Int) (af 0 g) := by simp [txtI]
    rw [e2]
    unfold bstrM
    rw [if_pos ⟨by simp [txtI], by rw [List.all_eq_true]; exact fun x hx => decide_eq_true (qgZ hn (qfH hg) x hx)⟩]
    rfl
  · rw [if_pos (by simpa using e), if_pos e]
theorem qeL {g : List (List Int)} {A : List (Int × Int)} (h : Gr g) (hp : A.Perm (af 0 g)) : endI g.length A = (g, 0, 0) := by
  have hl := hp.length_eq
  have h600 := qfn h
  have hnd : A.Nodup := hp.nodup_iff.2 (qfo h)
  have e := qew (n := g.length) (l := A) h.1 (by omega) (fun p hq => qg3 h p (hp.mem_iff.1 hq)) hnd
  unfold endI
  rw [if_neg (by omega), e, qgy h (qeV hnd) fun p => hp.mem_iff]
theorem qhh {n : Int} {A : List (Int × Int)} : Sm (endI n A).1 := by
  unfold endI
  split
  · exact qa7
  · exact qhu
theorem qdF (s : List Int) : Sm (parseI s).1 := by
  unfold parseI
  split
  · exact qa7
  · unfold outI
    cases goI (linesI s) 0 (-1) [] with
    | inl p => exact qa7
    | inr q => exact qhh
theorem qgr (a : List Int) : (bstr a == bstr a) = true := by rw [qfb]; simp
def g01 : List (List Int) := [[1], [0]]
theorem qfj : gchk g01 = 0 := by decide
theorem tb1 : parseI [35, 32, 116, 119, 111, 10, 32, 50, 32, 10, 10, 49, 32, 48, 10, 48, 32, 32, 49] = (g01, 0, 0) := by
  have e : goI (linesI [35, 32, 116, 119, 111, 10, 32, 50, 32, 10, 10, 49, 32, 48, 10, 48, 32, 32, 49]) 0 (-1) [] = .inr (2, [(1, 0), (0, 1)]) := by decide +kernel
  unfold parseI
  rw [if_neg (by decide), e]
  have h : Gr g01 := qet.1 qfj
  exact qeL (g := g01) h (List.Perm.swap _ _ _)
theorem tb2 : parseI [50, 10, 48, 32, 48, 10, 48, 32, 48, 48, 10] = ([], 3, 6) := by
  have e : goI (linesI [50, 10, 48, 32, 48, 10, 48, 32, 48, 48, 10]) 0 (-1) [] = .inl (3, 6) := by decide +kernel
  unfold parseI
  rw [if_neg (by decide), e]
  rfl
theorem tb3 : parseI [50, 10, 48, 32, 50] = ([], 2, 3) := by
  have e : goI (linesI [50, 10, 48, 32, 50]) 0 (-1) [] = .inl (2, 3) := by decide +kernel
  unfold parseI
  rw [if_neg (by decide), e]
  rfl
theorem tb4 : parseI [35] = ([], 0, 5) := by
  have e : goI (linesI [35]) 0 (-1) [] = .inr (-1, []) := by decide +kernel
  unfold parseI
  rw [if_neg (by decide), e]
  rfl
theorem tb5 : txtI ((g01.length : Nat) : Int) (af 0 g01) = [50, 10, 48, 32, 49, 10, 49, 32, 48, 10] := by decide +kernel
theorem tbegun {F : Nat} (hF : 100000 ≤ F) : zT F = some true := by
  unfold zT
  rw [v6 (by unfold By; decide) (by decide) hF, v6 (by unfold By; decide) (by decide) hF, v6 (by unfold By; decide) (by decide) hF, v6 (by unfold By; decide) (by decide) hF]
  simp only [Option.bind_some, tb1, tb2, tb3, tb4]
  rw [qfA (by omega), if_neg (by rw [qfj]; decide), tb5]
  simp only [Option.bind_some]
  rw [show ([([1] : List Int), ([0] : List Int)] : List (List Int)) = g01 from rfl, qbM (by show 2 < F; omega) (by decide) (fun r hr => by simp [g01] at hr; rcases hr with rfl | rfl <;> simp <;> omega)]
  simp only [Option.bind_some, if_true]
  unfold kY
  rw [qgr]
  rfl
theorem qc2 : ∀ {L : List (List Int)} {i n : Int} {A : List (Int × Int)} {p : Int × Int}, goI L i n A = .inl p → p.2 ≠ 0 ∧ i < p.1
  | [], i, n, A, p, h => by simp [goI] at h
  | l :: L, i, n, A, p, h => by
    unfold goI at h
    split at h
    · have := qc2 h; exact ⟨this.1, by omega⟩
    · split at h
      · rename_i h0
        simp only [Sum.inl.injEq] at h
        subst h
        exact ⟨h0, by simp; omega⟩
      · have := qc2 h; exact ⟨this.1, by omega⟩
theorem qfm : ∀ {L : List (List Int)} {i n : Int} {A : List (Int × Int)} {p : Int × Int}, goI L i n A = .inl p → p.1 ≤ i + L.length
  | [], i, n, A, p, h => by simp [goI] at h
  | l :: L, i, n, A, p, h => by
    rw [List.length_cons]
    unfold goI at h
    split at h
    · have := qfm h; omega
    · split at h
      · simp only [Sum.inl.injEq] at h
        subst h
        simp; omega
      · have := qfm h; omega
def sft (p : Int × Int) : Int × Int := (p.1 + 1, p.2)
theorem qeu (l : List Int) (L : List (List Int)) (i n : Int) (A : List (Int × Int)) : goI (l :: L) i n A = if wdsI l = [] then goI L (i + 1) n A else if (stepI n A (wdsI l)).1 ≠ 0 then .inl (i + 1, (stepI n A (wdsI l)).1) else goI L (i + 1) (stepI n A (wdsI l)).2.1 (stepI n A (wdsI l)).2.2 := rfl
theorem qby : ∀ (L : List (List Int)) (i n : Int) (A : List (Int × Int)), goI L (i + 1) n A = Sum.map sft id (goI L i n A)
  | [], _, _, _ => rfl
  | l :: L, i, n, A => by
    unfold goI
    split
    · exact qby L (i + 1) n A
    · split
      · rfl
      · exact qby L (i + 1) _ _
theorem qd2 : ∀ (L M : List (List Int)) (i n : Int) (A : List (Int × Int)), goI (L ++ M) i n A = match goI L i n A with | .inl p => .inl p | .inr q => goI M (i + L.length) q.1 q.2
  | [], M, i, n, A => by simp [goI]
  | l :: L, M, i, n, A => by
    rw [List.cons_append]
    have e : i + (l :: L).length = i + 1 + L.length := by simp; omega
    rw [e, qeu, qeu]
    by_cases h1 : wdsI l = []
    · rw [if_pos h1, if_pos h1, qd2 L M (i + 1) n A]
    · rw [if_neg h1, if_neg h1]
      by_cases h2 : (stepI n A (wdsI l)).1 = 0
      · rw [if_neg (by simp [h2]), if_neg (by simp [h2]), qd2 L M (i + 1) _ _]
      · rw [if_pos h2, if_pos h2]
theorem qbx : ∀ {L M : List (List Int)} (i n : Int) (A : List (Int × Int)), L.map wdsI = M.map wdsI → goI L i n A = goI M i n A
  | [], [], _, _, _, _ => rfl
  | [], m :: M, _, _, _, h => by simp at h
  | l :: L, [], _, _, _, h => by simp at h
  | l :: L, m :: M, i, n, A, h => by
    simp only [List.map_cons, List.cons.injEq] at h
    unfold goI
    rw [h.1]
    split
    · exact qbx (i + 1) n A h.2
    · split
      · rfl
      · exact qbx (i + 1) _ _ h.2
theorem qgx {L : List (List Int)} {l : List Int} (h : wdsI l = []) (i n : Int) (A : List (Int × Int)) : goI (L ++ [l]) i n A = goI L i n A := by
  rw [qd2]
  cases goI L i n A with
  | inl p => rfl
  | inr q =>
    show goI [l] _ _ _ = _
    unfold goI
    rw [if_pos h]
    rfl
theorem qcs {t : List Int} (ht : (10 : Int) ∉ t) (h0 : t ≠ []) : ∀ (s : List Int), linesI (s ++ t) = linesI s ++ [t] ∨ ∃ L l, linesI s = L ++ [l] ∧ linesI (s ++ t) = L ++ [l ++ t]
  | [] => .inl (qdu ht h0)
  | x :: s => by
    rw [List.cons_append, jm, jm]
    rcases qcs ht h0 s with h | ⟨L, l, h1, h2⟩
    · rw [h]
      by_cases e : x = 10
      · rw [if_pos e, if_pos e]
        exact .inl rfl
      · rw [if_neg e, if_neg e]
        cases hs : linesI s with
        | nil => exact .inr ⟨[], [x], rfl, rfl⟩
        | cons a r => exact .inl rfl
    · rw [h1, h2]
      by_cases e : x = 10
      · rw [if_pos e, if_pos e]
        exact .inr ⟨[] :: L, l, rfl, rfl⟩
      · rw [if_neg e, if_neg e]
        cases L with
        | nil => exact .inr ⟨[], x :: l, rfl, rfl⟩
        | cons a r => exact .inr ⟨(x :: a) :: r, l, rfl, rfl⟩
theorem qdS (l : List Int) : wordsI (l ++ [32, 32]) = wordsI l := by
  have e : l ++ [32, 32] = (l ++ [32]) ++ [32] := by simp
  unfold wordsI
  rw [e, qap, qap, List.filter_append, List.filter_append]
  simp [ne0]
theorem qe6 (l : List Int) : wdsI (l ++ [32, 32]) = wdsI l := by unfold wdsI; rw [qdS]
theorem qfl (s : List Int) (i n : Int) (A : List (Int × Int)) : goI (linesI (s ++ [32, 32])) i n A = goI (linesI s) i n A := by
  rcases qcs (t := [32, 32]) (by decide) (by decide) s with h | ⟨L, l, h1, h2⟩
  · rw [h]
    exact qgx (by decide) i n A
  · rw [h1, h2]
    refine qbx i n A ?_
    rw [List.map_append, List.map_append]
    simp only [List.map_cons, List.map_nil, qe6]
theorem qgh (t : List Int) : wdsI (35 :: 32 :: t) = [] := by
  have e : wordsI (35 :: 32 :: t) = [35] :: wordsI t := by
    unfold wordsI
    rw [show (35 :: 32 :: t : List Int) = [35] ++ 32 :: t from rfl, qfh (by decide)]
    rfl
  unfold wdsI
  rw [e]
  rfl
def okL (s : List Int) : Prop := ¬ (20000 < s.length ∨ 1000 < (linesI s).length)
theorem jE {s : List Int} (h : okL s) : parseI s = outI (goI (linesI s) 0 (-1) []) := by unfold parseI; exact if_neg h
theorem qd7 {s : List Int} (h : ¬ okL s) : parseI s = ([], 0, 2) := by
  unfold parseI
  rw [if_pos]
  unfold okL at h
  omega
theorem yG {s : List Int} : ((parseI s).2.1 = 0 ∧ (parseI s).2.2 = 2) ↔ ¬ okL s := by
  by_cases h : okL s
  · refine ⟨fun hp => ?_, fun hn => absurd h hn⟩
    rw [jE h] at hp
    cases hg : goI (linesI s) 0 (-1) [] with
    | inl p =>
      rw [hg] at hp
      have := (qc2 hg).2
      have h2 : p.1 = 0 := hp.1
      omega
    | inr q =>
      rw [hg] at hp
      have hI := qc5 qg5 hg
      have h2 : (endI q.1 q.2).2.2 = 2 := hp.2
      unfold endI at h2
      by_cases hn : q.1 < 0
      · rw [if_pos hn] at h2; simp at h2
      · rw [if_neg hn, qhd hI (by omega)] at h2; simp at h2
  · refine ⟨fun _ => h, fun _ => ?_⟩
    rw [qd7 h]
    exact ⟨rfl, rfl⟩
theorem qgC (x : (Int × Int) ⊕ (Int × List (Int × Int))) (hx : ∀ p, x = .inl p → 0 < p.1) (hI : ∀ q, x = .inr q → InvI q.1 q.2) :
    (outI (Sum.map sft id x)).1 = (outI x).1 ∧ (outI (Sum.map sft id x)).2.1 = (if 0 < (outI x).2.1 then (outI x).2.1 + 1 else (outI x).2.1) ∧ (outI (Sum.map sft id x)).2.2 = (outI x).2.2 := by
  cases x with
  | inl p =>
    have := hx p rfl
    refine ⟨rfl, ?_, rfl⟩
    show p.1 + 1 = if 0 < p.1 then p.1 + 1 else p.1
    rw [if_pos this]
  | inr q =>
    refine ⟨rfl, ?_, rfl⟩
    show (endI q.1 q.2).2.1 = if 0 < (endI q.1 q.2).2.1 then (endI q.1 q.2).2.1 + 1 else (endI q.1 q.2).2.1
    have : (endI q.1 q.2).2.1 = 0 := by unfold endI; split <;> rfl
    rw [this]
    simp
theorem qcu {F : Nat} {s note : List Int} {x : List (List Int) × Int × Int} (hn : By note) (hm : note.length ≤ 900000000) : ∀ (k i : Nat), note.length < k + i → i ≤ note.length → zX F s note x k (i : Int) = if (10 : Int) ∈ note.drop i then some true else yk F s note x
  | 0, _, _, _ => by omega
  | k + 1, i, h, hi => by
    show kX F s note x (zX F s note x k) (i : Int) = _
    unfold kX
    by_cases hlt : i < note.length
    · have hx := hn note[i] (List.getElem_mem hlt)
      rw [if_pos (by simp; omega), yc, List.getElem?_eq_getElem hlt, List.drop_eq_getElem_cons hlt]
      simp only [Option.bind_some, qae hx.1 hx.2]
      by_cases e : note[i] = 10
      · rw [if_pos (by simp [e]), if_pos (by rw [e]; exact List.mem_cons_self ..)]
      · rw [if_neg (by simpa using e), yb (by omega), qcu hn hm k (i + 1) (by omega) (by omega)]
        have : ¬ (10 : Int) = note[i] := fun h => e h.symm
        have e2 : ((10 : Int) ∈ note[i] :: note.drop (i + 1)) ↔ ((10 : Int) ∈ note.drop (i + 1)) := by rw [List.mem_cons]; simp only [this, false_or]
        simp only [e2]
    · rw [if_neg (by simp; omega), List.drop_eq_nil_of_le (by omega)]
      simp
theorem qci {F : Nat} {s note : List Int} (hs : By s) (hn : By note) (hl : s.length ≤ 10000000) (hl2 : note.length ≤ 10000000) (hF : 100000 ≤ F) (hF2 : note.length < F) : jL F s note = some true := by
  unfold jL
  rw [v6 hs (by omega) hF, tbegun hF]
  simp only [Option.bind_some, Bool.not_true, Bool.false_eq_true, if_false]
  have hloop := qcu (F := F) (s := s) (x := parseI s) hn (by omega) F 0 (by omega) (by omega)
  rw [show (((0 : Nat) : Int)) = 0 from rfl, List.drop_zero] at hloop
  rw [hloop]
  by_cases e10 : (10 : Int) ∈ note
  · rw [if_pos e10]
  rw [if_neg e10]
  unfold yk
  rw [yZ (by simp; omega), Option.bind_some, yZ (by simp; omega), Option.bind_some, yZ (by simp; omega), Option.bind_some]
  have e1 : [35, 32] ++ note ++ [10] ++ s = (35 :: 32 :: note) ++ 10 :: s := by simp
  have hb : By ((35 :: 32 :: note) ++ 10 :: s) := qa2 (qaL (by decide) (qaL (by decide) hn)) (qaL (by decide) hs)
  rw [e1, v6 hb (by simp; omega) hF, Option.bind_some]
  have h10 : (10 : Int) ∉ (35 :: 32 :: note) := by
    intro h
    rcases List.mem_cons.1 h with h | h
    · exact absurd h (by decide)
    · rcases List.mem_cons.1 h with h | h
      · exact absurd h (by decide)
      · exact e10 h
  have hlines : linesI ((35 :: 32 :: note) ++ 10 :: s) = (35 :: 32 :: note) :: linesI s := qd5 h10
  have hgo : goI (linesI ((35 :: 32 :: note) ++ 10 :: s)) 0 (-1) [] = Sum.map sft id (goI (linesI s) 0 (-1) []) := by
    rw [hlines]
    rw [show goI ((35 :: 32 :: note) :: linesI s) 0 (-1) [] = goI (linesI s) (0 + 1) (-1) [] from by rw [goI, if_pos (qgh note)]]
    exact qby _ _ _ _
  have hYl : ((35 :: 32 :: note) ++ 10 :: s).length = note.length + 3 + s.length := by simp; omega
  generalize (35 :: 32 :: note) ++ 10 :: s = Y at hb hlines hgo hYl ⊢
  by_cases hx : okL s
  · have hxm := mt yG.1 (fun h => h hx)
    by_cases hy : okL Y
    · have hym := mt yG.1 (fun h => h hy)
      rw [if_neg (by simp only [Bool.and_eq_true, beq_iff_eq]; exact fun h => hxm ⟨h.2, h.1⟩)]
      have hb2 : (((parseI Y).2.2 == 2) && ((parseI Y).2.1 == 0)) = false := by
        rw [Bool.eq_false_iff]
        simp only [ne_eq, Bool.and_eq_true, beq_iff_eq]
        exact fun h => hym ⟨h.2, h.1⟩
      rw [hb2]
      unfold kg
      rw [if_neg (by simp)]
      have ho := qgC (goI (linesI s) 0 (-1) []) (fun p hp => (qc2 hp).2) (fun q hq => qc5 qg5 hq)
      rw [← hgo, ← jE hx, ← jE hy] at ho
      obtain ⟨o1, o2, o3⟩ := ho
      have hln : (parseI s).2.1 ≤ 1000 := by
        rw [jE hx]
        have hlen : (linesI s).length ≤ 1000 := by unfold okL at hx; omega
        cases hg : goI (linesI s) 0 (-1) [] with
        | inl p => exact Int.le_trans (qfm hg) (by omega)
        | inr q =>
          show (endI q.1 q.2).2.1 ≤ 1000
          have : (endI q.1 q.2).2.1 = 0 := by unfold endI; split <;> rfl
          omega
      have h5 : ∀ v : Int, v = (parseI Y).2.1 → kG F s (parseI s) (parseI Y) v = some true := fun v hv => by
        unfold kG
        rw [if_neg (by simp [hv, o3]), o1, qbL (F := F) (by omega) (qdF s)]
        simp only [Option.bind_some, Bool.not_true]
        unfold yl
        have hb3 : By (s ++ [32, 32]) := qa2 hs (by unfold By; decide)
        rw [if_neg (by simp), yZ (by simp; omega), Option.bind_some, v6 hb3 (by simp; omega) hF, Option.bind_some]
        by_cases hz : okL (s ++ [32, 32])
        · have hzm := mt yG.1 (fun h => h hz)
          have ez : parseI (s ++ [32, 32]) = parseI s := by rw [jE hz, jE hx, qfl]
          rw [ez, if_neg (by simp only [Bool.and_eq_true, beq_iff_eq]; exact fun h => hxm ⟨h.2, h.1⟩), if_pos (by simp), qbL (F := F) (by omega) (qdF s)]
          rfl
        · have hzm := yG.2 hz
          rw [if_pos (by simp [hzm.1, hzm.2])]
          rfl
      by_cases hp : 0 < (parseI s).2.1
      · rw [if_pos (by simpa using hp)]
        rw [if_pos hp] at o2
        rw [qbB (by omega) (by omega)]
        exact h5 _ o2.symm
      · rw [if_neg (by simpa using hp)]
        rw [if_neg hp] at o2
        exact h5 _ o2.symm
    · have hym := yG.2 hy
      rw [if_neg (by simp only [Bool.and_eq_true, beq_iff_eq]; exact fun h => hxm ⟨h.2, h.1⟩)]
      have hb2 : (((parseI Y).2.2 == 2) && ((parseI Y).2.1 == 0)) = true := by simp [hym.1, hym.2]
      rw [hb2]
      unfold kg
      rw [if_pos rfl]
      simp [hym.2]
  · have hxm := yG.2 hx
    have hy : ¬ okL Y := fun h => by
      unfold okL at hx h
      rw [hlines, List.length_cons] at h
      omega
    have hym := yG.2 hy
    rw [if_pos (by simp [hxm.1, hxm.2])]
    unfold kg
    rw [if_pos rfl]
    simp [hym.2]
end Go.Proofs.YtfjkpdlcdceenaaGreatDoor
