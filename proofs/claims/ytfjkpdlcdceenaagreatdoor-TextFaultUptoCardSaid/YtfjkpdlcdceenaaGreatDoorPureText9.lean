/- Plain facts of what the functions of this seat compute. -/
import Derived.Test.YtfjkpdlcdceenaaGreatDoorModels
import Derived.KernelRfl
import Derived.Lib.SlicesCompact
import Derived.Lib.SplitLaws
namespace Go.Proofs.YtfjkpdlcdceenaaGreatDoor
open Go SX
theorem qgW {a b : Nat} (h : a + b < 9223372036854775808) : iadd .i64 (a : Int) (b : Int) = ((a + b : Nat) : Int) := by rw [qdf (by omega) (by omega)]; omega
theorem kQ {a : Nat} (h : a + 1 < 9223372036854775808) : iadd .i64 (a : Int) 1 = ((a + 1 : Nat) : Int) := by rw [qdf (by omega) (by omega)]; omega
def nb (n : Nat) : Nat → List Int
  | 0 => []
  | w + 1 => ((n / 2 ^ w % 2 : Nat) : Int) :: nb n w
def len (x : Nat) : Nat := if x = 0 then 0 else x.log2 + 1
def sh (m : Nat) : Nat := len (m - 1)
def dd (m : Nat) : Nat := 2 ^ sh m - m
def le (n m : Nat) : List Int := if n < dd m then nb n (sh m - 1) else nb (n + dd m) (sh m)
theorem qa7 (F : Nat) {xs : List Int} (hm : xs.length ≤ 1000000) : ∀ (k i : Nat), xs.length < k + i → i ≤ xs.length → kf F xs xs k (i : Int) = some true
  | 0, _, _, _ => by omega
  | k + 1, i, h, hi => by
    show yk F xs xs (kf F xs xs k) (i : Int) = _
    unfold yk
    by_cases hlt : i < xs.length
    · rw [if_pos (by simp; omega), yb, List.getElem?_eq_getElem hlt]
      simp only [Option.bind_some]
      rw [if_neg (by simp), kQ (by omega)]
      exact qa7 F hm k (i + 1) (by omega) (by omega)
    · rw [if_neg (by simp; omega)]; rfl
theorem qdV {F : Nat} {xs : List Int} (hF : xs.length < F) (hm : xs.length ≤ 1000000) : kZ F xs xs = some true := by
  unfold kZ
  rw [if_neg (by simp)]
  exact qa7 F hm F 0 (by omega) (by omega)
def kB {σ τ : Type} (yy : σ → (Int × Int) → Option (σ ⊕ τ)) : List (Int × Int) → σ → Option (σ ⊕ τ)
  | [], s => some (.inl s)
  | r :: R, s => (yy s r).bind (Sum.elim (fun s' => kB yy R s') (fun t => some (.inr t)))
def rowE (n : Int) : Int → List Int → Int
  | _, [] => 0
  | last, x :: l => if x < 0 ∨ n ≤ x then 3 else if x ≤ last then 4 else rowE n x l
def gE (n : Int) : List (List Int) → Int
  | [] => 0
  | l :: g => if rowE n (-1) l ≠ 0 then rowE n (-1) l else gE n g
def gtot : List (List Int) → Nat
  | [] => 0
  | l :: g => l.length + gtot g
def gchk (g : List (List Int)) : Int := if 100 < g.length then 2 else if gE g.length g ≠ 0 then gE g.length g else if 600 < gtot g then 2 else 0
theorem qbg : ∀ {n last : Int} {l : List Int}, rowE n last l = 0 ↔ (l.Pairwise (· < ·) ∧ ∀ x ∈ l, last < x) ∧ ∀ x ∈ l, 0 ≤ x ∧ x < n
  | n, last, [] => by simp [rowE]
  | n, last, x :: l => by
    unfold rowE
    by_cases h1 : x < 0 ∨ n ≤ x
    · rw [if_pos h1]
      constructor
      · intro h; simp at h
      · rintro ⟨_, h⟩; have := h x (by simp); omega
    · rw [if_neg h1]
      by_cases h2 : x ≤ last
      · rw [if_pos h2]
        constructor
        · intro h; simp at h
        · rintro ⟨⟨_, h⟩, _⟩; have := h x (by simp); omega
      · rw [if_neg h2, qbg, List.pairwise_cons]
        constructor
        · rintro ⟨⟨a1, a2⟩, a3⟩
          refine ⟨⟨⟨a2, a1⟩, fun y hy => ?_⟩, fun y hy => ?_⟩
          · rcases List.mem_cons.1 hy with rfl | hy
            · omega
            · have := a2 y hy; omega
          · rcases List.mem_cons.1 hy with rfl | hy
            · omega
            · exact a3 y hy
        · rintro ⟨⟨⟨a1, a2⟩, a3⟩, a4⟩
          exact ⟨⟨a2, a1⟩, fun y hy => a4 y (by simp [hy])⟩
theorem qcV {n last : Int} : ∀ {l : List Int}, -1 ≤ last → last < n → rowE n last l = 0 → last + 1 + l.length ≤ n
  | [], h1, h2, _ => by simp; omega
  | x :: l, h1, h2, h => by
    unfold rowE at h
    split at h
    · simp at h
    · split at h
      · simp at h
      · have := qcV (l := l) (by omega) (by omega) h
        rw [List.length_cons]; omega
theorem qe8 {n : Int} : ∀ {g : List (List Int)}, gE n g = 0 ↔ ∀ l ∈ g, rowE n (-1) l = 0
  | [] => by simp [gE]
  | l :: g => by
    unfold gE
    by_cases h : rowE n (-1) l = 0
    · rw [if_neg (by simp [h]), qe8]; simp [h]
    · rw [if_pos h]; simp [h]
def Gr (g : List (List Int)) : Prop := g.length ≤ 100 ∧ (∀ l ∈ g, l.Pairwise (· < ·) ∧ ∀ x ∈ l, 0 ≤ x ∧ x < g.length) ∧ gtot g ≤ 600
theorem qei {g : List (List Int)} : gchk g = 0 ↔ Gr g := by
  unfold gchk Gr
  by_cases h1 : 100 < g.length
  · rw [if_pos h1]; simp; omega
  · rw [if_neg h1]
    by_cases h2 : gE g.length g = 0
    · rw [if_neg (by simp [h2])]
      have h3 := qe8.1 h2
      have h4 : ∀ l ∈ g, l.Pairwise (· < ·) ∧ ∀ x ∈ l, 0 ≤ x ∧ x < (g.length : Int) := fun l hl => by
        have := qbg.1 (h3 l hl)
        exact ⟨this.1.1, this.2⟩
      by_cases h5 : 600 < gtot g
      · rw [if_pos h5]; simp; omega
      · rw [if_neg h5]
        exact ⟨fun _ => ⟨by omega, h4, by omega⟩, fun _ => rfl⟩
    · rw [if_pos h2]
      refine ⟨fun h => absurd h h2, fun h => absurd (qe8.2 fun l hl => qbg.2 ⟨⟨(h.2.1 l hl).1, fun x hx => ?_⟩, (h.2.1 l hl).2⟩) h2⟩
      have := (h.2.1 l hl).2 x hx; omega
theorem qgV {g : List (List Int)} (h : Gr g) {l : List Int} (hl : l ∈ g) : l.length ≤ 100 := by
  have h1 := (h.2.1 l hl).2
  have h2 : rowE g.length (-1) l = 0 := qbg.2 ⟨⟨(h.2.1 l hl).1, fun x hx => by have := h1 x hx; omega⟩, h1⟩
  have := qcV (by omega) (by omega) h2
  have := h.1
  omega
theorem qda {F : Nat} {rec38 : (Int × Int) → Option Int} {g : List (List Int)} {m i : Int} {l : List Int} (hg : g.length ≤ 100) : ∀ (k j : Nat) (last : Int), 102 < k + j → (j : Int) ≤ last + 1 → last < g.length → -1 ≤ last →
    zG F rec38 g m i l k (last, (j : Int)) = if rowE g.length last (l.drop j) ≠ 0 then some (rowE g.length last (l.drop j)) else kP F rec38 m i l
  | 0, j, last, h, h1, h2, h3 => by omega
  | k + 1, j, last, h, h1, h2, h3 => by
    show kO F rec38 g m i l (zG F rec38 g m i l k) last (j : Int) = _
    unfold kO
    by_cases hlt : j < l.length
    · rw [if_pos (by simp; omega), yb, List.getElem?_eq_getElem hlt, List.drop_eq_getElem_cons hlt]
      simp only [Option.bind_some]
      unfold rowE
      by_cases c1 : l[j] < 0 ∨ (g.length : Int) ≤ l[j]
      · rw [if_pos (by simpa using c1), if_pos c1, if_pos (by decide)]
      · rw [if_neg (by simpa using c1), if_neg c1]
        by_cases c2 : l[j] ≤ last
        · rw [if_pos (by simpa using c2), if_pos c2, if_pos (by decide)]
        · rw [if_neg (by simpa using c2), if_neg c2, kQ (by omega)]
          exact qda hg k (j + 1) l[j] (by omega) (by omega) (by omega) (by omega)
    · rw [if_neg (by simp; omega), List.drop_eq_nil_of_le (by omega)]
      rw [if_neg (by simp [rowE])]
theorem qb8 {F : Nat} (hF : 1000 ≤ F) {g : List (List Int)} (hg : g.length ≤ 100) : ∀ (k i : Nat) (m : Nat), g.length < k + i → i ≤ g.length → m ≤ 100 * i →
    qI F g k ((m : Int), (i : Int)) = if gE g.length (g.drop i) ≠ 0 then some (gE g.length (g.drop i)) else if 600 < m + gtot (g.drop i) then some 2 else some 0
  | 0, _, _, _, _, _ => by omega
  | k + 1, i, m, h, hi, hm => by
    show kN F g (qI F g k) (m : Int) (i : Int) = _
    unfold kN
    by_cases hlt : i < g.length
    · rw [if_pos (by simp; omega), yb, List.getElem?_eq_getElem hlt, List.drop_eq_getElem_cons hlt]
      simp only [Option.bind_some]
      have hin := qda (F := F) (rec38 := qI F g k) (m := (m : Int)) (i := (i : Int)) (l := g[i]) hg F 0 (-1) (by omega) (by omega) (by omega) (by omega)
      rw [List.drop_zero, show ((0 : Nat) : Int) = 0 from rfl] at hin
      rw [hin]
      unfold gE gtot
      by_cases hr : rowE g.length (-1) g[i] = 0
      · have hlen := qcV (by omega) (by omega) hr
        have e : (if rowE (g.length : Int) (-1) g[i] ≠ 0 then rowE (g.length : Int) (-1) g[i] else gE (g.length : Int) (g.drop (i + 1))) = gE (g.length : Int) (g.drop (i + 1)) := if_neg (by simp [hr])
        rw [if_neg (show ¬ rowE (g.length : Int) (-1) g[i] ≠ 0 by simp [hr]), e]
        unfold kP yT
        rw [qgW (by omega), kQ (by omega), qb8 hF hg k (i + 1) (m + g[i].length) (by omega) (by omega) (by omega), Nat.add_assoc]
      · rw [if_pos (by simpa using hr)]
        have e : (if rowE (g.length : Int) (-1) g[i] ≠ 0 then rowE (g.length : Int) (-1) g[i] else gE (g.length : Int) (g.drop (i + 1))) = rowE (g.length : Int) (-1) g[i] := if_pos hr
        rw [e, if_pos hr]
    · rw [if_neg (by simp; omega), List.drop_eq_nil_of_le (by omega)]
      unfold yS
      rw [if_neg (show ¬ gE (g.length : Int) [] ≠ 0 by simp [gE])]
      by_cases h6 : 600 < m
      · rw [if_pos (by simp; omega), if_pos (by simpa [gtot] using h6)]
      · rw [if_neg (by simp; omega), if_neg (by simpa [gtot] using h6)]
theorem qb4 {F : Nat} (hF : 1000 ≤ F) {g : List (List Int)} : zD F g = some (gchk g) := by
  unfold zD gchk
  by_cases h : 100 < g.length
  · rw [if_pos (by simp; omega), if_pos h]
  · have := qb8 hF (g := g) (by omega) F 0 0 (by omega) (by omega) (by omega)
    rw [List.drop_zero, Nat.zero_add, show ((0 : Nat) : Int) = 0 from rfl] at this
    rw [if_neg (by simp; omega), if_neg h, this]
    split
    · rfl
    · split <;> rfl
def af (i : Nat) : List (List Int) → List (Int × Int)
  | [] => []
  | l :: g => l.map (fun x => ((i : Int), x)) ++ af (i + 1) g
theorem qa5 {σ τ : Type} {yy : σ → (Int × Int) → Option (σ ⊕ τ)} : ∀ (A B : List (Int × Int)) (s : σ), kB yy (A ++ B) s = (kB yy A s).bind (Sum.elim (fun s' => kB yy B s') (fun t => some (.inr t)))
  | [], B, s => rfl
  | p :: A, B, s => by
    show (yy s p).bind _ = ((yy s p).bind _).bind _
    cases yy s p with
    | none => rfl
    | some r =>
      cases r with
      | inl s' => exact qa5 A B s'
      | inr t => rfl
theorem qeY {σ τ : Type} {F : Nat} {yy : σ → (Int × Int) → Option (σ ⊕ τ)} {rec7 : (Int × σ) → Option (σ ⊕ τ)} {i : Int} {l : List Int} (hm : l.length ≤ 1000000) : ∀ (k j : Nat) (s : σ), l.length < k + j → j ≤ l.length →
    zF F yy rec7 i l k ((j : Int), s) = (kB yy ((l.drop j).map fun x => (i, x)) s).bind (Sum.elim (fun s' => k6 F yy rec7 i s') (fun t => some (.inr t)))
  | 0, _, _, _, _ => by omega
  | k + 1, j, s, h, hj => by
    show kM F yy rec7 i l (zF F yy rec7 i l k) (j : Int) s = _
    unfold kM
    by_cases hlt : j < l.length
    · rw [if_pos (by simp; omega), yb, List.getElem?_eq_getElem hlt, List.drop_eq_getElem_cons hlt, List.map_cons]
      simp only [Option.bind_some, kB]
      cases yy s (i, l[j]) with
      | none => rfl
      | some r =>
        cases r with
        | inl s' =>
          simp only [Option.bind_some, Sum.elim_inl]
          rw [kQ (by omega)]
          exact qeY hm k (j + 1) s' (by omega) (by omega)
        | inr t => rfl
    · rw [if_neg (by simp; omega), List.drop_eq_nil_of_le (by omega)]
      rfl
theorem qd9 {σ τ : Type} {F : Nat} {yy : σ → (Int × Int) → Option (σ ⊕ τ)} {g : List (List Int)} (hm : g.length ≤ 1000000) (hr : ∀ l ∈ g, l.length ≤ 1000000 ∧ l.length < F) : ∀ (k i : Nat) (s : σ), g.length < k + i → i ≤ g.length →
    qQ F yy g k ((i : Int), s) = kB yy (af i (g.drop i)) s
  | 0, _, _, _, _ => by omega
  | k + 1, i, s, h, hi => by
    show k5 F yy g (qQ F yy g k) (i : Int) s = _
    unfold k5
    by_cases hlt : i < g.length
    · have hrow := hr _ (List.getElem_mem hlt)
      rw [if_pos (by simp; omega), yb, List.getElem?_eq_getElem hlt, List.drop_eq_getElem_cons hlt]
      simp only [Option.bind_some]
      have := qeY (F := F) (yy := yy) (rec7 := qQ F yy g k) (i := (i : Int)) hrow.1 F 0 s (by omega) (by omega)
      rw [List.drop_zero, show ((0 : Nat) : Int) = 0 from rfl] at this
      rw [this]
      unfold af
      rw [qa5]
      congr 1
      funext r
      cases r with
      | inl s' =>
        simp only [Sum.elim_inl]
        unfold k6
        rw [kQ (by omega)]
        exact qd9 hm hr k (i + 1) s' (by omega) (by omega)
      | inr t => rfl
    · rw [if_neg (by simp; omega), List.drop_eq_nil_of_le (by omega)]
      rfl
theorem qgR {σ τ : Type} {F : Nat} {yy : σ → (Int × Int) → Option (σ ⊕ τ)} {g : List (List Int)} {s : σ} (hF : g.length < F) (hm : g.length ≤ 1000000) (hr : ∀ l ∈ g, l.length ≤ 1000000 ∧ l.length < F) : zW F yy g s = kB yy (af 0 g) s := by
  unfold zW
  have := qd9 (yy := yy) hm hr F 0 s (by omega) (by omega)
  rw [List.drop_zero] at this
  exact this
theorem qeu {σ τ : Type} {F : Nat} {yy : σ → (Int × Int) → Option (σ ⊕ τ)} {l : List (Int × Int)} (hm : l.length ≤ 1000000) : ∀ (k i : Nat) (s : σ), l.length < k + i → i ≤ l.length →
    qu F yy l k ((i : Int), s) = kB yy (l.drop i) s
  | 0, _, _, _, _ => by omega
  | k + 1, i, s, h, hi => by
    show qO F yy l (qu F yy l k) (i : Int) s = _
    unfold qO
    by_cases hlt : i < l.length
    · rw [if_pos (by simp; omega), yb, List.getElem?_eq_getElem hlt, List.drop_eq_getElem_cons hlt]
      simp only [Option.bind_some, kB]
      cases yy s l[i] with
      | none => rfl
      | some r =>
        cases r with
        | inl s' =>
          simp only [Option.bind_some, Sum.elim_inl]
          rw [kQ (by omega)]
          exact qeu hm k (i + 1) s' (by omega) (by omega)
        | inr t => rfl
    · rw [if_neg (by simp; omega), List.drop_eq_nil_of_le (by omega)]
      rfl
theorem qdd {τ : Type} {lim : Nat} {f : Int × Int → Int × Int} {yy : List (Int × Int) → (Int × Int) → Option (List (Int × Int) ⊕ τ)} (hy : ∀ s p, yy s p = (app lim s [f p]).bind fun z => some (.inl z)) : ∀ (L s : List (Int × Int)), s.length + L.length ≤ lim → kB yy L s = some (.inl (s ++ L.map f))
  | [], s, _ => by simp [kB]
  | p :: L, s, h => by
    rw [List.length_cons] at h
    show (yy s p).bind _ = _
    rw [hy, jn (by simp; omega)]
    simp only [Option.bind_some, Sum.elim_inl]
    rw [qdd hy L (s ++ [f p]) (by simp; omega)]
    simp
theorem qeX : ∀ (i : Nat) (g : List (List Int)), (af i g).length = gtot g
  | _, [] => rfl
  | i, l :: g => by unfold af gtot; rw [List.length_append, List.length_map, qeX (i + 1) g]
theorem qcL {F : Nat} {l : List (Int × Int)} (hF : l.length < F) (hm : l.length ≤ 1000000) : qo F l = some l := by
  unfold qo qr zr
  have := fun yy => qeu (σ := List (Int × Int)) (τ := Empty) (F := F) (yy := yy) hm F 0 [] (by omega) (by omega)
  rw [show ((0 : Nat) : Int) = 0 from rfl] at this
  rw [this, List.drop_zero, qdd (lim := 4398046511104) (f := fun p => p) ?hy l [] (by simp; omega)]
  · simp
  · exact fun s p => rfl
def lexLt (p q : Int × Int) : Prop := p.1 < q.1 ∨ (p.1 = q.1 ∧ p.2 < q.2)
instance decLex (p q : Int × Int) : Decidable (lexLt p q) := by unfold lexLt; infer_instance
theorem qce (a : Int × Int) : ¬ lexLt a a := by unfold lexLt; omega
theorem qfd (a b d : Int × Int) : lexLt a b → lexLt b d → lexLt a d := by unfold lexLt; omega
theorem qcf (a b : Int × Int) : lexLt a b ∨ a = b ∨ lexLt b a := by
  obtain ⟨a1, a2⟩ := a
  obtain ⟨b1, b2⟩ := b
  simp only [lexLt, Prod.mk.injEq]; omega
theorem qbm {F : Nat} {x y : Int} : kk F x y = some (if x < y then -1 else if y < x then 1 else 0) := by
  unfold kk yl
  simp only [bne_self_eq_false, Option.bind_some, Bool.false_eq_true, if_false, decide_eq_true_eq]
  split
  · rfl
  · split <;> rfl
theorem qhc {F : Nat} (hF : 3 ≤ F) {x y : Int} : vB F [x, y] = some (if x ≠ 0 then x else y) := by
  obtain ⟨k, rfl⟩ := Nat.exists_eq_add_of_le hF
  rw [Nat.add_comm]
  unfold vB
  show zw (k + 3) [x, y] (zN (k + 3) [x, y] (k + 2)) 0 = _
  unfold zw
  rw [if_pos (by simp)]
  show ((some x).bind _) = _
  simp only [Option.bind_some]
  by_cases hx : x = 0
  · rw [if_neg (by simp [hx]), if_neg (by simp [hx])]
    show zw (k + 3) [x, y] (zN (k + 3) [x, y] (k + 1)) 1 = _
    unfold zw
    rw [if_pos (by simp)]
    show ((some y).bind _) = _
    simp only [Option.bind_some]
    by_cases hy : y = 0
    · rw [if_neg (by simp [hy]), hy]
      show zw (k + 3) [x, y] (zN (k + 3) [x, y] k) 2 = _
      unfold zw
      rw [if_neg (by simp)]
      rfl
    · rw [if_pos (by simp [hy])]
  · rw [if_pos (by simp [hx]), if_pos hx]
theorem qfi {F : Nat} (hF : 3 ≤ F) (a b : Int × Int) : ∃ z, vf F a.1 a.2 b.1 b.2 = some z ∧ (z < 0 ↔ lexLt a b) := by
  unfold vf
  rw [qbm, qbm]
  simp only [Option.bind_some]
  rw [qhc hF]
  simp only [Option.bind_some]
  unfold lexLt
  by_cases h1 : a.1 < b.1
  · exact ⟨-1, by simp [h1], by simp [h1]⟩
  · by_cases h2 : b.1 < a.1
    · exact ⟨1, by simp [h1, h2], by omega⟩
    · refine ⟨if a.2 < b.2 then -1 else if b.2 < a.2 then 1 else 0, by simp [h1, h2], ?_⟩
      split
      · omega
      · split <;> omega
def srtA (l : List (Int × Int)) : List (Int × Int) := l.mergeSort fun a b => decide (¬ lexLt b a)
theorem jB (l : List (Int × Int)) : (srtA l).Perm l := List.mergeSort_perm l _
theorem qeo (l : List (Int × Int)) : (srtA l).Pairwise fun a b => ¬ lexLt b a := by
  have h := List.pairwise_mergeSort (le := fun a b : Int × Int => decide (¬ lexLt b a)) (fun a b c h1 h2 => by simp only [decide_eq_true_eq] at *; unfold lexLt at *; omega) (fun a b => by simp only [Bool.or_eq_true, decide_eq_true_eq]; unfold lexLt; omega) l
  exact h.imp (fun h => by simpa using h)
theorem qbD (l : List (Int × Int)) : (srtA l).length = l.length := (jB l).length_eq
theorem qeC {l : List (Int × Int)} (h : l.Pairwise lexLt) : l.Nodup := List.Pairwise.imp (S := fun a b => a ≠ b) (fun {a b} h (he : a = b) => qce a (by rw [← he] at h; exact h)) h
theorem qdx {l : List (Int × Int)} (h : l.Nodup) : (srtA l).Pairwise lexLt := by
  have h1 : (srtA l).Nodup := (jB l).nodup_iff.2 h
  refine (List.Pairwise.and (qeo l) h1).imp fun {a b} h => ?_
  rcases qcf a b with h2 | h2 | h2
  · exact h2
  · exact absurd h2 h.2
  · exact absurd h2 h.1
theorem qdt {F : Nat} {l : List (Int × Int)} (hF : 3 ≤ F) (hl : l.length ≤ 1000000) : qA F l = some (srtA l) :=
  qft (lt := lexLt) (fun a _ b _ => qfi hF a b) qce qfd qcf (by omega) (jB l) (qeo l)
theorem qb5 {F : Nat} {l : List (Int × Int)} (hF : 3 ≤ F) (hF2 : l.length < F) (hl : l.length ≤ 1000000) : qd F l = some (srtA l) := by
  unfold qd
  rw [qcL hF2 hl]
  simp only [Option.bind_some]
  rw [qdt hF hl]
  simp [chk, qbD]
theorem pwx : ∀ {A B : List Int}, A.Pairwise (· < ·) → B.Pairwise (· < ·) → (∀ z, z ∈ A ↔ z ∈ B) → A = B := by
  intro A B hA hB h
  have nd : ∀ {C : List Int}, C.Pairwise (· < ·) → C.Nodup := fun hC => hC.imp fun h => by omega
  exact List.Perm.eq_of_pairwise (le := fun x y : Int => x < y) (fun a b _ _ h1 h2 => by omega) hA hB ((List.perm_ext_iff_of_nodup (nd hA) (nd hB)).2 h)
def rowOf (l : List (Int × Int)) (i : Int) : List Int := (l.filter fun p => decide (p.1 = i)).map (·.2)
def tab (n : Nat) (l : List (Int × Int)) : List (List Int) := (List.range n).map fun (i : Nat) => rowOf l (i : Int)
theorem qcZ (n : Nat) (l : List (Int × Int)) : (tab n l).length = n := by simp [tab]
theorem qer {n i : Nat} {l : List (Int × Int)} (h : i < n) : (tab n l)[i]? = some (rowOf l i) := by simp [tab, h]
theorem qeH (l : List (Int × Int)) (i : Int) : (rowOf l i).length ≤ l.length := by
  unfold rowOf
  rw [List.length_map]
  exact List.length_filter_le _ _
theorem qfX {n a : Nat} {l : List (Int × Int)} {b : Int} : tab n (l ++ [((a : Int), b)]) = (tab n l).set a (rowOf l a ++ [b]) := by
  apply List.ext_getElem (by simp [tab])
  intro i h1 h2
  rw [qcZ] at h1
  rw [List.getElem_set]
  simp only [tab, List.getElem_map, List.getElem_range]
  by_cases h : a = i
  · rw [if_pos h, ← h]; simp [rowOf]
  · rw [if_neg h]
    have : ¬ (a : Int) = (i : Int) := by omega
    simp [rowOf, this]
theorem qgH (n : Nat) : tab n [] = List.replicate n [] := by
  apply List.ext_getElem (by simp [tab])
  intro i h1 h2
  simp [tab, rowOf]
theorem qgY {n : Nat} {lim : Nat} (h : n ≤ lim) : mk lim ([] : List Int) (n : Int) = some (tab n []) := by
  unfold mk
  rw [if_pos ⟨by omega, by omega⟩, qgH]; simp
def InR (n : Nat) (l : List (Int × Int)) : Prop := ∀ p ∈ l, 0 ≤ p.1 ∧ p.1 < (n : Int) ∧ 0 ≤ p.2 ∧ p.2 < (n : Int)
theorem qaZ {α : Type} {l : List α} {j : Nat} (h : j < l.length) : l.take (j + 1) = l.take j ++ [l[j]] := by
  rw [List.take_add_one, List.getElem?_eq_getElem h]; rfl
theorem qed {F n : Nat} {l : List (Int × Int)} (hl : ∀ p ∈ l, 0 ≤ p.1 ∧ p.1 < (n : Int)) (hm : l.length ≤ 1000000) : ∀ (k j : Nat), l.length < k + j → j ≤ l.length →
    z1 F l k ((j : Int), tab n (l.take j)) = some (tab n l)
  | 0, _, _, _ => by omega
  | k + 1, j, h, hj => by
    show k7 F l (z1 F l k) (j : Int) (tab n (l.take j)) = _
    unfold k7
    by_cases hlt : j < l.length
    · obtain ⟨h1, h2⟩ := hl _ (List.getElem_mem hlt)
      have hrec := qed (F := F) hl hm k (j + 1) (by omega) (by omega)
      obtain ⟨a, ha⟩ := Int.eq_ofNat_of_zero_le h1
      have e : l[j] = ((a : Int), l[j].2) := by rw [← ha]
      rw [qaZ hlt, e, qfX] at hrec
      have hrl := qeH (l.take j) (a : Int)
      rw [List.length_take] at hrl
      rw [if_pos (by simp; omega), yb, List.getElem?_eq_getElem hlt]
      simp only [Option.bind_some]
      rw [ha, yb, qer (by omega)]
      simp only [Option.bind_some]
      rw [jn (by simp; omega)]
      simp only [Option.bind_some, lett]
      rw [kQ (by omega), Int.toNat_natCast]
      exact hrec
    · rw [if_neg (by simp; omega), List.take_of_length_le (by omega)]
      rfl
theorem qe3 {F n : Nat} {l : List (Int × Int)} (hl : ∀ p ∈ l, 0 ≤ p.1 ∧ p.1 < (n : Int)) (hm : l.length ≤ 1000000) (hF : l.length < F) (hn : n ≤ 1000000) : kI F (n : Int) l = some (tab n l) := by
  unfold kI
  rw [qgY (by omega)]
  simp only [Option.bind_some]
  have := qed (F := F) hl hm F 0 (by omega) (by omega)
  rw [List.take_zero] at this
  exact this
def IsTab (n : Nat) (l : List (Int × Int)) (T : List (List Int)) : Prop :=
  T.length = n ∧ ∀ (i : Nat) (r : List Int), T[i]? = some r → r.Pairwise (· < ·) ∧ ∀ x, x ∈ r ↔ ((i : Int), x) ∈ l
theorem qdS {n : Nat} {l l' : List (Int × Int)} {T T' : List (List Int)} (h : IsTab n l T) (h' : IsTab n l' T') (hm : ∀ p, p ∈ l ↔ p ∈ l') : T = T' := by
  apply List.ext_getElem (by rw [h.1, h'.1])
  intro i h1 h2
  have a := h.2 i _ (List.getElem?_eq_getElem h1)
  have b := h'.2 i _ (List.getElem?_eq_getElem h2)
  exact pwx a.1 b.1 fun z => by rw [a.2, b.2, hm]
theorem qeF {l : List (Int × Int)} {i x : Int} : x ∈ rowOf l i ↔ (i, x) ∈ l := by
  unfold rowOf
  rw [List.mem_map]
  constructor
  · rintro ⟨p, hp, rfl⟩
    obtain ⟨h1, h2⟩ := List.mem_filter.1 hp
    have : p.1 = i := by simpa using h2
    rw [← this]; exact h1
  · intro h
    exact ⟨(i, x), List.mem_filter.2 ⟨h, by simp⟩, rfl⟩
theorem qfn {l : List (Int × Int)} {i : Int} (h : l.Pairwise lexLt) : (rowOf l i).Pairwise (· < ·) := by
  unfold rowOf
  rw [List.pairwise_map]
  refine (h.filter _).imp_of_mem fun {a b} ha hb hab => ?_
  have h1 := (List.mem_filter.1 ha).2
  have h2 := (List.mem_filter.1 hb).2
  simp only [decide_eq_true_eq] at h1 h2
  unfold lexLt at hab; omega
theorem qeV {n : Nat} {l : List (Int × Int)} (h : l.Pairwise lexLt) : IsTab n l (tab n l) := by
  refine ⟨qcZ n l, fun i r hr => ?_⟩
  have hi : i < n := by have := (List.getElem?_eq_some_iff.1 hr).1; rwa [qcZ] at this
  rw [qer hi] at hr
  cases hr
  exact ⟨qfn h, fun x => qeF⟩
theorem qdg {n : Nat} {l l' : List (Int × Int)} {T : List (List Int)} (h : IsTab n l T) (hm : ∀ p, p ∈ l ↔ p ∈ l') : IsTab n l' T :=
  ⟨h.1, fun i r hr => ⟨(h.2 i r hr).1, fun x => by rw [(h.2 i r hr).2, hm]⟩⟩
theorem qcT : ∀ {g : List (List Int)} {k : Nat} {p : Int × Int}, p ∈ af k g ↔ ∃ i r, g[i]? = some r ∧ p.1 = ((k + i : Nat) : Int) ∧ p.2 ∈ r
  | [], k, p => by simp [af]
  | l :: g, k, p => by
    unfold af
    rw [List.mem_append, qcT (g := g), List.mem_map]
    constructor
    · rintro (⟨x, hx, rfl⟩ | ⟨i, r, h1, h2, h3⟩)
      · exact ⟨0, l, by simp, by simp, hx⟩
      · exact ⟨i + 1, r, by simpa using h1, by omega, h3⟩
    · rintro ⟨i, r, h1, h2, h3⟩
      cases i with
      | zero =>
        simp only [List.getElem?_cons_zero, Option.some.injEq] at h1
        subst h1
        exact .inl ⟨p.2, h3, by rw [Nat.add_zero] at h2; rw [← h2]⟩
      | succ i =>
        refine .inr ⟨i, r, by simpa using h1, by omega, h3⟩
theorem qgL : ∀ {g : List (List Int)} {k : Nat}, (∀ r ∈ g, r.Pairwise (· < ·)) → (af k g).Pairwise lexLt
  | [], k, _ => by simp [af]
  | l :: g, k, h => by
    unfold af
    rw [List.pairwise_append]
    refine ⟨?_, qgL fun r hr => h r (by simp [hr]), ?_⟩
    · rw [List.pairwise_map]
      exact (h l (by simp)).imp fun h => .inr ⟨rfl, h⟩
    · intro a ha b hb
      obtain ⟨x, _, rfl⟩ := List.mem_map.1 ha
      obtain ⟨i, r, _, h2, _⟩ := qcT.1 hb
      left
      show (k : Int) < b.1
      omega
theorem qeW {g : List (List Int)} (h : ∀ r ∈ g, r.Pairwise (· < ·)) : IsTab g.length (af 0 g) g := by
  refine ⟨rfl, fun i r hr => ⟨h r (List.mem_of_getElem? hr), fun x => ?_⟩⟩
  rw [qcT]
  constructor
  · intro hx; exact ⟨i, r, hr, by simp, hx⟩
  · rintro ⟨i', r', h1, h2, h3⟩
    have : i' = i := by simp at h2; omega
    subst this
    rw [hr] at h1
    cases h1
    exact h3
theorem qgM {g : List (List Int)} (h : Gr g) : InR g.length (af 0 g) := fun p hp => by
  obtain ⟨i, r, h1, h2, h3⟩ := qcT.1 hp
  have h4 := (List.getElem?_eq_some_iff.1 h1).1
  have h5 := (h.2.1 r (List.mem_of_getElem? h1)).2 _ h3
  refine ⟨by omega, by omega, h5.1, h5.2⟩
theorem qgN {g : List (List Int)} (h : Gr g) : ∀ r ∈ g, r.Pairwise (· < ·) := fun r hr => (h.2.1 r hr).1
def ofE (n : Int) : List (Int × Int) → List (Int × Int) → Int
  | _, [] => 0
  | seen, p :: l => if p.1 < 0 ∨ n ≤ p.1 ∨ p.2 < 0 ∨ n ≤ p.2 then 3 else if p ∈ seen then 6 else ofE n (seen ++ [p]) l
theorem qfh {n : Int} {seen : List (Int × Int)} {p : Int × Int} {l : List (Int × Int)} : ofE n seen (p :: l) = if p.1 < 0 ∨ n ≤ p.1 ∨ p.2 < 0 ∨ n ≤ p.2 then 3 else if p ∈ seen then 6 else ofE n (seen ++ [p]) l := rfl
theorem qdT {n : Nat} : ∀ {l seen : List (Int × Int)}, ofE n seen l = 0 ↔ InR n l ∧ l.Nodup ∧ ∀ p ∈ l, p ∉ seen
  | [], seen => by simp [ofE, InR]
  | p :: l, seen => by
    unfold ofE
    by_cases h1 : p.1 < 0 ∨ (n : Int) ≤ p.1 ∨ p.2 < 0 ∨ (n : Int) ≤ p.2
    · rw [if_pos h1]
      refine ⟨fun h => by simp at h, fun h => ?_⟩
      have := h.1 p (by simp); omega
    · rw [if_neg h1]
      by_cases h2 : p ∈ seen
      · rw [if_pos h2]
        refine ⟨fun h => by simp at h, fun h => ?_⟩
        exact absurd h2 (h.2.2 p (by simp))
      · rw [if_neg h2, qdT, List.nodup_cons]
        constructor
        · rintro ⟨a1, a2, a3⟩
          refine ⟨fun q hq => ?_, ⟨fun hp => a3 p hp (by simp), a2⟩, fun q hq => ?_⟩
          · rcases List.mem_cons.1 hq with rfl | hq
            · omega
            · exact a1 q hq
          · rcases List.mem_cons.1 hq with rfl | hq
            · exact h2
            · exact fun h => a3 q hq (by simp [h])
        · rintro ⟨a1, ⟨a2, a3⟩, a4⟩
          refine ⟨fun q hq => a1 q (by simp [hq]), a3, fun q hq h => ?_⟩
          rcases List.mem_append.1 h with h | h
          · exact a4 q (by simp [hq]) h
          · have : q = p := by simpa using h
            subst this; exact a2 hq
def ofM (n : Int) (l : List (Int × Int)) : List (List Int) × Int :=
  if n < 0 ∨ 100 < n then ([], 3) else if 600 < l.length then ([], 2) else if ofE n [] l ≠ 0 then ([], ofE n [] l) else (tab n.toNat (srtA l), 0)
theorem qhb {F n : Nat} {l : List (Int × Int)} (hF : 1000 ≤ F) (hn : n ≤ 100) (hl : l.length ≤ 600) : ∀ (k j : Nat), l.length < k + j → j ≤ l.length → (ofE n [] l = ofE n (l.take j) (l.drop j)) →
    kJ F (n : Int) l k ((j : Int), l.take j) = some (if ofE n [] l ≠ 0 then ([], ofE n [] l) else (tab n (srtA l), 0))
  | 0, _, _, _, _ => by omega
  | k + 1, j, h, hj, he => by
    show ve F (n : Int) l (kJ F (n : Int) l k) (j : Int) (l.take j) = _
    unfold ve
    by_cases hlt : j < l.length
    · have hrec := qhb (F := F) hF hn hl k (j + 1) (by omega) (by omega)
      rw [if_pos (by simp; omega), yb, List.getElem?_eq_getElem hlt]
      simp only [Option.bind_some]
      rw [List.drop_eq_getElem_cons hlt, qfh] at he
      by_cases h1 : l[j].1 < 0 ∨ (n : Int) ≤ l[j].1 ∨ l[j].2 < 0 ∨ (n : Int) ≤ l[j].2
      · rw [if_pos h1] at he
        rw [if_pos (by simp only [Bool.or_eq_true, decide_eq_true_eq]; omega), if_pos (by rw [he]; decide), he]
      · rw [if_neg h1] at he
        rw [if_neg (by simp only [Bool.or_eq_true, decide_eq_true_eq]; omega)]
        by_cases h2 : l[j] ∈ l.take j
        · rw [if_pos h2] at he
          rw [if_pos (by simpa using h2), if_pos (by rw [he]; decide), he]
        · rw [if_neg h2, ← qaZ hlt] at he
          rw [if_neg (by simpa using h2)]
          have : sins (l.take j) (l[j].1, l[j].2) = some (l.take (j + 1)) := by
            unfold sins
            rw [if_neg h2, qaZ hlt]
          rw [this]
          simp only [Option.bind_some]
          rw [kQ (by omega)]
          exact hrec he
    · rw [List.drop_eq_nil_of_le (by omega)] at he
      have he : ofE n [] l = 0 := he
      obtain ⟨a1, a2, _⟩ := qdT.1 he
      rw [if_neg (by simp; omega), if_neg (by rw [he]; decide)]
      unfold jm q4
      simp only [Option.bind_some]
      rw [qb5 (by omega) (by omega) (by omega)]
      simp only [Option.bind_some]
      rw [qe3 (fun p hp => by have := a1 p ((jB l).mem_iff.1 hp); omega) (by rw [qbD]; omega) (by rw [qbD]; omega) (by omega)]
      rfl
theorem qha {F : Nat} {n : Int} {l : List (Int × Int)} (hF : 1000 ≤ F) : yC F n l = some (ofM n l) := by
  unfold yC ofM
  by_cases h1 : n < 0 ∨ 100 < n
  · rw [if_pos (by simpa using h1), if_pos h1]
  · rw [if_neg (by simpa using h1), if_neg h1]
    by_cases h2 : 600 < l.length
    · rw [if_pos (by simp; omega), if_pos h2]
    · rw [if_neg (by simp; omega), if_neg h2]
      obtain ⟨m, rfl⟩ := Int.eq_ofNat_of_zero_le (show 0 ≤ n by omega)
      have := qhb (F := F) (n := m) (l := l) hF (by omega) (by omega) F 0 (by omega) (by omega) (by simp)
      rw [List.take_zero] at this
      exact this
theorem qem {n : Nat} {l : List (Int × Int)} (hn : n ≤ 100) (hl : l.length ≤ 600) (h1 : InR n l) (h2 : l.Nodup) : ofM n l = (tab n (srtA l), 0) := by
  have h3 : ofE n [] l = 0 := qdT.2 ⟨h1, h2, fun p _ => by simp⟩
  unfold ofM
  rw [if_neg (by omega), if_neg (by omega), if_neg (by rw [h3]; decide), Int.toNat_natCast]
theorem qeL {n : Nat} {l : List (Int × Int)} (h : l.Nodup) : IsTab n l (tab n (srtA l)) :=
  qdg (qeV (qdx h)) fun _ => (jB l).mem_iff
theorem qe9 {g : List (List Int)} (h : Gr g) : (af 0 g).length ≤ 600 := by rw [qeX]; exact h.2.2
theorem qfa {g : List (List Int)} (h : Gr g) : (af 0 g).Nodup := qeC (qgL (qgN h))
theorem qgh {g T : List (List Int)} (h : Gr g) {l : List (Int × Int)} (hT : IsTab g.length l T) (hm : ∀ p, p ∈ l ↔ p ∈ af 0 g) : T = g :=
  qdS hT (qeW (qgN h)) hm
theorem qaP {F : Nat} {xs : List (List Int)} (hm : xs.length ≤ 1000000) (hr : ∀ r ∈ xs, r.length ≤ 1000000 ∧ r.length < F) : ∀ (k i : Nat), xs.length < k + i → i ≤ xs.length → zZ F xs xs k (i : Int) = some true
  | 0, _, _, _ => by omega
  | k + 1, i, h, hi => by
    show k3 F xs xs (zZ F xs xs k) (i : Int) = _
    unfold k3
    by_cases hlt : i < xs.length
    · have := hr _ (List.getElem_mem hlt)
      rw [if_pos (by simp; omega), yb, List.getElem?_eq_getElem hlt]
      simp only [Option.bind_some]
      rw [qdV this.2 this.1]
      simp only [Option.bind_some]
      rw [if_neg (by simp), kQ (by omega)]
      exact qaP hm hr k (i + 1) (by omega) (by omega)
    · rw [if_neg (by simp; omega)]
      rfl
theorem qdW {F : Nat} {xs : List (List Int)} (hF : xs.length < F) (hm : xs.length ≤ 1000000) (hr : ∀ r ∈ xs, r.length ≤ 1000000 ∧ r.length < F) : zV F xs xs = some true := by
  unfold zV
  rw [if_neg (by simp)]
  exact qaP hm hr F 0 (by omega) (by omega)
def By (s : List Int) : Prop := ∀ x ∈ s, 0 ≤ x ∧ x < 256
def cut8 (c : UInt8) : List UInt8 → List (List UInt8)
  | [] => [[]]
  | x :: t => if x = c then [] :: cut8 c t else match cut8 c t with | [] => [[x]] | h :: r => (x :: h) :: r
theorem qdQ (t : List UInt8) (c : UInt8) : -1 ≤ Lib.index t [c] := Lib.index_ge t [c]
theorem qa2 (x : UInt8) (t : List UInt8) (c : UInt8) : Lib.index (x :: t) [c] = if x = c then 0 else if Lib.index t [c] = -1 then -1 else Lib.index t [c] + 1 := by
  rw [show Lib.index (x :: t) [c] = if [c].isPrefixOf (x :: t) then 0 else if Lib.index t [c] == -1 then -1 else Lib.index t [c] + 1 from rfl]
  by_cases h : x = c
  · subst h
    simp [List.isPrefixOf]
  · have h2 : ([c].isPrefixOf (x :: t)) = false := by
      simp only [List.isPrefixOf, Bool.and_true, beq_eq_false_iff_ne]
      exact fun e => h e.symm
    rw [if_neg (by rw [h2]; simp), if_neg h]
    simp
theorem qbB (c : UInt8) (k : Nat) (s : List UInt8) : Lib.splitK [c] 0 (k + 1) s = if Lib.index s [c] == -1 then [s] else s.take ((Lib.index s [c]).toNat + 0) :: Lib.splitK [c] 0 k (s.drop ((Lib.index s [c]).toNat + 1)) := rfl
theorem qbA (c : UInt8) : ∀ (L : List UInt8), Lib.splitK [c] 0 (L.count c) L = cut8 c L
  | [] => rfl
  | x :: t => by
    have ih := qbA c t
    unfold cut8
    by_cases h : x = c
    · subst h
      rw [List.count_cons_self, if_pos rfl, ← ih]
      rw [qbB, qa2, if_pos rfl]
      simp
    · rw [if_neg h, ← ih, List.count_cons_of_ne (fun e => h e)]
      cases hk : t.count c with
      | zero => rfl
      | succ k =>
        rw [qbB, qbB, qa2, if_neg h]
        have hge := qdQ t c
        by_cases hi : Lib.index t [c] = -1
        · simp [hi]
        · have e1 : ∃ i : Nat, Lib.index t [c] = i := ⟨(Lib.index t [c]).toNat, by omega⟩
          obtain ⟨i, hi2⟩ := e1
          rw [hi2]
          have n1 : ¬ ((i : Int) = -1) := by omega
          have n2 : ¬ ((i : Int) + 1 = -1) := by omega
          have e2 : ((i : Int) + 1).toNat = i + 1 := by omega
          simp [n1, n2, e2]
def cutI (c : Int) : List Int → List (List Int)
  | [] => [[]]
  | x :: t => if x = c then [] :: cutI c t else match cutI c t with | [] => [[x]] | h :: r => (x :: h) :: r
def u8 (n : Int) : UInt8 := UInt8.ofNat n.toNat
theorem qf1 {a b : Int} (ha : 0 ≤ a ∧ a < 256) (hb : 0 ≤ b ∧ b < 256) : u8 a = u8 b ↔ a = b := by
  constructor
  · intro h
    have h1 : b8 a = b8 b := by
      show ((u8 a).toNat : Int) = ((u8 b).toNat : Int)
      rw [h]
    rw [j8 ha.1 ha.2, j8 hb.1 hb.2] at h1
    exact h1
  · rintro rfl; rfl
def toI (l : List UInt8) : List Int := l.map fun u => (u.toNat : Int)
theorem qe5 {c : Int} (hc : 0 ≤ c ∧ c < 256) : ∀ (s : List Int), By s → (cut8 (u8 c) (s.map u8)).map toI = cutI c s
  | [], _ => rfl
  | x :: t, h => by
    have hx := h x (List.mem_cons_self ..)
    have ih := qe5 hc t fun y hy => h y (List.mem_cons_of_mem _ hy)
    have hb : ((u8 x).toNat : Int) = x := j8 hx.1 hx.2
    rw [List.map_cons]
    unfold cut8 cutI
    by_cases e : x = c
    · subst e
      rw [if_pos rfl, if_pos rfl, List.map_cons, ih]
      rfl
    · rw [if_neg (fun e2 => e ((qf1 hx hc).1 e2)), if_neg e, ← ih]
      cases cut8 (u8 c) (t.map u8) with
      | nil => show [toI [u8 x]] = [[x]]; simp [toI, hb]
      | cons a r =>
        show toI (u8 x :: a) :: r.map toI = (x :: toI a) :: r.map toI
        rw [show toI (u8 x :: a) = ((u8 x).toNat : Int) :: toI a from rfl, hb]
theorem qbC {c : Int} {s : List Int} (hc : 0 ≤ c ∧ c < 256) (hs : By s) (hl : s.length < 4294967281) : splitM s [c] = some (cutI c s) := by
  unfold splitM
  simp only [hl, if_true]
  congr 1
  have h1 := Lib.splitB_data (bstr [c]) 0 (Lib.countB (bstr s) (bstr [c])) (bstr s)
  have h2 : Lib.countB (bstr s) (bstr [c]) = (s.map u8).count (u8 c) := by
    show Lib.count (bstr s).data.toList (bstr [c]).data.toList = _
    rw [qY, qY]
    exact Lib.count_one _ _
  rw [h2] at h1 ⊢
  rw [qY, qY] at h1
  have h3 : Lib.splitK [u8 c] 0 ((s.map u8).count (u8 c)) (s.map u8) = cut8 (u8 c) (s.map u8) := qbA _ _
  have h4 : ([c].map fun n => UInt8.ofNat n.toNat) = [u8 c] := rfl
  have h5 : (s.map fun n => UInt8.ofNat n.toNat) = s.map u8 := rfl
  rw [h4, h5, h3] at h1
  rw [← qe5 hc s hs, ← h1, List.map_map]
  rfl
theorem qeg (c : Int) (s : List Int) : cutI c s ≠ [] := by
  cases s with
  | nil => simp [cutI]
  | cons x t =>
    unfold cutI
    split
    · simp
    · split <;> simp
theorem qaF {c : Int} : ∀ {s : List Int}, By s → ∀ l ∈ cutI c s, By l
  | [], _, l, hl => by simp [cutI] at hl; subst hl; exact fun x hx => by simp at hx
  | x :: t, h, l, hl => by
    have ht : By t := fun y hy => h y (List.mem_cons_of_mem _ hy)
    have hx := h x (List.mem_cons_self ..)
    unfold cutI at hl
    split at hl
    · rcases List.mem_cons.1 hl with rfl | hl
      · exact fun x hx => by simp at hx
      · exact qaF ht l hl
    · have ih := fun l hl => qaF (c := c) ht l hl
      cases he : cutI c t with
      | nil => exact absurd he (qeg c t)
      | cons a r =>
        rw [he] at hl ih
        rcases List.mem_cons.1 hl with rfl | hl
        · intro y hy
          rcases List.mem_cons.1 hy with rfl | hy
          · exact hx
          · exact ih a (List.mem_cons_self ..) y hy
        · exact ih l (List.mem_cons_of_mem _ hl)
theorem qdb {c : Int} : ∀ (s : List Int), (cutI c s).length ≤ s.length + 1
  | [] => by simp [cutI]
  | x :: t => by
    have ih := qdb (c := c) t
    unfold cutI
    split
    · simp; omega
    · cases he : cutI c t with
      | nil => simp
      | cons a r => rw [he] at ih; simp at ih ⊢; omega
theorem qez {c : Int} {a : List Int} (h : c ∉ a) : cutI c a = [a] := by
  induction a with
  | nil => rfl
  | cons x t ih =>
    have h1 : ¬ x = c := fun e => h (by rw [e]; exact List.mem_cons_self ..)
    have ih := ih fun e => h (List.mem_cons_of_mem _ e)
    unfold cutI
    rw [if_neg h1, ih]
theorem qca {c : Int} : ∀ (a : List Int), cutI c (a ++ [c]) = cutI c a ++ [[]]
  | [] => by simp [cutI]
  | x :: t => by
    have ih := qca (c := c) t
    rw [List.cons_append]
    by_cases e : x = c
    · unfold cutI
      rw [if_pos e, if_pos e, ih]
      rfl
    · unfold cutI
      rw [if_neg e, if_neg e, ih]
      cases he : cutI c t with
      | nil => exact absurd he (qeg c t)
      | cons a r => rfl
def linesI : List Int → List (List Int)
  | [] => []
  | x :: t => if x = 10 then [] :: linesI t else match linesI t with | [] => [[x]] | h :: r => (x :: h) :: r
theorem qa3 (x : Int) (t : List Int) : linesI (x :: t) = if x = 10 then [] :: linesI t else match linesI t with | [] => [[x]] | h :: r => (x :: h) :: r := rfl
theorem qbr (x : Int) (t : List Int) : linesI (x :: t) ≠ [] := by
  unfold linesI
  split
  · simp
  · split <;> simp
theorem vU : ∀ (s : List Int), cutI 10 s = if s = [] ∨ s.getLast? = some 10 then linesI s ++ [[]] else linesI s
  | [] => rfl
  | [x] => by
    by_cases e : x = 10
    · subst e; rfl
    · simp [cutI, linesI, e]
  | x :: y :: t => by
    have ih := vU (y :: t)
    have hg : (x :: y :: t).getLast? = (y :: t).getLast? := by simp [List.getLast?_cons_cons]
    have h0 : (x :: y :: t = [] ∨ (x :: y :: t).getLast? = some 10) ↔ (y :: t = [] ∨ (y :: t).getLast? = some 10) := by rw [hg]; simp
    rw [show cutI 10 (x :: y :: t) = if x = 10 then [] :: cutI 10 (y :: t) else match cutI 10 (y :: t) with | [] => [[x]] | h :: r => (x :: h) :: r from rfl, ih,
      show linesI (x :: y :: t) = if x = 10 then [] :: linesI (y :: t) else match linesI (y :: t) with | [] => [[x]] | h :: r => (x :: h) :: r from rfl]
    have hne := qbr y t
    by_cases hq : y :: t = [] ∨ (y :: t).getLast? = some 10
    · rw [if_pos hq, if_pos (h0.2 hq)]
      by_cases e : x = 10
      · rw [if_pos e, if_pos e]; rfl
      · rw [if_neg e, if_neg e]
        cases he : linesI (y :: t) with
        | nil => exact absurd he hne
        | cons a r => rfl
    · rw [if_neg hq, if_neg (fun h => hq (h0.1 h))]
theorem qdi (a : List Int) : linesI (a ++ [10]) = cutI 10 a := by
  have h := vU (a ++ [10])
  rw [if_pos (Or.inr (by simp)), qca] at h
  exact (List.append_cancel_right h).symm
theorem qeD {s : List Int} (h : By s) : ∀ l ∈ linesI s, By l := fun l hl => by
  have h1 := vU s
  have h2 : l ∈ cutI 10 s := by rw [h1]; split <;> simp [hl]
  exact qaF h l h2
theorem qaL : ∀ (s : List Int), ∀ l ∈ linesI s, l.length ≤ s.length
  | [], l, h => by simp [linesI] at h
  | x :: t, l, h => by
    have ih := qaL t
    rw [qa3] at h
    split at h
    · rcases List.mem_cons.1 h with rfl | h
      · simp
      · have := ih l h; simp; omega
    · cases he : linesI t with
      | nil => rw [he] at h; simp at h; subst h; simp
      | cons a r =>
        rw [he] at h ih
        rcases List.mem_cons.1 h with rfl | h
        · have := ih a (List.mem_cons_self ..); simp; omega
        · have := ih l (List.mem_cons_of_mem _ h); simp; omega
theorem qbq {a s : List Int} (h : (10 : Int) ∉ a) : linesI (a ++ 10 :: s) = a :: linesI s := by
  induction a with
  | nil => simp [linesI]
  | cons x t ih =>
    have h1 : ¬ x = 10 := fun e => h (by rw [e]; exact List.mem_cons_self ..)
    have ih := ih fun e => h (List.mem_cons_of_mem _ e)
    rw [List.cons_append, qa3, if_neg h1, ih]
theorem qe1 {a b : ByteArray} (h : (a == b) = true) : a = b := by
  obtain ⟨x⟩ := a
  obtain ⟨y⟩ := b
  have h2 : (x == y) = true := h
  rw [beq_iff_eq.1 h2]
theorem qe0 (a b : ByteArray) : (a == b) = decide (a = b) := by
  rw [← qcG]
  by_cases h : a = b
  · subst h; simp
  · rw [decide_eq_false h]
    rw [beq_eq_false_iff_ne]
    intro e
    have h2 := qcG a b
    rw [beq_iff_eq.2 e] at h2
    exact h (qe1 h2.symm)
theorem bq {a b : List Int} (ha : By a) (hb : By b) : (bstr a == bstr b) = decide (a = b) := by
  rw [qe0]
  by_cases e : a = b
  · subst e; simp
  · rw [decide_eq_false e, decide_eq_false fun h => e (qe2 ha hb h)]
theorem qgS : By [] := fun x hx => by simp at hx
theorem qcJ {c : Int} (h : 0 ≤ c ∧ c < 256) : By [c] := fun y hy => by simp at hy; subst hy; exact h
theorem qc9 {s : List Int} (h : By s) : (bstr s == bstr []) = decide (s = []) := bq h qgS
theorem qeM {F : Nat} {s : List Int} (h : By s) (hl : s.length ≤ 1000000000) : kn F s [10] = some (if s.getLast? = some 10 then s.dropLast else s) := by
  unfold kn zq zv
  rcases List.eq_nil_or_concat s with rfl | ⟨a, x, rfl⟩
  · simp [qG]
  · have hx := h x (by simp)
    rw [List.concat_eq_append] at *
    have hln : (a ++ [x]).length = a.length + 1 := by simp
    have e1 : isub .i64 (((a ++ [x]).length : Int)) (([10] : List Int).length : Int) = (a.length : Int) := by
      rw [qfb (by rw [hln]; simp) (by rw [hln] at hl ⊢; simp; omega)]
      simp
    have e2 : decide ((([10] : List Int).length : Int) ≤ ((a ++ [x]).length : Int)) = true := by simp; omega
    have e3 : sub (a ++ [x]) (a.length : Int) ((a ++ [x]).length : Int) = some [x] := by
      unfold sub
      rw [if_pos ⟨by omega, by omega, by omega⟩]
      simp only [Int.toNat_natCast, hln]
      rw [List.take_of_length_le (by rw [hln]; omega)]
      simp
    have e4 : sub (a ++ [x]) 0 (a.length : Int) = some a := by
      unfold sub
      rw [if_pos ⟨by omega, by omega, by omega⟩]
      simp
    have e5 : (bstr [x] == bstr [10]) = decide (x = 10) := by
      rw [bq (qcJ hx) (qcJ (by decide))]
      simp
    rw [e1, e2, e3]
    simp only [if_true, Option.bind_some, qG, e5, e4]
    by_cases e : x = 10
    · simp [e]
    · simp [e]
theorem qfe {F : Nat} {s : List Int} (h : By s) (hl : s.length ≤ 1000000000) : vC F s = some (linesI s) := by
  unfold vC
  rw [qc9 h]
  by_cases e : s = []
  · subst e; rfl
  · rw [qeM h hl]
    simp only [e, decide_false, Bool.false_eq_true, if_false, Option.bind_some]
    by_cases h10 : s.getLast? = some 10
    · rw [if_pos h10]
      rcases List.eq_nil_or_concat s with rfl | ⟨a, x, rfl⟩
      · exact absurd rfl e
      · have hx : x = 10 := by simpa using h10
        subst hx
        have ha : By a := fun y hy => h y (by simp [hy])
        simp only [List.concat_eq_append, List.dropLast_concat]
        rw [qbC (by decide) ha (by simp at hl; omega), Option.bind_some, qdi]
    · rw [if_neg h10, qbC (by decide) h (by omega), Option.bind_some]
      have := vU s
      rw [if_neg (fun hq => by rcases hq with hq | hq; exact e hq; exact h10 hq)] at this
      rw [this]
def ne0 (w : List Int) : Bool := decide (w ≠ [])
def wordsI (s : List Int) : List (List Int) := (cutI 32 s).filter ne0
def hsh (ws : List (List Int)) : Bool := match ws with | (x :: _) :: _ => decide (x = 35) | _ => false
def wdsI (s : List Int) : List (List Int) := if hsh (wordsI s) then [] else wordsI s
theorem qcq {s : List Int} (h : By s) : ∀ w ∈ wordsI s, By w ∧ w ≠ [] := fun w hw => by
  obtain ⟨h1, h2⟩ := List.mem_filter.1 hw
  exact ⟨qaF h w h1, by simpa [ne0] using h2⟩
theorem qgJ {s : List Int} (h : By s) : ∀ w ∈ wdsI s, By w ∧ w ≠ [] := fun w hw => by
  unfold wdsI at hw
  split at hw
  · simp at hw
  · exact qcq h w hw
theorem qg3 {F : Nat} {ws : List (List Int)} (h : ∀ w ∈ ws, By w ∧ w ≠ []) : kG F ws = some (if hsh ws then [] else ws) := by
  unfold kG
  cases ws with
  | nil => rfl
  | cons w r =>
    obtain ⟨h1, h2⟩ := h w (List.mem_cons_self ..)
    cases w with
    | nil => exact absurd rfl h2
    | cons x t =>
      have hx := h1 x (List.mem_cons_self ..)
      rw [if_pos (by simp)]
      simp only [show idx ((x :: t) :: r) 0 = some (x :: t) from rfl, show idx (x :: t) 0 = some x from rfl, Option.bind_some, yo, j8 hx.1 hx.2, hsh]
      by_cases e : x = 35
      · simp [e]
      · simp [e]
theorem qf2 {F : Nat} {L : List (List Int)} (hb : ∀ l ∈ L, By l) (hm : L.length ≤ 1000000000) : ∀ (k i : Nat) (acc : List (List Int)), L.length < k + i → i ≤ L.length → acc.length ≤ i →
    zC F L k (acc, (i : Int)) = kG F (acc ++ (L.drop i).filter ne0)
  | 0, _, _, _, _, _ => by omega
  | k + 1, i, acc, h, hi, ha => by
    show k9 F L (zC F L k) acc (i : Int) = _
    unfold k9
    by_cases hlt : i < L.length
    · rw [if_pos (by simp; omega), yb, List.getElem?_eq_getElem hlt, List.drop_eq_getElem_cons hlt]
      simp only [Option.bind_some]
      have hl := hb L[i] (List.getElem_mem hlt)
      rw [qc9 hl]
      unfold ya
      by_cases e : L[i] = []
      · rw [List.filter_cons_of_neg (by simp [ne0, e])]
        simp only [e, decide_true, Bool.not_true, Bool.false_eq_true, if_false]
        rw [kQ (by omega)]
        exact qf2 hb hm k (i + 1) acc (by omega) (by omega) (by omega)
      · rw [List.filter_cons_of_pos (by simp [ne0, e])]
        simp only [e, decide_false, Bool.not_false, if_true]
        rw [jn (by simp; omega), Option.bind_some]
        rw [kQ (by omega), qf2 hb hm k (i + 1) (acc ++ [L[i]]) (by omega) (by omega) (by simp; omega), List.append_assoc]
        rfl
    · rw [if_neg (by simp; omega), List.drop_eq_nil_of_le (by omega)]
      simp
theorem qf3 {F : Nat} {s : List Int} (h : By s) (hl : s.length ≤ 900000000) (hF : s.length + 1 < F) : vD F s = some (wdsI s) := by
  unfold vD
  rw [qbC (by decide) h (by omega), Option.bind_some]
  have hlen := qdb (c := 32) s
  have := qf2 (F := F) (L := cutI 32 s) (qaF h) (by omega) F 0 [] (by omega) (by omega) (by simp)
  rw [show (((0 : Nat) : Int)) = 0 from rfl, List.drop_zero, List.nil_append] at this
  rw [this]
  exact qg3 (qcq h)
def dgt (x : Int) : Bool := decide (48 ≤ x ∧ x ≤ 57)
def valI (n : Int) : List Int → Int
  | [] => n
  | x :: t => valI (10 * n + (x - 48)) t
def numI (w : List Int) : Int := if w.length ≤ 6 ∧ w.all dgt = true then valI 0 w else -1
theorem qdM {α : Type} {p : α → Bool} : ∀ {l : List α}, l.dropWhile p = [] ↔ ∀ x ∈ l, p x = true
  | [] => by simp
  | x :: t => by
    rw [List.dropWhile_cons]
    by_cases h : p x = true
    · rw [if_pos h, qdM (l := t)]
      simp [h]
    · rw [if_neg h]
      simp [h]
theorem qf0 {α : Type} {p : α → Bool} {x : α} : ∀ {l : List α}, x ∈ l.takeWhile p → p x = true
  | [], h => by simp at h
  | y :: t, h => by
    rw [List.takeWhile_cons] at h
    by_cases hy : p y = true
    · rw [if_pos hy] at h
      rcases List.mem_cons.1 h with rfl | h
      · exact hy
      · exact qf0 h
    · rw [if_neg hy] at h
      simp at h
theorem qfZ (l cs : List UInt8) : (Lib.trimS l cs = []) ↔ l.all (fun x => cs.contains x) = true := by
  unfold Lib.trimS Lib.trimLeftS Lib.trimRightS
  constructor
  · intro h
    rw [qdM] at h
    rw [List.all_eq_true]
    intro x hx
    by_cases hc : cs.contains x = true
    · exact hc
    · have hm : x ∈ l.reverse.dropWhile (cs.contains ·) := by
        have h1 : x ∈ l.reverse := List.mem_reverse.2 hx
        rw [← List.takeWhile_append_dropWhile (p := (cs.contains ·)) (l := l.reverse)] at h1
        rcases List.mem_append.1 h1 with h1 | h1
        · exact absurd (qf0 h1) hc
        · exact h1
      exact h x (List.mem_reverse.2 hm)
  · intro h
    have h1 : l.reverse.dropWhile (cs.contains ·) = [] := by
      rw [qdM]
      intro x hx
      exact List.all_eq_true.1 h x (List.mem_reverse.1 hx)
    rw [h1]
    rfl
theorem qgT {x : Int} (hx : 0 ≤ x ∧ x < 256) : (([48, 49, 50, 51, 52, 53, 54, 55, 56, 57] : List Int).map u8).contains (u8 x) = dgt x := by
  have h1 : ∀ y : Int, 0 ≤ y → y < 256 → (u8 x = u8 y ↔ x = y) := fun y h0 h1 => qf1 hx ⟨h0, h1⟩
  rw [Bool.eq_iff_iff]
  simp only [List.contains_iff_mem, List.map_cons, List.map_nil, List.mem_cons, List.not_mem_nil, or_false, dgt, decide_eq_true_eq]
  rw [h1 48 (by decide) (by decide), h1 49 (by decide) (by decide), h1 50 (by decide) (by decide), h1 51 (by decide) (by decide), h1 52 (by decide) (by decide), h1 53 (by decide) (by decide), h1 54 (by decide) (by decide), h1 55 (by decide) (by decide), h1 56 (by decide) (by decide), h1 57 (by decide) (by decide)]
  omega
theorem qfY {w : List Int} (h : By w) (hl : w.length ≤ 1000) : ∃ y, trimM w [48, 49, 50, 51, 52, 53, 54, 55, 56, 57] = some y ∧ (!(bstr y == bstr [])) = !(w.all dgt) := by
  unfold trimM
  rw [if_pos ⟨by decide, by decide, by decide, by omega⟩]
  refine ⟨_, rfl, ?_⟩
  rw [qai, qe0]
  congr 1
  rw [Bool.eq_iff_iff, decide_eq_true_eq]
  have h1 : ∀ l : List UInt8, (({ data := l.toArray } : ByteArray) = bstr []) ↔ l = [] := fun l => by
    constructor
    · intro e
      have := congrArg (fun b => b.data.toList) e
      simpa [qY] using this
    · rintro rfl; rfl
  rw [h1, qfZ, qY, qY, List.all_map]
  rw [← Bool.eq_iff_iff]
  rw [Bool.eq_iff_iff, List.all_eq_true, List.all_eq_true]
  refine forall₂_congr fun x hx => ?_
  rw [← qgT (h x hx)]
  rfl
theorem qeh : ∀ (w : List Int) (n : Nat), w.all dgt = true → Lib.decFrom n (w.map u8) = some (valI n w).toNat
  | [], n, _ => by simp [Lib.decFrom, valI]
  | x :: t, n, hd => by
    rw [List.all_cons, Bool.and_eq_true] at hd
    obtain ⟨hx, ht⟩ := hd
    have hx : 48 ≤ x ∧ x ≤ 57 := by simpa [dgt] using hx
    have h1 : ((u8 x).toNat : Int) = x := j8 (by omega) (by omega)
    rw [List.map_cons]
    unfold Lib.decFrom Lib.digitVal
    rw [if_pos (by omega)]
    show Lib.decFrom (n * 10 + ((u8 x).toNat - 48)) (t.map u8) = _
    rw [qeh t _ ht]
    show _ = some (valI (10 * (n : Int) + (x - 48)) t).toNat
    congr 3
    omega
theorem qet : ∀ (w : List Int) (n : Int), w.all dgt = true → 0 ≤ n → 0 ≤ valI n w
  | [], _, _, h => h
  | x :: t, n, hd, h => by
    rw [List.all_cons, Bool.and_eq_true] at hd
    have hx : 48 ≤ x ∧ x ≤ 57 := by simpa [dgt] using hd.1
    exact qet t _ hd.2 (by omega)
theorem qeZ {w : List Int} (hd : w.all dgt = true) (h0 : w ≠ []) (hl : w.length ≤ 6) : atoiM w = some (valI 0 w) := by
  unfold atoiM
  rw [if_pos (by omega), qY]
  cases w with
  | nil => exact absurd rfl h0
  | cons x t =>
    have hx : 48 ≤ x ∧ x ≤ 57 := by
      rw [List.all_cons, Bool.and_eq_true] at hd
      simpa [dgt] using hd.1
    have h1 : ((u8 x).toNat : Int) = x := j8 (by omega) (by omega)
    have n45 : ¬ u8 x = 45 := fun e => by rw [e] at h1; simp at h1; omega
    have n43 : ¬ u8 x = 43 := fun e => by rw [e] at h1; simp at h1; omega
    have hv := qeh (x :: t) 0 hd
    have hnn := qet (x :: t) 0 hd (by decide)
    show Lib.atoi (u8 x :: t.map u8) = _
    unfold Lib.atoi Lib.decNat
    simp only [beq_iff_eq, n45, n43, if_false]
    rw [List.map_cons] at hv
    simp only [List.isEmpty_cons, Bool.false_eq_true, if_false, hv, Option.map_some]
    congr 1
    rw [show (((0 : Nat) : Int)) = 0 from rfl]
    omega
theorem qaV {F : Nat} {w : List Int} (h : By w) (h0 : w ≠ []) : zt F w = some (numI w) := by
  unfold zt
  by_cases hl : w.length ≤ 6
  · rw [if_neg (by simp; omega)]
    obtain ⟨y, e1, e2⟩ := qfY h (by omega)
    rw [e1, Option.bind_some, e2]
    unfold ku numI
    cases hd : w.all dgt with
    | false => simp
    | true => simp [qeZ hd h0 hl, hl]
  · rw [if_pos (by simp; omega)]
    unfold ku numI
    rw [if_pos rfl, if_neg (by omega)]
def stepI (n : Int) (A : List (Int × Int)) (ws : List (List Int)) : Int × Int × List (Int × Int) :=
  if n < 0 then
    match ws with
    | [w] => if numI w < 0 then (1, n, A) else if 100 < numI w then (3, n, A) else (0, numI w, A)
    | _ => (1, n, A)
  else
    match ws with
    | [u, v] => if numI u < 0 ∨ numI v < 0 then (1, n, A) else if n ≤ numI u ∨ n ≤ numI v then (3, n, A) else if (numI u, numI v) ∈ A then (6, n, A) else if A.length = 600 then (2, n, A) else (0, n, A ++ [(numI u, numI v)])
    | _ => (1, n, A)
def goI : List (List Int) → Int → Int → List (Int × Int) → (Int × Int) ⊕ (Int × List (Int × Int))
  | [], _, n, A => .inr (n, A)
  | l :: L, i, n, A => if wdsI l = [] then goI L (i + 1) n A else if (stepI n A (wdsI l)).1 ≠ 0 then .inl (i + 1, (stepI n A (wdsI l)).1) else goI L (i + 1) (stepI n A (wdsI l)).2.1 (stepI n A (wdsI l)).2.2
def endI (n : Int) (A : List (Int × Int)) : List (List Int) × Int × Int := if n < 0 then ([], 0, 5) else ((ofM n A).1, 0, (ofM n A).2)
def outI : (Int × Int) ⊕ (Int × List (Int × Int)) → List (List Int) × Int × Int := Sum.elim (fun p => ([], p.1, p.2)) (fun q => endI q.1 q.2)
def parseI (s : List Int) : List (List Int) × Int × Int := if 20000 < s.length ∨ 1000 < (linesI s).length then ([], 0, 2) else outI (goI (linesI s) 0 (-1) [])
theorem qgi {F : Nat} {n : Int} {A : List (Int × Int)} {ws : List (List Int)} (hn : n < 0) (h : ∀ w ∈ ws, By w ∧ w ≠ []) :
    kz F n A A ws = some ((stepI n A ws).1, (stepI n A ws).2.1, (stepI n A ws).2.2, (stepI n A ws).2.2) := by
  unfold kz ka stepI
  rw [if_pos hn]
  match ws, h with
  | [], _ => simp
  | [w], h =>
    obtain ⟨h1, h2⟩ := h w (List.mem_cons_self ..)
    simp only [show idx [w] 0 = some w from rfl, Option.bind_some, qaV h1 h2]
    by_cases e1 : numI w < 0
    · simp [e1]
    · by_cases e2 : 100 < numI w
      · simp [e1, e2]
      · simp [e1, e2]
  | _ :: _ :: r, _ =>
    rw [if_pos (by simp; omega)]
    simp
theorem qfr {A : List (Int × Int)} {p : Int × Int} (h : p ∉ A) : sins A p = some (A ++ [p]) := by unfold sins; rw [if_neg h]
theorem qfk {F : Nat} {n : Int} {A : List (Int × Int)} {ws : List (List Int)} (hA : A.length ≤ 600) (h : ∀ w ∈ ws, By w ∧ w ≠ []) :
    kA F n A A ws = some ((stepI n A ws).1, (stepI n A ws).2.1, (stepI n A ws).2.2, (stepI n A ws).2.2) := by
  unfold kA
  by_cases hn : n < 0
  · rw [if_pos (by simpa using hn), qgi hn h]
    rfl
  · rw [if_neg (by simpa using hn)]
    unfold stepI
    rw [if_neg hn]
    match ws, h with
    | [], _ => simp
    | [w], _ => simp
    | [u, v], h =>
      obtain ⟨u1, u2⟩ := h u (by simp)
      obtain ⟨v1, v2⟩ := h v (by simp)
      simp only [show idx [u, v] 0 = some u from rfl, show idx [u, v] 1 = some v from rfl, Option.bind_some, qaV u1 u2, qaV v1 v2]
      rw [if_neg (by simp)]
      unfold zx kb kd
      by_cases e1 : numI u < 0
      · simp [e1]
      by_cases e2 : numI v < 0
      · simp [e1, e2]
      by_cases e3 : n ≤ numI u
      · simp [e1, e2, e3]
      by_cases e4 : n ≤ numI v
      · simp [e1, e2, e3, e4]
      by_cases e5 : (numI u, numI v) ∈ A
      · simp [e1, e2, e3, e4, e5]
      by_cases e6 : A.length = 600
      · simp [e1, e2, e3, e4, e5, e6]
      · have e7 : ¬ ((A.length : Int) = 600) := by omega
        simp only [e1, e2, e3, e4, e5, e6, e7, decide_false, Bool.or_false, Bool.false_eq_true, if_false, or_self, beq_iff_eq, jn (show A.length + [(numI u, numI v)].length ≤ 4398046511104 by simp; omega), qfr e5, Option.bind_some]
    | _ :: _ :: _ :: r, _ =>
      rw [if_pos (by simp; omega)]
theorem qfv {n : Int} {A : List (Int × Int)} {ws : List (List Int)} (hA : A.length ≤ 600) : (stepI n A ws).2.2.length ≤ 600 := by
  unfold stepI
  split
  · split
    · split
      · exact hA
      · split <;> exact hA
    · exact hA
  · split
    · split
      · exact hA
      · split
        · exact hA
        · split
          · exact hA
          · split
            · exact hA
            · simp; omega
    · exact hA
theorem qcU {F : Nat} {L : List (List Int)} (hF : 1000 ≤ F) (hb : ∀ l ∈ L, By l ∧ l.length ≤ 900000000 ∧ l.length + 1 < F) (hm : L.length ≤ 1000) : ∀ (k i : Nat) (n : Int) (A : List (Int × Int)), L.length < k + i → i ≤ L.length → A.length ≤ 600 →
    zO F L k ((i : Int), n, A, A) = some (outI (goI (L.drop i) i n A))
  | 0, _, _, _, _, _, _ => by omega
  | k + 1, i, n, A, h, hi, hA => by
    show ym F L (zO F L k) (i : Int) n A A = _
    unfold ym
    by_cases hlt : i < L.length
    · rw [if_pos (by simp; omega), yb, List.getElem?_eq_getElem hlt, List.drop_eq_getElem_cons hlt]
      obtain ⟨b1, b2, b3⟩ := hb L[i] (List.getElem_mem hlt)
      simp only [Option.bind_some, qf3 b1 b2 b3]
      unfold k8 goI
      rw [kQ (by omega)]
      by_cases e : wdsI L[i] = []
      · rw [if_pos (by simp [e]), if_pos e, qcU hF hb hm k (i + 1) n A (by omega) (by omega) hA]
        rfl
      · have hl : (wdsI L[i]).length ≠ 0 := fun h => e (List.length_eq_zero_iff.1 h)
        rw [if_neg (by simp; exact e), if_neg e, qfk hA (qgJ b1)]
        simp only [Option.bind_some]
        by_cases e2 : (stepI n A (wdsI L[i])).1 = 0
        · rw [if_neg (by simp [e2]), if_neg (by simp [e2]), qcU hF hb hm k (i + 1) _ _ (by omega) (by omega) (qfv hA)]
          rfl
        · rw [if_pos (by simpa using e2), if_pos e2]
          rfl
    · rw [if_neg (by simp; omega), List.drop_eq_nil_of_le (by omega)]
      unfold vx yn
      show _ = some (endI n A)
      unfold endI
      by_cases e : n < 0
      · rw [if_pos (by simpa using e), if_pos e]
      · rw [if_neg (by simpa using e), if_neg e, qha hF]
        rfl
theorem jz {F : Nat} {s : List Int} (h : By s) (hl : s.length ≤ 900000000) (hF : 100000 ≤ F) : qM F s = some (parseI s) := by
  unfold qM
  rw [qfe h (by omega), Option.bind_some]
  unfold parseI
  by_cases e : 20000 < s.length ∨ 1000 < (linesI s).length
  · rw [if_pos (by simp only [Bool.or_eq_true, decide_eq_true_eq]; omega), if_pos e]
  · rw [if_neg (by simp only [Bool.or_eq_true, decide_eq_true_eq]; omega), if_neg e]
    have hsh : ∀ l ∈ linesI s, l.length ≤ s.length := qaL s
    have := qcU (F := F) (L := linesI s) (by omega) (fun l hl => ⟨qeD h l hl, by have := hsh l hl; omega, by have := hsh l hl; omega⟩) (by omega) F 0 (-1) [] (by omega) (by omega) (by simp)
    rw [List.drop_zero] at this
    exact this
def InvI (n : Int) (A : List (Int × Int)) : Prop := (n < 0 ∧ A = []) ∨ (0 ≤ n ∧ n ≤ 100 ∧ InR n.toNat A ∧ A.Nodup ∧ A.length ≤ 600)
theorem qg8 : InvI (-1) [] := .inl ⟨by decide, rfl⟩
theorem qfu {n : Int} {A : List (Int × Int)} {ws : List (List Int)} (h : InvI n A) (h0 : (stepI n A ws).1 = 0) : InvI (stepI n A ws).2.1 (stepI n A ws).2.2 := by
  unfold stepI at h0 ⊢
  rcases h with ⟨hn, rfl⟩ | ⟨hn, hn2, hr, hnd, hlen⟩
  · rw [if_pos hn] at h0 ⊢
    match ws, h0 with
    | [], h0 => simp at h0
    | [w], h0 =>
      simp only at h0 ⊢
      by_cases e1 : numI w < 0
      · simp [e1] at h0
      · by_cases e2 : 100 < numI w
        · simp [e1, e2] at h0
        · simp only [e1, e2, if_false]
          exact .inr ⟨by omega, by omega, fun p hp => by simp at hp, List.nodup_nil, by simp⟩
    | _ :: _ :: r, h0 => simp at h0
  · rw [if_neg (by omega)] at h0 ⊢
    match ws, h0 with
    | [], h0 => simp at h0
    | [w], h0 => simp at h0
    | [u, v], h0 =>
      simp only at h0 ⊢
      by_cases e1 : numI u < 0 ∨ numI v < 0
      · simp [e1] at h0
      by_cases e2 : n ≤ numI u ∨ n ≤ numI v
      · simp [e1, e2] at h0
      by_cases e3 : (numI u, numI v) ∈ A
      · simp [e1, e2, e3] at h0
      by_cases e4 : A.length = 600
      · simp [e1, e2, e3, e4] at h0
      · simp only [e1, e2, e3, e4, if_false]
        refine .inr ⟨hn, hn2, fun p hp => ?_, ?_, by simp; omega⟩
        · rcases List.mem_append.1 hp with hp | hp
          · exact hr p hp
          · simp at hp
            subst hp
            simp only
            omega
        · rw [List.nodup_append]
          exact ⟨hnd, by simp, fun a ha b hb => by simp at hb; subst hb; exact fun e => e3 (e ▸ ha)⟩
    | _ :: _ :: _ :: r, h0 => simp at h0
theorem qgU {n : Int} {A : List (Int × Int)} (h : InvI n A) (hn : 0 ≤ n) : ofM n A = (tab n.toNat (srtA A), 0) := by
  rcases h with ⟨h1, _⟩ | ⟨h1, h2, h3, h4, h5⟩
  · omega
  · have := qem (n := n.toNat) (by omega) h5 h3 h4
    rw [Int.toNat_of_nonneg hn] at this
    exact this
theorem qdR : ∀ {L : List (List Int)} {i n : Int} {A : List (Int × Int)} {q : Int × List (Int × Int)}, InvI n A → goI L i n A = .inr q → InvI q.1 q.2
  | [], i, n, A, q, h, hg => by simp [goI] at hg; subst hg; exact h
  | l :: L, i, n, A, q, h, hg => by
    unfold goI at hg
    split at hg
    · exact qdR h hg
    · split at hg
      · simp at hg
      · rename_i h0
        exact qdR (qfu h (by simpa using h0)) hg
theorem qdh {a : List Int} (h : (10 : Int) ∉ a) (h0 : a ≠ []) : linesI a = [a] := by
  have h1 := vU a
  rw [qez h, if_neg (by
    intro h2
    rcases h2 with h2 | h2
    · exact h0 h2
    · exact h (List.mem_of_getLast? h2))] at h1
  exact h1.symm
def dcI (n : Int) : List Int := if n < 10 then [48 + n] else if n < 100 then [48 + n / 10, 48 + n % 10] else [48 + n / 100, 48 + n / 10 % 10, 48 + n % 10]
theorem qcM {n : Int} (h : 0 ≤ n ∧ n < 1000) : By (dcI n) := fun x hx => by
  unfold dcI at hx
  split at hx
  · simp at hx; omega
  · split at hx
    · simp at hx; omega
    · simp at hx; omega
theorem qaG (n : Int) : 1 ≤ (dcI n).length ∧ (dcI n).length ≤ 3 := by
  unfold dcI
  split
  · simp
  · split <;> simp
theorem dg1 {u : Nat} (h : u < 10) : Lib.decDigits u = [UInt8.ofNat (48 + u)] := by
  unfold Lib.decDigits
  rw [dif_pos h]
theorem dg2 {u : Nat} (h : ¬ u < 10) : Lib.decDigits u = Lib.decDigits (u / 10) ++ [UInt8.ofNat (48 + u % 10)] := by
  rw [Lib.decDigits, dif_neg h]
theorem qdE {u : Nat} (h : u < 10) : toI [UInt8.ofNat (48 + u)] = [48 + (u : Int)] := by
  have : ((48 + u) % 256 : Nat) = 48 + u := by omega
  simp [toI, this]
theorem qes (a b : List UInt8) : toI (a ++ b) = toI a ++ toI b := by simp [toI]
theorem qg6 {n : Int} (h : 0 ≤ n ∧ n < 1000) : toI (Lib.decDigits n.toNat) = dcI n := by
  unfold dcI
  by_cases h1 : n < 10
  · rw [if_pos h1, dg1 (by omega), qdE (by omega)]
    congr 1; omega
  · rw [if_neg h1, dg2 (by omega), qes, qdE (by omega)]
    by_cases h2 : n < 100
    · rw [if_pos h2, dg1 (by omega), qdE (by omega)]
      simp only [List.cons_append, List.nil_append, List.cons.injEq, and_true]
      omega
    · rw [if_neg h2, dg2 (by omega), qes, qdE (by omega), dg1 (by omega), qdE (by omega)]
      simp only [List.cons_append, List.nil_append, List.cons.injEq, and_true]
      omega
theorem qcR {n : Int} (h : 0 ≤ n ∧ n < 1000) : itoaB n = some (dcI n) := by
  unfold itoaB
  rw [if_pos h, ← qg6 h]
  unfold Lib.itoa
  rw [if_neg (by omega)]
  rfl
def arcI (p : Int × Int) : List Int := dcI p.1 ++ 32 :: (dcI p.2 ++ [10])
def txtI (n : Int) (A : List (Int × Int)) : List Int := dcI n ++ 10 :: A.flatMap arcI
def Sml (A : List (Int × Int)) : Prop := ∀ p ∈ A, (0 ≤ p.1 ∧ p.1 < 1000) ∧ (0 ≤ p.2 ∧ p.2 < 1000)
theorem qcI {a b : List Int} (ha : By a) (hb : By b) : By (a ++ b) := fun x hx => by
  rcases List.mem_append.1 hx with h | h
  · exact ha x h
  · exact hb x h
theorem qee {x : Int} {b : List Int} (ha : 0 ≤ x ∧ x < 256) (hb : By b) : By (x :: b) := fun y hy => by
  rcases List.mem_cons.1 hy with rfl | h
  · exact ha
  · exact hb y h
theorem qea {p : Int × Int} (h : (0 ≤ p.1 ∧ p.1 < 1000) ∧ (0 ≤ p.2 ∧ p.2 < 1000)) : By (arcI p) := qcI (qcM h.1) (qee (by decide) (qcI (qcM h.2) (qcJ (by decide))))
theorem qc7 (p : Int × Int) : (arcI p).length ≤ 8 := by
  have h1 := qaG p.1
  have h2 := qaG p.2
  unfold arcI
  simp
  omega
theorem qgf {A : List (Int × Int)} (h : Sml A) : By (A.flatMap arcI) := fun x hx => by
  obtain ⟨p, hp, hx⟩ := List.mem_flatMap.1 hx
  exact qea (h p hp) x hx
theorem qgI {n : Int} {A : List (Int × Int)} (hn : 0 ≤ n ∧ n < 1000) (h : Sml A) : By (txtI n A) := qcI (qcM hn) (qee (by decide) (qgf h))
theorem qff {a : List Int} (h : By a) : a.map b8 = a := by
  conv => rhs; rw [← List.map_id a]
  exact List.map_congr_left fun x hx => j8 (h x hx).1 (h x hx).2
theorem qgm {F : Nat} {acc : List Int} {p : Int × Int} (h : (0 ≤ p.1 ∧ p.1 < 1000) ∧ (0 ≤ p.2 ∧ p.2 < 1000)) (ha : acc.length ≤ 1000000) : kF F acc p.1 p.2 = some (.inl (acc ++ arcI p)) := by
  unfold kF
  have h1 := qaG p.1
  have h2 := qaG p.2
  rw [qcR h.1, qcR h.2]
  simp only [Option.bind_some]
  rw [jn (by simp; omega), Option.bind_some, jn (by simp; omega), Option.bind_some, jn (by simp; omega), Option.bind_some]
  have e : dcI p.1 ++ [32] ++ dcI p.2 ++ [10] = arcI p := by simp [arcI]
  rw [e, qff (qea h), jn (by have := qc7 p; omega), Option.bind_some]
theorem qbv {F : Nat} {yy : List Int → (Int × Int) → Option (List Int ⊕ Empty)} (hy : ∀ s p, yy s p = kF F s p.1 p.2) : ∀ (L : List (Int × Int)) (acc : List Int), Sml L → acc.length + 8 * L.length ≤ 1000000 → kB yy L acc = some (.inl (acc ++ L.flatMap arcI))
  | [], acc, _, _ => by simp [kB]
  | p :: L, acc, h, hl => by
    have hp := qc7 p
    rw [List.length_cons] at hl
    show (yy acc p).bind _ = _
    rw [hy, qgm (h p (List.mem_cons_self ..)) (by omega)]
    show kB yy L (acc ++ arcI p) = _
    rw [qbv hy L (acc ++ arcI p) (fun q hq => h q (List.mem_cons_of_mem _ hq)) (by simp; omega), List.append_assoc]
    rfl
theorem qfs {g : List (List Int)} (h : Gr g) : Sml (af 0 g) := fun p hp => by
  have := qgM h p hp
  have h1 := h.1
  omega
theorem qfl {F : Nat} {g : List (List Int)} (hF : 1000 ≤ F) : ky F g = some (if gchk g ≠ 0 then ([], gchk g) else (txtI g.length (af 0 g), 0)) := by
  unfold ky
  rw [qb4 hF, Option.bind_some]
  by_cases e : gchk g = 0
  · rw [if_neg (by simp [e]), if_neg (by simp [e])]
    have hg := qei.1 e
    have h1 := hg.1
    have hn : (0 : Int) ≤ (g.length : Int) ∧ (g.length : Int) < 1000 := by omega
    have hd := qaG (g.length : Int)
    rw [qcR hn, Option.bind_some, jn (by simp; omega), Option.bind_some]
    have hby : By (dcI (g.length : Int) ++ [10]) := qcI (qcM hn) (qcJ (by decide))
    rw [qff hby, jn (by simp; omega), Option.bind_some]
    show ((zW F _ g _).bind _) = _
    rw [qgR (by omega) (by omega) (fun l hl => by have := qgV hg hl; omega), qbv (F := F) (fun _ _ => rfl) _ _ (qfs hg) (by have := qe9 hg; simp; omega)]
    simp only [Option.bind_some, Sum.elim_inl]
    have e2 : [] ++ (dcI (g.length : Int) ++ [10]) ++ (af 0 g).flatMap arcI = txtI (g.length : Int) (af 0 g) := by simp [txtI]
    rw [e2]
    unfold bstrM
    rw [if_pos ⟨by simp [txtI], by rw [List.all_eq_true]; exact fun x hx => decide_eq_true (qgI hn (qfs hg) x hx)⟩]
    rfl
  · rw [if_pos (by simpa using e), if_pos e]
theorem qeA {g : List (List Int)} {A : List (Int × Int)} (h : Gr g) (hp : A.Perm (af 0 g)) : endI g.length A = (g, 0, 0) := by
  have hl := hp.length_eq
  have h600 := qe9 h
  have hnd : A.Nodup := hp.nodup_iff.2 (qfa h)
  have e := qem (n := g.length) (l := A) h.1 (by omega) (fun p hq => qgM h p (hp.mem_iff.1 hq)) hnd
  unfold endI
  rw [if_neg (by omega), e, qgh h (qeL hnd) fun p => hp.mem_iff]
theorem qgb (a : List Int) : (bstr a == bstr a) = true := by rw [qe0]; simp
def g01 : List (List Int) := [[1], [0]]
theorem qe7 : gchk g01 = 0 := by decide
theorem tb1 : parseI [35, 32, 116, 119, 111, 10, 32, 50, 32, 10, 10, 49, 32, 48, 10, 48, 32, 32, 49] = (g01, 0, 0) := by
  have e : goI (linesI [35, 32, 116, 119, 111, 10, 32, 50, 32, 10, 10, 49, 32, 48, 10, 48, 32, 32, 49]) 0 (-1) [] = .inr (2, [(1, 0), (0, 1)]) := by decide +kernel
  unfold parseI
  rw [if_neg (by decide), e]
  have h : Gr g01 := qei.1 qe7
  exact qeA (g := g01) h (List.Perm.swap _ _ _)
theorem tb2 : parseI [50, 10, 48, 32, 48, 10, 48, 32, 48, 48, 10] = ([], 3, 6) := by
  have e : goI (linesI [50, 10, 48, 32, 48, 10, 48, 32, 48, 48, 10]) 0 (-1) [] = .inl (3, 6) := by decide +kernel
  unfold parseI
  rw [if_neg (by decide), e]
  rfl
theorem tb3 : parseI [50, 10, 48, 32, 50] = ([], 2, 3) := by
  have e : goI (linesI [50, 10, 48, 32, 50]) 0 (-1) [] = .inl (2, 3) := by decide +kernel
  unfold parseI
  rw [if_neg (by decide), e]
  rfl
theorem tb4 : parseI [35] = ([], 0, 5) := by
  have e : goI (linesI [35]) 0 (-1) [] = .inr (-1, []) := by decide +kernel
  unfold parseI
  rw [if_neg (by decide), e]
  rfl
theorem tb5 : txtI ((g01.length : Nat) : Int) (af 0 g01) = [50, 10, 48, 32, 49, 10, 49, 32, 48, 10] := by decide +kernel
theorem tbegun {F : Nat} (hF : 100000 ≤ F) : zT F = some true := by
  unfold zT
  rw [jz (by unfold By; decide) (by decide) hF, jz (by unfold By; decide) (by decide) hF, jz (by unfold By; decide) (by decide) hF, jz (by unfold By; decide) (by decide) hF]
  simp only [Option.bind_some, tb1, tb2, tb3, tb4]
  rw [qfl (by omega), if_neg (by rw [qe7]; decide), tb5]
  simp only [Option.bind_some]
  rw [show ([([1] : List Int), ([0] : List Int)] : List (List Int)) = g01 from rfl, qdW (by show 2 < F; omega) (by decide) (fun r hr => by simp [g01] at hr; rcases hr with rfl | rfl <;> simp <;> omega)]
  simp only [Option.bind_some, if_true]
  unfold kY
  rw [qgb]
  rfl
theorem qdP : ∀ {L : List (List Int)} {i n : Int} {A : List (Int × Int)} {p : Int × Int}, goI L i n A = .inl p → p.2 ≠ 0 ∧ i < p.1
  | [], i, n, A, p, h => by simp [goI] at h
  | l :: L, i, n, A, p, h => by
    unfold goI at h
    split at h
    · have := qdP h; exact ⟨this.1, by omega⟩
    · split at h
      · rename_i h0
        simp only [Sum.inl.injEq] at h
        subst h
        exact ⟨h0, by simp; omega⟩
      · have := qdP h; exact ⟨this.1, by omega⟩
theorem qek : ∀ {L : List (List Int)} {i n : Int} {A : List (Int × Int)} {p : Int × Int}, goI L i n A = .inl p → p.1 ≤ i + L.length
  | [], i, n, A, p, h => by simp [goI] at h
  | l :: L, i, n, A, p, h => by
    rw [List.length_cons]
    unfold goI at h
    split at h
    · have := qek h; omega
    · split at h
      · simp only [Sum.inl.injEq] at h
        subst h
        simp; omega
      · have := qek h; omega
theorem qej (l : List Int) (L : List (List Int)) (i n : Int) (A : List (Int × Int)) : goI (l :: L) i n A = if wdsI l = [] then goI L (i + 1) n A else if (stepI n A (wdsI l)).1 ≠ 0 then .inl (i + 1, (stepI n A (wdsI l)).1) else goI L (i + 1) (stepI n A (wdsI l)).2.1 (stepI n A (wdsI l)).2.2 := rfl
theorem qdO : ∀ (L M : List (List Int)) (i n : Int) (A : List (Int × Int)), goI (L ++ M) i n A = match goI L i n A with | .inl p => .inl p | .inr q => goI M (i + L.length) q.1 q.2
  | [], M, i, n, A => by simp [goI]
  | l :: L, M, i, n, A => by
    rw [List.cons_append]
    have e : i + (l :: L).length = i + 1 + L.length := by simp; omega
    rw [e, qej, qej]
    by_cases h1 : wdsI l = []
    · rw [if_pos h1, if_pos h1, qdO L M (i + 1) n A]
    · rw [if_neg h1, if_neg h1]
      by_cases h2 : (stepI n A (wdsI l)).1 = 0
      · rw [if_neg (by simp [h2]), if_neg (by simp [h2]), qdO L M (i + 1) _ _]
      · rw [if_pos h2, if_pos h2]
def okL (s : List Int) : Prop := ¬ (20000 < s.length ∨ 1000 < (linesI s).length)
theorem qdm {s : List Int} (h : okL s) : parseI s = outI (goI (linesI s) 0 (-1) []) := by unfold parseI; exact if_neg h
theorem qdU {s : List Int} (h : ¬ okL s) : parseI s = ([], 0, 2) := by
  unfold parseI
  rw [if_pos]
  unfold okL at h
  omega
def Nl (a : List Int) : Prop := ∀ b, linesI (a ++ b) = linesI a ++ linesI b
theorem qgZ : Nl [] := fun _ => rfl
theorem qgk {a A : List Int} (h : Nl a) (hA : (10 : Int) ∉ A) : Nl (a ++ (A ++ [10])) ∧ linesI (a ++ (A ++ [10])) = linesI a ++ [A] := by
  have e1 : linesI (a ++ (A ++ [10])) = linesI a ++ [A] := by
    rw [h, show A ++ [10] = A ++ 10 :: [] from rfl, qbq hA]
    rfl
  refine ⟨fun b => ?_, e1⟩
  have e2 : a ++ (A ++ [10]) ++ b = a ++ (A ++ 10 :: b) := by simp
  rw [e1, e2, h, qbq hA]
  simp
theorem qcN {F : Nat} {s : List Int} {x : List (List Int) × Int × Int} {K : Nat} (hs : By s) (hm : s.length ≤ 900000000) (hx : x.2.1 = (K : Int)) (hK : K ≤ (linesI s).length)
    (hj : ∀ at1 : Nat, at1 ≤ s.length → Nl (s.take at1) → (linesI (s.take at1)).length + 1 = K → kW F s x (at1 : Int) (K : Int) = some true) :
    ∀ (k i a ln : Nat), s.length < k + i → i ≤ s.length → a ≤ i → Nl (s.take a) → (linesI (s.take a)).length + 1 = ln → ln ≤ K → ln ≤ i + 1 → (10 : Int) ∉ (s.take i).drop a → zA F s x k ((a : Int), (ln : Int), (i : Int)) = some true
  | 0, _, _, _, _, _, _, _, _, _, _, _ => by omega
  | k + 1, i, a, ln, h, hi, ha, hn, hln, hle, hli, h10 => by
    show kV F s x (zA F s x k) (a : Int) (ln : Int) (i : Int) = _
    unfold kV
    rw [hx]
    by_cases hc : i < s.length ∧ ln < K
    · obtain ⟨hlt, hlk⟩ := hc
      have hb := hs s[i] (List.getElem_mem hlt)
      rw [if_pos (by simp only [Bool.and_eq_true, decide_eq_true_eq]; omega), yb, List.getElem?_eq_getElem hlt]
      simp only [Option.bind_some, j8 hb.1 hb.2]
      unfold kK
      rw [kQ (by omega), kQ (a := ln) (by omega)]
      have e3 : s.take (i + 1) = s.take a ++ ((s.take i).drop a ++ [s[i]]) := by
        rw [List.take_succ_eq_append_getElem hlt]
        have e4 : s.take i = s.take a ++ (s.take i).drop a := by
          have := (List.take_append_drop a (s.take i)).symm
          rw [List.take_take, Nat.min_eq_left ha] at this
          exact this
        conv => lhs; rw [e4]
        rw [List.append_assoc]
      by_cases e : s[i] = 10
      · rw [if_pos (by simp [e])]
        rw [e] at e3
        have hnl := qgk hn h10
        rw [← e3] at hnl
        refine qcN hs hm hx hK hj k (i + 1) (i + 1) (ln + 1) (by omega) (by omega) (by omega) hnl.1 (by rw [hnl.2]; simp; omega) (by omega) (by omega) ?_
        rw [List.drop_eq_nil_of_le (by simp; omega)]
        simp
      · rw [if_neg (by simpa using e)]
        refine qcN hs hm hx hK hj k (i + 1) a ln (by omega) (by omega) (by omega) hn hln hle (by omega) ?_
        rw [List.take_succ_eq_append_getElem hlt, List.drop_append_of_le_length (by simp; omega)]
        intro h2
        rcases List.mem_append.1 h2 with h2 | h2
        · exact h10 h2
        · simp at h2; exact e h2.symm
    · rw [if_neg (by simp only [Bool.and_eq_true, decide_eq_true_eq]; omega)]
      have hlk : ln = K := by
        by_cases h2 : ln < K
        · exfalso
          have hi2 : i = s.length := by omega
          rw [hi2, List.take_length] at h10
          have e1 : linesI s = linesI (s.take a) ++ linesI (s.drop a) := by
            have := hn (s.drop a)
            rw [List.take_append_drop] at this
            exact this
          have e2 : (linesI (s.drop a)).length ≤ 1 := by
            by_cases h0 : s.drop a = []
            · rw [h0]; simp [linesI]
            · rw [qdh h10 h0]; simp
          have := congrArg List.length e1
          rw [List.length_append] at this
          omega
        · omega
      rw [hlk]
      exact hj a (by omega) hn (by omega)
theorem qbP {F : Nat} {s : List Int} (hs : By s) (hl : s.length ≤ 900000000) (hF : 100000 ≤ F) (hF2 : s.length < F) : jl F s = some true := by
  unfold jl
  rw [jz hs hl hF, tbegun hF]
  simp only [Option.bind_some, Bool.not_true, Bool.false_eq_true, if_false]
  by_cases hok : okL s
  · have hp := qdm hok
    cases hg : goI (linesI s) 0 (-1) [] with
    | inr q =>
      have : (parseI s).2.1 = 0 := by
        rw [hp, hg]
        show (endI q.1 q.2).2.1 = 0
        unfold endI; split <;> rfl
      rw [if_pos (by simp [this]), this]
      rfl
    | inl p =>
      obtain ⟨g1, g2⟩ := qdP hg
      have g3 := qek hg
      have hx : (parseI s).2.1 = ((p.1.toNat : Nat) : Int) := by
        rw [hp, hg]
        show p.1 = _
        omega
      rw [if_neg (by rw [hx]; simp; omega)]
      refine qcN (K := p.1.toNat) hs hl hx (by omega) ?_ F 0 0 1 (by omega) (by omega) (by omega) qgZ (by simp [linesI]) (by omega) (by omega) (by simp)
      intro a ha hn hlen
      unfold kW
      rw [if_neg (by rw [hx]; simp)]
      have es : sub s 0 (a : Int) = some (s.take a) := by
        unfold sub
        rw [if_pos ⟨by omega, by omega, by omega⟩]
        simp
      have hb : By (s.take a) := fun y hy => hs y (List.mem_of_mem_take hy)
      rw [es, Option.bind_some, jz hb (by simp; omega) hF, Option.bind_some]
      have e1 : linesI s = linesI (s.take a) ++ linesI (s.drop a) := by
        have := hn (s.drop a)
        rw [List.take_append_drop] at this
        exact this
      have hok2 : okL (s.take a) := by
        have h1 := congrArg List.length e1
        rw [List.length_append] at h1
        unfold okL at hok ⊢
        rw [List.length_take]
        omega
      rw [qdm hok2]
      rw [e1, qdO] at hg
      cases hq : goI (linesI (s.take a)) 0 (-1) [] with
      | inl p2 =>
        rw [hq] at hg
        simp only [Sum.inl.injEq] at hg
        have := qek hq
        rw [hg] at this
        omega
      | inr q =>
        have hI := qdR qg8 hq
        have ho : outI (Sum.inr q) = endI q.1 q.2 := rfl
        rw [ho]
        unfold endI
        by_cases hn0 : q.1 < 0
        · rw [if_pos hn0]; rfl
        · rw [if_neg hn0, qgU hI (by omega)]; rfl
  · rw [qdU hok]
    rfl
end Go.Proofs.YtfjkpdlcdceenaaGreatDoor
