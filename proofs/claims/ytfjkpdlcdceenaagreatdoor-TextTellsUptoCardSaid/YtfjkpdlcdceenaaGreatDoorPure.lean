/- Plain facts of what the functions of this seat compute. -/
import Derived.Test.YtfjkpdlcdceenaaGreatDoorModels
import Derived.KernelRfl
import Derived.Lib.SlicesCompact
import Derived.Lib.SplitLaws
namespace Go.Proofs.YtfjkpdlcdceenaaGreatDoor
open Go SX
def Bit (l : List Int) : Prop := ∀ x ∈ l, x = 0 ∨ x = 1
theorem Bit.getD {l : List Int} (h : Bit l) (i : Nat) : l.getD i 0 = 0 ∨ l.getD i 0 = 1 := by
  by_cases hi : i < l.length
  · have := h l[i] (List.getElem_mem hi)
    simpa [List.getD, hi] using this
  · left
    simp [List.getD, List.getElem?_eq_none (Nat.le_of_not_lt hi)]
theorem qhF {a b : Nat} (h : a + b < 9223372036854775808) : iadd .i64 (a : Int) (b : Int) = ((a + b : Nat) : Int) := by rw [qal (by omega) (by omega)]; omega
theorem q8 {a : Nat} (h : a + 1 < 9223372036854775808) : iadd .i64 (a : Int) 1 = ((a + 1 : Nat) : Int) := by rw [qal (by omega) (by omega)]; omega
theorem qeO {a : Nat} (h : 1 ≤ a) (h2 : a < 9223372036854775808) : isub .i64 (a : Int) 1 = ((a - 1 : Nat) : Int) := by rw [qbH (by omega) (by omega)]; omega
def nb (n : Nat) : Nat → List Int
  | 0 => []
  | w + 1 => ((n / 2 ^ w % 2 : Nat) : Int) :: nb n w
theorem qhZ {α : Type} {l : List α} {i j : Nat} (h1 : i ≤ j) (h2 : j ≤ l.length) : sub l (i : Int) (j : Int) = some ((l.take j).drop i) := by
  unfold sub
  rw [if_pos ⟨by omega, by omega, by omega⟩, Int.toNat_natCast, Int.toNat_natCast]
def len (x : Nat) : Nat := if x = 0 then 0 else x.log2 + 1
def sh (m : Nat) : Nat := len (m - 1)
def dd (m : Nat) : Nat := 2 ^ sh m - m
def le (n m : Nat) : List Int := if n < dd m then nb n (sh m - 1) else nb (n + dd m) (sh m)
theorem qbk (F : Nat) {xs : List Int} (hm : xs.length ≤ 1000000) : ∀ (k i : Nat), xs.length < k + i → i ≤ xs.length → kz F xs xs k (i : Int) = some true
  | 0, _, _, _ => by omega
  | k + 1, i, h, hi => by
    show yU F xs xs (kz F xs xs k) (i : Int) = _
    unfold yU
    by_cases hlt : i < xs.length
    · rw [if_pos (by simp; omega), zi, List.getElem?_eq_getElem hlt]
      simp only [Option.bind_some]
      rw [if_neg (by simp), q8 (by omega)]
      exact qbk F hm k (i + 1) (by omega) (by omega)
    · rw [if_neg (by simp; omega)]; rfl
theorem qep {F : Nat} {xs : List Int} (hF : xs.length < F) (hm : xs.length ≤ 1000000) : yz F xs xs = some true := by
  unfold yz
  rw [if_neg (by simp)]
  exact qbk F hm F 0 (by omega) (by omega)
def k9 {σ τ : Type} (yy : σ → (Int × Int) → Option (σ ⊕ τ)) : List (Int × Int) → σ → Option (σ ⊕ τ)
  | [], s => some (.inl s)
  | r :: R, s => (yy s r).bind (Sum.elim (fun s' => k9 yy R s') (fun t => some (.inr t)))
def rowE (n : Int) : Int → List Int → Int
  | _, [] => 0
  | last, x :: l => if x < 0 ∨ n ≤ x then 3 else if x ≤ last then 4 else rowE n x l
def gE (n : Int) : List (List Int) → Int
  | [] => 0
  | l :: g => if rowE n (-1) l ≠ 0 then rowE n (-1) l else gE n g
def gtot : List (List Int) → Nat
  | [] => 0
  | l :: g => l.length + gtot g
def gchk (g : List (List Int)) : Int := if 100 < g.length then 2 else if gE g.length g ≠ 0 then gE g.length g else if 600 < gtot g then 2 else 0
theorem qbt : ∀ {n last : Int} {l : List Int}, rowE n last l = 0 ↔ (l.Pairwise (· < ·) ∧ ∀ x ∈ l, last < x) ∧ ∀ x ∈ l, 0 ≤ x ∧ x < n
  | n, last, [] => by simp [rowE]
  | n, last, x :: l => by
    unfold rowE
    by_cases h1 : x < 0 ∨ n ≤ x
    · rw [if_pos h1]
      constructor
      · intro h; simp at h
      · rintro ⟨_, h⟩; have := h x (by simp); omega
    · rw [if_neg h1]
      by_cases h2 : x ≤ last
      · rw [if_pos h2]
        constructor
        · intro h; simp at h
        · rintro ⟨⟨_, h⟩, _⟩; have := h x (by simp); omega
      · rw [if_neg h2, qbt, List.pairwise_cons]
        constructor
        · rintro ⟨⟨a1, a2⟩, a3⟩
          refine ⟨⟨⟨a2, a1⟩, fun y hy => ?_⟩, fun y hy => ?_⟩
          · rcases List.mem_cons.1 hy with rfl | hy
            · omega
            · have := a2 y hy; omega
          · rcases List.mem_cons.1 hy with rfl | hy
            · omega
            · exact a3 y hy
        · rintro ⟨⟨⟨a1, a2⟩, a3⟩, a4⟩
          exact ⟨⟨a2, a1⟩, fun y hy => a4 y (by simp [hy])⟩
theorem qbu {n last : Int} : ∀ {l : List Int}, -1 ≤ last → last < n → rowE n last l = 0 → last + 1 + l.length ≤ n
  | [], h1, h2, _ => by simp; omega
  | x :: l, h1, h2, h => by
    unfold rowE at h
    split at h
    · simp at h
    · split at h
      · simp at h
      · have := qbu (l := l) (by omega) (by omega) h
        rw [List.length_cons]; omega
theorem qfL {n : Int} : ∀ {g : List (List Int)}, gE n g = 0 ↔ ∀ l ∈ g, rowE n (-1) l = 0
  | [] => by simp [gE]
  | l :: g => by
    unfold gE
    by_cases h : rowE n (-1) l = 0
    · rw [if_neg (by simp [h]), qfL]; simp [h]
    · rw [if_pos h]; simp [h]
def Gr (g : List (List Int)) : Prop := g.length ≤ 100 ∧ (∀ l ∈ g, l.Pairwise (· < ·) ∧ ∀ x ∈ l, 0 ≤ x ∧ x < g.length) ∧ gtot g ≤ 600
theorem qde {g : List (List Int)} : gchk g = 0 ↔ Gr g := by
  unfold gchk Gr
  by_cases h1 : 100 < g.length
  · rw [if_pos h1]; simp; omega
  · rw [if_neg h1]
    by_cases h2 : gE g.length g = 0
    · rw [if_neg (by simp [h2])]
      have h3 := qfL.1 h2
      have h4 : ∀ l ∈ g, l.Pairwise (· < ·) ∧ ∀ x ∈ l, 0 ≤ x ∧ x < (g.length : Int) := fun l hl => by
        have := qbt.1 (h3 l hl)
        exact ⟨this.1.1, this.2⟩
      by_cases h5 : 600 < gtot g
      · rw [if_pos h5]; simp; omega
      · rw [if_neg h5]
        exact ⟨fun _ => ⟨by omega, h4, by omega⟩, fun _ => rfl⟩
    · rw [if_pos h2]
      refine ⟨fun h => absurd h h2, fun h => absurd (qfL.2 fun l hl => qbt.2 ⟨⟨(h.2.1 l hl).1, fun x hx => ?_⟩, (h.2.1 l hl).2⟩) h2⟩
      have := (h.2.1 l hl).2 x hx; omega
theorem qfN {g : List (List Int)} (h : Gr g) {l : List Int} (hl : l ∈ g) : l.length ≤ 100 := by
  have h1 := (h.2.1 l hl).2
  have h2 : rowE g.length (-1) l = 0 := qbt.2 ⟨⟨(h.2.1 l hl).1, fun x hx => by have := h1 x hx; omega⟩, h1⟩
  have := qbu (by omega) (by omega) h2
  have := h.1
  omega
theorem qdB {F : Nat} {rec38 : (Int × Int) → Option Int} {g : List (List Int)} {m i : Int} {l : List Int} (hg : g.length ≤ 100) : ∀ (k j : Nat) (last : Int), 102 < k + j → (j : Int) ≤ last + 1 → last < g.length → -1 ≤ last →
    zR F rec38 g m i l k (last, (j : Int)) = if rowE g.length last (l.drop j) ≠ 0 then some (rowE g.length last (l.drop j)) else yo F rec38 m i l
  | 0, j, last, h, h1, h2, h3 => by omega
  | k + 1, j, last, h, h1, h2, h3 => by
    show yn F rec38 g m i l (zR F rec38 g m i l k) last (j : Int) = _
    unfold yn
    by_cases hlt : j < l.length
    · rw [if_pos (by simp; omega), zi, List.getElem?_eq_getElem hlt, List.drop_eq_getElem_cons hlt]
      simp only [Option.bind_some]
      unfold rowE
      by_cases c1 : l[j] < 0 ∨ (g.length : Int) ≤ l[j]
      · rw [if_pos (by simpa using c1), if_pos c1, if_pos (by decide)]
      · rw [if_neg (by simpa using c1), if_neg c1]
        by_cases c2 : l[j] ≤ last
        · rw [if_pos (by simpa using c2), if_pos c2, if_pos (by decide)]
        · rw [if_neg (by simpa using c2), if_neg c2, q8 (by omega)]
          exact qdB hg k (j + 1) l[j] (by omega) (by omega) (by omega) (by omega)
    · rw [if_neg (by simp; omega), List.drop_eq_nil_of_le (by omega)]
      rw [if_neg (by simp [rowE])]
theorem qcs {F : Nat} (hF : 1000 ≤ F) {g : List (List Int)} (hg : g.length ≤ 100) : ∀ (k i : Nat) (m : Nat), g.length < k + i → i ≤ g.length → m ≤ 100 * i →
    qJ F g k ((m : Int), (i : Int)) = if gE g.length (g.drop i) ≠ 0 then some (gE g.length (g.drop i)) else if 600 < m + gtot (g.drop i) then some 2 else some 0
  | 0, _, _, _, _, _ => by omega
  | k + 1, i, m, h, hi, hm => by
    show ym F g (qJ F g k) (m : Int) (i : Int) = _
    unfold ym
    by_cases hlt : i < g.length
    · rw [if_pos (by simp; omega), zi, List.getElem?_eq_getElem hlt, List.drop_eq_getElem_cons hlt]
      simp only [Option.bind_some]
      have hin := qdB (F := F) (rec38 := qJ F g k) (m := (m : Int)) (i := (i : Int)) (l := g[i]) hg F 0 (-1) (by omega) (by omega) (by omega) (by omega)
      rw [List.drop_zero, show ((0 : Nat) : Int) = 0 from rfl] at hin
      rw [hin]
      unfold gE gtot
      by_cases hr : rowE g.length (-1) g[i] = 0
      · have hlen := qbu (by omega) (by omega) hr
        have e : (if rowE (g.length : Int) (-1) g[i] ≠ 0 then rowE (g.length : Int) (-1) g[i] else gE (g.length : Int) (g.drop (i + 1))) = gE (g.length : Int) (g.drop (i + 1)) := if_neg (by simp [hr])
        rw [if_neg (show ¬ rowE (g.length : Int) (-1) g[i] ≠ 0 by simp [hr]), e]
        unfold yo vm
        rw [qhF (by omega), q8 (by omega), qcs hF hg k (i + 1) (m + g[i].length) (by omega) (by omega) (by omega), Nat.add_assoc]
      · rw [if_pos (by simpa using hr)]
        have e : (if rowE (g.length : Int) (-1) g[i] ≠ 0 then rowE (g.length : Int) (-1) g[i] else gE (g.length : Int) (g.drop (i + 1))) = rowE (g.length : Int) (-1) g[i] := if_pos hr
        rw [e, if_pos hr]
    · rw [if_neg (by simp; omega), List.drop_eq_nil_of_le (by omega)]
      unfold vl
      rw [if_neg (show ¬ gE (g.length : Int) [] ≠ 0 by simp [gE])]
      by_cases h6 : 600 < m
      · rw [if_pos (by simp; omega), if_pos (by simpa [gtot] using h6)]
      · rw [if_neg (by simp; omega), if_neg (by simpa [gtot] using h6)]
theorem qco {F : Nat} (hF : 1000 ≤ F) {g : List (List Int)} : zL F g = some (gchk g) := by
  unfold zL gchk
  by_cases h : 100 < g.length
  · rw [if_pos (by simp; omega), if_pos h]
  · have := qcs hF (g := g) (by omega) F 0 0 (by omega) (by omega) (by omega)
    rw [List.drop_zero, Nat.zero_add, show ((0 : Nat) : Int) = 0 from rfl] at this
    rw [if_neg (by simp; omega), if_neg h, this]
    split
    · rfl
    · split <;> rfl
theorem qcH {F : Nat} {rec138 : (Int × Int) → Option Int} {g : List (List Int)} {i m : Nat} {l : List Int} (hg : g.length ≤ 100) (hl : g[i]? = some l) (hm : m ≤ 100000) : ∀ (k j : Nat), 102 < k + j → j ≤ l.length → ((j : Int) ≤ (if 0 < j then l.getD (j - 1) 0 else -1) + 1) → ((if 0 < j then l.getD (j - 1) 0 else -1) < (g.length : Int)) →
    qM F rec138 g (i : Int) k (((m + j : Nat) : Int), (j : Int)) = if rowE g.length (if 0 < j then l.getD (j - 1) 0 else -1) (l.drop j) ≠ 0 then some (rowE g.length (if 0 < j then l.getD (j - 1) 0 else -1) (l.drop j)) else zl F rec138 (i : Int) ((m + l.length : Nat) : Int)
  | 0, j, h, hj, h1, h2 => by omega
  | k + 1, j, h, hj, h1, h2 => by
    have hg0 : 0 < g.length := by have := (List.getElem?_eq_some_iff.1 hl).1; omega
    show kM F rec138 g (i : Int) (qM F rec138 g (i : Int) k) ((m + j : Nat) : Int) (j : Int) = _
    unfold kM
    rw [zi, hl]
    simp only [Option.bind_some]
    by_cases hlt : j < l.length
    · have hrec := qcH (F := F) (rec138 := rec138) hg hl hm k (j + 1) (by omega) (by omega)
      have hgd : l.getD (j + 1 - 1) 0 = l[j] := by simp [List.getD, List.getElem?_eq_getElem hlt]
      rw [if_pos (show 0 < j + 1 by omega), hgd] at hrec
      rw [if_pos (by simp; omega), zi, List.getElem?_eq_getElem hlt, List.drop_eq_getElem_cons hlt]
      simp only [Option.bind_some]
      unfold kT rowE
      rw [qeO (by omega) (by omega)]
      simp only [Option.bind_some]
      by_cases c1 : l[j] < 0 ∨ (g.length : Int) ≤ l[j]
      · rw [if_pos (by simp; omega), if_pos c1, if_pos (by decide)]
      · rw [if_neg (by simp; omega), if_neg c1]
        have hgo : zm F (qM F rec138 g (i : Int) k) ((m + j : Nat) : Int) (j : Int) false = (if rowE (g.length : Int) l[j] (l.drop (j + 1)) ≠ 0 then some (rowE (g.length : Int) l[j] (l.drop (j + 1))) else zl F rec138 (i : Int) ((m + l.length : Nat) : Int)) → (l[j] ≤ (if 0 < j then l.getD (j - 1) 0 else -1)) = False →
            zm F (qM F rec138 g (i : Int) k) ((m + j : Nat) : Int) (j : Int) false = if (if l[j] ≤ (if 0 < j then l.getD (j - 1) 0 else -1) then 4 else rowE (g.length : Int) l[j] (l.drop (j + 1))) ≠ 0 then some (if l[j] ≤ (if 0 < j then l.getD (j - 1) 0 else -1) then 4 else rowE (g.length : Int) l[j] (l.drop (j + 1))) else zl F rec138 (i : Int) ((m + l.length : Nat) : Int) := by
          intro h3 h4
          simp only [h4, if_false]
          exact h3
        have hnext : (¬ l[j] ≤ (if 0 < j then l.getD (j - 1) 0 else -1)) → zm F (qM F rec138 g (i : Int) k) ((m + j : Nat) : Int) (j : Int) false = if rowE (g.length : Int) l[j] (l.drop (j + 1)) ≠ 0 then some (rowE (g.length : Int) l[j] (l.drop (j + 1))) else zl F rec138 (i : Int) ((m + l.length : Nat) : Int) := by
          intro hn
          unfold zm
          rw [if_neg (by simp), q8 (by omega), q8 (by omega)]
          exact hrec (by omega) (by omega)
        by_cases hj0 : 0 < j
        · have hlt2 : j - 1 < l.length := by omega
          have hgd2 : l.getD (j - 1) 0 = l[j - 1] := by simp [List.getD, List.getElem?_eq_getElem hlt2]
          rw [if_pos (by simp; omega), qeO (by omega) (by omega), zi, List.getElem?_eq_getElem hlt2]
          simp only [Option.bind_some]
          by_cases c2 : l[j] ≤ l[j - 1]
          · rw [decide_eq_true c2, if_pos hj0, hgd2, if_pos c2, if_pos (by decide)]
            rfl
          · rw [decide_eq_false c2]
            exact hgo (hnext (by rw [if_pos hj0, hgd2]; exact c2)) (by rw [if_pos hj0, hgd2]; exact eq_false c2)
        · have : j = 0 := by omega
          subst this
          rw [if_neg (by simp)]
          exact hgo (hnext (by simp; omega)) (by simp; omega)
    · rw [if_neg (by simp; omega), List.drop_eq_nil_of_le (by omega), show m + j = m + l.length from by omega, if_neg (by simp [rowE])]
theorem qbO {F : Nat} (hF : 1000 ≤ F) {g : List (List Int)} (hg : g.length ≤ 100) : ∀ (k i : Nat) (m : Nat), g.length < k + i → i ≤ g.length → m ≤ 100 * i →
    qA F g k ((m : Int), (i : Int)) = if gE g.length (g.drop i) ≠ 0 then some (gE g.length (g.drop i)) else if 600 < m + gtot (g.drop i) then some 2 else some 0
  | 0, _, _, _, _, _ => by omega
  | k + 1, i, m, h, hi, hm => by
    show kL F g (qA F g k) (m : Int) (i : Int) = _
    unfold kL
    by_cases hlt : i < g.length
    · rw [if_pos (by simp; omega), List.drop_eq_getElem_cons hlt]
      have hin := qcH (F := F) (rec138 := qA F g k) (m := m) (i := i) (l := g[i]) hg (List.getElem?_eq_getElem hlt) (by omega) F 0 (by omega) (by omega) (by simp) (by simp; omega)
      rw [List.drop_zero, show ((0 : Nat) : Int) = 0 from rfl, Nat.add_zero, if_neg (show ¬ 0 < 0 by omega)] at hin
      rw [hin]
      unfold gE gtot
      by_cases hr : rowE g.length (-1) g[i] = 0
      · have hlen := qbu (by omega) (by omega) hr
        have e : (if rowE (g.length : Int) (-1) g[i] ≠ 0 then rowE (g.length : Int) (-1) g[i] else gE (g.length : Int) (g.drop (i + 1))) = gE (g.length : Int) (g.drop (i + 1)) := if_neg (by simp [hr])
        rw [if_neg (show ¬ rowE (g.length : Int) (-1) g[i] ≠ 0 by simp [hr]), e]
        unfold zl
        rw [q8 (by omega), qbO hF hg k (i + 1) (m + g[i].length) (by omega) (by omega) (by omega), Nat.add_assoc]
      · have e : (if rowE (g.length : Int) (-1) g[i] ≠ 0 then rowE (g.length : Int) (-1) g[i] else gE (g.length : Int) (g.drop (i + 1))) = rowE (g.length : Int) (-1) g[i] := if_pos hr
        rw [if_pos (by simpa using hr), e, if_pos hr]
    · rw [if_neg (by simp; omega), List.drop_eq_nil_of_le (by omega)]
      unfold y3
      rw [if_neg (show ¬ gE (g.length : Int) [] ≠ 0 by simp [gE])]
      by_cases h6 : 600 < m
      · rw [if_pos (by simp; omega), if_pos (by simpa [gtot] using h6)]
      · rw [if_neg (by simp; omega), if_neg (by simpa [gtot] using h6)]
theorem qbP {F : Nat} (hF : 1000 ≤ F) {g : List (List Int)} : vj F g = some (gchk g) := by
  unfold vj gchk
  by_cases h : 100 < g.length
  · rw [if_pos (by simp; omega), if_pos h]
  · have := qbO hF (g := g) (by omega) F 0 0 (by omega) (by omega) (by omega)
    rw [List.drop_zero, Nat.zero_add, show ((0 : Nat) : Int) = 0 from rfl] at this
    rw [if_neg (by simp; omega), if_neg h, this]
    split
    · rfl
    · split <;> rfl
def af (i : Nat) : List (List Int) → List (Int × Int)
  | [] => []
  | l :: g => l.map (fun x => ((i : Int), x)) ++ af (i + 1) g
theorem qbi {σ τ : Type} {yy : σ → (Int × Int) → Option (σ ⊕ τ)} : ∀ (A B : List (Int × Int)) (s : σ), k9 yy (A ++ B) s = (k9 yy A s).bind (Sum.elim (fun s' => k9 yy B s') (fun t => some (.inr t)))
  | [], B, s => rfl
  | p :: A, B, s => by
    show (yy s p).bind _ = ((yy s p).bind _).bind _
    cases yy s p with
    | none => rfl
    | some r =>
      cases r with
      | inl s' => exact qbi A B s'
      | inr t => rfl
theorem qfA {σ τ : Type} {F : Nat} {yy : σ → (Int × Int) → Option (σ ⊕ τ)} {rec7 : (Int × σ) → Option (σ ⊕ τ)} {i : Int} {l : List Int} (hm : l.length ≤ 1000000) : ∀ (k j : Nat) (s : σ), l.length < k + j → j ≤ l.length →
    zQ F yy rec7 i l k ((j : Int), s) = (k9 yy ((l.drop j).map fun x => (i, x)) s).bind (Sum.elim (fun s' => yD F yy rec7 i s') (fun t => some (.inr t)))
  | 0, _, _, _, _ => by omega
  | k + 1, j, s, h, hj => by
    show yl F yy rec7 i l (zQ F yy rec7 i l k) (j : Int) s = _
    unfold yl
    by_cases hlt : j < l.length
    · rw [if_pos (by simp; omega), zi, List.getElem?_eq_getElem hlt, List.drop_eq_getElem_cons hlt, List.map_cons]
      simp only [Option.bind_some, k9]
      cases yy s (i, l[j]) with
      | none => rfl
      | some r =>
        cases r with
        | inl s' =>
          simp only [Option.bind_some, Sum.elim_inl]
          rw [q8 (by omega)]
          exact qfA hm k (j + 1) s' (by omega) (by omega)
        | inr t => rfl
    · rw [if_neg (by simp; omega), List.drop_eq_nil_of_le (by omega)]
      rfl
theorem qeE {σ τ : Type} {F : Nat} {yy : σ → (Int × Int) → Option (σ ⊕ τ)} {g : List (List Int)} (hm : g.length ≤ 1000000) (hr : ∀ l ∈ g, l.length ≤ 1000000 ∧ l.length < F) : ∀ (k i : Nat) (s : σ), g.length < k + i → i ≤ g.length →
    qX F yy g k ((i : Int), s) = k9 yy (af i (g.drop i)) s
  | 0, _, _, _, _ => by omega
  | k + 1, i, s, h, hi => by
    show yC F yy g (qX F yy g k) (i : Int) s = _
    unfold yC
    by_cases hlt : i < g.length
    · have hrow := hr _ (List.getElem_mem hlt)
      rw [if_pos (by simp; omega), zi, List.getElem?_eq_getElem hlt, List.drop_eq_getElem_cons hlt]
      simp only [Option.bind_some]
      have := qfA (F := F) (yy := yy) (rec7 := qX F yy g k) (i := (i : Int)) hrow.1 F 0 s (by omega) (by omega)
      rw [List.drop_zero, show ((0 : Nat) : Int) = 0 from rfl] at this
      rw [this]
      unfold af
      rw [qbi]
      congr 1
      funext r
      cases r with
      | inl s' =>
        simp only [Sum.elim_inl]
        unfold yD
        rw [q8 (by omega)]
        exact qeE hm hr k (i + 1) s' (by omega) (by omega)
      | inr t => rfl
    · rw [if_neg (by simp; omega), List.drop_eq_nil_of_le (by omega)]
      rfl
theorem qhB {σ τ : Type} {F : Nat} {yy : σ → (Int × Int) → Option (σ ⊕ τ)} {g : List (List Int)} {s : σ} (hF : g.length < F) (hm : g.length ≤ 1000000) (hr : ∀ l ∈ g, l.length ≤ 1000000 ∧ l.length < F) : kg F yy g s = k9 yy (af 0 g) s := by
  unfold kg
  have := qeE (yy := yy) hm hr F 0 s (by omega) (by omega)
  rw [List.drop_zero] at this
  exact this
theorem qe0 {σ τ : Type} {F : Nat} {yy : σ → (Int × Int) → Option (σ ⊕ τ)} {l : List (Int × Int)} (hm : l.length ≤ 1000000) : ∀ (k i : Nat) (s : σ), l.length < k + i → i ≤ l.length →
    qv F yy l k ((i : Int), s) = k9 yy (l.drop i) s
  | 0, _, _, _, _ => by omega
  | k + 1, i, s, h, hi => by
    show qT F yy l (qv F yy l k) (i : Int) s = _
    unfold qT
    by_cases hlt : i < l.length
    · rw [if_pos (by simp; omega), zi, List.getElem?_eq_getElem hlt, List.drop_eq_getElem_cons hlt]
      simp only [Option.bind_some, k9]
      cases yy s l[i] with
      | none => rfl
      | some r =>
        cases r with
        | inl s' =>
          simp only [Option.bind_some, Sum.elim_inl]
          rw [q8 (by omega)]
          exact qe0 hm k (i + 1) s' (by omega) (by omega)
        | inr t => rfl
    · rw [if_neg (by simp; omega), List.drop_eq_nil_of_le (by omega)]
      rfl
theorem qdE {τ : Type} {lim : Nat} {f : Int × Int → Int × Int} {yy : List (Int × Int) → (Int × Int) → Option (List (Int × Int) ⊕ τ)} (hy : ∀ s p, yy s p = (app lim s [f p]).bind fun z => some (.inl z)) : ∀ (L s : List (Int × Int)), s.length + L.length ≤ lim → k9 yy L s = some (.inl (s ++ L.map f))
  | [], s, _ => by simp [k9]
  | p :: L, s, h => by
    rw [List.length_cons] at h
    show (yy s p).bind _ = _
    rw [hy, kb (by simp; omega)]
    simp only [Option.bind_some, Sum.elim_inl]
    rw [qdE hy L (s ++ [f p]) (by simp; omega)]
    simp
theorem qfz : ∀ (i : Nat) (g : List (List Int)), (af i g).length = gtot g
  | _, [] => rfl
  | i, l :: g => by unfold af gtot; rw [List.length_append, List.length_map, qfz (i + 1) g]
theorem qda {F : Nat} {l : List (Int × Int)} (hF : l.length < F) (hm : l.length ≤ 1000000) : qp F l = some l := by
  unfold qp qs zE
  have := fun yy => qe0 (σ := List (Int × Int)) (τ := Empty) (F := F) (yy := yy) hm F 0 [] (by omega) (by omega)
  rw [show ((0 : Nat) : Int) = 0 from rfl] at this
  rw [this, List.drop_zero, qdE (lim := 4398046511104) (f := fun p => p) ?hy l [] (by simp; omega)]
  · simp
  · exact fun s p => rfl
def lexLt (p q : Int × Int) : Prop := p.1 < q.1 ∨ (p.1 = q.1 ∧ p.2 < q.2)
instance decLex (p q : Int × Int) : Decidable (lexLt p q) := by unfold lexLt; infer_instance
theorem qcz (a : Int × Int) : ¬ lexLt a a := by unfold lexLt; omega
theorem qfQ (a b d : Int × Int) : lexLt a b → lexLt b d → lexLt a d := by unfold lexLt; omega
theorem qcA (a b : Int × Int) : lexLt a b ∨ a = b ∨ lexLt b a := by
  obtain ⟨a1, a2⟩ := a
  obtain ⟨b1, b2⟩ := b
  simp only [lexLt, Prod.mk.injEq]; omega
theorem qbC {F : Nat} {x y : Int} : kE F x y = some (if x < y then -1 else if y < x then 1 else 0) := by
  unfold kE yV
  simp only [bne_self_eq_false, Option.bind_some, Bool.false_eq_true, if_false, decide_eq_true_eq]
  split
  · rfl
  · split <;> rfl
theorem qhX {F : Nat} (hF : 3 ≤ F) {x y : Int} : v8 F [x, y] = some (if x ≠ 0 then x else y) := by
  obtain ⟨k, rfl⟩ := Nat.exists_eq_add_of_le hF
  rw [Nat.add_comm]
  unfold v8
  show zI (k + 3) [x, y] (z6 (k + 3) [x, y] (k + 2)) 0 = _
  unfold zI
  rw [if_pos (by simp)]
  show ((some x).bind _) = _
  simp only [Option.bind_some]
  by_cases hx : x = 0
  · rw [if_neg (by simp [hx]), if_neg (by simp [hx])]
    show zI (k + 3) [x, y] (z6 (k + 3) [x, y] (k + 1)) 1 = _
    unfold zI
    rw [if_pos (by simp)]
    show ((some y).bind _) = _
    simp only [Option.bind_some]
    by_cases hy : y = 0
    · rw [if_neg (by simp [hy]), hy]
      show zI (k + 3) [x, y] (z6 (k + 3) [x, y] k) 2 = _
      unfold zI
      rw [if_neg (by simp)]
      rfl
    · rw [if_pos (by simp [hy])]
  · rw [if_pos (by simp [hx]), if_pos hx]
theorem qfU {F : Nat} (hF : 3 ≤ F) (a b : Int × Int) : ∃ z, vL F a.1 a.2 b.1 b.2 = some z ∧ (z < 0 ↔ lexLt a b) := by
  unfold vL
  rw [qbC, qbC]
  simp only [Option.bind_some]
  rw [qhX hF]
  simp only [Option.bind_some]
  unfold lexLt
  by_cases h1 : a.1 < b.1
  · exact ⟨-1, by simp [h1], by simp [h1]⟩
  · by_cases h2 : b.1 < a.1
    · exact ⟨1, by simp [h1, h2], by omega⟩
    · refine ⟨if a.2 < b.2 then -1 else if b.2 < a.2 then 1 else 0, by simp [h1, h2], ?_⟩
      split
      · omega
      · split <;> omega
def srtA (l : List (Int × Int)) : List (Int × Int) := l.mergeSort fun a b => decide (¬ lexLt b a)
theorem jU (l : List (Int × Int)) : (srtA l).Perm l := List.mergeSort_perm l _
theorem qeS (l : List (Int × Int)) : (srtA l).Pairwise fun a b => ¬ lexLt b a := by
  have h := List.pairwise_mergeSort (le := fun a b : Int × Int => decide (¬ lexLt b a)) (fun a b c h1 h2 => by simp only [decide_eq_true_eq] at *; unfold lexLt at *; omega) (fun a b => by simp only [Bool.or_eq_true, decide_eq_true_eq]; unfold lexLt; omega) l
  exact h.imp (fun h => by simpa using h)
theorem qaZ (l : List (Int × Int)) : (srtA l).length = l.length := (jU l).length_eq
theorem qfd {l : List (Int × Int)} (h : l.Pairwise lexLt) : l.Nodup := List.Pairwise.imp (S := fun a b => a ≠ b) (fun {a b} h (he : a = b) => qcz a (by rw [← he] at h; exact h)) h
theorem qd2 {l : List (Int × Int)} (h : l.Nodup) : (srtA l).Pairwise lexLt := by
  have h1 : (srtA l).Nodup := (jU l).nodup_iff.2 h
  refine (List.Pairwise.and (qeS l) h1).imp fun {a b} h => ?_
  rcases qcA a b with h2 | h2 | h2
  · exact h2
  · exact absurd h2 h.2
  · exact absurd h2 h.1
theorem qdY {F : Nat} {l : List (Int × Int)} (hF : 3 ≤ F) (hl : l.length ≤ 1000000) : qB F l = some (srtA l) :=
  qf9 (lt := lexLt) (fun a _ b _ => qfU hF a b) qcz qfQ qcA (by omega) (jU l) (qeS l)
theorem qcp {F : Nat} {l : List (Int × Int)} (hF : 3 ≤ F) (hF2 : l.length < F) (hl : l.length ≤ 1000000) : qd F l = some (srtA l) := by
  unfold qd
  rw [qda hF2 hl]
  simp only [Option.bind_some]
  rw [qdY hF hl]
  simp [chk, qaZ]
theorem pwx : ∀ {A B : List Int}, A.Pairwise (· < ·) → B.Pairwise (· < ·) → (∀ z, z ∈ A ↔ z ∈ B) → A = B := by
  intro A B hA hB h
  have nd : ∀ {C : List Int}, C.Pairwise (· < ·) → C.Nodup := fun hC => hC.imp fun h => by omega
  exact List.Perm.eq_of_pairwise (le := fun x y : Int => x < y) (fun a b _ _ h1 h2 => by omega) hA hB ((List.perm_ext_iff_of_nodup (nd hA) (nd hB)).2 h)
def rowOf (l : List (Int × Int)) (i : Int) : List Int := (l.filter fun p => decide (p.1 = i)).map (·.2)
def tab (n : Nat) (l : List (Int × Int)) : List (List Int) := (List.range n).map fun (i : Nat) => rowOf l (i : Int)
theorem qbv (n : Nat) (l : List (Int × Int)) : (tab n l).length = n := by simp [tab]
theorem qeV {n i : Nat} {l : List (Int × Int)} (h : i < n) : (tab n l)[i]? = some (rowOf l i) := by simp [tab, h]
theorem qcI (l : List (Int × Int)) (i : Int) : (rowOf l i).length ≤ l.length := by
  unfold rowOf
  rw [List.length_map]
  exact List.length_filter_le _ _
theorem qgD {n a : Nat} {l : List (Int × Int)} {b : Int} : tab n (l ++ [((a : Int), b)]) = (tab n l).set a (rowOf l a ++ [b]) := by
  apply List.ext_getElem (by simp [tab])
  intro i h1 h2
  rw [qbv] at h1
  rw [List.getElem_set]
  simp only [tab, List.getElem_map, List.getElem_range]
  by_cases h : a = i
  · rw [if_pos h, ← h]; simp [rowOf]
  · rw [if_neg h]
    have : ¬ (a : Int) = (i : Int) := by omega
    simp [rowOf, this]
theorem qeW (n : Nat) : tab n [] = List.replicate n [] := by
  apply List.ext_getElem (by simp [tab])
  intro i h1 h2
  simp [tab, rowOf]
theorem qfT {n : Nat} {lim : Nat} (h : n ≤ lim) : mk lim ([] : List Int) (n : Int) = some (tab n []) := by
  unfold mk
  rw [if_pos ⟨by omega, by omega⟩, qeW]; simp
def InR (n : Nat) (l : List (Int × Int)) : Prop := ∀ p ∈ l, 0 ≤ p.1 ∧ p.1 < (n : Int) ∧ 0 ≤ p.2 ∧ p.2 < (n : Int)
theorem jZ {α : Type} {l : List α} {j : Nat} (h : j < l.length) : l.take (j + 1) = l.take j ++ [l[j]] := by
  rw [List.take_add_one, List.getElem?_eq_getElem h]; rfl
theorem qeJ {F n : Nat} {l : List (Int × Int)} (hl : ∀ p ∈ l, 0 ≤ p.1 ∧ p.1 < (n : Int)) (hm : l.length ≤ 1000000) : ∀ (k j : Nat), l.length < k + j → j ≤ l.length →
    kn F l k ((j : Int), tab n (l.take j)) = some (tab n l)
  | 0, _, _, _ => by omega
  | k + 1, j, h, hj => by
    show yE F l (kn F l k) (j : Int) (tab n (l.take j)) = _
    unfold yE
    by_cases hlt : j < l.length
    · obtain ⟨h1, h2⟩ := hl _ (List.getElem_mem hlt)
      have hrec := qeJ (F := F) hl hm k (j + 1) (by omega) (by omega)
      obtain ⟨a, ha⟩ := Int.eq_ofNat_of_zero_le h1
      have e : l[j] = ((a : Int), l[j].2) := by rw [← ha]
      rw [jZ hlt, e, qgD] at hrec
      have hrl := qcI (l.take j) (a : Int)
      rw [List.length_take] at hrl
      rw [if_pos (by simp; omega), zi, List.getElem?_eq_getElem hlt]
      simp only [Option.bind_some]
      rw [ha, zi, qeV (by omega)]
      simp only [Option.bind_some]
      rw [kb (by simp; omega)]
      simp only [Option.bind_some, lett]
      rw [q8 (by omega), Int.toNat_natCast]
      exact hrec
    · rw [if_neg (by simp; omega), List.take_of_length_le (by omega)]
      rfl
theorem qfF {F n : Nat} {l : List (Int × Int)} (hl : ∀ p ∈ l, 0 ≤ p.1 ∧ p.1 < (n : Int)) (hm : l.length ≤ 1000000) (hF : l.length < F) (hn : n ≤ 1000000) : yg F (n : Int) l = some (tab n l) := by
  unfold yg
  rw [qfT (by omega)]
  simp only [Option.bind_some]
  have := qeJ (F := F) hl hm F 0 (by omega) (by omega)
  rw [List.take_zero] at this
  exact this
def IsTab (n : Nat) (l : List (Int × Int)) (T : List (List Int)) : Prop :=
  T.length = n ∧ ∀ (i : Nat) (r : List Int), T[i]? = some r → r.Pairwise (· < ·) ∧ ∀ x, x ∈ r ↔ ((i : Int), x) ∈ l
theorem qbG {n : Nat} {l l' : List (Int × Int)} {T T' : List (List Int)} (h : IsTab n l T) (h' : IsTab n l' T') (hm : ∀ p, p ∈ l ↔ p ∈ l') : T = T' := by
  apply List.ext_getElem (by rw [h.1, h'.1])
  intro i h1 h2
  have a := h.2 i _ (List.getElem?_eq_getElem h1)
  have b := h'.2 i _ (List.getElem?_eq_getElem h2)
  exact pwx a.1 b.1 fun z => by rw [a.2, b.2, hm]
theorem qff {l : List (Int × Int)} {i x : Int} : x ∈ rowOf l i ↔ (i, x) ∈ l := by
  unfold rowOf
  rw [List.mem_map]
  constructor
  · rintro ⟨p, hp, rfl⟩
    obtain ⟨h1, h2⟩ := List.mem_filter.1 hp
    have : p.1 = i := by simpa using h2
    rw [← this]; exact h1
  · intro h
    exact ⟨(i, x), List.mem_filter.2 ⟨h, by simp⟩, rfl⟩
theorem qf2 {l : List (Int × Int)} {i : Int} (h : l.Pairwise lexLt) : (rowOf l i).Pairwise (· < ·) := by
  unfold rowOf
  rw [List.pairwise_map]
  refine (h.filter _).imp_of_mem fun {a b} ha hb hab => ?_
  have h1 := (List.mem_filter.1 ha).2
  have h2 := (List.mem_filter.1 hb).2
  simp only [decide_eq_true_eq] at h1 h2
  unfold lexLt at hab; omega
theorem qfw {n : Nat} {l : List (Int × Int)} (h : l.Pairwise lexLt) : IsTab n l (tab n l) := by
  refine ⟨qbv n l, fun i r hr => ?_⟩
  have hi : i < n := by have := (List.getElem?_eq_some_iff.1 hr).1; rwa [qbv] at this
  rw [qeV hi] at hr
  cases hr
  exact ⟨qf2 h, fun x => qff⟩
theorem qdH {n : Nat} {l l' : List (Int × Int)} {T : List (List Int)} (h : IsTab n l T) (hm : ∀ p, p ∈ l ↔ p ∈ l') : IsTab n l' T :=
  ⟨h.1, fun i r hr => ⟨(h.2 i r hr).1, fun x => by rw [(h.2 i r hr).2, hm]⟩⟩
theorem qdj : ∀ {g : List (List Int)} {k : Nat} {p : Int × Int}, p ∈ af k g ↔ ∃ i r, g[i]? = some r ∧ p.1 = ((k + i : Nat) : Int) ∧ p.2 ∈ r
  | [], k, p => by simp [af]
  | l :: g, k, p => by
    unfold af
    rw [List.mem_append, qdj (g := g), List.mem_map]
    constructor
    · rintro (⟨x, hx, rfl⟩ | ⟨i, r, h1, h2, h3⟩)
      · exact ⟨0, l, by simp, by simp, hx⟩
      · exact ⟨i + 1, r, by simpa using h1, by omega, h3⟩
    · rintro ⟨i, r, h1, h2, h3⟩
      cases i with
      | zero =>
        simp only [List.getElem?_cons_zero, Option.some.injEq] at h1
        subst h1
        exact .inl ⟨p.2, h3, by rw [Nat.add_zero] at h2; rw [← h2]⟩
      | succ i =>
        refine .inr ⟨i, r, by simpa using h1, by omega, h3⟩
theorem qht : ∀ {g : List (List Int)} {k : Nat}, (∀ r ∈ g, r.Pairwise (· < ·)) → (af k g).Pairwise lexLt
  | [], k, _ => by simp [af]
  | l :: g, k, h => by
    unfold af
    rw [List.pairwise_append]
    refine ⟨?_, qht fun r hr => h r (by simp [hr]), ?_⟩
    · rw [List.pairwise_map]
      exact (h l (by simp)).imp fun h => .inr ⟨rfl, h⟩
    · intro a ha b hb
      obtain ⟨x, _, rfl⟩ := List.mem_map.1 ha
      obtain ⟨i, r, _, h2, _⟩ := qdj.1 hb
      left
      show (k : Int) < b.1
      omega
theorem qfy {g : List (List Int)} (h : ∀ r ∈ g, r.Pairwise (· < ·)) : IsTab g.length (af 0 g) g := by
  refine ⟨rfl, fun i r hr => ⟨h r (List.mem_of_getElem? hr), fun x => ?_⟩⟩
  rw [qdj]
  constructor
  · intro hx; exact ⟨i, r, hr, by simp, hx⟩
  · rintro ⟨i', r', h1, h2, h3⟩
    have : i' = i := by simp at h2; omega
    subst this
    rw [hr] at h1
    cases h1
    exact h3
theorem qhu {g : List (List Int)} (h : Gr g) : InR g.length (af 0 g) := fun p hp => by
  obtain ⟨i, r, h1, h2, h3⟩ := qdj.1 hp
  have h4 := (List.getElem?_eq_some_iff.1 h1).1
  have h5 := (h.2.1 r (List.mem_of_getElem? h1)).2 _ h3
  refine ⟨by omega, by omega, h5.1, h5.2⟩
theorem qhv {g : List (List Int)} (h : Gr g) : ∀ r ∈ g, r.Pairwise (· < ·) := fun r hr => (h.2.1 r hr).1
def ofE (n : Int) : List (Int × Int) → List (Int × Int) → Int
  | _, [] => 0
  | seen, p :: l => if p.1 < 0 ∨ n ≤ p.1 ∨ p.2 < 0 ∨ n ≤ p.2 then 3 else if p ∈ seen then 6 else ofE n (seen ++ [p]) l
theorem qdN {n : Int} {seen : List (Int × Int)} {p : Int × Int} {l : List (Int × Int)} : ofE n seen (p :: l) = if p.1 < 0 ∨ n ≤ p.1 ∨ p.2 < 0 ∨ n ≤ p.2 then 3 else if p ∈ seen then 6 else ofE n (seen ++ [p]) l := rfl
theorem qdk {n : Nat} : ∀ {l seen : List (Int × Int)}, ofE n seen l = 0 ↔ InR n l ∧ l.Nodup ∧ ∀ p ∈ l, p ∉ seen
  | [], seen => by simp [ofE, InR]
  | p :: l, seen => by
    unfold ofE
    by_cases h1 : p.1 < 0 ∨ (n : Int) ≤ p.1 ∨ p.2 < 0 ∨ (n : Int) ≤ p.2
    · rw [if_pos h1]
      refine ⟨fun h => by simp at h, fun h => ?_⟩
      have := h.1 p (by simp); omega
    · rw [if_neg h1]
      by_cases h2 : p ∈ seen
      · rw [if_pos h2]
        refine ⟨fun h => by simp at h, fun h => ?_⟩
        exact absurd h2 (h.2.2 p (by simp))
      · rw [if_neg h2, qdk, List.nodup_cons]
        constructor
        · rintro ⟨a1, a2, a3⟩
          refine ⟨fun q hq => ?_, ⟨fun hp => a3 p hp (by simp), a2⟩, fun q hq => ?_⟩
          · rcases List.mem_cons.1 hq with rfl | hq
            · omega
            · exact a1 q hq
          · rcases List.mem_cons.1 hq with rfl | hq
            · exact h2
            · exact fun h => a3 q hq (by simp [h])
        · rintro ⟨a1, ⟨a2, a3⟩, a4⟩
          refine ⟨fun q hq => a1 q (by simp [hq]), a3, fun q hq h => ?_⟩
          rcases List.mem_append.1 h with h | h
          · exact a4 q (by simp [hq]) h
          · have : q = p := by simpa using h
            subst this; exact a2 hq
def ofM (n : Int) (l : List (Int × Int)) : List (List Int) × Int :=
  if n < 0 ∨ 100 < n then ([], 3) else if 600 < l.length then ([], 2) else if ofE n [] l ≠ 0 then ([], ofE n [] l) else (tab n.toNat (srtA l), 0)
theorem qhW {F n : Nat} {l : List (Int × Int)} (hF : 1000 ≤ F) (hn : n ≤ 100) (hl : l.length ≤ 600) : ∀ (k j : Nat), l.length < k + j → j ≤ l.length → (ofE n [] l = ofE n (l.take j) (l.drop j)) →
    yh F (n : Int) l k ((j : Int), l.take j) = some (if ofE n [] l ≠ 0 then ([], ofE n [] l) else (tab n (srtA l), 0))
  | 0, _, _, _, _ => by omega
  | k + 1, j, h, hj, he => by
    show vK F (n : Int) l (yh F (n : Int) l k) (j : Int) (l.take j) = _
    unfold vK
    by_cases hlt : j < l.length
    · have hrec := qhW (F := F) hF hn hl k (j + 1) (by omega) (by omega)
      rw [if_pos (by simp; omega), zi, List.getElem?_eq_getElem hlt]
      simp only [Option.bind_some]
      rw [List.drop_eq_getElem_cons hlt, qdN] at he
      by_cases h1 : l[j].1 < 0 ∨ (n : Int) ≤ l[j].1 ∨ l[j].2 < 0 ∨ (n : Int) ≤ l[j].2
      · rw [if_pos h1] at he
        rw [if_pos (by simp only [Bool.or_eq_true, decide_eq_true_eq]; omega), if_pos (by rw [he]; decide), he]
      · rw [if_neg h1] at he
        rw [if_neg (by simp only [Bool.or_eq_true, decide_eq_true_eq]; omega)]
        by_cases h2 : l[j] ∈ l.take j
        · rw [if_pos h2] at he
          rw [if_pos (by simpa using h2), if_pos (by rw [he]; decide), he]
        · rw [if_neg h2, ← jZ hlt] at he
          rw [if_neg (by simpa using h2)]
          have : sins (l.take j) (l[j].1, l[j].2) = some (l.take (j + 1)) := by
            unfold sins
            rw [if_neg h2, jZ hlt]
          rw [this]
          simp only [Option.bind_some]
          rw [q8 (by omega)]
          exact hrec he
    · rw [List.drop_eq_nil_of_le (by omega)] at he
      have he : ofE n [] l = 0 := he
      obtain ⟨a1, a2, _⟩ := qdk.1 he
      rw [if_neg (by simp; omega), if_neg (by rw [he]; decide)]
      unfold jH za
      simp only [Option.bind_some]
      rw [qcp (by omega) (by omega) (by omega)]
      simp only [Option.bind_some]
      rw [qfF (fun p hp => by have := a1 p ((jU l).mem_iff.1 hp); omega) (by rw [qaZ]; omega) (by rw [qaZ]; omega) (by omega)]
      rfl
theorem qhV {F : Nat} {n : Int} {l : List (Int × Int)} (hF : 1000 ≤ F) : y4 F n l = some (ofM n l) := by
  unfold y4 ofM
  by_cases h1 : n < 0 ∨ 100 < n
  · rw [if_pos (by simpa using h1), if_pos h1]
  · rw [if_neg (by simpa using h1), if_neg h1]
    by_cases h2 : 600 < l.length
    · rw [if_pos (by simp; omega), if_pos h2]
    · rw [if_neg (by simp; omega), if_neg h2]
      obtain ⟨m, rfl⟩ := Int.eq_ofNat_of_zero_le (show 0 ≤ n by omega)
      have := qhW (F := F) (n := m) (l := l) hF (by omega) (by omega) F 0 (by omega) (by omega) (by simp)
      rw [List.take_zero] at this
      exact this
theorem qeP {n : Nat} {l : List (Int × Int)} (hn : n ≤ 100) (hl : l.length ≤ 600) (h1 : InR n l) (h2 : l.Nodup) : ofM n l = (tab n (srtA l), 0) := by
  have h3 : ofE n [] l = 0 := qdk.2 ⟨h1, h2, fun p _ => by simp⟩
  unfold ofM
  rw [if_neg (by omega), if_neg (by omega), if_neg (by rw [h3]; decide), Int.toNat_natCast]
theorem qcK {n : Nat} {l : List (Int × Int)} (h : l.Nodup) : IsTab n l (tab n (srtA l)) :=
  qdH (qfw (qd2 h)) fun _ => (jU l).mem_iff
theorem qdG {F : Nat} {l : List (Int × Int)} {a b : Int} (hm : l.length ≤ 1000000) : ∀ (k j : Nat), l.length < k + j → j ≤ l.length → yf F l a b k (j : Int) = some (decide ((a, b) ∈ l.drop j))
  | 0, _, _, _ => by omega
  | k + 1, j, h, hj => by
    show vG F l a b (yf F l a b k) (j : Int) = _
    unfold vG
    by_cases hlt : j < l.length
    · rw [if_pos (by simp; omega), zi, List.getElem?_eq_getElem hlt, List.drop_eq_getElem_cons hlt]
      simp only [Option.bind_some]
      by_cases hc : l[j] = (a, b)
      · rw [if_pos (by simp [hc])]; simp [hc]
      · rw [if_neg (by simp only [Bool.and_eq_true, beq_iff_eq]; exact fun h => hc (Prod.ext h.1 h.2)), q8 (by omega), qdG hm k (j + 1) (by omega) (by omega)]
        have : ¬ (a, b) = l[j] := fun h => hc h.symm
        simp only [List.mem_cons, this, false_or]
    · rw [if_neg (by simp; omega), List.drop_eq_nil_of_le (by omega)]
      rfl
theorem qa6 {F : Nat} {l : List (Int × Int)} {a b : Int} (hm : l.length ≤ 1000000) (hF : l.length < F) : vy F l a b = some (decide ((a, b) ∈ l)) := by
  unfold vy
  have := qdG (F := F) (a := a) (b := b) hm F 0 (by omega) (by omega)
  rw [List.drop_zero] at this
  exact this
def tbw (n : Nat) (f : Nat → List Int) (i : Nat) : List (List Int) := (List.range n).map fun a => if a < i then f a else []
theorem qeX (n : Nat) (f : Nat → List Int) (i : Nat) : (tbw n f i).length = n := by simp [tbw]
theorem qho {n i : Nat} {f : Nat → List Int} (h : i < n) : (tbw n f i)[i]? = some [] := by simp [tbw, h]
theorem qhp {n i : Nat} {f : Nat → List Int} : (tbw n f i).set i (f i) = tbw n f (i + 1) := by
  apply List.ext_getElem (by simp [tbw])
  intro a h1 h2
  rw [List.getElem_set]
  simp only [tbw, List.getElem_map, List.getElem_range]
  by_cases h : i = a
  · subst h; simp
  · rw [if_neg h]
    by_cases h3 : a < i
    · rw [if_pos h3, if_pos (by omega)]
    · rw [if_neg h3, if_neg (by omega)]
theorem qgE {n : Nat} {f : Nat → List Int} : tbw n f 0 = tab n [] := by
  rw [qeW]
  apply List.ext_getElem (by simp [tbw])
  intro a h1 h2
  simp [tbw]
theorem qhn {n : Nat} {f : Nat → List Int} : tbw n f n = (List.range n).map f := by
  apply List.ext_getElem (by simp [tbw])
  intro a h1 h2
  rw [qeX] at h1
  simp [tbw, h1]
def cols (l : List (Int × Int)) (i j : Nat) : List Int := ((List.range j).filter fun (c : Nat) => decide (((i : Int), (c : Int)) ∈ l)).map fun (c : Nat) => (c : Int)
theorem qfH (l : List (Int × Int)) (i j : Nat) : (cols l i j).length ≤ j := by
  unfold cols
  rw [List.length_map]
  exact Nat.le_trans (List.length_filter_le _ _) (by simp)
theorem qe8 (l : List (Int × Int)) (i j : Nat) : cols l i (j + 1) = if ((i : Int), (j : Int)) ∈ l then cols l i j ++ [(j : Int)] else cols l i j := by
  unfold cols
  rw [List.range_succ, List.filter_append]
  by_cases h : ((i : Int), (j : Int)) ∈ l
  · rw [if_pos h]; simp [h]
  · rw [if_neg h]; simp [h]
theorem qef {n : Nat} {l : List (Int × Int)} (hl : InR n l) : IsTab n l ((List.range n).map fun i => cols l i n) := by
  refine ⟨by simp, fun i r hr => ?_⟩
  have hi : i < n := by have := (List.getElem?_eq_some_iff.1 hr).1; simpa using this
  simp only [List.getElem?_map, List.getElem?_range hi, Option.map_some, Option.some.injEq] at hr
  subst hr
  unfold cols
  constructor
  · rw [List.pairwise_map]
    exact (List.pairwise_lt_range.filter _).imp fun h => by omega
  · intro x
    rw [List.mem_map]
    constructor
    · rintro ⟨c, hc, rfl⟩
      simpa using (List.mem_filter.1 hc).2
    · intro h
      have := hl _ h
      obtain ⟨c, hc⟩ := Int.eq_ofNat_of_zero_le this.2.2.1
      have hc : x = (c : Int) := hc
      refine ⟨c, List.mem_filter.2 ⟨by simp; omega, by simp [← hc, h]⟩, hc.symm⟩
theorem qf1 {F n i : Nat} {l : List (Int × Int)} {rec62 : (Int × List (List Int)) → Option (List (List Int) × Int)} (hF : l.length < F) (hm : l.length ≤ 1000000) (hn : n ≤ 1000000) (hi : i < n) : ∀ (k j : Nat) (T : List (List Int)), T.length = n → n < k + j → j ≤ n →
    zY F rec62 (n : Int) l (i : Int) k ((j : Int), T.set i (cols l i j)) = yR F rec62 (i : Int) (T.set i (cols l i n))
  | 0, _, _, _, _, _ => by omega
  | k + 1, j, T, hT, h, hj => by
    show yP F rec62 (n : Int) l (i : Int) (zY F rec62 (n : Int) l (i : Int) k) (j : Int) (T.set i (cols l i j)) = _
    unfold yP
    by_cases hlt : j < n
    · have hrec := qf1 (F := F) (l := l) (rec62 := rec62) hF hm hn hi k (j + 1) T hT (by omega) (by omega)
      rw [qe8] at hrec
      rw [if_pos (by simp; omega), qa6 hm hF]
      simp only [Option.bind_some]
      by_cases hc : ((i : Int), (j : Int)) ∈ l
      · rw [if_pos hc] at hrec
        have := qfH l i j
        rw [if_pos (by simpa using hc), zi, List.getElem?_set_self (by omega)]
        simp only [Option.bind_some]
        rw [kb (by simp; omega)]
        simp only [Option.bind_some, lett]
        unfold yb
        rw [q8 (by omega), Int.toNat_natCast, List.set_set]
        exact hrec
      · rw [if_neg hc] at hrec
        rw [if_neg (by simpa using hc)]
        unfold yb
        rw [q8 (by omega)]
        exact hrec
    · rw [if_neg (by simp; omega), show j = n from by omega]
theorem qeR {F n : Nat} {l : List (Int × Int)} (hF : l.length < F) (hF2 : n < F) (hm : l.length ≤ 1000000) (hn : n ≤ 1000000) : ∀ (k i : Nat), n < k + i → i ≤ n →
    qV F (n : Int) l k ((i : Int), tbw n (fun i => cols l i n) i) = some ((List.range n).map fun i => cols l i n, 0)
  | 0, _, _, _ => by omega
  | k + 1, i, h, hi => by
    show yO F (n : Int) l (qV F (n : Int) l k) (i : Int) (tbw n (fun i => cols l i n) i) = _
    unfold yO
    by_cases hlt : i < n
    · have hin := qf1 (F := F) (l := l) (rec62 := qV F (n : Int) l k) hF hm hn hlt F 0 (tbw n (fun i => cols l i n) i) (qeX _ _ _) (by omega) (by omega)
      have e0 : (tbw n (fun i => cols l i n) i).set i (cols l i 0) = tbw n (fun i => cols l i n) i := by
        have : (tbw n (fun i => cols l i n) i)[i]? = some (cols l i 0) := qho hlt
        obtain ⟨a1, a2⟩ := List.getElem?_eq_some_iff.1 this
        rw [← a2, List.set_getElem_self]
      rw [e0, qhp (f := fun i => cols l i n)] at hin
      rw [if_pos (by simp; omega)]
      refine hin.trans ?_
      unfold yR
      rw [q8 (by omega)]
      exact qeR hF hF2 hm hn k (i + 1) (by omega) (by omega)
    · rw [if_neg (by simp; omega), show i = n from by omega, qhn]
      rfl
theorem qhx {F n : Nat} {l : List (Int × Int)} (hF : 1000 ≤ F) (hn : n ≤ 100) (hl : l.length ≤ 600) : ∀ (k j : Nat), l.length < k + j → j ≤ l.length → (ofE n [] l = ofE n (l.take j) (l.drop j)) →
    zZ F (n : Int) l k (j : Int) = some (if ofE n [] l ≠ 0 then ([], ofE n [] l) else (tab n (srtA l), 0))
  | 0, _, _, _, _ => by omega
  | k + 1, j, h, hj, he => by
    show yQ F (n : Int) l (zZ F (n : Int) l k) (j : Int) = _
    unfold yQ
    by_cases hlt : j < l.length
    · have hrec := qhx (F := F) hF hn hl k (j + 1) (by omega) (by omega)
      rw [if_pos (by simp; omega), zi, List.getElem?_eq_getElem hlt]
      simp only [Option.bind_some]
      unfold kT
      rw [qbH (by omega) (by omega)]
      simp only [Option.bind_some]
      rw [List.drop_eq_getElem_cons hlt, qdN] at he
      by_cases h1 : l[j].1 < 0 ∨ (n : Int) ≤ l[j].1 ∨ l[j].2 < 0 ∨ (n : Int) ≤ l[j].2
      · rw [if_pos h1] at he
        rw [if_pos (show ofE (n : Int) [] l ≠ 0 by rw [he]; decide), he]
        by_cases h2 : l[j].1 < 0 ∨ (n : Int) ≤ l[j].1
        · rw [if_pos (by simp; omega)]; rfl
        · rw [if_neg (by simp; omega), show (decide (0 ≤ l[j].2) && decide (l[j].2 ≤ (n : Int) - 1)) = false from by simp; omega]
          rfl
      · rw [if_neg h1] at he
        rw [if_neg (by simp; omega), show (decide (0 ≤ l[j].2) && decide (l[j].2 ≤ (n : Int) - 1)) = true from by simp; omega]
        unfold yS
        have hs := qhZ (l := l) (i := 0) (j := j) (by omega) (by omega)
        rw [show ((0 : Nat) : Int) = 0 from rfl, List.drop_zero] at hs
        rw [if_neg (by simp), hs]
        simp only [Option.bind_some]
        rw [zi, List.getElem?_eq_getElem hlt]
        simp only [Option.bind_some]
        rw [qa6 (by rw [List.length_take]; omega) (by rw [List.length_take]; omega)]
        simp only [Option.bind_some]
        by_cases h2 : l[j] ∈ l.take j
        · rw [if_pos h2] at he
          rw [if_pos (by simpa using h2), if_pos (by rw [he]; decide), he]
        · rw [if_neg h2, ← jZ hlt] at he
          rw [if_neg (by simpa using h2), q8 (by omega)]
          exact hrec he
    · rw [List.drop_eq_nil_of_le (by omega)] at he
      have he : ofE n [] l = 0 := he
      obtain ⟨a1, a2, _⟩ := qdk.1 he
      rw [if_neg (by simp; omega), if_neg (by rw [he]; decide)]
      unfold v6
      rw [qfT (by omega)]
      simp only [Option.bind_some]
      have := qeR (F := F) (n := n) (l := l) (by omega) (by omega) (by omega) (by omega) F 0 (by omega) (by omega)
      rw [qgE] at this
      refine this.trans ?_
      rw [qbG (qef a1) (qcK a2) fun p => Iff.rfl]
theorem qhI {F : Nat} {n : Int} {l : List (Int × Int)} (hF : 1000 ≤ F) : jw F n l = some (ofM n l) := by
  unfold jw ofM kT
  simp only [Option.bind_some]
  by_cases h1 : n < 0 ∨ 100 < n
  · rw [if_pos (by simp; omega), if_pos h1]
  · rw [if_neg (by simp; omega), if_neg h1]
    by_cases h2 : 600 < l.length
    · rw [if_pos (by simp; omega), if_pos h2]
    · rw [if_neg (by simp; omega), if_neg h2]
      obtain ⟨m, rfl⟩ := Int.eq_ofNat_of_zero_le (show 0 ≤ n by omega)
      exact qhx (F := F) (n := m) (l := l) hF (by omega) (by omega) F 0 (by omega) (by omega) (by simp)
theorem qdS {F i : Nat} {g : List (List Int)} {r : List Int} {rec18 : (List (Int × Int) × Int) → Option (List (Int × Int))} (hr : g[i]? = some r) (hm : r.length ≤ 1000) : ∀ (k j : Nat) (acc : List (Int × Int)), r.length < k + j → j ≤ r.length → acc.length ≤ 1000000 →
    zN F rec18 g (i : Int) k (acc ++ (r.take j).map (fun x => ((i : Int), x)), (j : Int)) = yk F rec18 (i : Int) (acc ++ r.map fun x => ((i : Int), x))
  | 0, _, _, _, _, _ => by omega
  | k + 1, j, acc, h, hj, hc => by
    show yj F rec18 g (i : Int) (zN F rec18 g (i : Int) k) (acc ++ (r.take j).map (fun x => ((i : Int), x))) (j : Int) = _
    unfold yj
    rw [zi, hr]
    simp only [Option.bind_some]
    by_cases hlt : j < r.length
    · have hrec := qdS (F := F) (rec18 := rec18) hr hm k (j + 1) acc (by omega) (by omega) hc
      rw [jZ hlt, List.map_append, ← List.append_assoc] at hrec
      rw [if_pos (by simp; omega), zi, List.getElem?_eq_getElem hlt]
      simp only [Option.bind_some]
      rw [kb (by simp; omega), q8 (by omega)]
      exact hrec
    · rw [if_neg (by simp; omega), List.take_of_length_le (by omega)]
theorem qcG {F : Nat} {g : List (List Int)} (hF : 1000 ≤ F) (hg : Gr g) : ∀ (k i : Nat) (acc : List (Int × Int)), g.length < k + i → i ≤ g.length → acc.length ≤ 1000 * i →
    qP F g k (acc, (i : Int)) = some (acc ++ af i (g.drop i))
  | 0, _, _, _, _, _ => by omega
  | k + 1, i, acc, h, hi, hc => by
    have h1 := hg.1
    show yi F g (qP F g k) acc (i : Int) = _
    unfold yi
    by_cases hlt : i < g.length
    · have hrow := qfN hg (List.getElem_mem hlt)
      have hin := qdS (F := F) (rec18 := qP F g k) (List.getElem?_eq_getElem hlt) (by omega) F 0 acc (by omega) (by omega) (by omega)
      rw [List.take_zero, List.map_nil, List.append_nil] at hin
      rw [if_pos (by simp; omega), List.drop_eq_getElem_cons hlt]
      refine hin.trans ?_
      unfold yk af
      rw [q8 (by omega), qcG hF hg k (i + 1) _ (by omega) (by omega) (by simp; omega), List.append_assoc]
    · rw [if_neg (by simp; omega), List.drop_eq_nil_of_le (by omega)]
      unfold vi af
      rw [List.append_nil]
theorem qfZ {F : Nat} {g : List (List Int)} (hF : 1000 ≤ F) (hg : Gr g) : jG F g = some (af 0 g) := by
  have h1 := hg.1
  have := qcG hF hg F 0 [] (by omega) (by omega) (by simp)
  rw [List.drop_zero, List.nil_append] at this
  exact this
theorem qek {g : List (List Int)} (h : Gr g) : (af 0 g).length ≤ 600 := by rw [qfz]; exact h.2.2
theorem qfM {g : List (List Int)} (h : Gr g) : (af 0 g).Nodup := qfd (qht (qhv h))
theorem qgX {g T : List (List Int)} (h : Gr g) {l : List (Int × Int)} (hT : IsTab g.length l T) (hm : ∀ p, p ∈ l ↔ p ∈ af 0 g) : T = g :=
  qbG hT (qfy (qhv h)) hm
theorem qaY {F : Nat} {xs : List (List Int)} (hm : xs.length ≤ 1000000) (hr : ∀ r ∈ xs, r.length ≤ 1000000 ∧ r.length < F) : ∀ (k i : Nat), xs.length < k + i → i ≤ xs.length → km F xs xs k (i : Int) = some true
  | 0, _, _, _ => by omega
  | k + 1, i, h, hi => by
    show yA F xs xs (km F xs xs k) (i : Int) = _
    unfold yA
    by_cases hlt : i < xs.length
    · have := hr _ (List.getElem_mem hlt)
      rw [if_pos (by simp; omega), zi, List.getElem?_eq_getElem hlt]
      simp only [Option.bind_some]
      rw [qep this.2 this.1]
      simp only [Option.bind_some]
      rw [if_neg (by simp), q8 (by omega)]
      exact qaY hm hr k (i + 1) (by omega) (by omega)
    · rw [if_neg (by simp; omega)]
      rfl
theorem qbT {F : Nat} {xs : List (List Int)} (hF : xs.length < F) (hm : xs.length ≤ 1000000) (hr : ∀ r ∈ xs, r.length ≤ 1000000 ∧ r.length < F) : kf F xs xs = some true := by
  unfold kf
  rw [if_neg (by simp)]
  exact qaY hm hr F 0 (by omega) (by omega)
def Sm (g : List (List Int)) : Prop := g.length ≤ 100 ∧ ∀ r ∈ g, r.length ≤ 1200
theorem qeo {F : Nat} {g : List (List Int)} (hF : 2000 ≤ F) (h : Sm g) : zF F g g = some true := by
  unfold zF
  have := h.1
  rw [qbT (by omega) (by omega) (fun r hr => by have := h.2 r hr; omega)]
  rfl
theorem qba : Sm [] := ⟨by simp, fun r hr => by simp at hr⟩
theorem qhK {n : Nat} {l : List (Int × Int)} (hn : n ≤ 100) (hl : l.length ≤ 1200) : Sm (tab n l) := ⟨by rw [qbv]; exact hn, fun r hr => by
  obtain ⟨i, hi, rfl⟩ := List.mem_map.1 hr
  have := qcI l (i : Int)
  omega⟩
theorem qhY {n : Int} {l : List (Int × Int)} : Sm (ofM n l).1 := by
  unfold ofM
  split
  · exact qba
  · split
    · exact qba
    · split
      · exact qba
      · exact qhK (by omega) (by rw [qaZ]; omega)
def By (s : List Int) : Prop := ∀ x ∈ s, 0 ≤ x ∧ x < 256
def cut8 (c : UInt8) : List UInt8 → List (List UInt8)
  | [] => [[]]
  | x :: t => if x = c then [] :: cut8 c t else match cut8 c t with | [] => [[x]] | h :: r => (x :: h) :: r
theorem qel (t : List UInt8) (c : UInt8) : -1 ≤ Lib.index t [c] := Lib.index_ge t [c]
theorem qbf (x : UInt8) (t : List UInt8) (c : UInt8) : Lib.index (x :: t) [c] = if x = c then 0 else if Lib.index t [c] = -1 then -1 else Lib.index t [c] + 1 := by
  rw [show Lib.index (x :: t) [c] = if [c].isPrefixOf (x :: t) then 0 else if Lib.index t [c] == -1 then -1 else Lib.index t [c] + 1 from rfl]
  by_cases h : x = c
  · subst h
    simp [List.isPrefixOf]
  · have h2 : ([c].isPrefixOf (x :: t)) = false := by
      simp only [List.isPrefixOf, Bool.and_true, beq_eq_false_iff_ne]
      exact fun e => h e.symm
    rw [if_neg (by rw [h2]; simp), if_neg h]
    simp
theorem qbW (c : UInt8) (k : Nat) (s : List UInt8) : Lib.splitK [c] 0 (k + 1) s = if Lib.index s [c] == -1 then [s] else s.take ((Lib.index s [c]).toNat + 0) :: Lib.splitK [c] 0 k (s.drop ((Lib.index s [c]).toNat + 1)) := rfl
theorem qbV (c : UInt8) : ∀ (L : List UInt8), Lib.splitK [c] 0 (L.count c) L = cut8 c L
  | [] => rfl
  | x :: t => by
    have ih := qbV c t
    unfold cut8
    by_cases h : x = c
    · subst h
      rw [List.count_cons_self, if_pos rfl, ← ih]
      rw [qbW, qbf, if_pos rfl]
      simp
    · rw [if_neg h, ← ih, List.count_cons_of_ne (fun e => h e)]
      cases hk : t.count c with
      | zero => rfl
      | succ k =>
        rw [qbW, qbW, qbf, if_neg h]
        have hge := qel t c
        by_cases hi : Lib.index t [c] = -1
        · simp [hi]
        · have e1 : ∃ i : Nat, Lib.index t [c] = i := ⟨(Lib.index t [c]).toNat, by omega⟩
          obtain ⟨i, hi2⟩ := e1
          rw [hi2]
          have n1 : ¬ ((i : Int) = -1) := by omega
          have n2 : ¬ ((i : Int) + 1 = -1) := by omega
          have e2 : ((i : Int) + 1).toNat = i + 1 := by omega
          simp [n1, n2, e2]
def cutI (c : Int) : List Int → List (List Int)
  | [] => [[]]
  | x :: t => if x = c then [] :: cutI c t else match cutI c t with | [] => [[x]] | h :: r => (x :: h) :: r
theorem qcu (c x : Int) (t : List Int) : cutI c (x :: t) = if x = c then [] :: cutI c t else match cutI c t with | [] => [[x]] | h :: r => (x :: h) :: r := rfl
def u8 (n : Int) : UInt8 := UInt8.ofNat n.toNat
theorem qgI {a b : Int} (ha : 0 ≤ a ∧ a < 256) (hb : 0 ≤ b ∧ b < 256) : u8 a = u8 b ↔ a = b := by
  constructor
  · intro h
    have h1 : b8 a = b8 b := by
      show ((u8 a).toNat : Int) = ((u8 b).toNat : Int)
      rw [h]
    rw [jz ha.1 ha.2, jz hb.1 hb.2] at h1
    exact h1
  · rintro rfl; rfl
def toI (l : List UInt8) : List Int := l.map fun u => (u.toNat : Int)
theorem qfI {c : Int} (hc : 0 ≤ c ∧ c < 256) : ∀ (s : List Int), By s → (cut8 (u8 c) (s.map u8)).map toI = cutI c s
  | [], _ => rfl
  | x :: t, h => by
    have hx := h x (List.mem_cons_self ..)
    have ih := qfI hc t fun y hy => h y (List.mem_cons_of_mem _ hy)
    have hb : ((u8 x).toNat : Int) = x := jz hx.1 hx.2
    rw [List.map_cons]
    unfold cut8 cutI
    by_cases e : x = c
    · subst e
      rw [if_pos rfl, if_pos rfl, List.map_cons, ih]
      rfl
    · rw [if_neg (fun e2 => e ((qgI hx hc).1 e2)), if_neg e, ← ih]
      cases cut8 (u8 c) (t.map u8) with
      | nil => show [toI [u8 x]] = [[x]]; simp [toI, hb]
      | cons a r =>
        show toI (u8 x :: a) :: r.map toI = (x :: toI a) :: r.map toI
        rw [show toI (u8 x :: a) = ((u8 x).toNat : Int) :: toI a from rfl, hb]
theorem qbX {c : Int} {s : List Int} (hc : 0 ≤ c ∧ c < 256) (hs : By s) (hl : s.length < 4294967281) : splitM s [c] = some (cutI c s) := by
  unfold splitM
  simp only [hl, if_true]
  congr 1
  have h1 := Lib.splitB_data (bstr [c]) 0 (Lib.countB (bstr s) (bstr [c])) (bstr s)
  have h2 : Lib.countB (bstr s) (bstr [c]) = (s.map u8).count (u8 c) := by
    show Lib.count (bstr s).data.toList (bstr [c]).data.toList = _
    rw [q7, q7]
    exact Lib.count_one _ _
  rw [h2] at h1 ⊢
  rw [q7, q7] at h1
  have h3 : Lib.splitK [u8 c] 0 ((s.map u8).count (u8 c)) (s.map u8) = cut8 (u8 c) (s.map u8) := qbV _ _
  have h4 : ([c].map fun n => UInt8.ofNat n.toNat) = [u8 c] := rfl
  have h5 : (s.map fun n => UInt8.ofNat n.toNat) = s.map u8 := rfl
  rw [h4, h5, h3] at h1
  rw [← qfI hc s hs, ← h1, List.map_map]
  rfl
theorem qay (c : Int) (s : List Int) : cutI c s ≠ [] := by
  cases s with
  | nil => simp [cutI]
  | cons x t =>
    unfold cutI
    split
    · simp
    · split <;> simp
theorem qaP {c : Int} : ∀ {s : List Int}, By s → ∀ l ∈ cutI c s, By l
  | [], _, l, hl => by simp [cutI] at hl; subst hl; exact fun x hx => by simp at hx
  | x :: t, h, l, hl => by
    have ht : By t := fun y hy => h y (List.mem_cons_of_mem _ hy)
    have hx := h x (List.mem_cons_self ..)
    unfold cutI at hl
    split at hl
    · rcases List.mem_cons.1 hl with rfl | hl
      · exact fun x hx => by simp at hx
      · exact qaP ht l hl
    · have ih := fun l hl => qaP (c := c) ht l hl
      cases he : cutI c t with
      | nil => exact absurd he (qay c t)
      | cons a r =>
        rw [he] at hl ih
        rcases List.mem_cons.1 hl with rfl | hl
        · intro y hy
          rcases List.mem_cons.1 hy with rfl | hy
          · exact hx
          · exact ih a (List.mem_cons_self ..) y hy
        · exact ih l (List.mem_cons_of_mem _ hl)
theorem qdC {c : Int} : ∀ (s : List Int), (cutI c s).length ≤ s.length + 1
  | [] => by simp [cutI]
  | x :: t => by
    have ih := qdC (c := c) t
    unfold cutI
    split
    · simp; omega
    · cases he : cutI c t with
      | nil => simp
      | cons a r => rw [he] at ih; simp at ih ⊢; omega
theorem qe9 {c : Int} {a : List Int} (h : c ∉ a) : cutI c a = [a] := by
  induction a with
  | nil => rfl
  | cons x t ih =>
    have h1 : ¬ x = c := fun e => h (by rw [e]; exact List.mem_cons_self ..)
    have ih := ih fun e => h (List.mem_cons_of_mem _ e)
    unfold cutI
    rw [if_neg h1, ih]
theorem qcv {c : Int} : ∀ (a : List Int), cutI c (a ++ [c]) = cutI c a ++ [[]]
  | [] => by simp [cutI]
  | x :: t => by
    have ih := qcv (c := c) t
    rw [List.cons_append]
    by_cases e : x = c
    · unfold cutI
      rw [if_pos e, if_pos e, ih]
      rfl
    · unfold cutI
      rw [if_neg e, if_neg e, ih]
      cases he : cutI c t with
      | nil => exact absurd he (qay c t)
      | cons a r => rfl
def linesI : List Int → List (List Int)
  | [] => []
  | x :: t => if x = 10 then [] :: linesI t else match linesI t with | [] => [[x]] | h :: r => (x :: h) :: r
theorem qbg (x : Int) (t : List Int) : linesI (x :: t) = if x = 10 then [] :: linesI t else match linesI t with | [] => [[x]] | h :: r => (x :: h) :: r := rfl
theorem qbI (x : Int) (t : List Int) : linesI (x :: t) ≠ [] := by
  unfold linesI
  split
  · simp
  · split <;> simp
theorem jp : ∀ (s : List Int), cutI 10 s = if s = [] ∨ s.getLast? = some 10 then linesI s ++ [[]] else linesI s
  | [] => rfl
  | [x] => by
    by_cases e : x = 10
    · subst e; rfl
    · simp [cutI, linesI, e]
  | x :: y :: t => by
    have ih := jp (y :: t)
    have hg : (x :: y :: t).getLast? = (y :: t).getLast? := by simp [List.getLast?_cons_cons]
    have h0 : (x :: y :: t = [] ∨ (x :: y :: t).getLast? = some 10) ↔ (y :: t = [] ∨ (y :: t).getLast? = some 10) := by rw [hg]; simp
    rw [show cutI 10 (x :: y :: t) = if x = 10 then [] :: cutI 10 (y :: t) else match cutI 10 (y :: t) with | [] => [[x]] | h :: r => (x :: h) :: r from rfl, ih,
      show linesI (x :: y :: t) = if x = 10 then [] :: linesI (y :: t) else match linesI (y :: t) with | [] => [[x]] | h :: r => (x :: h) :: r from rfl]
    have hne := qbI y t
    by_cases hq : y :: t = [] ∨ (y :: t).getLast? = some 10
    · rw [if_pos hq, if_pos (h0.2 hq)]
      by_cases e : x = 10
      · rw [if_pos e, if_pos e]; rfl
      · rw [if_neg e, if_neg e]
        cases he : linesI (y :: t) with
        | nil => exact absurd he hne
        | cons a r => rfl
    · rw [if_neg hq, if_neg (fun h => hq (h0.1 h))]
theorem qdJ (a : List Int) : linesI (a ++ [10]) = cutI 10 a := by
  have h := jp (a ++ [10])
  rw [if_pos (Or.inr (by simp)), qcv] at h
  exact (List.append_cancel_right h).symm
theorem qcB {s : List Int} (h : By s) : ∀ l ∈ linesI s, By l := fun l hl => by
  have h1 := jp s
  have h2 : l ∈ cutI 10 s := by rw [h1]; split <;> simp [hl]
  exact qaP h l h2
theorem j5 : ∀ (s : List Int), ∀ l ∈ linesI s, l.length ≤ s.length
  | [], l, h => by simp [linesI] at h
  | x :: t, l, h => by
    have ih := j5 t
    rw [qbg] at h
    split at h
    · rcases List.mem_cons.1 h with rfl | h
      · simp
      · have := ih l h; simp; omega
    · cases he : linesI t with
      | nil => rw [he] at h; simp at h; subst h; simp
      | cons a r =>
        rw [he] at h ih
        rcases List.mem_cons.1 h with rfl | h
        · have := ih a (List.mem_cons_self ..); simp; omega
        · have := ih l (List.mem_cons_of_mem _ h); simp; omega
theorem qen {a s : List Int} (h : (10 : Int) ∉ a) : linesI (a ++ 10 :: s) = a :: linesI s := by
  induction a with
  | nil => simp [linesI]
  | cons x t ih =>
    have h1 : ¬ x = 10 := fun e => h (by rw [e]; exact List.mem_cons_self ..)
    have ih := ih fun e => h (List.mem_cons_of_mem _ e)
    rw [List.cons_append, qbg, if_neg h1, ih]
theorem qfD {a b : ByteArray} (h : (a == b) = true) : a = b := by
  obtain ⟨x⟩ := a
  obtain ⟨y⟩ := b
  have h2 : (x == y) = true := h
  rw [beq_iff_eq.1 h2]
theorem qfC (a b : ByteArray) : (a == b) = decide (a = b) := by
  rw [← qc5]
  by_cases h : a = b
  · subst h; simp
  · rw [decide_eq_false h]
    rw [beq_eq_false_iff_ne]
    intro e
    have h2 := qc5 a b
    rw [beq_iff_eq.2 e] at h2
    exact h (qfD h2.symm)
theorem bq {a b : List Int} (ha : By a) (hb : By b) : (bstr a == bstr b) = decide (a = b) := by
  rw [qfC]
  by_cases e : a = b
  · subst e; simp
  · rw [decide_eq_false e, decide_eq_false fun h => e (qfE ha hb h)]
theorem qa4 : By [] := fun x hx => by simp at hx
theorem qc8 {c : Int} (h : 0 ≤ c ∧ c < 256) : By [c] := fun y hy => by simp at hy; subst hy; exact h
theorem qdA {s : List Int} (h : By s) : (bstr s == bstr []) = decide (s = []) := bq h qa4
theorem qfn {F : Nat} {s : List Int} (h : By s) (hl : s.length ≤ 1000000000) : kG F s [10] = some (if s.getLast? = some 10 then s.dropLast else s) := by
  unfold kG zD zH
  rcases List.eq_nil_or_concat s with rfl | ⟨a, x, rfl⟩
  · simp [qH]
  · have hx := h x (by simp)
    rw [List.concat_eq_append] at *
    have hln : (a ++ [x]).length = a.length + 1 := by simp
    have e1 : isub .i64 (((a ++ [x]).length : Int)) (([10] : List Int).length : Int) = (a.length : Int) := by
      rw [qbH (by rw [hln]; simp) (by rw [hln] at hl ⊢; simp; omega)]
      simp
    have e2 : decide ((([10] : List Int).length : Int) ≤ ((a ++ [x]).length : Int)) = true := by simp; omega
    have e3 : sub (a ++ [x]) (a.length : Int) ((a ++ [x]).length : Int) = some [x] := by
      unfold sub
      rw [if_pos ⟨by omega, by omega, by omega⟩]
      simp only [Int.toNat_natCast, hln]
      rw [List.take_of_length_le (by rw [hln]; omega)]
      simp
    have e4 : sub (a ++ [x]) 0 (a.length : Int) = some a := by
      unfold sub
      rw [if_pos ⟨by omega, by omega, by omega⟩]
      simp
    have e5 : (bstr [x] == bstr [10]) = decide (x = 10) := by
      rw [bq (qc8 hx) (qc8 (by decide))]
      simp
    rw [e1, e2, e3]
    simp only [if_true, Option.bind_some, qH, e5, e4]
    by_cases e : x = 10
    · simp [e]
    · simp [e]
theorem qfR {F : Nat} {s : List Int} (h : By s) (hl : s.length ≤ 1000000000) : ja F s = some (linesI s) := by
  unfold ja
  rw [qdA h]
  by_cases e : s = []
  · subst e; rfl
  · rw [qfn h hl]
    simp only [e, decide_false, Bool.false_eq_true, if_false, Option.bind_some]
    by_cases h10 : s.getLast? = some 10
    · rw [if_pos h10]
      rcases List.eq_nil_or_concat s with rfl | ⟨a, x, rfl⟩
      · exact absurd rfl e
      · have hx : x = 10 := by simpa using h10
        subst hx
        have ha : By a := fun y hy => h y (by simp [hy])
        simp only [List.concat_eq_append, List.dropLast_concat]
        rw [qbX (by decide) ha (by simp at hl; omega), Option.bind_some, qdJ]
    · rw [if_neg h10, qbX (by decide) h (by omega), Option.bind_some]
      have := jp s
      rw [if_neg (fun hq => by rcases hq with hq | hq; exact e hq; exact h10 hq)] at this
      rw [this]
def ne0 (w : List Int) : Bool := decide (w ≠ [])
def wordsI (s : List Int) : List (List Int) := (cutI 32 s).filter ne0
def hsh (ws : List (List Int)) : Bool := match ws with | (x :: _) :: _ => decide (x = 35) | _ => false
def wdsI (s : List Int) : List (List Int) := if hsh (wordsI s) then [] else wordsI s
theorem qbc {s : List Int} (h : By s) : ∀ w ∈ wordsI s, By w ∧ w ≠ [] := fun w hw => by
  obtain ⟨h1, h2⟩ := List.mem_filter.1 hw
  exact ⟨qaP h w h1, by simpa [ne0] using h2⟩
theorem qhr {s : List Int} (h : By s) : ∀ w ∈ wdsI s, By w ∧ w ≠ [] := fun w hw => by
  unfold wdsI at hw
  split at hw
  · simp at hw
  · exact qbc h w hw
theorem qhO {F : Nat} {ws : List (List Int)} (h : ∀ w ∈ ws, By w ∧ w ≠ []) : yd F ws = some (if hsh ws then [] else ws) := by
  unfold yd
  cases ws with
  | nil => rfl
  | cons w r =>
    obtain ⟨h1, h2⟩ := h w (List.mem_cons_self ..)
    cases w with
    | nil => exact absurd rfl h2
    | cons x t =>
      have hx := h1 x (List.mem_cons_self ..)
      rw [if_pos (by simp)]
      simp only [show idx ((x :: t) :: r) 0 = some (x :: t) from rfl, show idx (x :: t) 0 = some x from rfl, Option.bind_some, yY, jz hx.1 hx.2, hsh]
      by_cases e : x = 35
      · simp [e]
      · simp [e]
theorem qgJ {F : Nat} {L : List (List Int)} (hb : ∀ l ∈ L, By l) (hm : L.length ≤ 1000000000) : ∀ (k i : Nat) (acc : List (List Int)), L.length < k + i → i ≤ L.length → acc.length ≤ i →
    zK F L k (acc, (i : Int)) = yd F (acc ++ (L.drop i).filter ne0)
  | 0, _, _, _, _, _ => by omega
  | k + 1, i, acc, h, hi, ha => by
    show yG F L (zK F L k) acc (i : Int) = _
    unfold yG
    by_cases hlt : i < L.length
    · rw [if_pos (by simp; omega), zi, List.getElem?_eq_getElem hlt, List.drop_eq_getElem_cons hlt]
      simp only [Option.bind_some]
      have hl := hb L[i] (List.getElem_mem hlt)
      rw [qdA hl]
      unfold yH
      by_cases e : L[i] = []
      · rw [List.filter_cons_of_neg (by simp [ne0, e])]
        simp only [e, decide_true, Bool.not_true, Bool.false_eq_true, if_false]
        rw [q8 (by omega)]
        exact qgJ hb hm k (i + 1) acc (by omega) (by omega) (by omega)
      · rw [List.filter_cons_of_pos (by simp [ne0, e])]
        simp only [e, decide_false, Bool.not_false, if_true]
        rw [kb (by simp; omega), Option.bind_some]
        rw [q8 (by omega), qgJ hb hm k (i + 1) (acc ++ [L[i]]) (by omega) (by omega) (by simp; omega), List.append_assoc]
        rfl
    · rw [if_neg (by simp; omega), List.drop_eq_nil_of_le (by omega)]
      simp
theorem qgK {F : Nat} {s : List Int} (h : By s) (hl : s.length ≤ 900000000) (hF : s.length + 1 < F) : jb F s = some (wdsI s) := by
  unfold jb
  rw [qbX (by decide) h (by omega), Option.bind_some]
  have hlen := qdC (c := 32) s
  have := qgJ (F := F) (L := cutI 32 s) (qaP h) (by omega) F 0 [] (by omega) (by omega) (by simp)
  rw [show (((0 : Nat) : Int)) = 0 from rfl, List.drop_zero, List.nil_append] at this
  rw [this]
  exact qhO (qbc h)
def pre (w : List Int) : List (List Int) → List (List Int)
  | [] => [w]
  | h :: r => (w ++ h) :: r
theorem qdm (L : List (List Int)) (h : L ≠ []) : pre [] L = L := by
  cases L with
  | nil => exact absurd rfl h
  | cons a r => rfl
theorem qfX (w : List Int) (x : Int) (t : List Int) (hx : ¬ x = 32) : pre w (cutI 32 (x :: t)) = pre (w ++ [x]) (cutI 32 t) := by
  rw [qcu, if_neg hx]
  cases h : cutI 32 t with
  | nil => exact absurd h (qay _ _)
  | cons a r => simp [pre]
theorem qaX {F : Nat} {s : List Int} (hs : By s) (hm : s.length ≤ 1000000000) : ∀ (k i : Nat) (acc : List (List Int)) (w : List Int), s.length + 1 < k + i → i ≤ s.length → acc.length ≤ i → By w → w.length ≤ i →
    qQ F s k (acc, w, (i : Int)) = some (acc ++ (pre w (cutI 32 (s.drop i))).filter ne0)
  | 0, _, _, _, _, _, _, _, _ => by omega
  | 1, i, _, _, h, hi, _, _, _ => by omega
  | k + 2, i, acc, w, h, hi, ha, hw, hwl => by
    show zO F s (qQ F s (k + 1)) acc w (i : Int) = _
    unfold zO
    rw [if_pos (by simp; omega)]
    by_cases hlt : i < s.length
    · have hx := hs s[i] (List.getElem_mem hlt)
      rw [if_pos (by simp; omega), zi, List.getElem?_eq_getElem hlt, List.drop_eq_getElem_cons hlt]
      simp only [Option.bind_some, jz hx.1 hx.2]
      unfold kC zP
      by_cases e : s[i] = 32
      · rw [if_neg (by simp [e]), bq hw qa4]
        unfold kD zP
        rw [qcu, if_pos e, q8 (by omega)]
        by_cases ew : w = []
        · subst ew
          rw [if_neg (by simp), qaX hs hm (k + 1) (i + 1) acc [] (by omega) (by omega) (by omega) qa4 (by simp), qdm _ (qay _ _)]
          simp [pre, ne0]
        · rw [if_pos (by simp [ew]), kb (by simp; omega), Option.bind_some, qaX hs hm (k + 1) (i + 1) (acc ++ [w]) [] (by omega) (by omega) (by simp; omega) qa4 (by simp), qdm _ (qay _ _)]
          simp [pre, ne0, ew]
      · rw [if_pos (by simpa using e), q8 (by omega)]
        have es : sub s (i : Int) ((i + 1 : Nat) : Int) = some [s[i]] := by
          unfold sub
          rw [if_pos ⟨by omega, by omega, by omega⟩]
          simp only [Int.toNat_natCast]
          rw [List.drop_take, show i + 1 - i = 1 from by omega, List.drop_eq_getElem_cons hlt]
          rfl
        rw [es, Option.bind_some, kb (by simp; omega), Option.bind_some, qaX hs hm (k + 1) (i + 1) acc (w ++ [s[i]]) (by omega) (by omega) (by omega) (by
          intro y hy
          rcases List.mem_append.1 hy with hy | hy
          · exact hw y hy
          · simp at hy; subst hy; exact hx) (by simp; omega), qfX _ _ _ e]
    · have hi2 : i = s.length := by omega
      rw [if_neg (by simp; omega), List.drop_eq_nil_of_le (by omega)]
      unfold kC kD zP
      have hend : ∀ acc2 : List (List Int), qQ F s (k + 1) (acc2, ([] : List Int), ((i + 1 : Nat) : Int)) = some acc2 := fun acc2 => by
        show zO F s (qQ F s k) acc2 [] ((i + 1 : Nat) : Int) = _
        unfold zO
        rw [if_neg (by simp; omega)]
        rfl
      rw [if_neg (by simp), bq hw qa4, q8 (by omega)]
      by_cases ew : w = []
      · subst ew
        rw [if_neg (by simp), hend]
        simp [pre, cutI, ne0]
      · rw [if_pos (by simp [ew]), kb (by simp; omega), Option.bind_some, hend]
        simp [pre, cutI, ne0, ew]
theorem qfk {F : Nat} {s : List Int} (h : By s) (hl : s.length ≤ 900000000) (hF : s.length + 1 < F) : vJ F s = some (wordsI s) := by
  unfold vJ
  have := qaX (F := F) h (by omega) F 0 [] [] (by omega) (by omega) (by simp) qa4 (by simp)
  rw [show (((0 : Nat) : Int)) = 0 from rfl, List.drop_zero, List.nil_append, qdm _ (qay _ _)] at this
  rw [this]
  rfl
def dgt (x : Int) : Bool := decide (48 ≤ x ∧ x ≤ 57)
def valI (n : Int) : List Int → Int
  | [] => n
  | x :: t => valI (10 * n + (x - 48)) t
def numI (w : List Int) : Int := if w.length ≤ 6 ∧ w.all dgt = true then valI 0 w else -1
theorem qei {α : Type} {p : α → Bool} : ∀ {l : List α}, l.dropWhile p = [] ↔ ∀ x ∈ l, p x = true
  | [] => by simp
  | x :: t => by
    rw [List.dropWhile_cons]
    by_cases h : p x = true
    · rw [if_pos h, qei (l := t)]
      simp [h]
    · rw [if_neg h]
      simp [h]
theorem qgH {α : Type} {p : α → Bool} {x : α} : ∀ {l : List α}, x ∈ l.takeWhile p → p x = true
  | [], h => by simp at h
  | y :: t, h => by
    rw [List.takeWhile_cons] at h
    by_cases hy : p y = true
    · rw [if_pos hy] at h
      rcases List.mem_cons.1 h with rfl | h
      · exact hy
      · exact qgH h
    · rw [if_neg hy] at h
      simp at h
theorem qgG (l cs : List UInt8) : (Lib.trimS l cs = []) ↔ l.all (fun x => cs.contains x) = true := by
  unfold Lib.trimS Lib.trimLeftS Lib.trimRightS
  constructor
  · intro h
    rw [qei] at h
    rw [List.all_eq_true]
    intro x hx
    by_cases hc : cs.contains x = true
    · exact hc
    · have hm : x ∈ l.reverse.dropWhile (cs.contains ·) := by
        have h1 : x ∈ l.reverse := List.mem_reverse.2 hx
        rw [← List.takeWhile_append_dropWhile (p := (cs.contains ·)) (l := l.reverse)] at h1
        rcases List.mem_append.1 h1 with h1 | h1
        · exact absurd (qgH h1) hc
        · exact h1
      exact h x (List.mem_reverse.2 hm)
  · intro h
    have h1 : l.reverse.dropWhile (cs.contains ·) = [] := by
      rw [qei]
      intro x hx
      exact List.all_eq_true.1 h x (List.mem_reverse.1 hx)
    rw [h1]
    rfl
theorem qhC {x : Int} (hx : 0 ≤ x ∧ x < 256) : (([48, 49, 50, 51, 52, 53, 54, 55, 56, 57] : List Int).map u8).contains (u8 x) = dgt x := by
  have h1 : ∀ y : Int, 0 ≤ y → y < 256 → (u8 x = u8 y ↔ x = y) := fun y h0 h1 => qgI hx ⟨h0, h1⟩
  rw [Bool.eq_iff_iff]
  simp only [List.contains_iff_mem, List.map_cons, List.map_nil, List.mem_cons, List.not_mem_nil, or_false, dgt, decide_eq_true_eq]
  rw [h1 48 (by decide) (by decide), h1 49 (by decide) (by decide), h1 50 (by decide) (by decide), h1 51 (by decide) (by decide), h1 52 (by decide) (by decide), h1 53 (by decide) (by decide), h1 54 (by decide) (by decide), h1 55 (by decide) (by decide), h1 56 (by decide) (by decide), h1 57 (by decide) (by decide)]
  omega
theorem qgF {w : List Int} (h : By w) (hl : w.length ≤ 1000) : ∃ y, trimM w [48, 49, 50, 51, 52, 53, 54, 55, 56, 57] = some y ∧ (!(bstr y == bstr [])) = !(w.all dgt) := by
  unfold trimM
  rw [if_pos ⟨by decide, by decide, by decide, by omega⟩]
  refine ⟨_, rfl, ?_⟩
  rw [qaw, qfC]
  congr 1
  rw [Bool.eq_iff_iff, decide_eq_true_eq]
  have h1 : ∀ l : List UInt8, (({ data := l.toArray } : ByteArray) = bstr []) ↔ l = [] := fun l => by
    constructor
    · intro e
      have := congrArg (fun b => b.data.toList) e
      simpa [q7] using this
    · rintro rfl; rfl
  rw [h1, qgG, q7, q7, List.all_map]
  rw [← Bool.eq_iff_iff]
  rw [Bool.eq_iff_iff, List.all_eq_true, List.all_eq_true]
  refine forall₂_congr fun x hx => ?_
  rw [← qhC (h x hx)]
  rfl
theorem qeM : ∀ (w : List Int) (n : Nat), w.all dgt = true → Lib.decFrom n (w.map u8) = some (valI n w).toNat
  | [], n, _ => by simp [Lib.decFrom, valI]
  | x :: t, n, hd => by
    rw [List.all_cons, Bool.and_eq_true] at hd
    obtain ⟨hx, ht⟩ := hd
    have hx : 48 ≤ x ∧ x ≤ 57 := by simpa [dgt] using hx
    have h1 : ((u8 x).toNat : Int) = x := jz (by omega) (by omega)
    rw [List.map_cons]
    unfold Lib.decFrom Lib.digitVal
    rw [if_pos (by omega)]
    show Lib.decFrom (n * 10 + ((u8 x).toNat - 48)) (t.map u8) = _
    rw [qeM t _ ht]
    show _ = some (valI (10 * (n : Int) + (x - 48)) t).toNat
    congr 3
    omega
theorem qeZ : ∀ (w : List Int) (n : Int), w.all dgt = true → 0 ≤ n → 0 ≤ valI n w
  | [], _, _, h => h
  | x :: t, n, hd, h => by
    rw [List.all_cons, Bool.and_eq_true] at hd
    have hx : 48 ≤ x ∧ x ≤ 57 := by simpa [dgt] using hd.1
    exact qeZ t _ hd.2 (by omega)
theorem qfB {w : List Int} (hd : w.all dgt = true) (h0 : w ≠ []) (hl : w.length ≤ 6) : atoiM w = some (valI 0 w) := by
  unfold atoiM
  rw [if_pos (by omega), q7]
  cases w with
  | nil => exact absurd rfl h0
  | cons x t =>
    have hx : 48 ≤ x ∧ x ≤ 57 := by
      rw [List.all_cons, Bool.and_eq_true] at hd
      simpa [dgt] using hd.1
    have h1 : ((u8 x).toNat : Int) = x := jz (by omega) (by omega)
    have n45 : ¬ u8 x = 45 := fun e => by rw [e] at h1; simp at h1; omega
    have n43 : ¬ u8 x = 43 := fun e => by rw [e] at h1; simp at h1; omega
    have hv := qeM (x :: t) 0 hd
    have hnn := qeZ (x :: t) 0 hd (by decide)
    show Lib.atoi (u8 x :: t.map u8) = _
    unfold Lib.atoi Lib.decNat
    simp only [beq_iff_eq, n45, n43, if_false]
    rw [List.map_cons] at hv
    simp only [List.isEmpty_cons, Bool.false_eq_true, if_false, hv, Option.map_some]
    congr 1
    rw [show (((0 : Nat) : Int)) = 0 from rfl]
    omega
theorem qa7 {F : Nat} {w : List Int} (h : By w) (h0 : w ≠ []) : zG F w = some (numI w) := by
  unfold zG
  by_cases hl : w.length ≤ 6
  · rw [if_neg (by simp; omega)]
    obtain ⟨y, e1, e2⟩ := qgF h (by omega)
    rw [e1, Option.bind_some, e2]
    unfold kR numI
    cases hd : w.all dgt with
    | false => simp
    | true => simp [qfB hd h0 hl, hl]
  · rw [if_pos (by simp; omega)]
    unfold kR numI
    rw [if_pos rfl, if_neg (by omega)]
def stepI (n : Int) (A : List (Int × Int)) (ws : List (List Int)) : Int × Int × List (Int × Int) :=
  if n < 0 then
    match ws with
    | [w] => if numI w < 0 then (1, n, A) else if 100 < numI w then (3, n, A) else (0, numI w, A)
    | _ => (1, n, A)
  else
    match ws with
    | [u, v] => if numI u < 0 ∨ numI v < 0 then (1, n, A) else if n ≤ numI u ∨ n ≤ numI v then (3, n, A) else if (numI u, numI v) ∈ A then (6, n, A) else if A.length = 600 then (2, n, A) else (0, n, A ++ [(numI u, numI v)])
    | _ => (1, n, A)
def goI : List (List Int) → Int → Int → List (Int × Int) → (Int × Int) ⊕ (Int × List (Int × Int))
  | [], _, n, A => .inr (n, A)
  | l :: L, i, n, A => if wdsI l = [] then goI L (i + 1) n A else if (stepI n A (wdsI l)).1 ≠ 0 then .inl (i + 1, (stepI n A (wdsI l)).1) else goI L (i + 1) (stepI n A (wdsI l)).2.1 (stepI n A (wdsI l)).2.2
def endI (n : Int) (A : List (Int × Int)) : List (List Int) × Int × Int := if n < 0 then ([], 0, 5) else ((ofM n A).1, 0, (ofM n A).2)
def outI : (Int × Int) ⊕ (Int × List (Int × Int)) → List (List Int) × Int × Int := Sum.elim (fun p => ([], p.1, p.2)) (fun q => endI q.1 q.2)
def parseI (s : List Int) : List (List Int) × Int × Int := if 20000 < s.length ∨ 1000 < (linesI s).length then ([], 0, 2) else outI (goI (linesI s) 0 (-1) [])
theorem qgY {F : Nat} {n : Int} {A : List (Int × Int)} {ws : List (List Int)} (hn : n < 0) (h : ∀ w ∈ ws, By w ∧ w ≠ []) :
    k7 F n A A ws = some ((stepI n A ws).1, (stepI n A ws).2.1, (stepI n A ws).2.2, (stepI n A ws).2.2) := by
  unfold k7 kv stepI
  rw [if_pos hn]
  match ws, h with
  | [], _ => simp
  | [w], h =>
    obtain ⟨h1, h2⟩ := h w (List.mem_cons_self ..)
    simp only [show idx [w] 0 = some w from rfl, Option.bind_some, qa7 h1 h2]
    by_cases e1 : numI w < 0
    · simp [e1]
    · by_cases e2 : 100 < numI w
      · simp [e1, e2]
      · simp [e1, e2]
  | _ :: _ :: r, _ =>
    rw [if_pos (by simp; omega)]
    simp
theorem qf7 {A : List (Int × Int)} {p : Int × Int} (h : p ∉ A) : sins A p = some (A ++ [p]) := by unfold sins; rw [if_neg h]
theorem qfW {F : Nat} {n : Int} {A : List (Int × Int)} {ws : List (List Int)} (hA : A.length ≤ 600) (h : ∀ w ∈ ws, By w ∧ w ≠ []) :
    k8 F n A A ws = some ((stepI n A ws).1, (stepI n A ws).2.1, (stepI n A ws).2.2, (stepI n A ws).2.2) := by
  unfold k8
  by_cases hn : n < 0
  · rw [if_pos (by simpa using hn), qgY hn h]
    rfl
  · rw [if_neg (by simpa using hn)]
    unfold stepI
    rw [if_neg hn]
    match ws, h with
    | [], _ => simp
    | [w], _ => simp
    | [u, v], h =>
      obtain ⟨u1, u2⟩ := h u (by simp)
      obtain ⟨v1, v2⟩ := h v (by simp)
      simp only [show idx [u, v] 0 = some u from rfl, show idx [u, v] 1 = some v from rfl, Option.bind_some, qa7 u1 u2, qa7 v1 v2]
      rw [if_neg (by simp)]
      unfold zJ kw kx
      by_cases e1 : numI u < 0
      · simp [e1]
      by_cases e2 : numI v < 0
      · simp [e1, e2]
      by_cases e3 : n ≤ numI u
      · simp [e1, e2, e3]
      by_cases e4 : n ≤ numI v
      · simp [e1, e2, e3, e4]
      by_cases e5 : (numI u, numI v) ∈ A
      · simp [e1, e2, e3, e4, e5]
      by_cases e6 : A.length = 600
      · simp [e1, e2, e3, e4, e5, e6]
      · have e7 : ¬ ((A.length : Int) = 600) := by omega
        simp only [e1, e2, e3, e4, e5, e6, e7, decide_false, Bool.or_false, Bool.false_eq_true, if_false, or_self, beq_iff_eq, kb (show A.length + [(numI u, numI v)].length ≤ 4398046511104 by simp; omega), qf7 e5, Option.bind_some]
    | _ :: _ :: _ :: r, _ =>
      rw [if_pos (by simp; omega)]
theorem qgb {n : Int} {A : List (Int × Int)} {ws : List (List Int)} (hA : A.length ≤ 600) : (stepI n A ws).2.2.length ≤ 600 := by
  unfold stepI
  split
  · split
    · split
      · exact hA
      · split <;> exact hA
    · exact hA
  · split
    · split
      · exact hA
      · split
        · exact hA
        · split
          · exact hA
          · split
            · exact hA
            · simp; omega
    · exact hA
theorem qdl {F : Nat} {L : List (List Int)} (hF : 1000 ≤ F) (hb : ∀ l ∈ L, By l ∧ l.length ≤ 900000000 ∧ l.length + 1 < F) (hm : L.length ≤ 1000) : ∀ (k i : Nat) (n : Int) (A : List (Int × Int)), L.length < k + i → i ≤ L.length → A.length ≤ 600 →
    z7 F L k ((i : Int), n, A, A) = some (outI (goI (L.drop i) i n A))
  | 0, _, _, _, _, _, _ => by omega
  | k + 1, i, n, A, h, hi, hA => by
    show yW F L (z7 F L k) (i : Int) n A A = _
    unfold yW
    by_cases hlt : i < L.length
    · rw [if_pos (by simp; omega), zi, List.getElem?_eq_getElem hlt, List.drop_eq_getElem_cons hlt]
      obtain ⟨b1, b2, b3⟩ := hb L[i] (List.getElem_mem hlt)
      simp only [Option.bind_some, qgK b1 b2 b3]
      unfold yF goI
      rw [q8 (by omega)]
      by_cases e : wdsI L[i] = []
      · rw [if_pos (by simp [e]), if_pos e, qdl hF hb hm k (i + 1) n A (by omega) (by omega) hA]
        rfl
      · have hl : (wdsI L[i]).length ≠ 0 := fun h => e (List.length_eq_zero_iff.1 h)
        rw [if_neg (by simp; exact e), if_neg e, qfW hA (qhr b1)]
        simp only [Option.bind_some]
        by_cases e2 : (stepI n A (wdsI L[i])).1 = 0
        · rw [if_neg (by simp [e2]), if_neg (by simp [e2]), qdl hF hb hm k (i + 1) _ _ (by omega) (by omega) (qgb hA)]
          rfl
        · rw [if_pos (by simpa using e2), if_pos e2]
          rfl
    · rw [if_neg (by simp; omega), List.drop_eq_nil_of_le (by omega)]
      unfold v7 yX
      show _ = some (endI n A)
      unfold endI
      by_cases e : n < 0
      · rw [if_pos (by simpa using e), if_pos e]
      · rw [if_neg (by simpa using e), if_neg e, qhV hF]
        rfl
theorem qan {F : Nat} {s : List Int} (h : By s) (hl : s.length ≤ 900000000) (hF : 100000 ≤ F) : qR F s = some (parseI s) := by
  unfold qR
  rw [qfR h (by omega), Option.bind_some]
  unfold parseI
  by_cases e : 20000 < s.length ∨ 1000 < (linesI s).length
  · rw [if_pos (by simp only [Bool.or_eq_true, decide_eq_true_eq]; omega), if_pos e]
  · rw [if_neg (by simp only [Bool.or_eq_true, decide_eq_true_eq]; omega), if_neg e]
    have hsh : ∀ l ∈ linesI s, l.length ≤ s.length := j5 s
    have := qdl (F := F) (L := linesI s) (by omega) (fun l hl => ⟨qcB h l hl, by have := hsh l hl; omega, by have := hsh l hl; omega⟩) (by omega) F 0 (-1) [] (by omega) (by omega) (by simp)
    rw [List.drop_zero] at this
    exact this
theorem qhH {i : Nat} (h : i ≤ 6) : (10 : Int) ^ i ≤ 1000000 := by
  have := Nat.pow_le_pow_right (n := 10) (by decide) h
  have h2 : ((10 ^ i : Nat) : Int) ≤ ((10 ^ 6 : Nat) : Int) := by exact_mod_cast this
  rw [Int.natCast_pow] at h2
  simpa using h2
theorem qf0 {F : Nat} {w : List Int} (hw : By w) (hl : w.length ≤ 6) : ∀ (k i : Nat) (n : Int), w.length < k + i → i ≤ w.length → 0 ≤ n → n < 10 ^ i →
    zb F w k (n, (i : Int)) = some (if (w.drop i).all dgt = true then valI n (w.drop i) else -1)
  | 0, _, _, _, _, _, _ => by omega
  | k + 1, i, n, h, hi, h0, h1 => by
    show k4 F w (zb F w k) n (i : Int) = _
    unfold k4
    have hp := qhH (i := i) (by omega)
    by_cases hlt : i < w.length
    · rw [if_pos (by simp; omega), zi, List.getElem?_eq_getElem hlt, List.drop_eq_getElem_cons hlt]
      have hx := hw w[i] (List.getElem_mem hlt)
      have hix : idx w (i : Int) = some w[i] := by rw [zi, List.getElem?_eq_getElem hlt]
      simp only [Option.bind_some, hix, jz hx.1 hx.2, k5]
      rw [List.all_cons]
      by_cases e1 : w[i] < 48
      · rw [if_pos (by simpa using e1)]
        have : dgt w[i] = false := by simp [dgt]; omega
        simp [this]
      · rw [if_neg (by simpa using e1)]
        by_cases e2 : 57 < w[i]
        · rw [if_pos (by simpa using e2)]
          have : dgt w[i] = false := by simp [dgt]; omega
          simp [this]
        · rw [if_neg (by simpa using e2)]
          have hd : dgt w[i] = true := by simp [dgt]; omega
          have s1 : isub .u8 w[i] 48 = w[i] - 48 := qe2 (by omega) (by omega)
          have s2 : iconv .i64 (w[i] - 48) = w[i] - 48 := qav (by omega) (by omega)
          rw [s1, s2, qfO (by omega) (by omega), qal (by omega) (by omega), q8 (by omega)]
          have h2 : (10 : Int) ^ (i + 1) = 10 * 10 ^ i := by rw [Int.pow_succ, Int.mul_comm]
          show zb F w k (10 * n + (w[i] - 48), ((i + 1 : Nat) : Int)) = _
          rw [qf0 hw hl k (i + 1) _ (by omega) (by omega) (by omega) (by omega), hd, Bool.true_and]
          rfl
    · rw [if_neg (by simp; omega), List.drop_eq_nil_of_le (by omega)]
      rfl
theorem qdn {F : Nat} {w : List Int} (hF : 10 ≤ F) (h : By w) (h0 : w ≠ []) : qW F w = some (numI w) := by
  unfold qW
  have hp : 0 < w.length := List.length_pos_iff.2 h0
  by_cases hl : w.length ≤ 6
  · rw [if_neg (by simp only [Bool.or_eq_true, decide_eq_true_eq]; omega)]
    have := qf0 (F := F) h hl F 0 0 (by omega) (by omega) (by decide) (by decide)
    rw [List.drop_zero] at this
    rw [show (((0 : Nat) : Int)) = 0 from rfl] at this
    rw [this]
    unfold numI
    by_cases hd : w.all dgt = true
    · rw [if_pos hd, if_pos ⟨hl, hd⟩]
    · rw [if_neg hd, if_neg (fun h => hd h.2)]
  · rw [if_pos (by simp only [Bool.or_eq_true, decide_eq_true_eq]; omega)]
    unfold numI
    rw [if_neg (by omega)]
def InvI (n : Int) (A : List (Int × Int)) : Prop := (n < 0 ∧ A = []) ∨ (0 ≤ n ∧ n ≤ 100 ∧ InR n.toNat A ∧ A.Nodup ∧ A.length ≤ 600)
theorem qhT : InvI (-1) [] := .inl ⟨by decide, rfl⟩
theorem qgZ {n : Int} {A : List (Int × Int)} (h : InvI n A) : A.length ≤ 600 := by
  rcases h with ⟨_, rfl⟩ | ⟨_, _, _, _, h⟩
  · simp
  · exact h
theorem qga {n : Int} {A : List (Int × Int)} {ws : List (List Int)} (h : InvI n A) (h0 : (stepI n A ws).1 = 0) : InvI (stepI n A ws).2.1 (stepI n A ws).2.2 := by
  unfold stepI at h0 ⊢
  rcases h with ⟨hn, rfl⟩ | ⟨hn, hn2, hr, hnd, hlen⟩
  · rw [if_pos hn] at h0 ⊢
    match ws, h0 with
    | [], h0 => simp at h0
    | [w], h0 =>
      simp only at h0 ⊢
      by_cases e1 : numI w < 0
      · simp [e1] at h0
      · by_cases e2 : 100 < numI w
        · simp [e1, e2] at h0
        · simp only [e1, e2, if_false]
          exact .inr ⟨by omega, by omega, fun p hp => by simp at hp, List.nodup_nil, by simp⟩
    | _ :: _ :: r, h0 => simp at h0
  · rw [if_neg (by omega)] at h0 ⊢
    match ws, h0 with
    | [], h0 => simp at h0
    | [w], h0 => simp at h0
    | [u, v], h0 =>
      simp only at h0 ⊢
      by_cases e1 : numI u < 0 ∨ numI v < 0
      · simp [e1] at h0
      by_cases e2 : n ≤ numI u ∨ n ≤ numI v
      · simp [e1, e2] at h0
      by_cases e3 : (numI u, numI v) ∈ A
      · simp [e1, e2, e3] at h0
      by_cases e4 : A.length = 600
      · simp [e1, e2, e3, e4] at h0
      · simp only [e1, e2, e3, e4, if_false]
        refine .inr ⟨hn, hn2, fun p hp => ?_, ?_, by simp; omega⟩
        · rcases List.mem_append.1 hp with hp | hp
          · exact hr p hp
          · simp at hp
            subst hp
            simp only
            omega
        · rw [List.nodup_append]
          exact ⟨hnd, by simp, fun a ha b hb => by simp at hb; subst hb; exact fun e => e3 (e ▸ ha)⟩
    | _ :: _ :: _ :: r, h0 => simp at h0
theorem qhD {n : Int} {A : List (Int × Int)} (h : InvI n A) (hn : 0 ≤ n) : ofM n A = (tab n.toNat (srtA A), 0) := by
  rcases h with ⟨h1, _⟩ | ⟨h1, h2, h3, h4, h5⟩
  · omega
  · have := qeP (n := n.toNat) (by omega) h5 h3 h4
    rw [Int.toNat_of_nonneg hn] at this
    exact this
theorem qdr {l : List Int} : (wdsI l = []) ↔ (wordsI l = [] ∨ hsh (wordsI l) = true) := by
  unfold wdsI
  split
  · rename_i h; simp [h]
  · rename_i h; simp [h]
theorem qfx {l : List Int} (h : wdsI l ≠ []) : wdsI l = wordsI l := by
  unfold wdsI at h ⊢
  split at h
  · exact absurd rfl h
  · rename_i hh; rw [if_neg hh]
theorem qf4 {F : Nat} {i : Nat} {n : Int} {A : List (Int × Int)} {ws : List (List Int)} {rec : (Int × List (Int × Int) × Int) → Option (List (List Int) × Int × Int)} (hF : 1000 ≤ F) (hi : i ≤ 1000) (hA : A.length ≤ 600) (h : ∀ w ∈ ws, By w ∧ w ≠ []) :
    zw F rec n A (i : Int) ws false = if (stepI n A ws).1 ≠ 0 then some (([] : List (List Int)), (i : Int) + 1, (stepI n A ws).1) else rec ((stepI n A ws).2.1, (stepI n A ws).2.2, (i : Int) + 1) := by
  have hi1 : iadd .i64 (i : Int) 1 = (i : Int) + 1 := qal (by omega) (by omega)
  have j143 : ∀ (n2 : Int) (A2 : List (Int × Int)) (e : Int), qL F rec (i : Int) n2 A2 e = if e ≠ 0 then some (([] : List (List Int)), (i : Int) + 1, e) else rec (n2, A2, (i : Int) + 1) := fun n2 A2 e => by
    unfold qL kq
    rw [hi1]
    by_cases he : e = 0
    · simp [he]
    · simp [he]
  unfold zw
  rw [if_neg (by simp)]
  by_cases hn : n < 0
  · rw [if_pos (by simpa using hn)]
    unfold stepI
    rw [if_pos hn]
    unfold kX
    match ws, h with
    | [], _ => simp [j143]
    | [w], h =>
      obtain ⟨h1, h2⟩ := h w (List.mem_cons_self ..)
      simp only [show idx [w] 0 = some w from rfl, Option.bind_some, qdn (F := F) (by omega) h1 h2, j143]
      by_cases e1 : numI w < 0
      · simp [e1]
      · by_cases e2 : 100 < numI w
        · simp [e1, e2]
        · simp [e1, e2]
    | _ :: _ :: r, _ =>
      rw [if_pos (by simp; omega)]
      simp [j143]
  · rw [if_neg (by simpa using hn)]
    unfold stepI
    rw [if_neg hn]
    unfold kY kZ
    match ws, h with
    | [], _ => simp [j143]
    | [w], _ => simp [j143]
    | [u, v], h =>
      obtain ⟨u1, u2⟩ := h u (by simp)
      obtain ⟨v1, v2⟩ := h v (by simp)
      simp only [show idx [u, v] 0 = some u from rfl, show idx [u, v] 1 = some v from rfl, Option.bind_some, qdn (F := F) (by omega) u1 u2, qdn (F := F) (by omega) v1 v2]
      rw [if_neg (by simp)]
      unfold kr
      rw [qa6 (by omega) (by omega)]
      simp only [Option.bind_some, j143]
      by_cases e1 : numI u < 0
      · simp [e1]
      by_cases e2 : numI v < 0
      · simp [e1, e2]
      by_cases e3 : n ≤ numI u
      · simp [e1, e2, e3]
      by_cases e4 : n ≤ numI v
      · simp [e1, e2, e3, e4]
      by_cases e5 : (numI u, numI v) ∈ A
      · simp [e1, e2, e3, e4, e5]
      by_cases e6 : A.length = 600
      · simp [e1, e2, e3, e4, e5, e6]
      · have e7 : ¬ ((A.length : Int) = 600) := by omega
        simp only [e1, e2, e3, e4, e5, e6, e7, decide_false, Bool.or_false, Bool.false_eq_true, if_false, or_self, beq_iff_eq, kb (show A.length + [(numI u, numI v)].length ≤ 4398046511104 by simp; omega), Option.bind_some]
    | _ :: _ :: _ :: r, _ =>
      rw [if_pos (by simp; omega)]
      simp [j143]
theorem qhE {ws : List (List Int)} (h : ∀ w ∈ ws, By w ∧ w ≠ []) (h0 : ws ≠ []) {ρ : Type} (k : Bool → Option ρ) : ((idx ws 0).bind fun x => ((idx x 0).bind fun y => k (((b8 y) : Int) == 35))) = k (hsh ws) := by
  cases ws with
  | nil => exact absurd rfl h0
  | cons w r =>
    obtain ⟨h1, h2⟩ := h w (List.mem_cons_self ..)
    cases w with
    | nil => exact absurd rfl h2
    | cons x t =>
      have hx := h1 x (List.mem_cons_self ..)
      simp only [show idx ((x :: t) :: r) 0 = some (x :: t) from rfl, show idx (x :: t) 0 = some x from rfl, Option.bind_some, jz hx.1 hx.2, hsh]
      congr 1
theorem qhw {F : Nat} {L : List (List Int)} (hF : 1000 ≤ F) (hb : ∀ l ∈ L, By l ∧ l.length ≤ 900000000 ∧ l.length + 1 < F) (hm : L.length ≤ 1000) : ∀ (k i : Nat) (n : Int) (A : List (Int × Int)), L.length < k + i → i ≤ L.length → InvI n A →
    ql F L k (n, A, (i : Int)) = some (outI (goI (L.drop i) i n A))
  | 0, _, _, _, _, _, _ => by omega
  | k + 1, i, n, A, h, hi, hI => by
    show kV F L (ql F L k) n A (i : Int) = _
    unfold kV
    have hA := qgZ hI
    by_cases hlt : i < L.length
    · rw [if_pos (by simp; omega), zi, List.getElem?_eq_getElem hlt, List.drop_eq_getElem_cons hlt]
      obtain ⟨b1, b2, b3⟩ := hb L[i] (List.getElem_mem hlt)
      simp only [Option.bind_some, qfk b1 b2 b3]
      unfold goI
      have hw := qbc b1
      have hskip : zw F (ql F L k) n A (i : Int) (wordsI L[i]) true = ql F L k (n, A, ((i + 1 : Nat) : Int)) := by
        unfold zw kq
        rw [if_pos rfl, q8 (by omega)]
      have hnext := fun n2 A2 hI2 => qhw hF hb hm k (i + 1) n2 A2 (by omega) (by omega) hI2
      by_cases e : wordsI L[i] = []
      · rw [if_pos (by simp [e]), hskip, if_pos (qdr.2 (.inl e)), hnext n A hI]
        rfl
      · have hl : (wordsI L[i]).length ≠ 0 := fun h => e (List.length_eq_zero_iff.1 h)
        rw [if_neg (by simp; exact e), qhE hw e]
        by_cases e2 : hsh (wordsI L[i]) = true
        · rw [e2, hskip, if_pos (qdr.2 (.inr e2)), hnext n A hI]
          rfl
        · have e3 : hsh (wordsI L[i]) = false := by simpa using e2
          have e4 : ¬ wdsI L[i] = [] := fun h => by
            rcases qdr.1 h with h | h
            · exact e h
            · exact e2 h
          rw [e3, if_neg e4, qfx e4, qf4 hF (by omega) hA hw]
          by_cases e5 : (stepI n A (wordsI L[i])).1 = 0
          · rw [if_neg (by simp [e5]), if_neg (by simp [e5])]
            exact hnext _ _ (qga hI e5)
          · rw [if_pos e5, if_pos e5]
            rfl
    · rw [if_neg (by simp; omega), List.drop_eq_nil_of_le (by omega)]
      unfold vk
      show _ = some (endI n A)
      unfold endI
      by_cases e : n < 0
      · rw [if_pos (by simpa using e), if_pos e]
      · rw [if_neg (by simpa using e), if_neg e, qhI hF, qhD hI (by omega)]
        rfl
theorem qdI {a : List Int} (h : (10 : Int) ∉ a) (h0 : a ≠ []) : linesI a = [a] := by
  have h1 := jp a
  rw [qe9 h, if_neg (by
    intro h2
    rcases h2 with h2 | h2
    · exact h0 h2
    · exact h (List.mem_of_getLast? h2))] at h1
  exact h1.symm
theorem qbQ {F : Nat} {s : List Int} (hs : By s) (hm : s.length ≤ 900000000) : ∀ (k i f : Nat) (acc : List (List Int)), s.length < k + i → i ≤ s.length → f ≤ i → acc.length ≤ i → (10 : Int) ∉ (s.take i).drop f →
    zx F s k (acc, (f : Int), (i : Int)) = kP F s (acc ++ linesI (s.drop f))
  | 0, _, _, _, _, _, _, _, _ => by omega
  | k + 1, i, f, acc, h, hi, hf, ha, hn => by
    show kW F s (zx F s k) acc (f : Int) (i : Int) = _
    unfold kW
    by_cases hlt : i < s.length
    · rw [if_pos (by simp; omega), zi, List.getElem?_eq_getElem hlt]
      have hx := hs s[i] (List.getElem_mem hlt)
      simp only [Option.bind_some, jz hx.1 hx.2, k3]
      rw [q8 (by omega)]
      have hd : s.drop f = (s.take i).drop f ++ s[i] :: s.drop (i + 1) := by
        have h1 : s = s.take i ++ s.drop i := (List.take_append_drop i s).symm
        conv => lhs; rw [h1]
        rw [List.drop_append_of_le_length (by simp; omega), List.drop_eq_getElem_cons hlt]
      by_cases e : s[i] = 10
      · have es : sub s (f : Int) (i : Int) = some ((s.take i).drop f) := by
          unfold sub
          rw [if_pos ⟨by omega, by omega, by omega⟩]
          simp
        rw [if_pos (by simp [e]), es, Option.bind_some, kb (by simp; omega), Option.bind_some]
        rw [qbQ hs hm k (i + 1) (i + 1) _ (by omega) (by omega) (by omega) (by simp; omega) (by rw [List.drop_eq_nil_of_le (by simp; omega)]; simp), hd, e, qen hn, List.append_assoc]
        rfl
      · rw [if_neg (by simpa using e)]
        refine qbQ hs hm k (i + 1) f acc (by omega) (by omega) (by omega) (by omega) ?_
        rw [List.take_succ_eq_append_getElem hlt, List.drop_append_of_le_length (by simp; omega)]
        intro h2
        rcases List.mem_append.1 h2 with h2 | h2
        · exact hn h2
        · simp at h2; exact e h2.symm
    · have hi2 : i = s.length := by omega
      rw [if_neg (by simp; omega)]
      unfold vz
      rw [hi2, List.take_length] at hn
      by_cases e : f < s.length
      · have es : sub s (f : Int) (s.length : Int) = some (s.drop f) := by
          unfold sub
          rw [if_pos ⟨by omega, by omega, by omega⟩]
          simp
        rw [if_pos (by simp; omega), es, Option.bind_some, kb (by simp; omega), Option.bind_some, qdI hn (by intro h2; have := congrArg List.length h2; simp at this; omega)]
      · rw [if_neg (by simp; omega), List.drop_eq_nil_of_le (by omega)]
        simp [linesI]
theorem qfi {F : Nat} {s : List Int} (h : By s) (hl : s.length ≤ 900000000) (hF : 100000 ≤ F) (hF2 : s.length < F) : vH F s = some (parseI s) := by
  unfold vH
  have := qbQ (F := F) h hl F 0 0 [] (by omega) (by omega) (by omega) (by simp) (by simp)
  rw [show (((0 : Nat) : Int)) = 0 from rfl, List.nil_append, List.drop_zero] at this
  rw [this]
  unfold kP parseI
  by_cases e : 20000 < s.length ∨ 1000 < (linesI s).length
  · rw [if_pos (by simp only [Bool.or_eq_true, decide_eq_true_eq]; omega), if_pos e]
  · rw [if_neg (by simp only [Bool.or_eq_true, decide_eq_true_eq]; omega), if_neg e]
    have hsh := j5 s
    have := qhw (F := F) (L := linesI s) (by omega) (fun l hl => ⟨qcB h l hl, by have := hsh l hl; omega, by have := hsh l hl; omega⟩) (by omega) F 0 (-1) [] (by omega) (by omega) qhT
    rw [List.drop_zero] at this
    exact this
def dcI (n : Int) : List Int := if n < 10 then [48 + n] else if n < 100 then [48 + n / 10, 48 + n % 10] else [48 + n / 100, 48 + n / 10 % 10, 48 + n % 10]
theorem qdb {n : Int} (h : 0 ≤ n ∧ n < 1000) : By (dcI n) := fun x hx => by
  unfold dcI at hx
  split at hx
  · simp at hx; omega
  · split at hx
    · simp at hx; omega
    · simp at hx; omega
theorem jA (n : Int) : 1 ≤ (dcI n).length ∧ (dcI n).length ≤ 3 := by
  unfold dcI
  split
  · simp
  · split <;> simp
theorem dg1 {u : Nat} (h : u < 10) : Lib.decDigits u = [UInt8.ofNat (48 + u)] := by
  unfold Lib.decDigits
  rw [dif_pos h]
theorem dg2 {u : Nat} (h : ¬ u < 10) : Lib.decDigits u = Lib.decDigits (u / 10) ++ [UInt8.ofNat (48 + u % 10)] := by
  rw [Lib.decDigits, dif_neg h]
theorem qd9 {u : Nat} (h : u < 10) : toI [UInt8.ofNat (48 + u)] = [48 + (u : Int)] := by
  have : ((48 + u) % 256 : Nat) = 48 + u := by omega
  simp [toI, this]
theorem qeY (a b : List UInt8) : toI (a ++ b) = toI a ++ toI b := by simp [toI]
theorem qhR {n : Int} (h : 0 ≤ n ∧ n < 1000) : toI (Lib.decDigits n.toNat) = dcI n := by
  unfold dcI
  by_cases h1 : n < 10
  · rw [if_pos h1, dg1 (by omega), qd9 (by omega)]
    congr 1; omega
  · rw [if_neg h1, dg2 (by omega), qeY, qd9 (by omega)]
    by_cases h2 : n < 100
    · rw [if_pos h2, dg1 (by omega), qd9 (by omega)]
      simp only [List.cons_append, List.nil_append, List.cons.injEq, and_true]
      omega
    · rw [if_neg h2, dg2 (by omega), qeY, qd9 (by omega), dg1 (by omega), qd9 (by omega)]
      simp only [List.cons_append, List.nil_append, List.cons.injEq, and_true]
      omega
theorem qdh {n : Int} (h : 0 ≤ n ∧ n < 1000) : itoaB n = some (dcI n) := by
  unfold itoaB
  rw [if_pos h, ← qhR h]
  unfold Lib.itoa
  rw [if_neg (by omega)]
  rfl
theorem quo10 {n : Int} (h : 0 ≤ n ∧ n < 1000) : iquo .i64 n 10 = n / 10 := by
  have h1 : n.tdiv 10 = n / 10 := Int.tdiv_eq_ediv_of_nonneg h.1
  unfold iquo
  rw [h1]
  exact qav (by omega) (by omega)
theorem rem10 {n : Int} (h : 0 ≤ n ∧ n < 1000) : irem n 10 = n % 10 := by
  unfold irem
  exact Int.tmod_eq_emod_of_nonneg h.1
theorem qeh {F : Nat} {n : Int} {acc : List Int} {rec : (Int × List Int) → Option (List Int)} (h : 0 ≤ n ∧ n < 1000) (ha : acc.length ≤ 10) : ko F rec n acc = if n / 10 = 0 then some ((48 + n % 10) :: acc) else rec (n / 10, (48 + n % 10) :: acc) := by
  unfold ko
  rw [quo10 h, rem10 h, qal (by omega) (by omega), show iconv .u8 (48 + n % 10) = 48 + n % 10 from qe2 (by omega) (by omega), kb (by simp; omega)]
  simp only [Option.bind_some, List.cons_append, List.nil_append, beq_iff_eq]
theorem qdc {F : Nat} {n : Int} (hF : 10 ≤ F) (h : 0 ≤ n ∧ n < 1000) : qS F n = some (dcI n) := by
  unfold qS
  obtain ⟨k, rfl⟩ : ∃ k, F = k + 3 := ⟨F - 3, by omega⟩
  show ko (k + 3) (kp (k + 3) (k + 2)) n [] = _
  rw [qeh h (by simp)]
  unfold dcI
  by_cases h1 : n < 10
  · rw [if_pos (by omega), if_pos h1]
    congr 2; omega
  · rw [if_neg (by omega), if_neg h1]
    show ko (k + 3) (kp (k + 3) (k + 1)) (n / 10) _ = _
    rw [qeh (by omega) (by simp)]
    by_cases h2 : n < 100
    · rw [if_pos (by omega), if_pos h2]
      congr 2; omega
    · rw [if_neg (by omega), if_neg h2]
      show ko (k + 3) (kp (k + 3) k) (n / 10 / 10) _ = _
      rw [qeh (by omega) (by simp), if_pos (by omega)]
      congr 2; omega
def arcI (p : Int × Int) : List Int := dcI p.1 ++ 32 :: (dcI p.2 ++ [10])
def txtI (n : Int) (A : List (Int × Int)) : List Int := dcI n ++ 10 :: A.flatMap arcI
def Sml (A : List (Int × Int)) : Prop := ∀ p ∈ A, (0 ≤ p.1 ∧ p.1 < 1000) ∧ (0 ≤ p.2 ∧ p.2 < 1000)
theorem qc7 {a b : List Int} (ha : By a) (hb : By b) : By (a ++ b) := fun x hx => by
  rcases List.mem_append.1 hx with h | h
  · exact ha x h
  · exact hb x h
theorem qeK {x : Int} {b : List Int} (ha : 0 ≤ x ∧ x < 256) (hb : By b) : By (x :: b) := fun y hy => by
  rcases List.mem_cons.1 hy with rfl | h
  · exact ha
  · exact hb y h
theorem qeF {p : Int × Int} (h : (0 ≤ p.1 ∧ p.1 < 1000) ∧ (0 ≤ p.2 ∧ p.2 < 1000)) : By (arcI p) := qc7 (qdb h.1) (qeK (by decide) (qc7 (qdb h.2) (qc8 (by decide))))
theorem qbB (p : Int × Int) : (arcI p).length ≤ 8 := by
  have h1 := jA p.1
  have h2 := jA p.2
  unfold arcI
  simp
  omega
theorem qgV {A : List (Int × Int)} (h : Sml A) : By (A.flatMap arcI) := fun x hx => by
  obtain ⟨p, hp, hx⟩ := List.mem_flatMap.1 hx
  exact qeF (h p hp) x hx
theorem qhq {n : Int} {A : List (Int × Int)} (hn : 0 ≤ n ∧ n < 1000) (h : Sml A) : By (txtI n A) := qc7 (qdb hn) (qeK (by decide) (qgV h))
theorem qfS {a : List Int} (h : By a) : a.map b8 = a := by
  conv => rhs; rw [← List.map_id a]
  exact List.map_congr_left fun x hx => jz (h x hx).1 (h x hx).2
theorem qg2 {F : Nat} {acc : List Int} {p : Int × Int} (h : (0 ≤ p.1 ∧ p.1 < 1000) ∧ (0 ≤ p.2 ∧ p.2 < 1000)) (ha : acc.length ≤ 1000000) : yc F acc p.1 p.2 = some (.inl (acc ++ arcI p)) := by
  unfold yc
  have h1 := jA p.1
  have h2 := jA p.2
  rw [qdh h.1, qdh h.2]
  simp only [Option.bind_some]
  rw [kb (by simp; omega), Option.bind_some, kb (by simp; omega), Option.bind_some, kb (by simp; omega), Option.bind_some]
  have e : dcI p.1 ++ [32] ++ dcI p.2 ++ [10] = arcI p := by simp [arcI]
  rw [e, qfS (qeF h), kb (by have := qbB p; omega), Option.bind_some]
theorem qbM {F : Nat} {yy : List Int → (Int × Int) → Option (List Int ⊕ Empty)} (hy : ∀ s p, yy s p = yc F s p.1 p.2) : ∀ (L : List (Int × Int)) (acc : List Int), Sml L → acc.length + 8 * L.length ≤ 1000000 → k9 yy L acc = some (.inl (acc ++ L.flatMap arcI))
  | [], acc, _, _ => by simp [k9]
  | p :: L, acc, h, hl => by
    have hp := qbB p
    rw [List.length_cons] at hl
    show (yy acc p).bind _ = _
    rw [hy, qg2 (h p (List.mem_cons_self ..)) (by omega)]
    show k9 yy L (acc ++ arcI p) = _
    rw [qbM hy L (acc ++ arcI p) (fun q hq => h q (List.mem_cons_of_mem _ hq)) (by simp; omega), List.append_assoc]
    rfl
theorem qeq {g : List (List Int)} (h : Gr g) : Sml (af 0 g) := fun p hp => by
  have := qhu h p hp
  have h1 := h.1
  omega
theorem qdP {F : Nat} {g : List (List Int)} (hF : 1000 ≤ F) : k6 F g = some (if gchk g ≠ 0 then ([], gchk g) else (txtI g.length (af 0 g), 0)) := by
  unfold k6
  rw [qco hF, Option.bind_some]
  by_cases e : gchk g = 0
  · rw [if_neg (by simp [e]), if_neg (by simp [e])]
    have hg := qde.1 e
    have h1 := hg.1
    have hn : (0 : Int) ≤ (g.length : Int) ∧ (g.length : Int) < 1000 := by omega
    have hd := jA (g.length : Int)
    rw [qdh hn, Option.bind_some, kb (by simp; omega), Option.bind_some]
    have hby : By (dcI (g.length : Int) ++ [10]) := qc7 (qdb hn) (qc8 (by decide))
    rw [qfS hby, kb (by simp; omega), Option.bind_some]
    show ((kg F _ g _).bind _) = _
    rw [qhB (by omega) (by omega) (fun l hl => by have := qfN hg hl; omega), qbM (F := F) (fun _ _ => rfl) _ _ (qeq hg) (by have := qek hg; simp; omega)]
    simp only [Option.bind_some, Sum.elim_inl]
    have e2 : [] ++ (dcI (g.length : Int) ++ [10]) ++ (af 0 g).flatMap arcI = txtI (g.length : Int) (af 0 g) := by simp [txtI]
    rw [e2]
    unfold bstrM
    rw [if_pos ⟨by simp [txtI], by rw [List.all_eq_true]; exact fun x hx => decide_eq_true (qhq hn (qeq hg) x hx)⟩]
    rfl
  · rw [if_pos (by simpa using e), if_pos e]
theorem qdU {F : Nat} {A : List (Int × Int)} (hF : 10 ≤ F) (hA : Sml A) (hm : A.length ≤ 600) : ∀ (k i : Nat) (acc : List Int), A.length < k + i → i ≤ A.length → acc.length ≤ 10 + 8 * i →
    zf F A k (acc, (i : Int)) = some (acc ++ (A.drop i).flatMap arcI)
  | 0, _, _, _, _, _ => by omega
  | k + 1, i, acc, h, hi, ha => by
    show yB F A (zf F A k) acc (i : Int) = _
    unfold yB
    by_cases hlt : i < A.length
    · obtain ⟨p1, p2⟩ := hA A[i] (List.getElem_mem hlt)
      have h1 := jA A[i].1
      have h2 := jA A[i].2
      rw [if_pos (by simp; omega), zi, List.getElem?_eq_getElem hlt, List.drop_eq_getElem_cons hlt]
      simp only [Option.bind_some, qdc hF p1, qdc hF p2]
      rw [kb (by simp; omega), Option.bind_some, kb (by simp; omega), Option.bind_some, kb (by simp; omega), Option.bind_some]
      have e : dcI A[i].1 ++ [32] ++ dcI A[i].2 ++ [10] = arcI A[i] := by simp [arcI]
      have hl := qbB A[i]
      rw [e, kb (by omega), Option.bind_some]
      unfold kQ
      rw [q8 (by omega), qdU hF hA hm k (i + 1) _ (by omega) (by omega) (by simp; omega), List.append_assoc]
      rfl
    · rw [if_neg (by simp; omega), List.drop_eq_nil_of_le (by omega)]
      simp [vA]
theorem qfj {F : Nat} {g : List (List Int)} (hF : 1000 ≤ F) (hg : Gr g) : vI F g = some (txtI g.length (af 0 g)) := by
  unfold vI
  have h1 := hg.1
  have hn : (0 : Int) ≤ (g.length : Int) ∧ (g.length : Int) < 1000 := by omega
  have hd := jA (g.length : Int)
  have hl := qek hg
  rw [qdc (by omega) hn, Option.bind_some, kb (by simp; omega), Option.bind_some, qfZ hF hg, Option.bind_some]
  have := qdU (F := F) (by omega) (qeq hg) hl F 0 (dcI (g.length : Int) ++ [10]) (by omega) (by omega) (by simp; omega)
  rw [show (((0 : Nat) : Int)) = 0 from rfl, List.drop_zero] at this
  rw [this]
  simp [txtI]
theorem qfa {g : List (List Int)} {A : List (Int × Int)} (h : Gr g) (hp : A.Perm (af 0 g)) : endI g.length A = (g, 0, 0) := by
  have hl := hp.length_eq
  have h600 := qek h
  have hnd : A.Nodup := hp.nodup_iff.2 (qfM h)
  have e := qeP (n := g.length) (l := A) h.1 (by omega) (fun p hq => qhu h p (hp.mem_iff.1 hq)) hnd
  unfold endI
  rw [if_neg (by omega), e, qgX h (qcK hnd) fun p => hp.mem_iff]
theorem qhJ {n : Int} {A : List (Int × Int)} : Sm (endI n A).1 := by
  unfold endI
  split
  · exact qba
  · exact qhY
theorem qf8 (s : List Int) : Sm (parseI s).1 := by
  unfold parseI
  split
  · exact qba
  · unfold outI
    cases goI (linesI s) 0 (-1) [] with
    | inl p => exact qba
    | inr q => exact qhJ
theorem qeI (a : List Int) : (bstr a == bstr a) = true := by rw [qfC]; simp
def g01 : List (List Int) := [[1], [0]]
theorem qfK : gchk g01 = 0 := by decide
theorem tb1 : parseI [35, 32, 116, 119, 111, 10, 32, 50, 32, 10, 10, 49, 32, 48, 10, 48, 32, 32, 49] = (g01, 0, 0) := by
  have e : goI (linesI [35, 32, 116, 119, 111, 10, 32, 50, 32, 10, 10, 49, 32, 48, 10, 48, 32, 32, 49]) 0 (-1) [] = .inr (2, [(1, 0), (0, 1)]) := by decide +kernel
  unfold parseI
  rw [if_neg (by decide), e]
  have h : Gr g01 := qde.1 qfK
  exact qfa (g := g01) h (List.Perm.swap _ _ _)
theorem tb2 : parseI [50, 10, 48, 32, 48, 10, 48, 32, 48, 48, 10] = ([], 3, 6) := by
  have e : goI (linesI [50, 10, 48, 32, 48, 10, 48, 32, 48, 48, 10]) 0 (-1) [] = .inl (3, 6) := by decide +kernel
  unfold parseI
  rw [if_neg (by decide), e]
  rfl
theorem tb3 : parseI [50, 10, 48, 32, 50] = ([], 2, 3) := by
  have e : goI (linesI [50, 10, 48, 32, 50]) 0 (-1) [] = .inl (2, 3) := by decide +kernel
  unfold parseI
  rw [if_neg (by decide), e]
  rfl
theorem tb4 : parseI [35] = ([], 0, 5) := by
  have e : goI (linesI [35]) 0 (-1) [] = .inr (-1, []) := by decide +kernel
  unfold parseI
  rw [if_neg (by decide), e]
  rfl
theorem tb5 : txtI ((g01.length : Nat) : Int) (af 0 g01) = [50, 10, 48, 32, 49, 10, 49, 32, 48, 10] := by decide +kernel
theorem tbegun {F : Nat} (hF : 100000 ≤ F) : ke F = some true := by
  unfold ke
  rw [qan (by unfold By; decide) (by decide) hF, qan (by unfold By; decide) (by decide) hF, qan (by unfold By; decide) (by decide) hF, qan (by unfold By; decide) (by decide) hF]
  simp only [Option.bind_some, tb1, tb2, tb3, tb4]
  rw [qdP (by omega), if_neg (by rw [qfK]; decide), tb5]
  simp only [Option.bind_some]
  rw [show ([([1] : List Int), ([0] : List Int)] : List (List Int)) = g01 from rfl, qbT (by show 2 < F; omega) (by decide) (fun r hr => by simp [g01] at hr; rcases hr with rfl | rfl <;> simp <;> omega)]
  simp only [Option.bind_some, if_true]
  unfold yx
  rw [qeI]
  rfl
theorem qb9 {F : Nat} {g : List (List Int)} {s : List Int} (hs : By s) (hl : s.length ≤ 900000000) (hF : 100000 ≤ F) (hF2 : s.length < F) : jF F g s = some true := by
  unfold jF
  rw [qdP (by omega), qan hs hl hF, qbP (by omega)]
  simp only [Option.bind_some]
  have hend : ∀ t : List Int, (if gchk g ≠ 0 then (([] : List Int), gchk g) else (txtI g.length (af 0 g), 0)) = (t, gchk g) → kO F s (t, gchk g) (parseI s) (gchk g) t = some true := fun t _ => by
    unfold kO
    rw [qfi hs hl hF hF2, tbegun hF]
    simp only [Option.bind_some, qeI, Bool.and_self, beq_self_eq_true, if_true, qeo (F := F) (by omega) (qf8 s)]
    unfold yw
    simp
  by_cases e : gchk g = 0
  · rw [if_pos (by simpa using e), qfj (by omega) (qde.1 e), Option.bind_some, if_neg (by simpa using e)]
    have := hend (txtI g.length (af 0 g)) (by rw [if_neg (by simpa using e), e])
    rw [e] at this ⊢
    exact this
  · rw [if_neg (by simpa using e), if_pos e]
    exact hend [] (by rw [if_pos e])
end Go.Proofs.YtfjkpdlcdceenaaGreatDoor
