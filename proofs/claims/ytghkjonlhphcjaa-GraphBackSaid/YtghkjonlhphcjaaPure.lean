/- Plain facts of what the functions of this seat compute. -/
import Derived.Test.YtghkjonlhphcjaaModels
import Derived.KernelRfl
import Derived.Lib.SlicesCompact
namespace Go.Proofs.Ytghkjonlhphcjaa
open Go SX
def Bit (l : List Int) : Prop := ∀ x ∈ l, x = 0 ∨ x = 1
theorem Bit.getD {l : List Int} (h : Bit l) (i : Nat) : l.getD i 0 = 0 ∨ l.getD i 0 = 1 := by
  by_cases hi : i < l.length
  · have := h l[i] (List.getElem_mem hi)
    simpa [List.getD, hi] using this
  · left
    simp [List.getD, List.getElem?_eq_none (Nat.le_of_not_lt hi)]
theorem iadd_n {a b : Nat} (h : a + b < 9223372036854775808) : iadd .i64 (a : Int) (b : Int) = ((a + b : Nat) : Int) := by rw [iadd_i64 (by omega) (by omega)]; omega
theorem iadd1_n {a : Nat} (h : a + 1 < 9223372036854775808) : iadd .i64 (a : Int) 1 = ((a + 1 : Nat) : Int) := by rw [iadd_i64 (by omega) (by omega)]; omega
theorem isub_n {a b : Nat} (h : b ≤ a) (h2 : a < 9223372036854775808) : isub .i64 (a : Int) (b : Int) = ((a - b : Nat) : Int) := by rw [isub_i64 (by omega) (by omega)]; omega
theorem isub1_n {a : Nat} (h : 1 ≤ a) (h2 : a < 9223372036854775808) : isub .i64 (a : Int) 1 = ((a - 1 : Nat) : Int) := by rw [isub_i64 (by omega) (by omega)]; omega
/-- The bits of a number, in so many places, the highest one first. -/
def nb (n : Nat) : Nat → List Int
  | 0 => []
  | w + 1 => ((n / 2 ^ w % 2 : Nat) : Int) :: nb n w
theorem sub_n {α : Type} {l : List α} {i j : Nat} (h1 : i ≤ j) (h2 : j ≤ l.length) : sub l (i : Int) (j : Int) = some ((l.take j).drop i) := by
  unfold sub
  rw [if_pos ⟨by omega, by omega, by omega⟩, Int.toNat_natCast, Int.toNat_natCast]
/-- How many bits a number has. -/
def len (x : Nat) : Nat := if x = 0 then 0 else x.log2 + 1
def sh (m : Nat) : Nat := len (m - 1)
def dd (m : Nat) : Nat := 2 ^ sh m - m
def le (n m : Nat) : List Int := if n < dd m then nb n (sh m - 1) else nb (n + dd m) (sh m)
theorem same_ints_l (F : Nat) {xs : List Int} (hm : xs.length ≤ 1000000) : ∀ (k i : Nat), xs.length < k + i → i ≤ xs.length → M_R_SameInts_l3 F xs xs k (i : Int) = some true
  | 0, _, _, _ => by omega
  | k + 1, i, h, hi => by
    show M_R_SameInts_b3 F xs xs (M_R_SameInts_l3 F xs xs k) (i : Int) = _
    unfold M_R_SameInts_b3
    by_cases hlt : i < xs.length
    · rw [if_pos (by simp; omega), idx_nat, List.getElem?_eq_getElem hlt]
      simp only [Option.bind_some]
      rw [if_neg (by simp), iadd1_n (by omega)]
      exact same_ints_l F hm k (i + 1) (by omega) (by omega)
    · rw [if_neg (by simp; omega)]; rfl
theorem same_intsR {F : Nat} {xs : List Int} (hF : xs.length < F) (hm : xs.length ≤ 1000000) : M_R_SameInts F xs xs = some true := by
  unfold M_R_SameInts
  rw [if_neg (by simp)]
  exact same_ints_l F hm F 0 (by omega) (by omega)
theorem hasInt_l (F : Nat) {l : List Int} {v : Int} (hm : l.length ≤ 1000000) : ∀ (k i : Nat), l.length < k + i → i ≤ l.length → M_R_HasInt_l3 F l v k (i : Int) = some (decide (v ∈ l.drop i))
  | 0, _, _, _ => by omega
  | k + 1, i, h, hi => by
    show M_R_HasInt_b3 F l v (M_R_HasInt_l3 F l v k) (i : Int) = _
    unfold M_R_HasInt_b3
    by_cases hlt : i < l.length
    · rw [if_pos (by simp; omega), idx_nat, List.getElem?_eq_getElem hlt, List.drop_eq_getElem_cons hlt]
      simp only [Option.bind_some]
      by_cases he : l[i] = v
      · rw [if_pos (by simpa using he)]
        simp [he]
      · rw [if_neg (by simpa using he), iadd1_n (by omega), hasInt_l F hm k (i + 1) (by omega) (by omega)]
        have : (v ∈ l[i] :: l.drop (i + 1)) ↔ v ∈ l.drop (i + 1) := ⟨fun hv => (List.mem_cons.1 hv).resolve_left (fun e => he e.symm), fun hv => List.mem_cons_of_mem _ hv⟩
        rw [decide_eq_decide.2 this]
    · rw [if_neg (by simp; omega), List.drop_eq_nil_of_le (by omega)]
      simp [M_R_HasInt_j2]
theorem hasInt_eq {F : Nat} {l : List Int} {v : Int} (hF : l.length < F) (hm : l.length ≤ 1000000) : M_R_HasInt F l v = some (decide (v ∈ l)) := by
  unfold M_R_HasInt
  have := hasInt_l F (v := v) hm F 0 (by omega) (by omega)
  simpa using this
def runFold {σ τ : Type} (yy : σ → (Int × Int) → Option (σ ⊕ τ)) : List (Int × Int) → σ → Option (σ ⊕ τ)
  | [], s => some (.inl s)
  | r :: R, s => (yy s r).bind (Sum.elim (fun s' => runFold yy R s') (fun t => some (.inr t)))
def rowE (n : Int) : Int → List Int → Int
  | _, [] => 0
  | last, x :: l => if x < 0 ∨ n ≤ x then 3 else if x ≤ last then 4 else rowE n x l
def gE (n : Int) : List (List Int) → Int
  | [] => 0
  | l :: g => if rowE n (-1) l ≠ 0 then rowE n (-1) l else gE n g
def gtot : List (List Int) → Nat
  | [] => 0
  | l :: g => l.length + gtot g
def gchk (g : List (List Int)) : Int := if 100 < g.length then 2 else if gE g.length g ≠ 0 then gE g.length g else if 600 < gtot g then 2 else 0
theorem rowE_ok : ∀ {n last : Int} {l : List Int}, rowE n last l = 0 ↔ (l.Pairwise (· < ·) ∧ ∀ x ∈ l, last < x) ∧ ∀ x ∈ l, 0 ≤ x ∧ x < n
  | n, last, [] => by simp [rowE]
  | n, last, x :: l => by
    unfold rowE
    by_cases h1 : x < 0 ∨ n ≤ x
    · rw [if_pos h1]
      constructor
      · intro h; simp at h
      · rintro ⟨_, h⟩; have := h x (by simp); omega
    · rw [if_neg h1]
      by_cases h2 : x ≤ last
      · rw [if_pos h2]
        constructor
        · intro h; simp at h
        · rintro ⟨⟨_, h⟩, _⟩; have := h x (by simp); omega
      · rw [if_neg h2, rowE_ok, List.pairwise_cons]
        constructor
        · rintro ⟨⟨a1, a2⟩, a3⟩
          refine ⟨⟨⟨a2, a1⟩, fun y hy => ?_⟩, fun y hy => ?_⟩
          · rcases List.mem_cons.1 hy with rfl | hy
            · omega
            · have := a2 y hy; omega
          · rcases List.mem_cons.1 hy with rfl | hy
            · omega
            · exact a3 y hy
        · rintro ⟨⟨⟨a1, a2⟩, a3⟩, a4⟩
          exact ⟨⟨a2, a1⟩, fun y hy => a4 y (by simp [hy])⟩
theorem row_len {n last : Int} : ∀ {l : List Int}, -1 ≤ last → last < n → rowE n last l = 0 → last + 1 + l.length ≤ n
  | [], h1, h2, _ => by simp; omega
  | x :: l, h1, h2, h => by
    unfold rowE at h
    split at h
    · simp at h
    · split at h
      · simp at h
      · have := row_len (l := l) (by omega) (by omega) h
        rw [List.length_cons]; omega
theorem gE_ok {n : Int} : ∀ {g : List (List Int)}, gE n g = 0 ↔ ∀ l ∈ g, rowE n (-1) l = 0
  | [] => by simp [gE]
  | l :: g => by
    unfold gE
    by_cases h : rowE n (-1) l = 0
    · rw [if_neg (by simp [h]), gE_ok]; simp [h]
    · rw [if_pos h]; simp [h]
/-- A graph that is right. -/
def Gr (g : List (List Int)) : Prop := g.length ≤ 100 ∧ (∀ l ∈ g, l.Pairwise (· < ·) ∧ ∀ x ∈ l, 0 ≤ x ∧ x < g.length) ∧ gtot g ≤ 600
theorem gchk_ok {g : List (List Int)} : gchk g = 0 ↔ Gr g := by
  unfold gchk Gr
  by_cases h1 : 100 < g.length
  · rw [if_pos h1]; simp; omega
  · rw [if_neg h1]
    by_cases h2 : gE g.length g = 0
    · rw [if_neg (by simp [h2])]
      have h3 := gE_ok.1 h2
      have h4 : ∀ l ∈ g, l.Pairwise (· < ·) ∧ ∀ x ∈ l, 0 ≤ x ∧ x < (g.length : Int) := fun l hl => by
        have := rowE_ok.1 (h3 l hl)
        exact ⟨this.1.1, this.2⟩
      by_cases h5 : 600 < gtot g
      · rw [if_pos h5]; simp; omega
      · rw [if_neg h5]
        exact ⟨fun _ => ⟨by omega, h4, by omega⟩, fun _ => rfl⟩
    · rw [if_pos h2]
      refine ⟨fun h => absurd h h2, fun h => absurd (gE_ok.2 fun l hl => rowE_ok.2 ⟨⟨(h.2.1 l hl).1, fun x hx => ?_⟩, (h.2.1 l hl).2⟩) h2⟩
      have := (h.2.1 l hl).2 x hx; omega
theorem gr_row {g : List (List Int)} (h : Gr g) {l : List Int} (hl : l ∈ g) : l.length ≤ 100 := by
  have h1 := (h.2.1 l hl).2
  have h2 : rowE g.length (-1) l = 0 := rowE_ok.2 ⟨⟨(h.2.1 l hl).1, fun x hx => by have := h1 x hx; omega⟩, h1⟩
  have := row_len (by omega) (by omega) h2
  have := h.1
  omega
theorem check_in {F : Nat} {rec38 : (Int × Int) → Option Int} {g : List (List Int)} {m i : Int} {l : List Int} (hg : g.length ≤ 100) : ∀ (k j : Nat) (last : Int), 102 < k + j → (j : Int) ≤ last + 1 → last < g.length → -1 ≤ last →
    M_graph_Check_l45 F rec38 g m i l k (last, (j : Int)) = if rowE g.length last (l.drop j) ≠ 0 then some (rowE g.length last (l.drop j)) else M_graph_Check_j44 F rec38 m i l
  | 0, j, last, h, h1, h2, h3 => by omega
  | k + 1, j, last, h, h1, h2, h3 => by
    show M_graph_Check_b45 F rec38 g m i l (M_graph_Check_l45 F rec38 g m i l k) last (j : Int) = _
    unfold M_graph_Check_b45
    by_cases hlt : j < l.length
    · rw [if_pos (by simp; omega), idx_nat, List.getElem?_eq_getElem hlt, List.drop_eq_getElem_cons hlt]
      simp only [Option.bind_some]
      unfold rowE
      by_cases c1 : l[j] < 0 ∨ (g.length : Int) ≤ l[j]
      · rw [if_pos (by simpa using c1), if_pos c1, if_pos (by decide)]
      · rw [if_neg (by simpa using c1), if_neg c1]
        by_cases c2 : l[j] ≤ last
        · rw [if_pos (by simpa using c2), if_pos c2, if_pos (by decide)]
        · rw [if_neg (by simpa using c2), if_neg c2, iadd1_n (by omega)]
          exact check_in hg k (j + 1) l[j] (by omega) (by omega) (by omega) (by omega)
    · rw [if_neg (by simp; omega), List.drop_eq_nil_of_le (by omega)]
      rw [if_neg (by simp [rowE])]
theorem check_out {F : Nat} (hF : 1000 ≤ F) {g : List (List Int)} (hg : g.length ≤ 100) : ∀ (k i : Nat) (m : Nat), g.length < k + i → i ≤ g.length → m ≤ 100 * i →
    M_graph_Check_l38 F g k ((m : Int), (i : Int)) = if gE g.length (g.drop i) ≠ 0 then some (gE g.length (g.drop i)) else if 600 < m + gtot (g.drop i) then some 2 else some 0
  | 0, _, _, _, _, _ => by omega
  | k + 1, i, m, h, hi, hm => by
    show M_graph_Check_b38 F g (M_graph_Check_l38 F g k) (m : Int) (i : Int) = _
    unfold M_graph_Check_b38
    by_cases hlt : i < g.length
    · rw [if_pos (by simp; omega), idx_nat, List.getElem?_eq_getElem hlt, List.drop_eq_getElem_cons hlt]
      simp only [Option.bind_some]
      have hin := check_in (F := F) (rec38 := M_graph_Check_l38 F g k) (m := (m : Int)) (i := (i : Int)) (l := g[i]) hg F 0 (-1) (by omega) (by omega) (by omega) (by omega)
      rw [List.drop_zero, show ((0 : Nat) : Int) = 0 from rfl] at hin
      rw [hin]
      unfold gE gtot
      by_cases hr : rowE g.length (-1) g[i] = 0
      · have hlen := row_len (by omega) (by omega) hr
        have e : (if rowE (g.length : Int) (-1) g[i] ≠ 0 then rowE (g.length : Int) (-1) g[i] else gE (g.length : Int) (g.drop (i + 1))) = gE (g.length : Int) (g.drop (i + 1)) := if_neg (by simp [hr])
        rw [if_neg (show ¬ rowE (g.length : Int) (-1) g[i] ≠ 0 by simp [hr]), e]
        unfold M_graph_Check_j44 M_graph_Check_j42
        rw [iadd_n (by omega), iadd1_n (by omega), check_out hF hg k (i + 1) (m + g[i].length) (by omega) (by omega) (by omega), Nat.add_assoc]
      · rw [if_pos (by simpa using hr)]
        have e : (if rowE (g.length : Int) (-1) g[i] ≠ 0 then rowE (g.length : Int) (-1) g[i] else gE (g.length : Int) (g.drop (i + 1))) = rowE (g.length : Int) (-1) g[i] := if_pos hr
        rw [e, if_pos hr]
    · rw [if_neg (by simp; omega), List.drop_eq_nil_of_le (by omega)]
      unfold M_graph_Check_j23
      rw [if_neg (show ¬ gE (g.length : Int) [] ≠ 0 by simp [gE])]
      by_cases h6 : 600 < m
      · rw [if_pos (by simp; omega), if_pos (by simpa [gtot] using h6)]
      · rw [if_neg (by simp; omega), if_neg (by simpa [gtot] using h6)]
theorem graphCheck_eq {F : Nat} (hF : 1000 ≤ F) {g : List (List Int)} : M_graph_Check F g = some (gchk g) := by
  unfold M_graph_Check gchk
  by_cases h : 100 < g.length
  · rw [if_pos (by simp; omega), if_pos h]
  · have := check_out hF (g := g) (by omega) F 0 0 (by omega) (by omega) (by omega)
    rw [List.drop_zero, Nat.zero_add, show ((0 : Nat) : Int) = 0 from rfl] at this
    rw [if_neg (by simp; omega), if_neg h, this]
    split
    · rfl
    · split <;> rfl
theorem rcheck_in {F : Nat} {rec138 : (Int × Int) → Option Int} {g : List (List Int)} {i m : Nat} {l : List Int} (hg : g.length ≤ 100) (hl : g[i]? = some l) (hm : m ≤ 100000) : ∀ (k j : Nat), 102 < k + j → j ≤ l.length → ((j : Int) ≤ (if 0 < j then l.getD (j - 1) 0 else -1) + 1) → ((if 0 < j then l.getD (j - 1) 0 else -1) < (g.length : Int)) →
    M_R_GraphCheck_l161 F rec138 g (i : Int) k (((m + j : Nat) : Int), (j : Int)) = if rowE g.length (if 0 < j then l.getD (j - 1) 0 else -1) (l.drop j) ≠ 0 then some (rowE g.length (if 0 < j then l.getD (j - 1) 0 else -1) (l.drop j)) else M_R_GraphCheck_j152 F rec138 (i : Int) ((m + l.length : Nat) : Int)
  | 0, j, h, hj, h1, h2 => by omega
  | k + 1, j, h, hj, h1, h2 => by
    have hg0 : 0 < g.length := by have := (List.getElem?_eq_some_iff.1 hl).1; omega
    show M_R_GraphCheck_b161 F rec138 g (i : Int) (M_R_GraphCheck_l161 F rec138 g (i : Int) k) ((m + j : Nat) : Int) (j : Int) = _
    unfold M_R_GraphCheck_b161
    rw [idx_nat, hl]
    simp only [Option.bind_some]
    by_cases hlt : j < l.length
    · have hrec := rcheck_in (F := F) (rec138 := rec138) hg hl hm k (j + 1) (by omega) (by omega)
      have hgd : l.getD (j + 1 - 1) 0 = l[j] := by simp [List.getD, List.getElem?_eq_getElem hlt]
      rw [if_pos (show 0 < j + 1 by omega), hgd] at hrec
      rw [if_pos (by simp; omega), idx_nat, List.getElem?_eq_getElem hlt, List.drop_eq_getElem_cons hlt]
      simp only [Option.bind_some]
      unfold M_R_between rowE
      rw [isub1_n (by omega) (by omega)]
      simp only [Option.bind_some]
      by_cases c1 : l[j] < 0 ∨ (g.length : Int) ≤ l[j]
      · rw [if_pos (by simp; omega), if_pos c1, if_pos (by decide)]
      · rw [if_neg (by simp; omega), if_neg c1]
        have hgo : M_R_GraphCheck_j165 F (M_R_GraphCheck_l161 F rec138 g (i : Int) k) ((m + j : Nat) : Int) (j : Int) false = (if rowE (g.length : Int) l[j] (l.drop (j + 1)) ≠ 0 then some (rowE (g.length : Int) l[j] (l.drop (j + 1))) else M_R_GraphCheck_j152 F rec138 (i : Int) ((m + l.length : Nat) : Int)) → (l[j] ≤ (if 0 < j then l.getD (j - 1) 0 else -1)) = False →
            M_R_GraphCheck_j165 F (M_R_GraphCheck_l161 F rec138 g (i : Int) k) ((m + j : Nat) : Int) (j : Int) false = if (if l[j] ≤ (if 0 < j then l.getD (j - 1) 0 else -1) then 4 else rowE (g.length : Int) l[j] (l.drop (j + 1))) ≠ 0 then some (if l[j] ≤ (if 0 < j then l.getD (j - 1) 0 else -1) then 4 else rowE (g.length : Int) l[j] (l.drop (j + 1))) else M_R_GraphCheck_j152 F rec138 (i : Int) ((m + l.length : Nat) : Int) := by
          intro h3 h4
          simp only [h4, if_false]
          exact h3
        have hnext : (¬ l[j] ≤ (if 0 < j then l.getD (j - 1) 0 else -1)) → M_R_GraphCheck_j165 F (M_R_GraphCheck_l161 F rec138 g (i : Int) k) ((m + j : Nat) : Int) (j : Int) false = if rowE (g.length : Int) l[j] (l.drop (j + 1)) ≠ 0 then some (rowE (g.length : Int) l[j] (l.drop (j + 1))) else M_R_GraphCheck_j152 F rec138 (i : Int) ((m + l.length : Nat) : Int) := by
          intro hn
          unfold M_R_GraphCheck_j165
          rw [if_neg (by simp), iadd1_n (by omega), iadd1_n (by omega)]
          exact hrec (by omega) (by omega)
        by_cases hj0 : 0 < j
        · have hlt2 : j - 1 < l.length := by omega
          have hgd2 : l.getD (j - 1) 0 = l[j - 1] := by simp [List.getD, List.getElem?_eq_getElem hlt2]
          rw [if_pos (by simp; omega), isub1_n (by omega) (by omega), idx_nat, List.getElem?_eq_getElem hlt2]
          simp only [Option.bind_some]
          by_cases c2 : l[j] ≤ l[j - 1]
          · rw [decide_eq_true c2, if_pos hj0, hgd2, if_pos c2, if_pos (by decide)]
            rfl
          · rw [decide_eq_false c2]
            exact hgo (hnext (by rw [if_pos hj0, hgd2]; exact c2)) (by rw [if_pos hj0, hgd2]; exact eq_false c2)
        · have : j = 0 := by omega
          subst this
          rw [if_neg (by simp)]
          exact hgo (hnext (by simp; omega)) (by simp; omega)
    · rw [if_neg (by simp; omega), List.drop_eq_nil_of_le (by omega), show m + j = m + l.length from by omega, if_neg (by simp [rowE])]
theorem rcheck_out {F : Nat} (hF : 1000 ≤ F) {g : List (List Int)} (hg : g.length ≤ 100) : ∀ (k i : Nat) (m : Nat), g.length < k + i → i ≤ g.length → m ≤ 100 * i →
    M_R_GraphCheck_l138 F g k ((m : Int), (i : Int)) = if gE g.length (g.drop i) ≠ 0 then some (gE g.length (g.drop i)) else if 600 < m + gtot (g.drop i) then some 2 else some 0
  | 0, _, _, _, _, _ => by omega
  | k + 1, i, m, h, hi, hm => by
    show M_R_GraphCheck_b138 F g (M_R_GraphCheck_l138 F g k) (m : Int) (i : Int) = _
    unfold M_R_GraphCheck_b138
    by_cases hlt : i < g.length
    · rw [if_pos (by simp; omega), List.drop_eq_getElem_cons hlt]
      have hin := rcheck_in (F := F) (rec138 := M_R_GraphCheck_l138 F g k) (m := m) (i := i) (l := g[i]) hg (List.getElem?_eq_getElem hlt) (by omega) F 0 (by omega) (by omega) (by simp) (by simp; omega)
      rw [List.drop_zero, show ((0 : Nat) : Int) = 0 from rfl, Nat.add_zero, if_neg (show ¬ 0 < 0 by omega)] at hin
      rw [hin]
      unfold gE gtot
      by_cases hr : rowE g.length (-1) g[i] = 0
      · have hlen := row_len (by omega) (by omega) hr
        have e : (if rowE (g.length : Int) (-1) g[i] ≠ 0 then rowE (g.length : Int) (-1) g[i] else gE (g.length : Int) (g.drop (i + 1))) = gE (g.length : Int) (g.drop (i + 1)) := if_neg (by simp [hr])
        rw [if_neg (show ¬ rowE (g.length : Int) (-1) g[i] ≠ 0 by simp [hr]), e]
        unfold M_R_GraphCheck_j152
        rw [iadd1_n (by omega), rcheck_out hF hg k (i + 1) (m + g[i].length) (by omega) (by omega) (by omega), Nat.add_assoc]
      · have e : (if rowE (g.length : Int) (-1) g[i] ≠ 0 then rowE (g.length : Int) (-1) g[i] else gE (g.length : Int) (g.drop (i + 1))) = rowE (g.length : Int) (-1) g[i] := if_pos hr
        rw [if_pos (by simpa using hr), e, if_pos hr]
    · rw [if_neg (by simp; omega), List.drop_eq_nil_of_le (by omega)]
      unfold M_R_GraphCheck_j83
      rw [if_neg (show ¬ gE (g.length : Int) [] ≠ 0 by simp [gE])]
      by_cases h6 : 600 < m
      · rw [if_pos (by simp; omega), if_pos (by simpa [gtot] using h6)]
      · rw [if_neg (by simp; omega), if_neg (by simpa [gtot] using h6)]
theorem rgraphCheck_eq {F : Nat} (hF : 1000 ≤ F) {g : List (List Int)} : M_R_GraphCheck F g = some (gchk g) := by
  unfold M_R_GraphCheck gchk
  by_cases h : 100 < g.length
  · rw [if_pos (by simp; omega), if_pos h]
  · have := rcheck_out hF (g := g) (by omega) F 0 0 (by omega) (by omega) (by omega)
    rw [List.drop_zero, Nat.zero_add, show ((0 : Nat) : Int) = 0 from rfl] at this
    rw [if_neg (by simp; omega), if_neg h, this]
    split
    · rfl
    · split <;> rfl
def af (i : Nat) : List (List Int) → List (Int × Int)
  | [] => []
  | l :: g => l.map (fun x => ((i : Int), x)) ++ af (i + 1) g
theorem runFold_app {σ τ : Type} {yy : σ → (Int × Int) → Option (σ ⊕ τ)} : ∀ (A B : List (Int × Int)) (s : σ), runFold yy (A ++ B) s = (runFold yy A s).bind (Sum.elim (fun s' => runFold yy B s') (fun t => some (.inr t)))
  | [], B, s => rfl
  | p :: A, B, s => by
    show (yy s p).bind _ = ((yy s p).bind _).bind _
    cases yy s p with
    | none => rfl
    | some r =>
      cases r with
      | inl s' => exact runFold_app A B s'
      | inr t => rfl
theorem all_in {σ τ : Type} {F : Nat} {yy : σ → (Int × Int) → Option (σ ⊕ τ)} {rec7 : (Int × σ) → Option (σ ⊕ τ)} {i : Int} {l : List Int} (hm : l.length ≤ 1000000) : ∀ (k j : Nat) (s : σ), l.length < k + j → j ≤ l.length →
    M_graph_All_1_l10 F yy rec7 i l k ((j : Int), s) = (runFold yy ((l.drop j).map fun x => (i, x)) s).bind (Sum.elim (fun s' => M_graph_All_1_j9 F yy rec7 i s') (fun t => some (.inr t)))
  | 0, _, _, _, _ => by omega
  | k + 1, j, s, h, hj => by
    show M_graph_All_1_b10 F yy rec7 i l (M_graph_All_1_l10 F yy rec7 i l k) (j : Int) s = _
    unfold M_graph_All_1_b10
    by_cases hlt : j < l.length
    · rw [if_pos (by simp; omega), idx_nat, List.getElem?_eq_getElem hlt, List.drop_eq_getElem_cons hlt, List.map_cons]
      simp only [Option.bind_some, runFold]
      cases yy s (i, l[j]) with
      | none => rfl
      | some r =>
        cases r with
        | inl s' =>
          simp only [Option.bind_some, Sum.elim_inl]
          rw [iadd1_n (by omega)]
          exact all_in hm k (j + 1) s' (by omega) (by omega)
        | inr t => rfl
    · rw [if_neg (by simp; omega), List.drop_eq_nil_of_le (by omega)]
      rfl
theorem all_out {σ τ : Type} {F : Nat} {yy : σ → (Int × Int) → Option (σ ⊕ τ)} {g : List (List Int)} (hm : g.length ≤ 1000000) (hr : ∀ l ∈ g, l.length ≤ 1000000 ∧ l.length < F) : ∀ (k i : Nat) (s : σ), g.length < k + i → i ≤ g.length →
    M_graph_All_1_l7 F yy g k ((i : Int), s) = runFold yy (af i (g.drop i)) s
  | 0, _, _, _, _ => by omega
  | k + 1, i, s, h, hi => by
    show M_graph_All_1_b7 F yy g (M_graph_All_1_l7 F yy g k) (i : Int) s = _
    unfold M_graph_All_1_b7
    by_cases hlt : i < g.length
    · have hrow := hr _ (List.getElem_mem hlt)
      rw [if_pos (by simp; omega), idx_nat, List.getElem?_eq_getElem hlt, List.drop_eq_getElem_cons hlt]
      simp only [Option.bind_some]
      have := all_in (F := F) (yy := yy) (rec7 := M_graph_All_1_l7 F yy g k) (i := (i : Int)) hrow.1 F 0 s (by omega) (by omega)
      rw [List.drop_zero, show ((0 : Nat) : Int) = 0 from rfl] at this
      rw [this]
      unfold af
      rw [runFold_app]
      congr 1
      funext r
      cases r with
      | inl s' =>
        simp only [Sum.elim_inl]
        unfold M_graph_All_1_j9
        rw [iadd1_n (by omega)]
        exact all_out hm hr k (i + 1) s' (by omega) (by omega)
      | inr t => rfl
    · rw [if_neg (by simp; omega), List.drop_eq_nil_of_le (by omega)]
      rfl
theorem all_eq {σ τ : Type} {F : Nat} {yy : σ → (Int × Int) → Option (σ ⊕ τ)} {g : List (List Int)} {s : σ} (hF : g.length < F) (hm : g.length ≤ 1000000) (hr : ∀ l ∈ g, l.length ≤ 1000000 ∧ l.length < F) : M_graph_All_1 F yy g s = runFold yy (af 0 g) s := by
  unfold M_graph_All_1
  have := all_out (yy := yy) hm hr F 0 s (by omega) (by omega)
  rw [List.drop_zero] at this
  exact this
theorem vals_eq {σ τ : Type} {F : Nat} {yy : σ → (Int × Int) → Option (σ ⊕ τ)} {l : List (Int × Int)} (hm : l.length ≤ 1000000) : ∀ (k i : Nat) (s : σ), l.length < k + i → i ≤ l.length →
    M_slices_Values_api_Arc_api_Arc_1_l1 F yy l k ((i : Int), s) = runFold yy (l.drop i) s
  | 0, _, _, _, _ => by omega
  | k + 1, i, s, h, hi => by
    show M_slices_Values_api_Arc_api_Arc_1_b1 F yy l (M_slices_Values_api_Arc_api_Arc_1_l1 F yy l k) (i : Int) s = _
    unfold M_slices_Values_api_Arc_api_Arc_1_b1
    by_cases hlt : i < l.length
    · rw [if_pos (by simp; omega), idx_nat, List.getElem?_eq_getElem hlt, List.drop_eq_getElem_cons hlt]
      simp only [Option.bind_some, runFold]
      cases yy s l[i] with
      | none => rfl
      | some r =>
        cases r with
        | inl s' =>
          simp only [Option.bind_some, Sum.elim_inl]
          rw [iadd1_n (by omega)]
          exact vals_eq hm k (i + 1) s' (by omega) (by omega)
        | inr t => rfl
    · rw [if_neg (by simp; omega), List.drop_eq_nil_of_le (by omega)]
      rfl
theorem fold_app {τ : Type} {lim : Nat} {f : Int × Int → Int × Int} {yy : List (Int × Int) → (Int × Int) → Option (List (Int × Int) ⊕ τ)} (hy : ∀ s p, yy s p = (app lim s [f p]).bind fun z => some (.inl z)) : ∀ (L s : List (Int × Int)), s.length + L.length ≤ lim → runFold yy L s = some (.inl (s ++ L.map f))
  | [], s, _ => by simp [runFold]
  | p :: L, s, h => by
    rw [List.length_cons] at h
    show (yy s p).bind _ = _
    rw [hy, app_eq (by simp; omega)]
    simp only [Option.bind_some, Sum.elim_inl]
    rw [fold_app hy L (s ++ [f p]) (by simp; omega)]
    simp
theorem af_len : ∀ (i : Nat) (g : List (List Int)), (af i g).length = gtot g
  | _, [] => rfl
  | i, l :: g => by unfold af gtot; rw [List.length_append, List.length_map, af_len (i + 1) g]
theorem collect_all {F : Nat} {g : List (List Int)} (hF : 1000 ≤ F) (h : Gr g) : M_slices_Collect_api_Arc_graph_All_1 F g = some (af 0 g) := by
  unfold M_slices_Collect_api_Arc_graph_All_1 M_slices_AppendSeq_api_Arc_api_Arc_graph_All_1
  have h1 := h.1
  have h2 := h.2.2
  rw [all_eq (by omega) (by omega) (fun l hl => by have := gr_row h hl; omega), fold_app (lim := 4398046511104) (f := fun p => p) ?hy (af 0 g) [] (by rw [af_len]; simp; omega)]
  · simp
  · exact fun s p => rfl
theorem collect_vals {F : Nat} {l : List (Int × Int)} (hF : l.length < F) (hm : l.length ≤ 1000000) : M_slices_Collect_api_Arc_slices_Values_api_Arc_api_Arc_1 F l = some l := by
  unfold M_slices_Collect_api_Arc_slices_Values_api_Arc_api_Arc_1 M_slices_AppendSeq_api_Arc_api_Arc_slices_Values_api_Arc_api_Arc_1 M_slices_Values_api_Arc_api_Arc_1
  have := fun yy => vals_eq (σ := List (Int × Int)) (τ := Empty) (F := F) (yy := yy) hm F 0 [] (by omega) (by omega)
  rw [show ((0 : Nat) : Int) = 0 from rfl] at this
  rw [this, List.drop_zero, fold_app (lim := 4398046511104) (f := fun p => p) ?hy l [] (by simp; omega)]
  · simp
  · exact fun s p => rfl
theorem turned_eq {F : Nat} {g : List (List Int)} (hF : 1000 ≤ F) (h : Gr g) : M_graph_turned F g = some ((af 0 g).map fun p => (p.2, p.1)) := by
  unfold M_graph_turned M_graph_All
  have h1 := h.1
  have h2 := h.2.2
  simp only [Option.bind_some]
  rw [all_eq (by omega) (by omega) (fun l hl => by have := gr_row h hl; omega), fold_app (lim := 4398046511104) (f := fun p => (p.2, p.1)) ?hy (af 0 g) [] (by rw [af_len]; simp; omega)]
  · simp
  · exact fun s p => rfl
def lexLt (p q : Int × Int) : Prop := p.1 < q.1 ∨ (p.1 = q.1 ∧ p.2 < q.2)
instance decLex (p q : Int × Int) : Decidable (lexLt p q) := by unfold lexLt; infer_instance
theorem lexLt_irr (a : Int × Int) : ¬ lexLt a a := by unfold lexLt; omega
theorem lexLt_tr (a b d : Int × Int) : lexLt a b → lexLt b d → lexLt a d := by unfold lexLt; omega
theorem lexLt_tot (a b : Int × Int) : lexLt a b ∨ a = b ∨ lexLt b a := by
  obtain ⟨a1, a2⟩ := a
  obtain ⟨b1, b2⟩ := b
  simp only [lexLt, Prod.mk.injEq]; omega
theorem compare_eq {F : Nat} {x y : Int} : M_cmp_Compare_int F x y = some (if x < y then -1 else if y < x then 1 else 0) := by
  unfold M_cmp_Compare_int M_cmp_isNaN_int
  simp only [bne_self_eq_false, Option.bind_some, Bool.false_eq_true, if_false, decide_eq_true_eq]
  split
  · rfl
  · split <;> rfl
theorem or_eq {F : Nat} (hF : 3 ≤ F) {x y : Int} : M_cmp_Or_int F [x, y] = some (if x ≠ 0 then x else y) := by
  obtain ⟨k, rfl⟩ := Nat.exists_eq_add_of_le hF
  rw [Nat.add_comm]
  unfold M_cmp_Or_int
  show M_cmp_Or_int_b3 (k + 3) [x, y] (M_cmp_Or_int_l3 (k + 3) [x, y] (k + 2)) 0 = _
  unfold M_cmp_Or_int_b3
  rw [if_pos (by simp)]
  show ((some x).bind _) = _
  simp only [Option.bind_some]
  by_cases hx : x = 0
  · rw [if_neg (by simp [hx]), if_neg (by simp [hx])]
    show M_cmp_Or_int_b3 (k + 3) [x, y] (M_cmp_Or_int_l3 (k + 3) [x, y] (k + 1)) 1 = _
    unfold M_cmp_Or_int_b3
    rw [if_pos (by simp)]
    show ((some y).bind _) = _
    simp only [Option.bind_some]
    by_cases hy : y = 0
    · rw [if_neg (by simp [hy]), hy]
      show M_cmp_Or_int_b3 (k + 3) [x, y] (M_cmp_Or_int_l3 (k + 3) [x, y] k) 2 = _
      unfold M_cmp_Or_int_b3
      rw [if_neg (by simp)]
      rfl
    · rw [if_pos (by simp [hy])]
  · rw [if_pos (by simp [hx]), if_pos hx]
theorem order_eq {F : Nat} (hF : 3 ≤ F) (a b : Int × Int) : ∃ z, M_graph_order F a.1 a.2 b.1 b.2 = some z ∧ (z < 0 ↔ lexLt a b) := by
  unfold M_graph_order
  rw [compare_eq, compare_eq]
  simp only [Option.bind_some]
  rw [or_eq hF]
  simp only [Option.bind_some]
  unfold lexLt
  by_cases h1 : a.1 < b.1
  · exact ⟨-1, by simp [h1], by simp [h1]⟩
  · by_cases h2 : b.1 < a.1
    · exact ⟨1, by simp [h1, h2], by omega⟩
    · refine ⟨if a.2 < b.2 then -1 else if b.2 < a.2 then 1 else 0, by simp [h1, h2], ?_⟩
      split
      · omega
      · split <;> omega
def srtA (l : List (Int × Int)) : List (Int × Int) := l.mergeSort fun a b => decide (¬ lexLt b a)
theorem srtA_perm (l : List (Int × Int)) : (srtA l).Perm l := List.mergeSort_perm l _
theorem srtA_pw (l : List (Int × Int)) : (srtA l).Pairwise fun a b => ¬ lexLt b a := by
  have h := List.pairwise_mergeSort (le := fun a b : Int × Int => decide (¬ lexLt b a)) (fun a b c h1 h2 => by simp only [decide_eq_true_eq] at *; unfold lexLt at *; omega) (fun a b => by simp only [Bool.or_eq_true, decide_eq_true_eq]; unfold lexLt; omega) l
  exact h.imp (fun h => by simpa using h)
theorem srtA_len (l : List (Int × Int)) : (srtA l).length = l.length := (srtA_perm l).length_eq
theorem lex_weak {l : List (Int × Int)} (h : l.Pairwise lexLt) : l.Pairwise fun a b => ¬ lexLt b a := h.imp fun h => by unfold lexLt at *; omega
theorem srtA_eq {l m : List (Int × Int)} (hp : l.Perm m) (hm : m.Pairwise fun a b => ¬ lexLt b a) : srtA l = m :=
  List.Perm.eq_of_pairwise (le := fun a b : Int × Int => ¬ lexLt b a) (fun a b _ _ h1 h2 => by rcases lexLt_tot a b with h | h | h <;> simp_all) (srtA_pw l) hm ((srtA_perm l).trans hp)
theorem lex_nodup {l : List (Int × Int)} (h : l.Pairwise lexLt) : l.Nodup := List.Pairwise.imp (S := fun a b => a ≠ b) (fun {a b} h (he : a = b) => lexLt_irr a (by rw [← he] at h; exact h)) h
theorem srtA_strict {l : List (Int × Int)} (h : l.Nodup) : (srtA l).Pairwise lexLt := by
  have h1 : (srtA l).Nodup := (srtA_perm l).nodup_iff.2 h
  refine (List.Pairwise.and (srtA_pw l) h1).imp fun {a b} h => ?_
  rcases lexLt_tot a b with h2 | h2 | h2
  · exact h2
  · exact absurd h2 h.2
  · exact absurd h2 h.1
theorem sortFunc_eq {F : Nat} {l : List (Int × Int)} (hF : 3 ≤ F) (hl : l.length ≤ 1000000) : M_slices_SortFunc_api_Arc_api_Arc_graph_order F l = some (srtA l) :=
  sortF_eq (lt := lexLt) (fun a _ b _ => order_eq hF a b) lexLt_irr lexLt_tr lexLt_tot (by omega) (srtA_perm l) (srtA_pw l)
theorem sortedFunc_eq {F : Nat} {l : List (Int × Int)} (hF : 3 ≤ F) (hF2 : l.length < F) (hl : l.length ≤ 1000000) : M_slices_SortedFunc_api_Arc_slices_Values_api_Arc_api_Arc_1_graph_order F l = some (srtA l) := by
  unfold M_slices_SortedFunc_api_Arc_slices_Values_api_Arc_api_Arc_1_graph_order
  rw [collect_vals hF2 hl]
  simp only [Option.bind_some]
  rw [sortFunc_eq hF hl]
  simp [chk, srtA_len]
theorem pwx : ∀ {A B : List Int}, A.Pairwise (· < ·) → B.Pairwise (· < ·) → (∀ z, z ∈ A ↔ z ∈ B) → A = B := by
  intro A B hA hB h
  have nd : ∀ {C : List Int}, C.Pairwise (· < ·) → C.Nodup := fun hC => hC.imp fun h => by omega
  exact List.Perm.eq_of_pairwise (le := fun x y : Int => x < y) (fun a b _ _ h1 h2 => by omega) hA hB ((List.perm_ext_iff_of_nodup (nd hA) (nd hB)).2 h)
def rowOf (l : List (Int × Int)) (i : Int) : List Int := (l.filter fun p => decide (p.1 = i)).map (·.2)
def tab (n : Nat) (l : List (Int × Int)) : List (List Int) := (List.range n).map fun (i : Nat) => rowOf l (i : Int)
theorem tab_len (n : Nat) (l : List (Int × Int)) : (tab n l).length = n := by simp [tab]
theorem tab_get {n i : Nat} {l : List (Int × Int)} (h : i < n) : (tab n l)[i]? = some (rowOf l i) := by simp [tab, h]
theorem rowOf_len (l : List (Int × Int)) (i : Int) : (rowOf l i).length ≤ l.length := by
  unfold rowOf
  rw [List.length_map]
  exact List.length_filter_le _ _
theorem tab_snoc {n a : Nat} {l : List (Int × Int)} {b : Int} : tab n (l ++ [((a : Int), b)]) = (tab n l).set a (rowOf l a ++ [b]) := by
  apply List.ext_getElem (by simp [tab])
  intro i h1 h2
  rw [tab_len] at h1
  rw [List.getElem_set]
  simp only [tab, List.getElem_map, List.getElem_range]
  by_cases h : a = i
  · rw [if_pos h, ← h]; simp [rowOf]
  · rw [if_neg h]
    have : ¬ (a : Int) = (i : Int) := by omega
    simp [rowOf, this]
theorem tab_nil (n : Nat) : tab n [] = List.replicate n [] := by
  apply List.ext_getElem (by simp [tab])
  intro i h1 h2
  simp [tab, rowOf]
theorem mk_nil {n : Nat} {lim : Nat} (h : n ≤ lim) : mk lim ([] : List Int) (n : Int) = some (tab n []) := by
  unfold mk
  rw [if_pos ⟨by omega, by omega⟩, tab_nil]; simp
def InR (n : Nat) (l : List (Int × Int)) : Prop := ∀ p ∈ l, 0 ≤ p.1 ∧ p.1 < (n : Int) ∧ 0 ≤ p.2 ∧ p.2 < (n : Int)
theorem take_snoc {α : Type} {l : List α} {j : Nat} (h : j < l.length) : l.take (j + 1) = l.take j ++ [l[j]] := by
  rw [List.take_add_one, List.getElem?_eq_getElem h]; rfl
theorem built_l {F n : Nat} {l : List (Int × Int)} (hl : ∀ p ∈ l, 0 ≤ p.1 ∧ p.1 < (n : Int)) (hm : l.length ≤ 1000000) : ∀ (k j : Nat), l.length < k + j → j ≤ l.length →
    M_graph_Built_l3 F l k ((j : Int), tab n (l.take j)) = some (tab n l)
  | 0, _, _, _ => by omega
  | k + 1, j, h, hj => by
    show M_graph_Built_b3 F l (M_graph_Built_l3 F l k) (j : Int) (tab n (l.take j)) = _
    unfold M_graph_Built_b3
    by_cases hlt : j < l.length
    · obtain ⟨h1, h2⟩ := hl _ (List.getElem_mem hlt)
      have hrec := built_l (F := F) hl hm k (j + 1) (by omega) (by omega)
      obtain ⟨a, ha⟩ := Int.eq_ofNat_of_zero_le h1
      have e : l[j] = ((a : Int), l[j].2) := by rw [← ha]
      rw [take_snoc hlt, e, tab_snoc] at hrec
      have hrl := rowOf_len (l.take j) (a : Int)
      rw [List.length_take] at hrl
      rw [if_pos (by simp; omega), idx_nat, List.getElem?_eq_getElem hlt]
      simp only [Option.bind_some]
      rw [ha, idx_nat, tab_get (by omega)]
      simp only [Option.bind_some]
      rw [app_eq (by simp; omega)]
      simp only [Option.bind_some, lett]
      rw [iadd1_n (by omega), Int.toNat_natCast]
      exact hrec
    · rw [if_neg (by simp; omega), List.take_of_length_le (by omega)]
      rfl
theorem built_eq {F n : Nat} {l : List (Int × Int)} (hl : ∀ p ∈ l, 0 ≤ p.1 ∧ p.1 < (n : Int)) (hm : l.length ≤ 1000000) (hF : l.length < F) (hn : n ≤ 1000000) : M_graph_Built F (n : Int) l = some (tab n l) := by
  unfold M_graph_Built
  rw [mk_nil (by omega)]
  simp only [Option.bind_some]
  have := built_l (F := F) hl hm F 0 (by omega) (by omega)
  rw [List.take_zero] at this
  exact this
def IsTab (n : Nat) (l : List (Int × Int)) (T : List (List Int)) : Prop :=
  T.length = n ∧ ∀ (i : Nat) (r : List Int), T[i]? = some r → r.Pairwise (· < ·) ∧ ∀ x, x ∈ r ↔ ((i : Int), x) ∈ l
theorem isTab_uniq {n : Nat} {l l' : List (Int × Int)} {T T' : List (List Int)} (h : IsTab n l T) (h' : IsTab n l' T') (hm : ∀ p, p ∈ l ↔ p ∈ l') : T = T' := by
  apply List.ext_getElem (by rw [h.1, h'.1])
  intro i h1 h2
  have a := h.2 i _ (List.getElem?_eq_getElem h1)
  have b := h'.2 i _ (List.getElem?_eq_getElem h2)
  exact pwx a.1 b.1 fun z => by rw [a.2, b.2, hm]
theorem mem_rowOf {l : List (Int × Int)} {i x : Int} : x ∈ rowOf l i ↔ (i, x) ∈ l := by
  unfold rowOf
  rw [List.mem_map]
  constructor
  · rintro ⟨p, hp, rfl⟩
    obtain ⟨h1, h2⟩ := List.mem_filter.1 hp
    have : p.1 = i := by simpa using h2
    rw [← this]; exact h1
  · intro h
    exact ⟨(i, x), List.mem_filter.2 ⟨h, by simp⟩, rfl⟩
theorem rowOf_pw {l : List (Int × Int)} {i : Int} (h : l.Pairwise lexLt) : (rowOf l i).Pairwise (· < ·) := by
  unfold rowOf
  rw [List.pairwise_map]
  refine (h.filter _).imp_of_mem fun {a b} ha hb hab => ?_
  have h1 := (List.mem_filter.1 ha).2
  have h2 := (List.mem_filter.1 hb).2
  simp only [decide_eq_true_eq] at h1 h2
  unfold lexLt at hab; omega
theorem tab_isTab {n : Nat} {l : List (Int × Int)} (h : l.Pairwise lexLt) : IsTab n l (tab n l) := by
  refine ⟨tab_len n l, fun i r hr => ?_⟩
  have hi : i < n := by have := (List.getElem?_eq_some_iff.1 hr).1; rwa [tab_len] at this
  rw [tab_get hi] at hr
  cases hr
  exact ⟨rowOf_pw h, fun x => mem_rowOf⟩
theorem isTab_congr {n : Nat} {l l' : List (Int × Int)} {T : List (List Int)} (h : IsTab n l T) (hm : ∀ p, p ∈ l ↔ p ∈ l') : IsTab n l' T :=
  ⟨h.1, fun i r hr => ⟨(h.2 i r hr).1, fun x => by rw [(h.2 i r hr).2, hm]⟩⟩
theorem mem_af : ∀ {g : List (List Int)} {k : Nat} {p : Int × Int}, p ∈ af k g ↔ ∃ i r, g[i]? = some r ∧ p.1 = ((k + i : Nat) : Int) ∧ p.2 ∈ r
  | [], k, p => by simp [af]
  | l :: g, k, p => by
    unfold af
    rw [List.mem_append, mem_af (g := g), List.mem_map]
    constructor
    · rintro (⟨x, hx, rfl⟩ | ⟨i, r, h1, h2, h3⟩)
      · exact ⟨0, l, by simp, by simp, hx⟩
      · exact ⟨i + 1, r, by simpa using h1, by omega, h3⟩
    · rintro ⟨i, r, h1, h2, h3⟩
      cases i with
      | zero =>
        simp only [List.getElem?_cons_zero, Option.some.injEq] at h1
        subst h1
        exact .inl ⟨p.2, h3, by rw [Nat.add_zero] at h2; rw [← h2]⟩
      | succ i =>
        refine .inr ⟨i, r, by simpa using h1, by omega, h3⟩
theorem af_pw : ∀ {g : List (List Int)} {k : Nat}, (∀ r ∈ g, r.Pairwise (· < ·)) → (af k g).Pairwise lexLt
  | [], k, _ => by simp [af]
  | l :: g, k, h => by
    unfold af
    rw [List.pairwise_append]
    refine ⟨?_, af_pw fun r hr => h r (by simp [hr]), ?_⟩
    · rw [List.pairwise_map]
      exact (h l (by simp)).imp fun h => .inr ⟨rfl, h⟩
    · intro a ha b hb
      obtain ⟨x, _, rfl⟩ := List.mem_map.1 ha
      obtain ⟨i, r, _, h2, _⟩ := mem_af.1 hb
      left
      show (k : Int) < b.1
      omega
theorem af_isTab {g : List (List Int)} (h : ∀ r ∈ g, r.Pairwise (· < ·)) : IsTab g.length (af 0 g) g := by
  refine ⟨rfl, fun i r hr => ⟨h r (List.mem_of_getElem? hr), fun x => ?_⟩⟩
  rw [mem_af]
  constructor
  · intro hx; exact ⟨i, r, hr, by simp, hx⟩
  · rintro ⟨i', r', h1, h2, h3⟩
    have : i' = i := by simp at h2; omega
    subst this
    rw [hr] at h1
    cases h1
    exact h3
theorem isTab_pw {n : Nat} {l : List (Int × Int)} {T : List (List Int)} (h : IsTab n l T) : ∀ r ∈ T, r.Pairwise (· < ·) := fun r hr => by
  obtain ⟨i, hi⟩ := List.getElem?_of_mem hr
  exact (h.2 i r hi).1
theorem isTab_mem {n : Nat} {l : List (Int × Int)} {T : List (List Int)} (h : IsTab n l T) (hl : InR n l) (p : Int × Int) : p ∈ af 0 T ↔ p ∈ l := by
  rw [mem_af]
  constructor
  · rintro ⟨i, r, h1, h2, h3⟩
    have := ((h.2 i r h1).2 p.2).1 h3
    rw [Nat.zero_add] at h2
    rw [← h2] at this
    exact this
  · intro hp
    obtain ⟨h1, h2, _, _⟩ := hl p hp
    obtain ⟨a, ha⟩ := Int.eq_ofNat_of_zero_le h1
    have hlt : a < T.length := by rw [h.1]; omega
    refine ⟨a, T[a], List.getElem?_eq_getElem hlt, by omega, ?_⟩
    rw [(h.2 a _ (List.getElem?_eq_getElem hlt)).2, ← ha]
    exact hp
theorem isTab_af {n : Nat} {l : List (Int × Int)} {T : List (List Int)} (h : IsTab n l T) (hl : InR n l) (hp : l.Pairwise lexLt) : af 0 T = l := by
  have h1 := af_pw (k := 0) (isTab_pw h)
  exact List.Perm.eq_of_pairwise (le := fun a b : Int × Int => ¬ lexLt b a) (fun a b _ _ h1 h2 => by rcases lexLt_tot a b with h | h | h <;> simp_all) (lex_weak h1) (lex_weak hp) ((List.perm_ext_iff_of_nodup (lex_nodup h1) (lex_nodup hp)).2 (isTab_mem h hl))
theorem isTab_perm {n : Nat} {l : List (Int × Int)} {T : List (List Int)} (h : IsTab n l T) (hl : InR n l) (hn : l.Nodup) : (af 0 T).Perm l :=
  (List.perm_ext_iff_of_nodup (lex_nodup (af_pw (isTab_pw h))) hn).2 (isTab_mem h hl)
theorem isTab_gr {n : Nat} {l : List (Int × Int)} {T : List (List Int)} (h : IsTab n l T) (hl : InR n l) (hn : n ≤ 100) (hm : (af 0 T).length ≤ 600) : Gr T := by
  refine ⟨by rw [h.1]; exact hn, fun r hr => ⟨isTab_pw h r hr, fun x hx => ?_⟩, by rw [← af_len 0]; exact hm⟩
  obtain ⟨i, hi⟩ := List.getElem?_of_mem hr
  have := hl _ (((h.2 i r hi).2 x).1 hx)
  rw [h.1]
  exact ⟨this.2.2.1, this.2.2.2⟩
theorem gr_in {g : List (List Int)} (h : Gr g) : InR g.length (af 0 g) := fun p hp => by
  obtain ⟨i, r, h1, h2, h3⟩ := mem_af.1 hp
  have h4 := (List.getElem?_eq_some_iff.1 h1).1
  have h5 := (h.2.1 r (List.mem_of_getElem? h1)).2 _ h3
  refine ⟨by omega, by omega, h5.1, h5.2⟩
theorem gr_pw {g : List (List Int)} (h : Gr g) : ∀ r ∈ g, r.Pairwise (· < ·) := fun r hr => (h.2.1 r hr).1
def ofE (n : Int) : List (Int × Int) → List (Int × Int) → Int
  | _, [] => 0
  | seen, p :: l => if p.1 < 0 ∨ n ≤ p.1 ∨ p.2 < 0 ∨ n ≤ p.2 then 3 else if p ∈ seen then 6 else ofE n (seen ++ [p]) l
theorem ofE_cons {n : Int} {seen : List (Int × Int)} {p : Int × Int} {l : List (Int × Int)} : ofE n seen (p :: l) = if p.1 < 0 ∨ n ≤ p.1 ∨ p.2 < 0 ∨ n ≤ p.2 then 3 else if p ∈ seen then 6 else ofE n (seen ++ [p]) l := rfl
theorem ofE_ok {n : Nat} : ∀ {l seen : List (Int × Int)}, ofE n seen l = 0 ↔ InR n l ∧ l.Nodup ∧ ∀ p ∈ l, p ∉ seen
  | [], seen => by simp [ofE, InR]
  | p :: l, seen => by
    unfold ofE
    by_cases h1 : p.1 < 0 ∨ (n : Int) ≤ p.1 ∨ p.2 < 0 ∨ (n : Int) ≤ p.2
    · rw [if_pos h1]
      refine ⟨fun h => by simp at h, fun h => ?_⟩
      have := h.1 p (by simp); omega
    · rw [if_neg h1]
      by_cases h2 : p ∈ seen
      · rw [if_pos h2]
        refine ⟨fun h => by simp at h, fun h => ?_⟩
        exact absurd h2 (h.2.2 p (by simp))
      · rw [if_neg h2, ofE_ok, List.nodup_cons]
        constructor
        · rintro ⟨a1, a2, a3⟩
          refine ⟨fun q hq => ?_, ⟨fun hp => a3 p hp (by simp), a2⟩, fun q hq => ?_⟩
          · rcases List.mem_cons.1 hq with rfl | hq
            · omega
            · exact a1 q hq
          · rcases List.mem_cons.1 hq with rfl | hq
            · exact h2
            · exact fun h => a3 q hq (by simp [h])
        · rintro ⟨a1, ⟨a2, a3⟩, a4⟩
          refine ⟨fun q hq => a1 q (by simp [hq]), a3, fun q hq h => ?_⟩
          rcases List.mem_append.1 h with h | h
          · exact a4 q (by simp [hq]) h
          · have : q = p := by simpa using h
            subst this; exact a2 hq
def ofM (n : Int) (l : List (Int × Int)) : List (List Int) × Int :=
  if n < 0 ∨ 100 < n then ([], 3) else if 600 < l.length then ([], 2) else if ofE n [] l ≠ 0 then ([], ofE n [] l) else (tab n.toNat (srtA l), 0)
theorem of_l {F n : Nat} {l : List (Int × Int)} (hF : 1000 ≤ F) (hn : n ≤ 100) (hl : l.length ≤ 600) : ∀ (k j : Nat), l.length < k + j → j ≤ l.length → (ofE n [] l = ofE n (l.take j) (l.drop j)) →
    M_graph_Of_l3 F (n : Int) l k ((j : Int), l.take j) = some (if ofE n [] l ≠ 0 then ([], ofE n [] l) else (tab n (srtA l), 0))
  | 0, _, _, _, _ => by omega
  | k + 1, j, h, hj, he => by
    show M_graph_Of_b3 F (n : Int) l (M_graph_Of_l3 F (n : Int) l k) (j : Int) (l.take j) = _
    unfold M_graph_Of_b3
    by_cases hlt : j < l.length
    · have hrec := of_l (F := F) hF hn hl k (j + 1) (by omega) (by omega)
      rw [if_pos (by simp; omega), idx_nat, List.getElem?_eq_getElem hlt]
      simp only [Option.bind_some]
      rw [List.drop_eq_getElem_cons hlt, ofE_cons] at he
      by_cases h1 : l[j].1 < 0 ∨ (n : Int) ≤ l[j].1 ∨ l[j].2 < 0 ∨ (n : Int) ≤ l[j].2
      · rw [if_pos h1] at he
        rw [if_pos (by simp only [Bool.or_eq_true, decide_eq_true_eq]; omega), if_pos (by rw [he]; decide), he]
      · rw [if_neg h1] at he
        rw [if_neg (by simp only [Bool.or_eq_true, decide_eq_true_eq]; omega)]
        by_cases h2 : l[j] ∈ l.take j
        · rw [if_pos h2] at he
          rw [if_pos (by simpa using h2), if_pos (by rw [he]; decide), he]
        · rw [if_neg h2, ← take_snoc hlt] at he
          rw [if_neg (by simpa using h2)]
          have : sins (l.take j) (l[j].1, l[j].2) = some (l.take (j + 1)) := by
            unfold sins
            rw [if_neg h2, take_snoc hlt]
          rw [this]
          simp only [Option.bind_some]
          rw [iadd1_n (by omega)]
          exact hrec he
    · rw [List.drop_eq_nil_of_le (by omega)] at he
      have he : ofE n [] l = 0 := he
      obtain ⟨a1, a2, _⟩ := ofE_ok.1 he
      rw [if_neg (by simp; omega), if_neg (by rw [he]; decide)]
      unfold M_graph_Of_j2 M_slices_Values_api_Arc_api_Arc
      simp only [Option.bind_some]
      rw [sortedFunc_eq (by omega) (by omega) (by omega)]
      simp only [Option.bind_some]
      rw [built_eq (fun p hp => by have := a1 p ((srtA_perm l).mem_iff.1 hp); omega) (by rw [srtA_len]; omega) (by rw [srtA_len]; omega) (by omega)]
      rfl
theorem of_eq {F : Nat} {n : Int} {l : List (Int × Int)} (hF : 1000 ≤ F) : M_graph_Of F n l = some (ofM n l) := by
  unfold M_graph_Of ofM
  by_cases h1 : n < 0 ∨ 100 < n
  · rw [if_pos (by simpa using h1), if_pos h1]
  · rw [if_neg (by simpa using h1), if_neg h1]
    by_cases h2 : 600 < l.length
    · rw [if_pos (by simp; omega), if_pos h2]
    · rw [if_neg (by simp; omega), if_neg h2]
      obtain ⟨m, rfl⟩ := Int.eq_ofNat_of_zero_le (show 0 ≤ n by omega)
      have := of_l (F := F) (n := m) (l := l) hF (by omega) (by omega) F 0 (by omega) (by omega) (by simp)
      rw [List.take_zero] at this
      exact this
theorem ofM_tab {n : Nat} {l : List (Int × Int)} (hn : n ≤ 100) (hl : l.length ≤ 600) (h1 : InR n l) (h2 : l.Nodup) : ofM n l = (tab n (srtA l), 0) := by
  have h3 : ofE n [] l = 0 := ofE_ok.2 ⟨h1, h2, fun p _ => by simp⟩
  unfold ofM
  rw [if_neg (by omega), if_neg (by omega), if_neg (by rw [h3]; decide), Int.toNat_natCast]
theorem srt_isTab {n : Nat} {l : List (Int × Int)} (h : l.Nodup) : IsTab n l (tab n (srtA l)) :=
  isTab_congr (tab_isTab (srtA_strict h)) fun _ => (srtA_perm l).mem_iff
theorem hasArc_l {F : Nat} {l : List (Int × Int)} {a b : Int} (hm : l.length ≤ 1000000) : ∀ (k j : Nat), l.length < k + j → j ≤ l.length → M_R_HasArc_l3 F l a b k (j : Int) = some (decide ((a, b) ∈ l.drop j))
  | 0, _, _, _ => by omega
  | k + 1, j, h, hj => by
    show M_R_HasArc_b3 F l a b (M_R_HasArc_l3 F l a b k) (j : Int) = _
    unfold M_R_HasArc_b3
    by_cases hlt : j < l.length
    · rw [if_pos (by simp; omega), idx_nat, List.getElem?_eq_getElem hlt, List.drop_eq_getElem_cons hlt]
      simp only [Option.bind_some]
      by_cases hc : l[j] = (a, b)
      · rw [if_pos (by simp [hc])]; simp [hc]
      · rw [if_neg (by simp only [Bool.and_eq_true, beq_iff_eq]; exact fun h => hc (Prod.ext h.1 h.2)), iadd1_n (by omega), hasArc_l hm k (j + 1) (by omega) (by omega)]
        have : ¬ (a, b) = l[j] := fun h => hc h.symm
        simp only [List.mem_cons, this, false_or]
    · rw [if_neg (by simp; omega), List.drop_eq_nil_of_le (by omega)]
      rfl
theorem hasArc_eq {F : Nat} {l : List (Int × Int)} {a b : Int} (hm : l.length ≤ 1000000) (hF : l.length < F) : M_R_HasArc F l a b = some (decide ((a, b) ∈ l)) := by
  unfold M_R_HasArc
  have := hasArc_l (F := F) (a := a) (b := b) hm F 0 (by omega) (by omega)
  rw [List.drop_zero] at this
  exact this
/-- Row by row: the first i rows are filled. -/
def tb (n : Nat) (f : Nat → List Int) (i : Nat) : List (List Int) := (List.range n).map fun a => if a < i then f a else []
theorem tb_len (n : Nat) (f : Nat → List Int) (i : Nat) : (tb n f i).length = n := by simp [tb]
theorem tb_get {n i : Nat} {f : Nat → List Int} (h : i < n) : (tb n f i)[i]? = some [] := by simp [tb, h]
theorem tb_set {n i : Nat} {f : Nat → List Int} : (tb n f i).set i (f i) = tb n f (i + 1) := by
  apply List.ext_getElem (by simp [tb])
  intro a h1 h2
  rw [List.getElem_set]
  simp only [tb, List.getElem_map, List.getElem_range]
  by_cases h : i = a
  · subst h; simp
  · rw [if_neg h]
    by_cases h3 : a < i
    · rw [if_pos h3, if_pos (by omega)]
    · rw [if_neg h3, if_neg (by omega)]
theorem tb_zero {n : Nat} {f : Nat → List Int} : tb n f 0 = tab n [] := by
  rw [tab_nil]
  apply List.ext_getElem (by simp [tb])
  intro a h1 h2
  simp [tb]
theorem tb_all {n : Nat} {f : Nat → List Int} : tb n f n = (List.range n).map f := by
  apply List.ext_getElem (by simp [tb])
  intro a h1 h2
  rw [tb_len] at h1
  simp [tb, h1]
def cols (l : List (Int × Int)) (i j : Nat) : List Int := ((List.range j).filter fun (c : Nat) => decide (((i : Int), (c : Int)) ∈ l)).map fun (c : Nat) => (c : Int)
theorem cols_len (l : List (Int × Int)) (i j : Nat) : (cols l i j).length ≤ j := by
  unfold cols
  rw [List.length_map]
  exact Nat.le_trans (List.length_filter_le _ _) (by simp)
theorem cols_succ (l : List (Int × Int)) (i j : Nat) : cols l i (j + 1) = if ((i : Int), (j : Int)) ∈ l then cols l i j ++ [(j : Int)] else cols l i j := by
  unfold cols
  rw [List.range_succ, List.filter_append]
  by_cases h : ((i : Int), (j : Int)) ∈ l
  · rw [if_pos h]; simp [h]
  · rw [if_neg h]; simp [h]
theorem cols_isTab {n : Nat} {l : List (Int × Int)} (hl : InR n l) : IsTab n l ((List.range n).map fun i => cols l i n) := by
  refine ⟨by simp, fun i r hr => ?_⟩
  have hi : i < n := by have := (List.getElem?_eq_some_iff.1 hr).1; simpa using this
  simp only [List.getElem?_map, List.getElem?_range hi, Option.map_some, Option.some.injEq] at hr
  subst hr
  unfold cols
  constructor
  · rw [List.pairwise_map]
    exact (List.pairwise_lt_range.filter _).imp fun h => by omega
  · intro x
    rw [List.mem_map]
    constructor
    · rintro ⟨c, hc, rfl⟩
      simpa using (List.mem_filter.1 hc).2
    · intro h
      have := hl _ h
      obtain ⟨c, hc⟩ := Int.eq_ofNat_of_zero_le this.2.2.1
      have hc : x = (c : Int) := hc
      refine ⟨c, List.mem_filter.2 ⟨by simp; omega, by simp [← hc, h]⟩, hc.symm⟩
theorem rof_in {F n i : Nat} {l : List (Int × Int)} {rec62 : (Int × List (List Int)) → Option (List (List Int) × Int)} (hF : l.length < F) (hm : l.length ≤ 1000000) (hn : n ≤ 1000000) (hi : i < n) : ∀ (k j : Nat) (T : List (List Int)), T.length = n → n < k + j → j ≤ n →
    M_R_GraphOf_l70 F rec62 (n : Int) l (i : Int) k ((j : Int), T.set i (cols l i j)) = M_R_GraphOf_j67 F rec62 (i : Int) (T.set i (cols l i n))
  | 0, _, _, _, _, _ => by omega
  | k + 1, j, T, hT, h, hj => by
    show M_R_GraphOf_b70 F rec62 (n : Int) l (i : Int) (M_R_GraphOf_l70 F rec62 (n : Int) l (i : Int) k) (j : Int) (T.set i (cols l i j)) = _
    unfold M_R_GraphOf_b70
    by_cases hlt : j < n
    · have hrec := rof_in (F := F) (l := l) (rec62 := rec62) hF hm hn hi k (j + 1) T hT (by omega) (by omega)
      rw [cols_succ] at hrec
      rw [if_pos (by simp; omega), hasArc_eq hm hF]
      simp only [Option.bind_some]
      by_cases hc : ((i : Int), (j : Int)) ∈ l
      · rw [if_pos hc] at hrec
        have := cols_len l i j
        rw [if_pos (by simpa using hc), idx_nat, List.getElem?_set_self (by omega)]
        simp only [Option.bind_some]
        rw [app_eq (by simp; omega)]
        simp only [Option.bind_some, lett]
        unfold M_R_GraphOf_j71
        rw [iadd1_n (by omega), Int.toNat_natCast, List.set_set]
        exact hrec
      · rw [if_neg hc] at hrec
        rw [if_neg (by simpa using hc)]
        unfold M_R_GraphOf_j71
        rw [iadd1_n (by omega)]
        exact hrec
    · rw [if_neg (by simp; omega), show j = n from by omega]
theorem rof_out {F n : Nat} {l : List (Int × Int)} (hF : l.length < F) (hF2 : n < F) (hm : l.length ≤ 1000000) (hn : n ≤ 1000000) : ∀ (k i : Nat), n < k + i → i ≤ n →
    M_R_GraphOf_l62 F (n : Int) l k ((i : Int), tb n (fun i => cols l i n) i) = some ((List.range n).map fun i => cols l i n, 0)
  | 0, _, _, _ => by omega
  | k + 1, i, h, hi => by
    show M_R_GraphOf_b62 F (n : Int) l (M_R_GraphOf_l62 F (n : Int) l k) (i : Int) (tb n (fun i => cols l i n) i) = _
    unfold M_R_GraphOf_b62
    by_cases hlt : i < n
    · have hin := rof_in (F := F) (l := l) (rec62 := M_R_GraphOf_l62 F (n : Int) l k) hF hm hn hlt F 0 (tb n (fun i => cols l i n) i) (tb_len _ _ _) (by omega) (by omega)
      have e0 : (tb n (fun i => cols l i n) i).set i (cols l i 0) = tb n (fun i => cols l i n) i := by
        have : (tb n (fun i => cols l i n) i)[i]? = some (cols l i 0) := tb_get hlt
        obtain ⟨a1, a2⟩ := List.getElem?_eq_some_iff.1 this
        rw [← a2, List.set_getElem_self]
      rw [e0, tb_set (f := fun i => cols l i n)] at hin
      rw [if_pos (by simp; omega)]
      refine hin.trans ?_
      unfold M_R_GraphOf_j67
      rw [iadd1_n (by omega)]
      exact rof_out hF hF2 hm hn k (i + 1) (by omega) (by omega)
    · rw [if_neg (by simp; omega), show i = n from by omega, tb_all]
      rfl
theorem rof_l {F n : Nat} {l : List (Int × Int)} (hF : 1000 ≤ F) (hn : n ≤ 100) (hl : l.length ≤ 600) : ∀ (k j : Nat), l.length < k + j → j ≤ l.length → (ofE n [] l = ofE n (l.take j) (l.drop j)) →
    M_R_GraphOf_l80 F (n : Int) l k (j : Int) = some (if ofE n [] l ≠ 0 then ([], ofE n [] l) else (tab n (srtA l), 0))
  | 0, _, _, _, _ => by omega
  | k + 1, j, h, hj, he => by
    show M_R_GraphOf_b80 F (n : Int) l (M_R_GraphOf_l80 F (n : Int) l k) (j : Int) = _
    unfold M_R_GraphOf_b80
    by_cases hlt : j < l.length
    · have hrec := rof_l (F := F) hF hn hl k (j + 1) (by omega) (by omega)
      rw [if_pos (by simp; omega), idx_nat, List.getElem?_eq_getElem hlt]
      simp only [Option.bind_some]
      unfold M_R_between
      rw [isub_i64 (by omega) (by omega)]
      simp only [Option.bind_some]
      rw [List.drop_eq_getElem_cons hlt, ofE_cons] at he
      by_cases h1 : l[j].1 < 0 ∨ (n : Int) ≤ l[j].1 ∨ l[j].2 < 0 ∨ (n : Int) ≤ l[j].2
      · rw [if_pos h1] at he
        rw [if_pos (show ofE (n : Int) [] l ≠ 0 by rw [he]; decide), he]
        by_cases h2 : l[j].1 < 0 ∨ (n : Int) ≤ l[j].1
        · rw [if_pos (by simp; omega)]; rfl
        · rw [if_neg (by simp; omega), show (decide (0 ≤ l[j].2) && decide (l[j].2 ≤ (n : Int) - 1)) = false from by simp; omega]
          rfl
      · rw [if_neg h1] at he
        rw [if_neg (by simp; omega), show (decide (0 ≤ l[j].2) && decide (l[j].2 ≤ (n : Int) - 1)) = true from by simp; omega]
        unfold M_R_GraphOf_j84
        have hs := sub_n (l := l) (i := 0) (j := j) (by omega) (by omega)
        rw [show ((0 : Nat) : Int) = 0 from rfl, List.drop_zero] at hs
        rw [if_neg (by simp), hs]
        simp only [Option.bind_some]
        rw [idx_nat, List.getElem?_eq_getElem hlt]
        simp only [Option.bind_some]
        rw [hasArc_eq (by rw [List.length_take]; omega) (by rw [List.length_take]; omega)]
        simp only [Option.bind_some]
        by_cases h2 : l[j] ∈ l.take j
        · rw [if_pos h2] at he
          rw [if_pos (by simpa using h2), if_pos (by rw [he]; decide), he]
        · rw [if_neg h2, ← take_snoc hlt] at he
          rw [if_neg (by simpa using h2), iadd1_n (by omega)]
          exact hrec he
    · rw [List.drop_eq_nil_of_le (by omega)] at he
      have he : ofE n [] l = 0 := he
      obtain ⟨a1, a2, _⟩ := ofE_ok.1 he
      rw [if_neg (by simp; omega), if_neg (by rw [he]; decide)]
      unfold M_R_GraphOf_j14
      rw [mk_nil (by omega)]
      simp only [Option.bind_some]
      have := rof_out (F := F) (n := n) (l := l) (by omega) (by omega) (by omega) (by omega) F 0 (by omega) (by omega)
      rw [tb_zero] at this
      refine this.trans ?_
      rw [isTab_uniq (cols_isTab a1) (srt_isTab a2) fun p => Iff.rfl]
theorem rof_eq {F : Nat} {n : Int} {l : List (Int × Int)} (hF : 1000 ≤ F) : M_R_GraphOf F n l = some (ofM n l) := by
  unfold M_R_GraphOf ofM M_R_between
  simp only [Option.bind_some]
  by_cases h1 : n < 0 ∨ 100 < n
  · rw [if_pos (by simp; omega), if_pos h1]
  · rw [if_neg (by simp; omega), if_neg h1]
    by_cases h2 : 600 < l.length
    · rw [if_pos (by simp; omega), if_pos h2]
    · rw [if_neg (by simp; omega), if_neg h2]
      obtain ⟨m, rfl⟩ := Int.eq_ofNat_of_zero_le (show 0 ≤ n by omega)
      exact rof_l (F := F) (n := m) (l := l) hF (by omega) (by omega) F 0 (by omega) (by omega) (by simp)
theorem rarcs_in {F i : Nat} {g : List (List Int)} {r : List Int} {rec18 : (List (Int × Int) × Int) → Option (List (Int × Int))} (hr : g[i]? = some r) (hm : r.length ≤ 1000) : ∀ (k j : Nat) (acc : List (Int × Int)), r.length < k + j → j ≤ r.length → acc.length ≤ 1000000 →
    M_R_GraphArcs_l21 F rec18 g (i : Int) k (acc ++ (r.take j).map (fun x => ((i : Int), x)), (j : Int)) = M_R_GraphArcs_j20 F rec18 (i : Int) (acc ++ r.map fun x => ((i : Int), x))
  | 0, _, _, _, _, _ => by omega
  | k + 1, j, acc, h, hj, hc => by
    show M_R_GraphArcs_b21 F rec18 g (i : Int) (M_R_GraphArcs_l21 F rec18 g (i : Int) k) (acc ++ (r.take j).map (fun x => ((i : Int), x))) (j : Int) = _
    unfold M_R_GraphArcs_b21
    rw [idx_nat, hr]
    simp only [Option.bind_some]
    by_cases hlt : j < r.length
    · have hrec := rarcs_in (F := F) (rec18 := rec18) hr hm k (j + 1) acc (by omega) (by omega) hc
      rw [take_snoc hlt, List.map_append, ← List.append_assoc] at hrec
      rw [if_pos (by simp; omega), idx_nat, List.getElem?_eq_getElem hlt]
      simp only [Option.bind_some]
      rw [app_eq (by simp; omega), iadd1_n (by omega)]
      exact hrec
    · rw [if_neg (by simp; omega), List.take_of_length_le (by omega)]
theorem rarcs_out {F : Nat} {g : List (List Int)} (hF : 1000 ≤ F) (hg : Gr g) : ∀ (k i : Nat) (acc : List (Int × Int)), g.length < k + i → i ≤ g.length → acc.length ≤ 1000 * i →
    M_R_GraphArcs_l18 F g k (acc, (i : Int)) = some (acc ++ af i (g.drop i))
  | 0, _, _, _, _, _ => by omega
  | k + 1, i, acc, h, hi, hc => by
    have h1 := hg.1
    show M_R_GraphArcs_b18 F g (M_R_GraphArcs_l18 F g k) acc (i : Int) = _
    unfold M_R_GraphArcs_b18
    by_cases hlt : i < g.length
    · have hrow := gr_row hg (List.getElem_mem hlt)
      have hin := rarcs_in (F := F) (rec18 := M_R_GraphArcs_l18 F g k) (List.getElem?_eq_getElem hlt) (by omega) F 0 acc (by omega) (by omega) (by omega)
      rw [List.take_zero, List.map_nil, List.append_nil] at hin
      rw [if_pos (by simp; omega), List.drop_eq_getElem_cons hlt]
      refine hin.trans ?_
      unfold M_R_GraphArcs_j20 af
      rw [iadd1_n (by omega), rarcs_out hF hg k (i + 1) _ (by omega) (by omega) (by simp; omega), List.append_assoc]
    · rw [if_neg (by simp; omega), List.drop_eq_nil_of_le (by omega)]
      unfold M_R_GraphArcs_j11 af
      rw [List.append_nil]
theorem rarcs_eq {F : Nat} {g : List (List Int)} (hF : 1000 ≤ F) (hg : Gr g) : M_R_GraphArcs F g = some (af 0 g) := by
  have h1 := hg.1
  have := rarcs_out hF hg F 0 [] (by omega) (by omega) (by simp)
  rw [List.drop_zero, List.nil_append] at this
  exact this
theorem arcs_eq {F : Nat} {g : List (List Int)} (hF : 1000 ≤ F) : M_graph_Arcs F g = some (if gchk g ≠ 0 then ([], gchk g) else (af 0 g, 0)) := by
  unfold M_graph_Arcs M_graph_All
  rw [graphCheck_eq hF]
  simp only [Option.bind_some]
  by_cases h : gchk g = 0
  · rw [if_neg (by simp [h]), if_neg (by simp [h]), collect_all hF (gchk_ok.1 h)]
    rfl
  · rw [if_pos (by simpa using h), if_pos h]
def sw (l : List (Int × Int)) : List (Int × Int) := l.map fun p => (p.2, p.1)
theorem sw_len (l : List (Int × Int)) : (sw l).length = l.length := by simp [sw]
theorem sw_mem {l : List (Int × Int)} {p : Int × Int} : p ∈ sw l ↔ (p.2, p.1) ∈ l := by
  unfold sw
  rw [List.mem_map]
  constructor
  · rintro ⟨q, hq, rfl⟩; exact hq
  · intro h; exact ⟨_, h, rfl⟩
theorem sw_in {n : Nat} {l : List (Int × Int)} (h : InR n l) : InR n (sw l) := fun p hp => by
  have := h _ (sw_mem.1 hp)
  exact ⟨this.2.2.1, this.2.2.2, this.1, this.2.1⟩
theorem sw_nodup {l : List (Int × Int)} (h : l.Nodup) : (sw l).Nodup := by
  have h : l.Pairwise fun a b => a ≠ b := h
  show (sw l).Pairwise fun a b => a ≠ b
  unfold sw
  rw [List.pairwise_map]
  exact h.imp fun {a b} hab he => hab (by cases a; cases b; simp_all)
theorem gr_len {g : List (List Int)} (h : Gr g) : (af 0 g).length ≤ 600 := by rw [af_len]; exact h.2.2
theorem gr_nodup {g : List (List Int)} (h : Gr g) : (af 0 g).Nodup := lex_nodup (af_pw (gr_pw h))
/-- The turned graph. -/
def tn (g : List (List Int)) : List (List Int) := tab g.length (srtA (sw (af 0 g)))
theorem tn_isTab {g : List (List Int)} (h : Gr g) : IsTab g.length (sw (af 0 g)) (tn g) := srt_isTab (sw_nodup (gr_nodup h))
theorem tn_gr {g : List (List Int)} (h : Gr g) : Gr (tn g) := by
  have h1 := isTab_perm (tn_isTab h) (sw_in (gr_in h)) (sw_nodup (gr_nodup h))
  refine isTab_gr (tn_isTab h) (sw_in (gr_in h)) h.1 ?_
  rw [h1.length_eq, sw_len]; exact gr_len h
theorem tn_af {g : List (List Int)} (h : Gr g) : (af 0 (tn g)).Perm (sw (af 0 g)) := isTab_perm (tn_isTab h) (sw_in (gr_in h)) (sw_nodup (gr_nodup h))
theorem tn_len (g : List (List Int)) : (tn g).length = g.length := tab_len _ _
theorem gr_self {g T : List (List Int)} (h : Gr g) {l : List (Int × Int)} (hT : IsTab g.length l T) (hm : ∀ p, p ∈ l ↔ p ∈ af 0 g) : T = g :=
  isTab_uniq hT (af_isTab (gr_pw h)) hm
theorem tn_tn {g : List (List Int)} (h : Gr g) : tn (tn g) = g := by
  have h1 := tn_isTab (tn_gr h)
  rw [tn_len] at h1
  refine gr_self h h1 fun p => ?_
  rw [sw_mem, (tn_af h).mem_iff, sw_mem]
theorem turn_eq {F : Nat} {g : List (List Int)} (hF : 1000 ≤ F) : M_graph_Turn F g = some (if gchk g ≠ 0 then ([], gchk g) else (tn g, 0)) := by
  unfold M_graph_Turn
  rw [graphCheck_eq hF]
  simp only [Option.bind_some]
  by_cases h : gchk g = 0
  · have hg := gchk_ok.1 h
    have h1 := hg.1
    have h2 := gr_len hg
    rw [if_neg (by simp [h]), if_neg (by simp [h]), turned_eq hF hg]
    simp only [Option.bind_some]
    show (M_slices_Values_api_Arc_api_Arc F (sw (af 0 g))).bind _ = _
    unfold M_slices_Values_api_Arc_api_Arc
    simp only [Option.bind_some]
    show (M_slices_SortedFunc_api_Arc_slices_Values_api_Arc_api_Arc_1_graph_order F (sw (af 0 g))).bind _ = _
    rw [sortedFunc_eq (by omega) (by rw [sw_len]; omega) (by rw [sw_len]; omega)]
    simp only [Option.bind_some]
    rw [built_eq (fun p hp => by have := sw_in (gr_in hg) p ((srtA_perm _).mem_iff.1 hp); omega) (by rw [srtA_len, sw_len]; omega) (by rw [srtA_len, sw_len]; omega) (by omega)]
    rfl
  · rw [if_pos (by simpa using h), if_pos h]
theorem sw_snoc (l : List (Int × Int)) (p : Int × Int) : sw (l ++ [p]) = sw l ++ [(p.2, p.1)] := by simp [sw]
theorem rturn_in {F n i : Nat} {g : List (List Int)} {r : List Int} {rec18 : (Int × List (List Int)) → Option (List (List Int))} (hr : g[i]? = some r) (hx : ∀ x ∈ r, 0 ≤ x ∧ x < (n : Int)) (hm : r.length ≤ 1000) : ∀ (k j : Nat) (acc : List (Int × Int)), r.length < k + j → j ≤ r.length → acc.length ≤ 1000000 →
    M_R_GraphTurn_l21 F rec18 g (i : Int) k ((j : Int), tab n (sw (acc ++ (r.take j).map fun x => ((i : Int), x)))) = M_R_GraphTurn_j20 F rec18 (i : Int) (tab n (sw (acc ++ r.map fun x => ((i : Int), x))))
  | 0, _, _, _, _, _ => by omega
  | k + 1, j, acc, h, hj, hc => by
    show M_R_GraphTurn_b21 F rec18 g (i : Int) (M_R_GraphTurn_l21 F rec18 g (i : Int) k) (j : Int) (tab n (sw (acc ++ (r.take j).map fun x => ((i : Int), x)))) = _
    unfold M_R_GraphTurn_b21
    rw [idx_nat, hr]
    simp only [Option.bind_some]
    by_cases hlt : j < r.length
    · have hrec := rturn_in (F := F) (n := n) (rec18 := rec18) hr hx hm k (j + 1) acc (by omega) (by omega) hc
      obtain ⟨h1, h2⟩ := hx _ (List.getElem_mem hlt)
      obtain ⟨a, ha⟩ := Int.eq_ofNat_of_zero_le h1
      rw [take_snoc hlt, List.map_append, ← List.append_assoc, List.map_cons, List.map_nil, sw_snoc] at hrec
      simp only [ha] at hrec
      rw [tab_snoc] at hrec
      have hrl := rowOf_len (sw (acc ++ (r.take j).map fun x => ((i : Int), x))) (a : Int)
      rw [sw_len, List.length_append, List.length_map, List.length_take] at hrl
      rw [if_pos (by simp; omega), idx_nat, List.getElem?_eq_getElem hlt]
      simp only [Option.bind_some]
      rw [ha, idx_nat, tab_get (by omega)]
      simp only [Option.bind_some]
      rw [app_eq (by rw [List.length_singleton]; omega), iadd1_n (by omega)]
      simp only [Option.bind_some, lett, Int.toNat_natCast]
      exact hrec
    · rw [if_neg (by simp; omega), List.take_of_length_le (by omega)]
theorem rturn_out {F : Nat} {g : List (List Int)} (hF : 1000 ≤ F) (hg : Gr g) : ∀ (k i : Nat) (acc : List (Int × Int)), g.length < k + i → i ≤ g.length → acc.length ≤ 1000 * i →
    M_R_GraphTurn_l18 F g k ((i : Int), tab g.length (sw acc)) = some (tab g.length (sw (acc ++ af i (g.drop i))))
  | 0, _, _, _, _, _ => by omega
  | k + 1, i, acc, h, hi, hc => by
    have h1 := hg.1
    show M_R_GraphTurn_b18 F g (M_R_GraphTurn_l18 F g k) (i : Int) (tab g.length (sw acc)) = _
    unfold M_R_GraphTurn_b18
    by_cases hlt : i < g.length
    · have hrow := gr_row hg (List.getElem_mem hlt)
      have hin := rturn_in (F := F) (n := g.length) (rec18 := M_R_GraphTurn_l18 F g k) (List.getElem?_eq_getElem hlt) (hg.2.1 _ (List.getElem_mem hlt)).2 (by omega) F 0 acc (by omega) (by omega) (by omega)
      rw [List.take_zero, List.map_nil, List.append_nil] at hin
      rw [if_pos (by simp; omega), List.drop_eq_getElem_cons hlt]
      refine hin.trans ?_
      unfold M_R_GraphTurn_j20 af
      rw [iadd1_n (by omega), rturn_out hF hg k (i + 1) _ (by omega) (by omega) (by simp; omega), List.append_assoc]
    · rw [if_neg (by simp; omega), List.drop_eq_nil_of_le (by omega)]
      unfold M_R_GraphTurn_j11 af
      rw [List.append_nil]
theorem swtab_isTab {g : List (List Int)} (h : Gr g) : IsTab g.length (sw (af 0 g)) (tab g.length (sw (af 0 g))) := by
  refine ⟨tab_len _ _, fun i r hr => ?_⟩
  have hi : i < g.length := by have := (List.getElem?_eq_some_iff.1 hr).1; rwa [tab_len] at this
  rw [tab_get hi] at hr
  cases hr
  refine ⟨?_, fun x => mem_rowOf⟩
  unfold rowOf sw
  rw [List.pairwise_map, List.filter_map, List.pairwise_map]
  refine ((af_pw (k := 0) (gr_pw h)).filter _).imp_of_mem fun {a b} ha hb hab => ?_
  have h1 := (List.mem_filter.1 ha).2
  have h2 := (List.mem_filter.1 hb).2
  simp only [Function.comp_apply, decide_eq_true_eq] at h1 h2
  unfold lexLt at hab
  show a.1 < b.1
  omega
theorem rturn_eq {F : Nat} {g : List (List Int)} (hF : 1000 ≤ F) (hg : Gr g) : M_R_GraphTurn F g = some (tn g) := by
  have h1 := hg.1
  unfold M_R_GraphTurn
  rw [mk_nil (by omega)]
  simp only [Option.bind_some]
  have := rturn_out hF hg F 0 [] (by omega) (by omega) (by simp)
  rw [List.drop_zero, List.nil_append] at this
  refine Eq.trans this ?_
  rw [isTab_uniq (swtab_isTab hg) (tn_isTab hg) fun p => Iff.rfl]
def ddA : Int × Int → List (Int × Int) → List (Int × Int)
  | _, [] => []
  | p, q :: l => if q = p then ddA p l else q :: ddA q l
def ddP : List (Int × Int) → List (Int × Int)
  | [] => []
  | p :: l => p :: ddA p l
theorem ddA_mem : ∀ {l : List (Int × Int)} {p x : Int × Int}, x ∈ p :: ddA p l ↔ x ∈ p :: l
  | [], p, x => by simp [ddA]
  | q :: l, p, x => by
    unfold ddA
    by_cases h : q = p
    · rw [if_pos h, ddA_mem, h]; simp
    · rw [if_neg h, List.mem_cons, ddA_mem, List.mem_cons (a := x) (b := p)]
theorem ddP_mem {l : List (Int × Int)} {x : Int × Int} : x ∈ ddP l ↔ x ∈ l := by
  cases l with
  | nil => simp [ddP]
  | cons p l => exact ddA_mem
theorem ddA_pw : ∀ {l : List (Int × Int)} {p : Int × Int}, (p :: l).Pairwise (fun a b => ¬ lexLt b a) → (p :: ddA p l).Pairwise lexLt
  | [], p, _ => by simp [ddA]
  | q :: l, p, h => by
    obtain ⟨h1, h2⟩ := List.pairwise_cons.1 h
    obtain ⟨h3, h4⟩ := List.pairwise_cons.1 h2
    unfold ddA
    by_cases hq : q = p
    · rw [if_pos hq]
      exact ddA_pw (List.pairwise_cons.2 ⟨fun z hz => h1 z (by simp [hz]), h4⟩)
    · rw [if_neg hq]
      have h5 := ddA_pw h2
      refine List.pairwise_cons.2 ⟨fun z hz => ?_, h5⟩
      have hpq : lexLt p q := by
        have := h1 q (by simp)
        rcases lexLt_tot p q with h | h | h
        · exact h
        · exact absurd h.symm hq
        · exact absurd h this
      rcases List.mem_cons.1 hz with rfl | hz
      · exact hpq
      · exact lexLt_tr _ _ _ hpq ((List.pairwise_cons.1 h5).1 z hz)
theorem ddP_pw {l : List (Int × Int)} (h : l.Pairwise fun a b => ¬ lexLt b a) : (ddP l).Pairwise lexLt := by
  cases l with
  | nil => simp [ddP]
  | cons p l => exact ddA_pw h
theorem ddA_len : ∀ (l : List (Int × Int)) (p : Int × Int), (ddA p l).length ≤ l.length
  | [], p => by simp [ddA]
  | q :: l, p => by
    unfold ddA
    split
    · have := ddA_len l p; simp; omega
    · have := ddA_len l q; simp; omega
theorem ddP_len (l : List (Int × Int)) : (ddP l).length ≤ l.length := by
  cases l with
  | nil => simp [ddP]
  | cons p l => have := ddA_len l p; simp [ddP]; omega
theorem drop_set_lt {α : Type} {xs : List α} {a b : Nat} {v : α} (h : a < b) : (xs.set a v).drop b = xs.drop b := by
  apply List.ext_getElem (by simp)
  intro i h1 h2
  simp only [List.getElem_drop]
  rw [List.getElem_set, if_neg (by omega)]
theorem compact_in {F K : Nat} {l : List (Int × Int)} (hm : l.length ≤ 1000000) (hK : K < l.length) : ∀ (n k2 k : Nat) (x : List (Int × Int)), l.length < n + (K + k2) → 1 ≤ k2 → K + k2 ≤ l.length → x.length = l.length → k < K + k2 → x.drop (K + k2 - 1) = l.drop (K + k2 - 1) → x.take k ++ ddA (l.getD (K + k2 - 1) (0, 0)) (l.drop (K + k2)) = ddP l →
    M_slices_Compact_api_Arc_api_Arc_l116 F l (K : Int) n (x, (k : Int), (k2 : Int)) = some (ddP l)
  | 0, _, _, _, _, _, _, _, _, _, _ => by omega
  | n + 1, k2, k, x, h, h1, h2, hx, hk, hd, he => by
    have hat : ∀ j, K + k2 - 1 ≤ j → x[j]? = l[j]? := fun j hj => by
      have := congrArg (fun z => z[j - (K + k2 - 1)]?) hd
      simp only [List.getElem?_drop] at this
      rwa [show K + k2 - 1 + (j - (K + k2 - 1)) = j from by omega] at this
    show M_slices_Compact_api_Arc_api_Arc_b116 F l (K : Int) (M_slices_Compact_api_Arc_api_Arc_l116 F l (K : Int) n) x (k : Int) (k2 : Int) = _
    unfold M_slices_Compact_api_Arc_api_Arc_b116
    rw [Int.toNat_natCast]
    by_cases hlt : K + k2 < l.length
    · have hlt1 : K + k2 - 1 < l.length := by omega
      rw [if_pos (by simp; omega)]
      simp only [chk]
      rw [if_pos (by simp [hx]), idx_nat, List.getElem?_drop, hat _ (by omega), List.getElem?_eq_getElem hlt]
      simp only [Option.bind_some]
      rw [if_pos (by simp [hx]), isub1_n h1 (by omega), idx_nat, List.getElem?_drop, show K + (k2 - 1) = K + k2 - 1 from by omega, hat _ (by omega), List.getElem?_eq_getElem hlt1]
      simp only [Option.bind_some]
      rw [List.drop_eq_getElem_cons hlt, show l.getD (K + k2 - 1) (0, 0) = l[K + k2 - 1] from by simp [List.getD, List.getElem?_eq_getElem hlt1]] at he
      unfold ddA at he
      have hgd : l.getD (K + (k2 + 1) - 1) (0, 0) = l[K + k2] := by rw [show K + (k2 + 1) - 1 = K + k2 from by omega]; simp [List.getD, List.getElem?_eq_getElem hlt]
      have hrec := compact_in (F := F) hm hK n (k2 + 1)
      by_cases hc : l[K + k2] = l[K + k2 - 1]
      · rw [if_pos hc] at he
        rw [if_neg (by simp [hc])]
        unfold M_slices_Compact_api_Arc_api_Arc_j117
        rw [iadd1_n (by omega)]
        refine hrec k x (by omega) (by omega) (by omega) hx (by omega) ?_ ?_
        · have := congrArg (fun z => z.drop 1) hd
          simp only [List.drop_drop] at this
          rwa [show K + k2 - 1 + 1 = K + (k2 + 1) - 1 from by omega] at this
        · rw [hgd, hc]; exact he
      · rw [if_neg hc] at he
        rw [if_pos (by simp only [Bool.not_eq_true', Bool.and_eq_false_iff, beq_eq_false_iff_ne, ne_eq]; by_cases h5 : l[K + k2].1 = l[K + k2 - 1].1
                       · exact .inr fun h6 => hc (Prod.ext h5 h6)
                       · exact .inl h5), if_pos (by simp [hx]), idx_nat, List.getElem?_eq_getElem (by omega)]
        simp only [Option.bind_some, lett, Int.toNat_natCast]
        unfold M_slices_Compact_api_Arc_api_Arc_j117
        rw [iadd1_n (by omega), iadd1_n (by omega)]
        refine hrec (k + 1) _ (by omega) (by omega) (by omega) (by simp [hx]) (by omega) ?_ ?_
        · rw [drop_set_lt (by omega)]
          have := congrArg (fun z => z.drop 1) hd
          simp only [List.drop_drop] at this
          rwa [show K + k2 - 1 + 1 = K + (k2 + 1) - 1 from by omega] at this
        · have hkl : k < x.length := by omega
          rw [hgd, take_snoc (by simp; omega), List.take_set_of_le (by omega), List.getElem_set_self, List.append_assoc]
          exact he
    · rw [if_neg (by simp; omega)]
      unfold M_slices_Compact_api_Arc_api_Arc_j113
      rw [List.drop_eq_nil_of_le (by omega)] at he
      simp only [ddA, List.append_nil] at he
      simp only [chk, lett]
      rw [if_pos (by simp; omega), Int.toNat_natCast]
      have := sub_n (l := x.take k ++ List.replicate (x.length - k) ((0 : Int), (0 : Int))) (i := 0) (j := k) (by omega) (by simp; omega)
      rw [show ((0 : Nat) : Int) = 0 from rfl, List.drop_zero, List.take_append_of_le_length (by simp; omega), List.take_take, Nat.min_self] at this
      rw [this, he]
      rfl
theorem compact_out {F : Nat} {l : List (Int × Int)} (hF : l.length < F) (hm : l.length ≤ 1000000) : ∀ (n k : Nat), l.length < n + k → 1 ≤ k → k ≤ l.length → l.take k ++ ddA (l.getD (k - 1) (0, 0)) (l.drop k) = ddP l →
    M_slices_Compact_api_Arc_api_Arc_l98 F l n (k : Int) = some (ddP l)
  | 0, _, _, _, _, _ => by omega
  | n + 1, k, h, h1, h2, he => by
    show M_slices_Compact_api_Arc_api_Arc_b98 F l (M_slices_Compact_api_Arc_api_Arc_l98 F l n) (k : Int) = _
    unfold M_slices_Compact_api_Arc_api_Arc_b98
    by_cases hlt : k < l.length
    · have hlt1 : k - 1 < l.length := by omega
      have hgd0 : l.getD (k - 1) (0, 0) = l[k - 1] := by simp [List.getD, List.getElem?_eq_getElem hlt1]
      have hgd : l.getD (k + 1 - 1) (0, 0) = l[k] := by rw [show k + 1 - 1 = k from by omega]; simp [List.getD, List.getElem?_eq_getElem hlt]
      rw [List.drop_eq_getElem_cons hlt, hgd0] at he
      unfold ddA at he
      rw [if_pos (by simp; omega), idx_nat, List.getElem?_eq_getElem hlt]
      simp only [Option.bind_some]
      rw [isub1_n h1 (by omega), idx_nat, List.getElem?_eq_getElem hlt1]
      simp only [Option.bind_some]
      by_cases hc : l[k] = l[k - 1]
      · rw [if_pos hc] at he
        rw [if_pos (by simp [hc])]
        simp only [chk]
        rw [if_pos (by simp; omega)]
        refine compact_in (F := F) hm hlt F 1 k l (by omega) (by omega) (by omega) rfl (by omega) rfl ?_
        rw [hgd, hc]; exact he
      · rw [if_neg hc] at he
        rw [if_neg (by simp only [Bool.and_eq_true, beq_iff_eq]; exact fun h => hc (Prod.ext h.1 h.2))]
        unfold M_slices_Compact_api_Arc_api_Arc_j108
        rw [iadd1_n (by omega)]
        refine compact_out hF hm n (k + 1) (by omega) (by omega) (by omega) ?_
        rw [hgd, take_snoc hlt, List.append_assoc]; exact he
    · rw [if_neg (by simp; omega)]
      unfold M_slices_Compact_api_Arc_api_Arc_j59
      rw [List.drop_eq_nil_of_le (by omega), List.take_of_length_le (by omega)] at he
      simp only [ddA, List.append_nil] at he
      exact congrArg some he
theorem compactA_eq {F : Nat} {l : List (Int × Int)} (hF : l.length < F) (hm : l.length ≤ 1000000) : M_slices_Compact_api_Arc_api_Arc F l = some (ddP l) := by
  unfold M_slices_Compact_api_Arc_api_Arc
  by_cases h : l.length < 2
  · rw [if_pos (by simp; omega)]
    match l, h with
    | [], _ => rfl
    | [p], _ => rfl
  · rw [if_neg (by simp; omega)]
    refine compact_out hF hm F 1 (by omega) (by omega) (by omega) ?_
    cases l with
    | nil => simp at h
    | cons p l => rfl
def bw (g : List (List Int)) : List (Int × Int) := af 0 g ++ sw (af 0 g)
def bd (g : List (List Int)) : List (Int × Int) := ddP (srtA (bw g))
def bt (g : List (List Int)) : List (List Int) := tab g.length (bd g)
theorem bw_mem {g : List (List Int)} {p : Int × Int} : p ∈ bw g ↔ p ∈ af 0 g ∨ (p.2, p.1) ∈ af 0 g := by
  unfold bw
  rw [List.mem_append, sw_mem]
theorem bd_mem {g : List (List Int)} {p : Int × Int} : p ∈ bd g ↔ p ∈ bw g := by
  unfold bd
  rw [ddP_mem, (srtA_perm _).mem_iff]
theorem bd_pw (g : List (List Int)) : (bd g).Pairwise lexLt := ddP_pw (srtA_pw _)
theorem bw_in {g : List (List Int)} (h : Gr g) : InR g.length (bw g) := fun p hp => by
  rcases List.mem_append.1 hp with hp | hp
  · exact gr_in h p hp
  · exact sw_in (gr_in h) p hp
theorem bd_in {g : List (List Int)} (h : Gr g) : InR g.length (bd g) := fun p hp => bw_in h p (bd_mem.1 hp)
theorem bw_len {g : List (List Int)} (h : Gr g) : (bw g).length ≤ 1200 := by
  have := gr_len h
  unfold bw
  rw [List.length_append, sw_len]; omega
theorem bd_len {g : List (List Int)} (h : Gr g) : (bd g).length ≤ 1200 := by
  have h1 := ddP_len (srtA (bw g))
  rw [srtA_len] at h1
  have := bw_len h
  unfold bd; omega
theorem bt_isTab0 (g : List (List Int)) : IsTab g.length (bd g) (bt g) := tab_isTab (bd_pw g)
theorem bt_isTab (g : List (List Int)) : IsTab g.length (bw g) (bt g) := isTab_congr (bt_isTab0 g) fun _ => bd_mem
theorem bt_af {g : List (List Int)} (h : Gr g) : af 0 (bt g) = bd g := isTab_af (bt_isTab0 g) (bd_in h) (bd_pw g)
theorem bt_gr {g : List (List Int)} (h : Gr g) (hl : (bd g).length ≤ 600) : Gr (bt g) := isTab_gr (bt_isTab0 g) (bd_in h) h.1 (by rw [bt_af h]; exact hl)
theorem bt_len (g : List (List Int)) : (bt g).length = g.length := tab_len _ _
def bothM (g : List (List Int)) : List (List Int) × Int := if 600 < (bd g).length then ([], 2) else (bt g, 0)
theorem both_eq {F : Nat} {g : List (List Int)} (hF : 2000 ≤ F) : M_graph_Both F g = some (if gchk g ≠ 0 then ([], gchk g) else bothM g) := by
  unfold M_graph_Both M_graph_All
  rw [graphCheck_eq (by omega)]
  simp only [Option.bind_some]
  by_cases h : gchk g = 0
  · have hg := gchk_ok.1 h
    have h1 := hg.1
    have h2 := gr_len hg
    have h3 := bw_len hg
    have h4 := bd_len hg
    rw [if_neg (by simp [h]), if_neg (by simp [h]), collect_all (by omega) hg]
    simp only [Option.bind_some]
    rw [turned_eq (by omega) hg]
    simp only [Option.bind_some]
    show (app _ (af 0 g) (sw (af 0 g))).bind _ = _
    rw [app_eq (by rw [sw_len]; omega)]
    simp only [Option.bind_some]
    show (M_slices_SortFunc_api_Arc_api_Arc_graph_order F (bw g)).bind _ = _
    rw [sortFunc_eq (by omega) (by omega)]
    simp only [Option.bind_some, chk]
    rw [if_pos (by rw [srtA_len]; simp [bw]), compactA_eq (by rw [srtA_len]; omega) (by rw [srtA_len]; omega)]
    simp only [Option.bind_some]
    show (if decide (600 < ((bd g).length : Int)) then _ else (M_graph_Built F (g.length : Int) (bd g)).bind _) = _
    unfold bothM
    by_cases h5 : 600 < (bd g).length
    · rw [if_pos (by simp; omega), if_pos h5]
    · rw [if_neg (by simp; omega), if_neg h5, built_eq (fun p hp => by have := bd_in hg p hp; omega) (by omega) (by omega) (by omega)]
      rfl
  · rw [if_pos (by simpa using h), if_pos h]
theorem leads_eq {F i : Nat} {g : List (List Int)} (hF : 1000 ≤ F) (hg : Gr g) (hi : i < g.length) {v : Int} : M_R_Leads F g (i : Int) v = some (decide (((i : Int), v) ∈ af 0 g)) := by
  unfold M_R_Leads
  have hr := gr_row hg (List.getElem_mem hi)
  rw [idx_nat, List.getElem?_eq_getElem hi]
  simp only [Option.bind_some]
  rw [hasInt_eq (by omega) (by omega)]
  simp only [Option.bind_some]
  rw [decide_eq_decide.2 (((af_isTab (gr_pw hg)).2 i _ (List.getElem?_eq_getElem hi)).2 v)]
def csum (l : List (Int × Int)) (n : Nat) : Nat → Nat
  | 0 => 0
  | i + 1 => csum l n i + (cols l i n).length
theorem csum_le (l : List (Int × Int)) (n : Nat) : ∀ i, csum l n i ≤ n * i
  | 0 => by simp [csum]
  | i + 1 => by
    have := csum_le l n i
    have := cols_len l i n
    unfold csum
    rw [Nat.mul_succ]; omega
theorem rboth_in {F i : Nat} {g : List (List Int)} {rec108 : (Int × Int × List (List Int)) → Option (List (List Int) × Int)} (hF : 1000 ≤ F) (hg : Gr g) (hi : i < g.length) : ∀ (k j m : Nat) (T : List (List Int)), T.length = g.length → g.length < k + j → j ≤ g.length → m ≤ 1000000 →
    M_R_GraphBoth_l126 F rec108 g (i : Int) k (((m + (cols (bw g) i j).length : Nat) : Int), (j : Int), T.set i (cols (bw g) i j)) = M_R_GraphBoth_j119 F rec108 (i : Int) ((m + (cols (bw g) i g.length).length : Nat) : Int) (T.set i (cols (bw g) i g.length))
  | 0, _, _, _, _, _, _, _ => by omega
  | k + 1, j, m, T, hT, h, hj, hm => by
    have h1 := hg.1
    have hcl := cols_len (bw g) i j
    show M_R_GraphBoth_b126 F rec108 g (i : Int) (M_R_GraphBoth_l126 F rec108 g (i : Int) k) ((m + (cols (bw g) i j).length : Nat) : Int) (j : Int) (T.set i (cols (bw g) i j)) = _
    unfold M_R_GraphBoth_b126
    by_cases hlt : j < g.length
    · have hrec := rboth_in (F := F) (rec108 := rec108) hF hg hi k (j + 1) m T hT (by omega) (by omega) hm
      rw [cols_succ] at hrec
      rw [if_pos (by simp; omega), leads_eq hF hg hi]
      simp only [Option.bind_some]
      have key : M_R_GraphBoth_j129 F (M_R_GraphBoth_l126 F rec108 g (i : Int) k) (i : Int) ((m + (cols (bw g) i j).length : Nat) : Int) (j : Int) (T.set i (cols (bw g) i j)) (decide (((i : Int), (j : Int)) ∈ bw g)) = M_R_GraphBoth_j119 F rec108 (i : Int) ((m + (cols (bw g) i g.length).length : Nat) : Int) (T.set i (cols (bw g) i g.length)) := by
        unfold M_R_GraphBoth_j129 M_R_GraphBoth_j128
        by_cases hc : ((i : Int), (j : Int)) ∈ bw g
        · rw [if_pos hc, List.length_append] at hrec
          rw [if_pos (by simpa using hc), idx_nat, List.getElem?_set_self (by omega)]
          simp only [Option.bind_some]
          rw [app_eq (by rw [List.length_singleton]; omega)]
          simp only [Option.bind_some, lett]
          rw [iadd1_n (by omega), iadd1_n (by omega), Int.toNat_natCast, List.set_set]
          exact hrec
        · rw [if_neg hc] at hrec
          rw [if_neg (by simpa using hc), iadd1_n (by omega)]
          exact hrec
      by_cases hc : ((i : Int), (j : Int)) ∈ af 0 g
      · rw [if_pos (by simpa using hc)]
        rw [decide_eq_true (bw_mem.2 (.inl hc))] at key
        exact key
      · rw [if_neg (by simpa using hc), leads_eq hF hg hlt]
        simp only [Option.bind_some]
        have : decide (((i : Int), (j : Int)) ∈ bw g) = decide (((j : Int), (i : Int)) ∈ af 0 g) := decide_eq_decide.2 (by rw [bw_mem]; simp [hc])
        rw [this] at key
        exact key
    · rw [if_neg (by simp; omega), show j = g.length from by omega]
theorem rboth_out {F : Nat} {g : List (List Int)} (hF : 1000 ≤ F) (hg : Gr g) : ∀ (k i : Nat), g.length < k + i → i ≤ g.length →
    M_R_GraphBoth_l108 F g k ((csum (bw g) g.length i : Int), (i : Int), tb g.length (fun i => cols (bw g) i g.length) i) = some (if 600 < csum (bw g) g.length g.length then ([], 2) else ((List.range g.length).map fun i => cols (bw g) i g.length, 0))
  | 0, _, _, _ => by omega
  | k + 1, i, h, hi => by
    have h1 := hg.1
    show M_R_GraphBoth_b108 F g (M_R_GraphBoth_l108 F g k) (csum (bw g) g.length i : Int) (i : Int) (tb g.length (fun i => cols (bw g) i g.length) i) = _
    unfold M_R_GraphBoth_b108
    by_cases hlt : i < g.length
    · have hcs := csum_le (bw g) g.length i
      have hb : g.length * i ≤ 100 * 100 := Nat.mul_le_mul h1 (by omega)
      have hin := rboth_in (F := F) (rec108 := M_R_GraphBoth_l108 F g k) hF hg hlt F 0 (csum (bw g) g.length i) (tb g.length (fun i => cols (bw g) i g.length) i) (tb_len _ _ _) (by omega) (by omega) (by omega)
      have e0 : (tb g.length (fun i => cols (bw g) i g.length) i).set i (cols (bw g) i 0) = tb g.length (fun i => cols (bw g) i g.length) i := by
        have : (tb g.length (fun i => cols (bw g) i g.length) i)[i]? = some (cols (bw g) i 0) := tb_get hlt
        obtain ⟨a1, a2⟩ := List.getElem?_eq_some_iff.1 this
        rw [← a2, List.set_getElem_self]
      rw [e0, tb_set (f := fun i => cols (bw g) i g.length)] at hin
      rw [if_pos (by simp; omega)]
      refine hin.trans ?_
      unfold M_R_GraphBoth_j119
      rw [iadd1_n (by omega)]
      exact rboth_out hF hg k (i + 1) (by omega) (by omega)
    · rw [if_neg (by simp; omega), show i = g.length from by omega, tb_all]
      unfold M_R_GraphBoth_j65
      by_cases h6 : 600 < csum (bw g) g.length g.length
      · rw [if_pos (by simp; omega), if_pos h6]
      · rw [if_neg (by simp; omega), if_neg h6]
theorem gtot_app : ∀ (A B : List (List Int)), gtot (A ++ B) = gtot A + gtot B
  | [], B => by simp [gtot]
  | r :: A, B => by simp [gtot, gtot_app A B]; omega
theorem csum_tot (l : List (Int × Int)) (n : Nat) : ∀ i, gtot ((List.range i).map fun a => cols l a n) = csum l n i
  | 0 => rfl
  | i + 1 => by rw [List.range_succ, List.map_append, gtot_app, csum_tot l n i]; simp [gtot, csum]
theorem rboth_eq {F : Nat} {g : List (List Int)} (hF : 1000 ≤ F) (hg : Gr g) : M_R_GraphBoth F g = some (bothM g) := by
  have h1 := hg.1
  unfold M_R_GraphBoth
  rw [mk_nil (by omega)]
  simp only [Option.bind_some]
  have := rboth_out hF hg F 0 (by omega) (by omega)
  rw [tb_zero] at this
  refine Eq.trans this ?_
  rw [← csum_tot, isTab_uniq (cols_isTab (bw_in hg)) (bt_isTab g) fun p => Iff.rfl, ← af_len 0, bt_af hg]
  rfl
def lens (g : List (List Int)) : List Int := g.map fun r => (r.length : Int)
def deg (n : Nat) (l : List (Int × Int)) : List Int := lens (tab n l)
theorem deg_get {n i : Nat} {l : List (Int × Int)} (h : i < n) : (deg n l)[i]? = some ((rowOf l i).length : Int) := by
  unfold deg lens
  rw [List.getElem?_map, tab_get h]; rfl
theorem deg_snoc {n a : Nat} {l : List (Int × Int)} {b : Int} : deg n (l ++ [((a : Int), b)]) = (deg n l).set a (((rowOf l a).length + 1 : Nat) : Int) := by
  unfold deg lens
  rw [tab_snoc, List.map_set, List.length_append, List.length_singleton]
theorem deg_perm {n : Nat} {l l' : List (Int × Int)} (h : l.Perm l') : deg n l = deg n l' := by
  unfold deg lens tab
  rw [List.map_map, List.map_map]
  refine List.map_congr_left fun i _ => ?_
  show ((rowOf l i).length : Int) = ((rowOf l' i).length : Int)
  unfold rowOf
  rw [List.length_map, List.length_map, (h.filter _).length_eq]
theorem deg_isTab {n : Nat} {l : List (Int × Int)} {T : List (List Int)} (h : IsTab n l T) (hn : l.Nodup) : deg n l = lens T := by
  rw [isTab_uniq h (srt_isTab hn) fun p => Iff.rfl, ← deg_perm (srtA_perm l)]
  rfl
theorem degrees_fold {F n : Nat} {yy : (List Int × List Int) → (Int × Int) → Option ((List Int × List Int) ⊕ Empty)} (hy : ∀ s p, yy s p = M_graph_Degrees_r3 F s.1 s.2 p.1 p.2) : ∀ (A acc : List (Int × Int)), InR n A → acc.length + A.length ≤ 1000000 →
    runFold yy A (deg n (sw acc), deg n acc) = some (.inl (deg n (sw (acc ++ A)), deg n (acc ++ A)))
  | [], acc, _, _ => by rw [List.append_nil]; rfl
  | p :: A, acc, h, hm => by
    rw [List.length_cons] at hm
    obtain ⟨h1, h2, h3, h4⟩ := h p (by simp)
    have hrec := degrees_fold hy A (acc ++ [p]) (fun q hq => h q (by simp [hq])) (by simp; omega)
    rw [List.append_assoc] at hrec
    show (yy _ p).bind _ = _
    rw [hy]
    unfold M_graph_Degrees_r3
    obtain ⟨a, ha⟩ := Int.eq_ofNat_of_zero_le h1
    obtain ⟨b, hb⟩ := Int.eq_ofNat_of_zero_le h3
    have e : p = ((a : Int), (b : Int)) := Prod.ext ha hb
    have hl1 := rowOf_len acc (a : Int)
    have hl2 := rowOf_len (sw acc) (b : Int)
    rw [sw_len] at hl2
    subst e
    simp only at *
    rw [idx_nat, deg_get (by omega)]
    simp only [Option.bind_some, lett]
    rw [idx_nat, deg_get (by omega)]
    simp only [Option.bind_some]
    rw [iadd1_n (by omega), iadd1_n (by omega), Int.toNat_natCast, Int.toNat_natCast, ← deg_snoc (b := (a : Int)), ← deg_snoc (b := (b : Int))]
    rw [sw_snoc] at hrec
    simp only [Sum.elim_inl]
    exact hrec
theorem lens_tab_nil (n : Nat) : deg n [] = List.replicate n 0 := by
  unfold deg lens
  rw [tab_nil, List.map_replicate]; rfl
def degM (g : List (List Int)) : List Int × List Int × Int := if gchk g ≠ 0 then ([], [], gchk g) else (lens g, lens (tn g), 0)
theorem degrees_eq {F : Nat} {g : List (List Int)} (hF : 1000 ≤ F) : M_graph_Degrees F g = some (degM g) := by
  unfold M_graph_Degrees degM
  rw [graphCheck_eq hF]
  simp only [Option.bind_some]
  by_cases h : gchk g = 0
  · have hg := gchk_ok.1 h
    have h1 := hg.1
    have h2 := gr_len hg
    rw [if_neg (by simp [h]), if_neg (by simp [h])]
    have hmk : mk 17592186044416 (0 : Int) (g.length : Int) = some (deg g.length []) := by
      unfold mk
      rw [if_pos ⟨by omega, by omega⟩, lens_tab_nil, Int.toNat_natCast]
    rw [hmk]
    simp only [Option.bind_some]
    unfold M_graph_Degrees_j1 M_graph_All
    simp only [Option.bind_some]
    rw [all_eq (by omega) (by omega) (fun l hl => by have := gr_row hg hl; omega)]
    have := degrees_fold (F := F) (n := g.length) (yy := fun x x_1 => M_graph_Degrees_r3 F x.1 x.2 x_1.1 x_1.2) (fun _ _ => rfl) (af 0 g) [] (gr_in hg) (by simp; omega)
    rw [List.nil_append] at this
    refine (congrArg (fun z => Option.bind z _) this).trans ?_
    simp only [Option.bind_some, Sum.elim_inl]
    rw [deg_isTab (af_isTab (gr_pw hg)) (gr_nodup hg), deg_isTab (tn_isTab hg) (sw_nodup (gr_nodup hg))]
  · rw [if_pos (by simpa using h), if_pos h]
theorem same_arcs_l {F : Nat} {xs : List (Int × Int)} (hm : xs.length ≤ 1000000) : ∀ (k i : Nat), xs.length < k + i → i ≤ xs.length → M_R_SameArcs_l3 F xs xs k (i : Int) = some true
  | 0, _, _, _ => by omega
  | k + 1, i, h, hi => by
    show M_R_SameArcs_b3 F xs xs (M_R_SameArcs_l3 F xs xs k) (i : Int) = _
    unfold M_R_SameArcs_b3
    by_cases hlt : i < xs.length
    · rw [if_pos (by simp; omega), idx_nat, List.getElem?_eq_getElem hlt]
      simp only [Option.bind_some]
      rw [if_neg (by simp), iadd1_n (by omega)]
      exact same_arcs_l hm k (i + 1) (by omega) (by omega)
    · rw [if_neg (by simp; omega)]
      rfl
theorem same_arcs {F : Nat} {xs : List (Int × Int)} (hF : xs.length < F) (hm : xs.length ≤ 1000000) : M_R_SameArcs F xs xs = some true := by
  unfold M_R_SameArcs
  rw [if_neg (by simp)]
  exact same_arcs_l hm F 0 (by omega) (by omega)
theorem same_lists_l {F : Nat} {xs : List (List Int)} (hm : xs.length ≤ 1000000) (hr : ∀ r ∈ xs, r.length ≤ 1000000 ∧ r.length < F) : ∀ (k i : Nat), xs.length < k + i → i ≤ xs.length → M_R_SameLists_l3 F xs xs k (i : Int) = some true
  | 0, _, _, _ => by omega
  | k + 1, i, h, hi => by
    show M_R_SameLists_b3 F xs xs (M_R_SameLists_l3 F xs xs k) (i : Int) = _
    unfold M_R_SameLists_b3
    by_cases hlt : i < xs.length
    · have := hr _ (List.getElem_mem hlt)
      rw [if_pos (by simp; omega), idx_nat, List.getElem?_eq_getElem hlt]
      simp only [Option.bind_some]
      rw [same_intsR this.2 this.1]
      simp only [Option.bind_some]
      rw [if_neg (by simp), iadd1_n (by omega)]
      exact same_lists_l hm hr k (i + 1) (by omega) (by omega)
    · rw [if_neg (by simp; omega)]
      rfl
theorem same_lists {F : Nat} {xs : List (List Int)} (hF : xs.length < F) (hm : xs.length ≤ 1000000) (hr : ∀ r ∈ xs, r.length ≤ 1000000 ∧ r.length < F) : M_R_SameLists F xs xs = some true := by
  unfold M_R_SameLists
  rw [if_neg (by simp)]
  exact same_lists_l hm hr F 0 (by omega) (by omega)
/-- A table of no more than 100 rows of no more than 600. -/
def Sm (g : List (List Int)) : Prop := g.length ≤ 100 ∧ ∀ r ∈ g, r.length ≤ 1200
theorem same_graph {F : Nat} {g : List (List Int)} (hF : 2000 ≤ F) (h : Sm g) : M_R_SameGraph F g g = some true := by
  unfold M_R_SameGraph
  have := h.1
  rw [same_lists (by omega) (by omega) (fun r hr => by have := h.2 r hr; omega)]
  rfl
theorem sm_nil : Sm [] := ⟨by simp, fun r hr => by simp at hr⟩
theorem sm_gr {g : List (List Int)} (h : Gr g) : Sm g := ⟨h.1, fun r hr => by have := gr_row h hr; omega⟩
theorem sm_tab {n : Nat} {l : List (Int × Int)} (hn : n ≤ 100) (hl : l.length ≤ 1200) : Sm (tab n l) := ⟨by rw [tab_len]; exact hn, fun r hr => by
  obtain ⟨i, hi, rfl⟩ := List.mem_map.1 hr
  have := rowOf_len l (i : Int)
  omega⟩
theorem sm_of {n : Int} {l : List (Int × Int)} : Sm (ofM n l).1 := by
  unfold ofM
  split
  · exact sm_nil
  · split
    · exact sm_nil
    · split
      · exact sm_nil
      · exact sm_tab (by omega) (by rw [srtA_len]; omega)
theorem sm_both {g : List (List Int)} (h : Gr g) : Sm (bothM g).1 := by
  unfold bothM
  split
  · exact sm_nil
  · exact sm_tab h.1 (bd_len h)
theorem gbg_eq {F : Nat} (hF : 2000 ≤ F) : M_L_graphBegun F = some true := by
  have s1 : srtA [(2, 0), (0, 1), (0, 0)] = [(0, 0), (0, 1), (2, 0)] := srtA_eq (by decide) (by decide)
  have o1 : ofM 3 [(2, 0), (0, 1), (0, 0)] = ([[0, 1], [], [0]], 0) := by
    rw [show (3 : Int) = ((3 : Nat) : Int) from rfl, ofM_tab (by decide) (by decide) (by unfold InR; decide) (by decide), s1]; rfl
  have c1 : gchk [[0, 1], [], [0]] = 0 := by decide
  have hg := gchk_ok.1 c1
  have a1 : af 0 [[0, 1], [], [0]] = [(0, 0), (0, 1), (2, 0)] := rfl
  have t1 : tn [[0, 1], [], [0]] = [[0, 2], [0], []] := by
    unfold tn
    rw [a1, show sw [(0, 0), (0, 1), (2, 0)] = [(0, 0), (1, 0), (0, 2)] from rfl, srtA_eq (m := [(0, 0), (0, 2), (1, 0)]) (by decide) (by decide)]; rfl
  have b0 : bd [[0, 1], [], [0]] = [(0, 0), (0, 1), (0, 2), (1, 0), (2, 0)] := by
    unfold bd bw
    rw [a1, show sw [(0, 0), (0, 1), (2, 0)] = [(0, 0), (1, 0), (0, 2)] from rfl, srtA_eq (m := [(0, 0), (0, 0), (0, 1), (0, 2), (1, 0), (2, 0)]) (by decide) (by decide)]; rfl
  have b1 : bothM [[0, 1], [], [0]] = ([[0, 1, 2], [0], [0]], 0) := by
    unfold bothM bt
    rw [b0]; rfl
  have d1 : degM [[0, 1], [], [0]] = ([2, 0, 1], [2, 1, 0], 0) := by
    unfold degM
    rw [c1, t1]; rfl
  have o2 : ofM 1 [(0, 0), (0, 0)] = ([], 6) := by decide
  unfold M_L_graphBegun
  rw [of_eq (by omega), o1]
  simp only [Option.bind_some]
  rw [arcs_eq (by omega), c1, if_neg (by decide), a1]
  simp only [Option.bind_some]
  rw [turn_eq (by omega), c1, if_neg (by decide), t1]
  simp only [Option.bind_some]
  rw [both_eq hF, c1, if_neg (by decide), b1]
  simp only [Option.bind_some]
  rw [degrees_eq (by omega), d1]
  simp only [Option.bind_some]
  rw [of_eq (by omega), o2]
  simp only [Option.bind_some]
  have sl : ∀ g : List (List Int), g.length ≤ 3 → (∀ r ∈ g, r.length ≤ 3) → M_R_SameLists F g g = some true := fun g h1 h2 => same_lists (by omega) (by omega) (fun r hr => by have := h2 r hr; omega)
  rw [sl _ (by decide) (by decide)]
  simp only [Option.bind_some]
  rw [if_pos (by decide), same_arcs (by simp; omega) (by decide)]
  simp only [Option.bind_some]
  unfold M_L_graphBegun_j1
  rw [if_pos (by decide), sl _ (by decide) (by decide)]
  simp only [Option.bind_some]
  unfold M_L_graphBegun_j2
  rw [if_pos (by decide), sl _ (by decide) (by decide)]
  simp only [Option.bind_some]
  unfold M_L_graphBegun_j3
  rw [if_pos (by decide), same_intsR (by simp; omega) (by decide)]
  simp only [Option.bind_some]
  unfold M_L_graphBegun_j4
  rw [if_pos (by decide), same_intsR (by simp; omega) (by decide)]
  simp only [Option.bind_some]
  unfold M_L_graphBegun_j5
  rw [if_pos (by decide), graphCheck_eq (by omega)]
  simp only [Option.bind_some]
  rfl
theorem lens_snoc {g : List (List Int)} {j : Nat} (h : j < g.length) : lens (g.take (j + 1)) = lens (g.take j) ++ [(g[j].length : Int)] := by
  rw [take_snoc h]; simp only [lens, List.map_append, List.map_cons, List.map_nil]
theorem gt_tail {F : Nat} {g : List (List Int)} {A : List (Int × Int) × Int} {O : List (List Int) × Int} {T B : List (List Int) × Int} {D : List Int × List Int × Int} {c : Int} (hF : 2000 ≤ F)
    (hc : gchk g = c) (hA1 : A.1.length ≤ 1000) (hA2 : A.2 = c) (hO : Sm O.1) (hT : Sm T.1) (hT2 : T.2 = c) (hB : Sm B.1) (hD1 : D.1.length ≤ 100) (hD2 : D.2.1.length ≤ 100) (hD : D.2.2 = c) :
    M_L_GraphTells_j5 F g A O T B D c O A.1 D.1 D.2.1 B.2 B.1 T.1 = some true := by
  unfold M_L_GraphTells_j5
  rw [gbg_eq hF]
  simp only [Option.bind_some, if_true]
  rw [graphCheck_eq (by omega), hc]
  simp only [Option.bind_some]
  unfold M_L_GraphTells_j6
  rw [if_pos (by simp), same_arcs (by omega) (by omega)]
  simp only [Option.bind_some]
  unfold M_L_GraphTells_j7
  rw [if_pos (by simp [hA2]), same_graph hF hO]
  simp only [Option.bind_some]
  unfold M_L_GraphTells_j8
  rw [if_pos (by simp), same_graph hF hT]
  simp only [Option.bind_some]
  unfold M_L_GraphTells_j9
  rw [if_pos (by simp [hT2]), same_graph hF hB]
  simp only [Option.bind_some]
  unfold M_L_GraphTells_j10
  rw [if_pos (by simp), same_intsR (by omega) (by omega)]
  simp only [Option.bind_some]
  unfold M_L_GraphTells_j11
  rw [if_pos rfl, same_intsR (by omega) (by omega)]
  simp only [Option.bind_some]
  unfold M_L_GraphTells_j12
  rw [hD]; simp
theorem gt_loop {F : Nat} {g : List (List Int)} {A : List (Int × Int) × Int} {O T B : List (List Int) × Int} {D : List Int × List Int × Int} {c : Int} {a : List (Int × Int)} {B' : List (List Int) × Int} (hg : Gr g) : ∀ (k j : Nat), g.length < k + j → j ≤ g.length →
    M_L_GraphTells_l15 F g A O T B D c O a (tn g) B' k (lens (g.take j), lens ((tn g).take j), (j : Int)) = M_L_GraphTells_j5 F g A O T B D c O a (lens g) (lens (tn g)) B'.2 B'.1 (tn g)
  | 0, _, _, _ => by omega
  | k + 1, j, h, hj => by
    have h1 := hg.1
    show M_L_GraphTells_b15 F g A O T B D c O a (tn g) B' (M_L_GraphTells_l15 F g A O T B D c O a (tn g) B' k) (lens (g.take j)) (lens ((tn g).take j)) (j : Int) = _
    unfold M_L_GraphTells_b15
    by_cases hlt : j < g.length
    · have hlt2 : j < (tn g).length := by rw [tn_len]; exact hlt
      have hrec := gt_loop (F := F) (A := A) (O := O) (T := T) (B := B) (D := D) (c := c) (a := a) (B' := B') hg k (j + 1) (by omega) (by omega)
      rw [lens_snoc hlt, lens_snoc hlt2] at hrec
      rw [if_pos (by simp; omega), idx_nat, List.getElem?_eq_getElem hlt]
      simp only [Option.bind_some]
      rw [idx_nat, List.getElem?_eq_getElem hlt2]
      simp only [Option.bind_some]
      rw [app_eq (by simp [lens]; omega)]
      simp only [Option.bind_some]
      rw [app_eq (by simp [lens]; omega)]
      simp only [Option.bind_some]
      unfold M_L_GraphTells_j16
      rw [iadd1_n (by omega)]
      exact hrec
    · rw [if_neg (by simp; omega), List.take_of_length_le (by omega), List.take_of_length_le (by rw [tn_len]; omega)]
theorem lens_len (g : List (List Int)) : (lens g).length = g.length := by simp [lens]
theorem graphTells_true {F : Nat} {g : List (List Int)} {n : Int} {l : List (Int × Int)} (hF : 2000 ≤ F) : M_L_GraphTells F g n l = some true := by
  unfold M_L_GraphTells
  rw [arcs_eq (by omega)]
  simp only [Option.bind_some]
  rw [of_eq (by omega)]
  simp only [Option.bind_some]
  rw [turn_eq (by omega)]
  simp only [Option.bind_some]
  rw [both_eq hF]
  simp only [Option.bind_some]
  rw [degrees_eq (by omega)]
  simp only [Option.bind_some]
  rw [rgraphCheck_eq (by omega)]
  simp only [Option.bind_some]
  rw [rof_eq (by omega)]
  simp only [Option.bind_some]
  unfold degM
  by_cases h : gchk g = 0
  · have hg := gchk_ok.1 h
    have h1 := hg.1
    have h2 := gr_len hg
    have hn : ¬ gchk g ≠ 0 := by simp [h]
    rw [if_neg hn, if_neg hn, if_neg hn, if_neg hn, if_pos (by simp [h]), rarcs_eq (by omega) hg]
    simp only [Option.bind_some]
    rw [rturn_eq (by omega) hg]
    simp only [Option.bind_some]
    rw [rboth_eq (by omega) hg]
    simp only [Option.bind_some]
    have hloop := gt_loop (F := F) (A := (af 0 g, 0)) (O := ofM n l) (T := (tn g, 0)) (B := bothM g) (D := (lens g, lens (tn g), 0)) (c := gchk g) (a := af 0 g) (B' := bothM g) hg F 0 (by omega) (by omega)
    rw [List.take_zero, List.take_zero] at hloop
    refine Eq.trans hloop ?_
    exact gt_tail (A := (af 0 g, 0)) (T := (tn g, 0)) (B := bothM g) (D := (lens g, lens (tn g), 0)) hF rfl (by show (af 0 g).length ≤ 1000; omega) h.symm sm_of (sm_gr (tn_gr hg)) h.symm (sm_both hg) (by rw [lens_len]; exact h1) (by show (lens (tn g)).length ≤ 100; rw [lens_len, tn_len]; exact h1) h.symm
  · rw [if_pos h, if_pos h, if_pos h, if_pos h, if_neg (by simpa using h)]
    exact gt_tail (A := ([], gchk g)) (T := ([], gchk g)) (B := ([], gchk g)) (D := ([], [], gchk g)) hF rfl (by simp) rfl sm_of sm_nil rfl sm_nil (by simp) (by simp) rfl
theorem gb_tail {F : Nat} {g : List (List Int)} {m : List (Int × Int)} (hF : 2000 ≤ F) (hg : Gr g) (hm : m.Perm (af 0 g)) : M_L_GraphBack_j2 F g m = some true := by
  have h1 := hg.1
  have hn : m.Nodup := hm.nodup_iff.2 (gr_nodup hg)
  have hi : InR g.length m := fun p hp => gr_in hg p (hm.mem_iff.1 hp)
  have hl : m.length ≤ 600 := by rw [hm.length_eq]; exact gr_len hg
  unfold M_L_GraphBack_j2
  rw [of_eq (by omega), ofM_tab h1 hl hi hn]
  simp only [Option.bind_some]
  rw [if_pos (by simp), gr_self hg (srt_isTab hn) (fun p => hm.mem_iff), same_graph hF (sm_gr hg)]
  rfl
theorem irem_n {a b : Nat} : irem (a : Int) (b : Int) = ((a % b : Nat) : Int) := by
  unfold irem
  rw [Int.tmod_eq_emod_of_nonneg (by omega)]
  omega
theorem rot_nat (x : Int) : ∃ d : Nat, d < 1000 ∧ irem (iadd .i64 (irem x 1000) 1000) 1000 = (d : Int) := by
  unfold irem
  have h1 : -1000 < x.tmod 1000 ∧ x.tmod 1000 < 1000 := by
    constructor
    · have := Int.lt_tmod_of_pos x (b := 1000) (by decide); omega
    · exact Int.tmod_lt_of_pos x (by decide)
  rw [iadd_i64 (by omega) (by omega), Int.tmod_eq_emod_of_nonneg (by omega)]
  exact ⟨((x.tmod 1000 + 1000) % 1000).toNat, by omega, by omega⟩
theorem gb_loop {F d e : Nat} {x : Int} {g : List (List Int)} {A : List (Int × Int)} (hF : 2000 ≤ F) (hg : Gr g) (hA : A = af 0 g) (hd : irem (iadd .i64 (irem x 1000) 1000) 1000 = (d : Int)) (hdd : d < 1000) (he : e = d % A.length) : ∀ (k j : Nat), A.length < k + j → j ≤ A.length →
    M_L_GraphBack_l4 F g x (A, 0) k ((A.reverse.drop e ++ A.reverse.take e).take j, (j : Int)) = some true
  | 0, _, _, _ => by omega
  | k + 1, j, h, hj => by
    have hAl : A.length ≤ 600 := by rw [hA]; exact gr_len hg
    show M_L_GraphBack_b4 F g x (A, 0) (M_L_GraphBack_l4 F g x (A, 0) k) ((A.reverse.drop e ++ A.reverse.take e).take j) (j : Int) = _
    unfold M_L_GraphBack_b4
    by_cases hlt : j < A.length
    · have hrec := gb_loop (F := F) hF hg hA hd hdd he k (j + 1) (by omega) (by omega)
      have hel : e < A.length := by rw [he]; exact Nat.mod_lt _ (by omega)
      have hrl : j < (A.reverse.drop e ++ A.reverse.take e).length := by simp; omega
      rw [take_snoc hrl] at hrec
      have hq : (j + d) % A.length = if j + e < A.length then j + e else j + e - A.length := by
        rw [Nat.add_mod, ← he, Nat.mod_eq_of_lt hlt]
        split
        · rw [Nat.mod_eq_of_lt (by omega)]
        · rw [Nat.mod_eq_sub_mod (by omega), Nat.mod_eq_of_lt (by omega)]
      have hql : (j + d) % A.length < A.length := Nat.mod_lt _ (by omega)
      have hget : (A.reverse.drop e ++ A.reverse.take e)[j] = A[A.length - 1 - (j + d) % A.length]'(by omega) := by
        rw [List.getElem_append]
        split
        · rename_i h5
          simp at h5
          rw [List.getElem_drop, List.getElem_reverse]
          congr 1
          rw [hq, if_pos (by omega)]; omega
        · rename_i h5
          simp at h5
          rw [List.getElem_take, List.getElem_reverse]
          congr 1
          rw [hq, if_neg (by omega)]
          simp
          omega
      rw [if_pos (by simp; omega), hd, iadd_n (by omega)]
      simp only [chk, lett]
      rw [if_pos (by simp; intro h0; rw [h0] at hlt; simp at hlt), irem_n, isub1_n (by omega) (by omega), isub_n (by omega) (by omega), idx_nat, List.getElem?_eq_getElem (by omega)]
      simp only [Option.bind_some]
      rw [app_eq (by simp; omega)]
      simp only [Option.bind_some]
      rw [iadd1_n (by omega), ← hget]
      exact hrec
    · rw [if_neg (by simp; omega), List.take_of_length_le (by simp; omega)]
      refine gb_tail hF hg ?_
      rw [← hA]
      refine (List.perm_append_comm).trans ?_
      rw [List.take_append_drop]
      exact List.reverse_perm A
theorem graphBack_true {F : Nat} {g : List (List Int)} {x : Int} (hF : 2000 ≤ F) : M_L_GraphBack F g x = some true := by
  unfold M_L_GraphBack
  rw [arcs_eq (by omega), gbg_eq hF]
  simp only [Option.bind_some]
  rw [if_neg (by decide)]
  by_cases h : gchk g = 0
  · have hg := gchk_ok.1 h
    have hl := gr_len hg
    have hn : ¬ gchk g ≠ 0 := by simp [h]
    rw [if_neg hn, if_neg (by simp)]
    obtain ⟨d, h1, h2⟩ := rot_nat x
    exact gb_loop (F := F) (A := af 0 g) hF hg rfl h2 h1 rfl F 0 (by omega) (by omega)
  · rw [if_pos h, if_pos (by simpa using h)]
    rfl
theorem lens_get {g : List (List Int)} {j : Nat} (h : j < g.length) : idx (lens g) (j : Int) = some (g[j].length : Int) := by
  rw [idx_nat, lens, List.getElem?_map, List.getElem?_eq_getElem h]; rfl
theorem gtot_take : ∀ (g : List (List Int)) (j : Nat), gtot (g.take j) ≤ gtot g
  | [], j => by simp
  | r :: g, 0 => by simp [gtot]
  | r :: g, j + 1 => by have := gtot_take g j; simp [gtot]; omega
theorem gtot_snoc {g : List (List Int)} {j : Nat} (h : j < g.length) : gtot (g.take (j + 1)) = gtot (g.take j) + g[j].length := by
  rw [take_snoc h, gtot_app]; rfl
theorem gtot_tn {g : List (List Int)} (h : Gr g) : gtot (tn g) = gtot g := by
  rw [← af_len 0, ← af_len 0 g, (tn_af h).length_eq, sw_len]
theorem gu_loop {F : Nat} {g : List (List Int)} {X : List (List Int) × Int} (hF : 2000 ≤ F) (hg : Gr g) (hX : X = (g, 0)) : ∀ (k j : Nat), g.length < k + j → j ≤ g.length →
    M_L_GraphTurn_l7 F g (tn g, 0) X (lens g, lens (tn g), 0) (lens (tn g), lens g, 0) k ((gtot (g.take j) : Int), (gtot ((tn g).take j) : Int), (j : Int)) = some true
  | 0, _, _, _ => by omega
  | k + 1, j, h, hj => by
    have h1 := hg.1
    have h2 := hg.2.2
    have h3 := gtot_tn hg
    have hlen := tn_len g
    show M_L_GraphTurn_b7 F g (tn g, 0) X (lens g, lens (tn g), 0) (lens (tn g), lens g, 0) (M_L_GraphTurn_l7 F g (tn g, 0) X (lens g, lens (tn g), 0) (lens (tn g), lens g, 0) k) (gtot (g.take j) : Int) (gtot ((tn g).take j) : Int) (j : Int) = _
    unfold M_L_GraphTurn_b7
    by_cases hlt : j < g.length
    · have hlt2 : j < (tn g).length := by rw [tn_len]; exact hlt
      have hrec := gu_loop (F := F) hF hg hX k (j + 1) (by omega) (by omega)
      rw [gtot_snoc hlt, gtot_snoc hlt2] at hrec
      have h4 := gtot_take g (j + 1)
      have h5 := gtot_take (tn g) (j + 1)
      rw [gtot_snoc hlt] at h4
      rw [gtot_snoc hlt2] at h5
      rw [if_pos (by simp [lens_len, hlen]; omega), lens_get hlt, lens_get hlt2]
      simp only [Option.bind_some]
      rw [iadd_n (by omega), iadd_n (by omega), iadd1_n (by omega)]
      exact hrec
    · rw [if_neg (by simp [lens_len, hlen]; omega), List.take_of_length_le (by omega), List.take_of_length_le (by omega), h3]
      unfold M_L_GraphTurn_j2
      subst hX
      rw [if_pos (by simp), same_graph hF (sm_gr hg)]
      simp only [Option.bind_some]
      unfold M_L_GraphTurn_j3
      rw [if_pos (by simp), same_intsR (by rw [lens_len]; omega) (by rw [lens_len]; omega)]
      simp only [Option.bind_some]
      unfold M_L_GraphTurn_j4
      rw [if_pos rfl, same_intsR (by rw [lens_len]; omega) (by rw [lens_len]; omega)]
      simp only [Option.bind_some]
      unfold M_L_GraphTurn_j5
      rw [if_pos (by simp), graphCheck_eq (by omega), gchk_ok.2 (tn_gr hg)]
      rfl
theorem graphTurn_true {F : Nat} {g : List (List Int)} (hF : 2000 ≤ F) : M_L_GraphTurn F g = some true := by
  unfold M_L_GraphTurn
  rw [turn_eq (by omega), gbg_eq hF]
  simp only [Option.bind_some]
  rw [if_neg (by decide)]
  by_cases h : gchk g = 0
  · have hg := gchk_ok.1 h
    have hn : ¬ gchk g ≠ 0 := by simp [h]
    have ht := gchk_ok.2 (tn_gr hg)
    have h1 := hg.1
    rw [if_neg hn, if_neg (by simp), turn_eq (by omega), degrees_eq (by omega), degrees_eq (by omega)]
    simp only [Option.bind_some]
    unfold degM
    rw [ht, if_neg hn, if_neg (show ¬ (0 : Int) ≠ 0 by simp), if_neg (show ¬ (0 : Int) ≠ 0 by simp), tn_tn hg]
    exact gu_loop (F := F) hF hg rfl F 0 (by omega) (by omega)
  · rw [if_pos h, if_pos (by simpa using h), same_graph hF sm_nil]
    rfl
theorem bt_sym {g : List (List Int)} {p : Int × Int} : p ∈ bd g ↔ (p.2, p.1) ∈ bd g := by
  rw [bd_mem, bd_mem, bw_mem, bw_mem]
  exact Or.comm
theorem tn_bt {g : List (List Int)} (hg : Gr g) (hl : (bd g).length ≤ 600) : tn (bt g) = bt g := by
  have hb := bt_gr hg hl
  refine gr_self hb (by have := tn_isTab hb; exact this) fun p => ?_
  rw [sw_mem, bt_af hg, bt_sym (p := p)]
theorem bt_bt {g : List (List Int)} (hg : Gr g) (hl : (bd g).length ≤ 600) : bt (bt g) = bt g := by
  have hb := bt_gr hg hl
  refine gr_self hb (bt_isTab (bt g)) fun p => ?_
  rw [bw_mem, bt_af hg, ← bt_sym (p := p), or_self]
theorem bd_bt {g : List (List Int)} (hg : Gr g) (hl : (bd g).length ≤ 600) : bd (bt g) = bd g := by
  have hb := bt_gr hg hl
  rw [← bt_af hb, bt_bt hg hl, bt_af hg]
theorem graphBoth_true {F : Nat} {g : List (List Int)} {a b : Int} (hF : 2000 ≤ F) : M_L_GraphBoth F g a b = some true := by
  unfold M_L_GraphBoth
  rw [both_eq hF, gbg_eq hF]
  simp only [Option.bind_some]
  rw [if_neg (by decide)]
  by_cases h : gchk g = 0
  · have hg := gchk_ok.1 h
    have hn : ¬ gchk g ≠ 0 := by simp [h]
    rw [if_neg hn]
    unfold bothM
    by_cases h5 : 600 < (bd g).length
    · rw [if_pos h5, if_pos (by simp), same_graph hF sm_nil]
      rfl
    · have hb := bt_gr hg (by omega)
      have hc := gchk_ok.2 hb
      rw [if_neg h5, if_neg (by simp), turn_eq (by omega), both_eq hF]
      simp only [Option.bind_some]
      unfold bothM
      rw [hc, if_neg (show ¬ (0 : Int) ≠ 0 by simp), if_neg (show ¬ (0 : Int) ≠ 0 by simp), bd_bt hg (by omega), if_neg h5, tn_bt hg (by omega), bt_bt hg (by omega), if_neg (by simp), same_graph hF (sm_gr hb)]
      simp only [Option.bind_some]
      unfold M_L_GraphBoth_j3
      rw [if_neg (by simp), same_graph hF (sm_gr hb)]
      simp only [Option.bind_some]
      unfold M_L_GraphBoth_j4
      rw [if_neg (by simp)]
      by_cases hr : a < 0 ∨ (g.length : Int) ≤ a ∨ b < 0 ∨ (g.length : Int) ≤ b
      · rw [if_pos (by simp only [Bool.or_eq_true, decide_eq_true_eq]; omega)]
      · rw [if_neg (by simp only [Bool.or_eq_true, decide_eq_true_eq]; omega)]
        obtain ⟨i, rfl⟩ := Int.eq_ofNat_of_zero_le (show 0 ≤ a by omega)
        obtain ⟨j, rfl⟩ := Int.eq_ofNat_of_zero_le (show 0 ≤ b by omega)
        have hbl := bt_len g
        rw [leads_eq (by omega) hb (by omega), leads_eq (by omega) hg (by omega), leads_eq (by omega) hg (by omega), bt_af hg]
        simp only [Option.bind_some]
        have hm : decide (((i : Int), (j : Int)) ∈ bd g) = (decide (((i : Int), (j : Int)) ∈ af 0 g) || decide (((j : Int), (i : Int)) ∈ af 0 g)) := by
          rw [← Bool.decide_or]
          exact decide_eq_decide.2 (by rw [bd_mem, bw_mem])
        rw [hm]
        unfold M_L_GraphBoth_j5
        by_cases hx : ((i : Int), (j : Int)) ∈ af 0 g
        · rw [if_pos (by simpa using hx)]; simp [hx]
        · rw [if_neg (by simpa using hx)]; simp [hx]
  · rw [if_pos h, if_pos (by simpa using h), same_graph hF sm_nil]
    rfl
theorem graphLess_true {F : Nat} {g : List (List Int)} {x : Int} (hF : 2000 ≤ F) : M_L_GraphLess F g x = some true := by
  unfold M_L_GraphLess
  rw [arcs_eq (by omega), gbg_eq hF]
  simp only [Option.bind_some]
  rw [if_neg (by decide)]
  by_cases h : gchk g = 0
  · have hg := gchk_ok.1 h
    have h1 := hg.1
    have hl := gr_len hg
    have hn : ¬ gchk g ≠ 0 := by simp [h]
    rw [if_neg hn]
    by_cases hr : x < 0 ∨ ((af 0 g).length : Int) ≤ x
    · rw [if_pos (by simp; omega)]; rfl
    · rw [if_neg (by simp; omega)]
      obtain ⟨s, rfl⟩ := Int.eq_ofNat_of_zero_le (show 0 ≤ x by omega)
      have hs : s < (af 0 g).length := by omega
      have e1 := sub_n (l := af 0 g) (i := 0) (j := s) (by omega) (by omega)
      have e2 := sub_n (l := af 0 g) (i := s + 1) (j := (af 0 g).length) (by omega) (by omega)
      rw [show ((0 : Nat) : Int) = 0 from rfl, List.drop_zero] at e1
      rw [List.take_length] at e2
      simp only
      rw [e1]
      simp only [Option.bind_some]
      rw [iadd1_n (by omega), e2]
      simp only [Option.bind_some]
      rw [app_eq (by simp; omega)]
      simp only [Option.bind_some, List.nil_append]
      rw [app_eq (by simp; omega)]
      simp only [Option.bind_some]
      have hpw0 := af_pw (k := 0) (gr_pw hg)
      have hsub : ((af 0 g).take s ++ (af 0 g).drop (s + 1)).Sublist (af 0 g) := by
        have := List.eraseIdx_sublist (af 0 g) s
        rwa [List.eraseIdx_eq_take_drop_succ] at this
      have hpw : ((af 0 g).take s ++ (af 0 g).drop (s + 1)).Pairwise lexLt := hpw0.sublist hsub
      have hin : InR g.length ((af 0 g).take s ++ (af 0 g).drop (s + 1)) := fun p hp => gr_in hg p (hsub.subset hp)
      have hml := hsub.length_le
      have hnot : (af 0 g)[s] ∉ (af 0 g).take s ++ (af 0 g).drop (s + 1) := by
        have hsplit : (af 0 g).take s ++ (af 0 g)[s] :: (af 0 g).drop (s + 1) = af 0 g := by
          rw [← List.drop_eq_getElem_cons hs, List.take_append_drop]
        have hnd := gr_nodup hg
        rw [← hsplit] at hnd
        have h4 := hnd
        rw [List.nodup_append] at h4
        obtain ⟨_, h5, h6⟩ := h4
        intro hmem
        rcases List.mem_append.1 hmem with hm | hm
        · exact h6 _ hm _ List.mem_cons_self rfl
        · exact (List.nodup_cons.1 h5).1 hm
      generalize hM : (af 0 g).take s ++ (af 0 g).drop (s + 1) = M at *
      have hT : IsTab g.length M (tab g.length (srtA M)) := srt_isTab (lex_nodup hpw)
      have hgr : Gr (tab g.length (srtA M)) := isTab_gr hT hin h1 (by rw [isTab_af hT hin hpw]; omega)
      rw [of_eq (by omega), ofM_tab h1 (by omega) hin (lex_nodup hpw)]
      simp only [Option.bind_some]
      rw [arcs_eq (by omega), gchk_ok.2 hgr, if_neg (by decide), isTab_af hT hin hpw]
      simp only [Option.bind_some]
      rw [if_pos (by simp), if_pos (by simp), idx_nat, List.getElem?_eq_getElem hs]
      simp only [Option.bind_some]
      rw [same_arcs (by omega) (by omega)]
      simp only [Option.bind_some, if_true]
      have hp := gr_in hg _ (List.getElem_mem hs)
      obtain ⟨i, hi⟩ := Int.eq_ofNat_of_zero_le hp.1
      rw [hi, leads_eq (by omega) hgr (by rw [tab_len]; omega), isTab_af hT hin hpw, ← hi]
      simp only [Option.bind_some]
      unfold M_L_GraphLess_j1
      rw [decide_eq_false (by exact hnot)]
      rfl
  · rw [if_pos h, if_pos (by simp [h])]
    simp
end Go.Proofs.Ytghkjonlhphcjaa
