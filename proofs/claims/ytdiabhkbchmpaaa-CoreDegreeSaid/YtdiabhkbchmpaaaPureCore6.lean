/- Plain facts of what the functions of this seat compute. -/
import Derived.Test.YtdiabhkbchmpaaaModels
import Derived.KernelRfl
import Derived.Lib.SlicesCompact
namespace Go.Proofs.Ytdiabhkbchmpaaa
open Go SX
/-- The byte at place k of a list of bits. -/
def byt (l : List Int) (k : Nat) : Int :=
  l.getD (8 * k) 0 * 128 + l.getD (8 * k + 1) 0 * 64 + l.getD (8 * k + 2) 0 * 32 + l.getD (8 * k + 3) 0 * 16 + l.getD (8 * k + 4) 0 * 8 + l.getD (8 * k + 5) 0 * 4 + l.getD (8 * k + 6) 0 * 2 + l.getD (8 * k + 7) 0
def pk (l : List Int) : List Int := (List.range ((l.length + 7) / 8)).map (byt l)
def Bit (l : List Int) : Prop := ∀ x ∈ l, x = 0 ∨ x = 1
theorem Bit.getD {l : List Int} (h : Bit l) (i : Nat) : l.getD i 0 = 0 ∨ l.getD i 0 = 1 := by
  by_cases hi : i < l.length
  · have := h l[i] (List.getElem_mem hi)
    simpa [List.getD, hi] using this
  · left
    simp [List.getD, List.getElem?_eq_none (Nat.le_of_not_lt hi)]
theorem iadd_n {a b : Nat} (h : a + b < 9223372036854775808) : iadd .i64 (a : Int) (b : Int) = ((a + b : Nat) : Int) := by rw [iadd_i64 (by omega) (by omega)]; omega
theorem iadd1_n {a : Nat} (h : a + 1 < 9223372036854775808) : iadd .i64 (a : Int) 1 = ((a + 1 : Nat) : Int) := by rw [iadd_i64 (by omega) (by omega)]; omega
theorem isub1_n {a : Nat} (h : 1 ≤ a) (h2 : a < 9223372036854775808) : isub .i64 (a : Int) 1 = ((a - 1 : Nat) : Int) := by rw [isub_i64 (by omega) (by omega)]; omega
/-- The bits of a number, in so many places, the highest one first. -/
def nb (n : Nat) : Nat → List Int
  | 0 => []
  | w + 1 => ((n / 2 ^ w % 2 : Nat) : Int) :: nb n w
theorem sub_n {α : Type} {l : List α} {i j : Nat} (h1 : i ≤ j) (h2 : j ≤ l.length) : sub l (i : Int) (j : Int) = some ((l.take j).drop i) := by
  unfold sub
  rw [if_pos ⟨by omega, by omega, by omega⟩, Int.toNat_natCast, Int.toNat_natCast]
def un (n : Nat) : List Int := List.replicate n 0 ++ [1]
def big (l : List Int) : Bool := l.any fun x => decide (8192 ≤ x)
/-- How many bits a number has. -/
def len (x : Nat) : Nat := if x = 0 then 0 else x.log2 + 1
/-- How many bits a number, and one, has behind its highest one. -/
def lg (n : Nat) : Nat := len (n + 1) - 1
def ga (n : Nat) : List Int := un (lg n) ++ nb (n + 1) (lg n)
def de (n : Nat) : List Int := ga (lg n) ++ nb (n + 1) (lg n)
def ec (code : Nat → List Int) (n : Int) : Int × List Int × Int := if 1099511627776 < n then (0, [], 3) else (((code n.toNat).length : Int), pk (code n.toNat), 0)
def lo (n : Int) : Int × Int × Int := if 1099511627776 < n then (0, 0, 3) else (((ga n.toNat).length : Int), ((de n.toNat).length : Int), 0)
def sh (m : Nat) : Nat := len (m - 1)
def dd (m : Nat) : Nat := 2 ^ sh m - m
def le (n m : Nat) : List Int := if n < dd m then nb n (sh m - 1) else nb (n + dd m) (sh m)
theorem srt_perm (l : List Int) : (srt l).Perm l := List.mergeSort_perm l _
theorem srt_pw (l : List Int) : (srt l).Pairwise (· ≤ ·) := by
  have h := List.pairwise_mergeSort (le := fun x y : Int => decide (x ≤ y)) (fun a b c h1 h2 => by simp only [decide_eq_true_eq] at *; omega) (fun a b => by simp only [Bool.or_eq_true, decide_eq_true_eq]; omega) l
  exact h.imp (fun h => by simpa using h)
theorem compact_len (xs : List Int) : (Go.Lib.compact xs).length ≤ xs.length := by
  unfold Go.Lib.compact Go.Lib.compactUpTo
  rw [List.length_map]
  exact Nat.le_trans (List.length_filter_le _ _) (by simp)
theorem keeps_get {xs : List Int} {j : Nat} (h0 : 0 < j) (hj : j < xs.length) : Go.Lib.keeps xs.toArray j = decide (xs[j] ≠ xs[j - 1]) := by
  unfold Go.Lib.keeps
  have e1 : xs.toArray[j]! = xs[j] := by rw [getElem!_pos xs.toArray j (by simpa using hj)]; simp
  have e2 : xs.toArray[j - 1]! = xs[j - 1] := by rw [getElem!_pos xs.toArray (j - 1) (by simp; omega)]; simp
  rw [e1, e2]
  have : j ≠ 0 := by omega
  simp [this]
theorem same_ints_l (F : Nat) {xs : List Int} (hm : xs.length ≤ 1000000) : ∀ (k i : Nat), xs.length < k + i → i ≤ xs.length → M_R_SameInts_l3 F xs xs k (i : Int) = some true
  | 0, _, _, _ => by omega
  | k + 1, i, h, hi => by
    show M_R_SameInts_b3 F xs xs (M_R_SameInts_l3 F xs xs k) (i : Int) = _
    unfold M_R_SameInts_b3
    by_cases hlt : i < xs.length
    · rw [if_pos (by simp; omega), idx_nat, List.getElem?_eq_getElem hlt]
      simp only [Option.bind_some]
      rw [if_neg (by simp), iadd1_n (by omega)]
      exact same_ints_l F hm k (i + 1) (by omega) (by omega)
    · rw [if_neg (by simp; omega)]; rfl
theorem same_intsR {F : Nat} {xs : List Int} (hF : xs.length < F) (hm : xs.length ≤ 1000000) : M_R_SameInts F xs xs = some true := by
  unfold M_R_SameInts
  rw [if_neg (by simp)]
  exact same_ints_l F hm F 0 (by omega) (by omega)
theorem hasInt_l (F : Nat) {l : List Int} {v : Int} (hm : l.length ≤ 1000000) : ∀ (k i : Nat), l.length < k + i → i ≤ l.length → M_R_HasInt_l3 F l v k (i : Int) = some (decide (v ∈ l.drop i))
  | 0, _, _, _ => by omega
  | k + 1, i, h, hi => by
    show M_R_HasInt_b3 F l v (M_R_HasInt_l3 F l v k) (i : Int) = _
    unfold M_R_HasInt_b3
    by_cases hlt : i < l.length
    · rw [if_pos (by simp; omega), idx_nat, List.getElem?_eq_getElem hlt, List.drop_eq_getElem_cons hlt]
      simp only [Option.bind_some]
      by_cases he : l[i] = v
      · rw [if_pos (by simpa using he)]
        simp [he]
      · rw [if_neg (by simpa using he), iadd1_n (by omega), hasInt_l F hm k (i + 1) (by omega) (by omega)]
        have : (v ∈ l[i] :: l.drop (i + 1)) ↔ v ∈ l.drop (i + 1) := ⟨fun hv => (List.mem_cons.1 hv).resolve_left (fun e => he e.symm), fun hv => List.mem_cons_of_mem _ hv⟩
        rw [decide_eq_decide.2 this]
    · rw [if_neg (by simp; omega), List.drop_eq_nil_of_le (by omega)]
      simp [M_R_HasInt_j2]
theorem hasInt_eq {F : Nat} {l : List Int} {v : Int} (hF : l.length < F) (hm : l.length ≤ 1000000) : M_R_HasInt F l v = some (decide (v ∈ l)) := by
  unfold M_R_HasInt
  have := hasInt_l F (v := v) hm F 0 (by omega) (by omega)
  simpa using this
def runFold {σ τ : Type} (yy : σ → (Int × Int) → Option (σ ⊕ τ)) : List (Int × Int) → σ → Option (σ ⊕ τ)
  | [], s => some (.inl s)
  | r :: R, s => (yy s r).bind (Sum.elim (fun s' => runFold yy R s') (fun t => some (.inr t)))
def rowE (n : Int) : Int → List Int → Int
  | _, [] => 0
  | last, x :: l => if x < 0 ∨ n ≤ x then 3 else if x ≤ last then 4 else rowE n x l
def gE (n : Int) : List (List Int) → Int
  | [] => 0
  | l :: g => if rowE n (-1) l ≠ 0 then rowE n (-1) l else gE n g
def gtot : List (List Int) → Nat
  | [] => 0
  | l :: g => l.length + gtot g
def gchk (g : List (List Int)) : Int := if 100 < g.length then 2 else if gE g.length g ≠ 0 then gE g.length g else if 600 < gtot g then 2 else 0
theorem rowE_ok : ∀ {n last : Int} {l : List Int}, rowE n last l = 0 ↔ (l.Pairwise (· < ·) ∧ ∀ x ∈ l, last < x) ∧ ∀ x ∈ l, 0 ≤ x ∧ x < n
  | n, last, [] => by simp [rowE]
  | n, last, x :: l => by
    unfold rowE
    by_cases h1 : x < 0 ∨ n ≤ x
    · rw [if_pos h1]
      constructor
      · intro h; simp at h
      · rintro ⟨_, h⟩; have := h x (by simp); omega
    · rw [if_neg h1]
      by_cases h2 : x ≤ last
      · rw [if_pos h2]
        constructor
        · intro h; simp at h
        · rintro ⟨⟨_, h⟩, _⟩; have := h x (by simp); omega
      · rw [if_neg h2, rowE_ok, List.pairwise_cons]
        constructor
        · rintro ⟨⟨a1, a2⟩, a3⟩
          refine ⟨⟨⟨a2, a1⟩, fun y hy => ?_⟩, fun y hy => ?_⟩
          · rcases List.mem_cons.1 hy with rfl | hy
            · omega
            · have := a2 y hy; omega
          · rcases List.mem_cons.1 hy with rfl | hy
            · omega
            · exact a3 y hy
        · rintro ⟨⟨⟨a1, a2⟩, a3⟩, a4⟩
          exact ⟨⟨a2, a1⟩, fun y hy => a4 y (by simp [hy])⟩
theorem row_len {n last : Int} : ∀ {l : List Int}, -1 ≤ last → last < n → rowE n last l = 0 → last + 1 + l.length ≤ n
  | [], h1, h2, _ => by simp; omega
  | x :: l, h1, h2, h => by
    unfold rowE at h
    split at h
    · simp at h
    · split at h
      · simp at h
      · have := row_len (l := l) (by omega) (by omega) h
        rw [List.length_cons]; omega
theorem gE_ok {n : Int} : ∀ {g : List (List Int)}, gE n g = 0 ↔ ∀ l ∈ g, rowE n (-1) l = 0
  | [] => by simp [gE]
  | l :: g => by
    unfold gE
    by_cases h : rowE n (-1) l = 0
    · rw [if_neg (by simp [h]), gE_ok]; simp [h]
    · rw [if_pos h]; simp [h]
/-- A graph that is right. -/
def Gr (g : List (List Int)) : Prop := g.length ≤ 100 ∧ (∀ l ∈ g, l.Pairwise (· < ·) ∧ ∀ x ∈ l, 0 ≤ x ∧ x < g.length) ∧ gtot g ≤ 600
theorem gchk_ok {g : List (List Int)} : gchk g = 0 ↔ Gr g := by
  unfold gchk Gr
  by_cases h1 : 100 < g.length
  · rw [if_pos h1]; simp; omega
  · rw [if_neg h1]
    by_cases h2 : gE g.length g = 0
    · rw [if_neg (by simp [h2])]
      have h3 := gE_ok.1 h2
      have h4 : ∀ l ∈ g, l.Pairwise (· < ·) ∧ ∀ x ∈ l, 0 ≤ x ∧ x < (g.length : Int) := fun l hl => by
        have := rowE_ok.1 (h3 l hl)
        exact ⟨this.1.1, this.2⟩
      by_cases h5 : 600 < gtot g
      · rw [if_pos h5]; simp; omega
      · rw [if_neg h5]
        exact ⟨fun _ => ⟨by omega, h4, by omega⟩, fun _ => rfl⟩
    · rw [if_pos h2]
      refine ⟨fun h => absurd h h2, fun h => absurd (gE_ok.2 fun l hl => rowE_ok.2 ⟨⟨(h.2.1 l hl).1, fun x hx => ?_⟩, (h.2.1 l hl).2⟩) h2⟩
      have := (h.2.1 l hl).2 x hx; omega
theorem gr_row {g : List (List Int)} (h : Gr g) {l : List Int} (hl : l ∈ g) : l.length ≤ 100 := by
  have h1 := (h.2.1 l hl).2
  have h2 : rowE g.length (-1) l = 0 := rowE_ok.2 ⟨⟨(h.2.1 l hl).1, fun x hx => by have := h1 x hx; omega⟩, h1⟩
  have := row_len (by omega) (by omega) h2
  have := h.1
  omega
theorem check_in {F : Nat} {rec38 : (Int × Int) → Option Int} {g : List (List Int)} {m i : Int} {l : List Int} (hg : g.length ≤ 100) : ∀ (k j : Nat) (last : Int), 102 < k + j → (j : Int) ≤ last + 1 → last < g.length → -1 ≤ last →
    M_graph_Check_l45 F rec38 g m i l k (last, (j : Int)) = if rowE g.length last (l.drop j) ≠ 0 then some (rowE g.length last (l.drop j)) else M_graph_Check_j44 F rec38 m i l
  | 0, j, last, h, h1, h2, h3 => by omega
  | k + 1, j, last, h, h1, h2, h3 => by
    show M_graph_Check_b45 F rec38 g m i l (M_graph_Check_l45 F rec38 g m i l k) last (j : Int) = _
    unfold M_graph_Check_b45
    by_cases hlt : j < l.length
    · rw [if_pos (by simp; omega), idx_nat, List.getElem?_eq_getElem hlt, List.drop_eq_getElem_cons hlt]
      simp only [Option.bind_some]
      unfold rowE
      by_cases c1 : l[j] < 0 ∨ (g.length : Int) ≤ l[j]
      · rw [if_pos (by simpa using c1), if_pos c1, if_pos (by decide)]
      · rw [if_neg (by simpa using c1), if_neg c1]
        by_cases c2 : l[j] ≤ last
        · rw [if_pos (by simpa using c2), if_pos c2, if_pos (by decide)]
        · rw [if_neg (by simpa using c2), if_neg c2, iadd1_n (by omega)]
          exact check_in hg k (j + 1) l[j] (by omega) (by omega) (by omega) (by omega)
    · rw [if_neg (by simp; omega), List.drop_eq_nil_of_le (by omega)]
      rw [if_neg (by simp [rowE])]
theorem check_out {F : Nat} (hF : 1000 ≤ F) {g : List (List Int)} (hg : g.length ≤ 100) : ∀ (k i : Nat) (m : Nat), g.length < k + i → i ≤ g.length → m ≤ 100 * i →
    M_graph_Check_l38 F g k ((m : Int), (i : Int)) = if gE g.length (g.drop i) ≠ 0 then some (gE g.length (g.drop i)) else if 600 < m + gtot (g.drop i) then some 2 else some 0
  | 0, _, _, _, _, _ => by omega
  | k + 1, i, m, h, hi, hm => by
    show M_graph_Check_b38 F g (M_graph_Check_l38 F g k) (m : Int) (i : Int) = _
    unfold M_graph_Check_b38
    by_cases hlt : i < g.length
    · rw [if_pos (by simp; omega), idx_nat, List.getElem?_eq_getElem hlt, List.drop_eq_getElem_cons hlt]
      simp only [Option.bind_some]
      have hin := check_in (F := F) (rec38 := M_graph_Check_l38 F g k) (m := (m : Int)) (i := (i : Int)) (l := g[i]) hg F 0 (-1) (by omega) (by omega) (by omega) (by omega)
      rw [List.drop_zero, show ((0 : Nat) : Int) = 0 from rfl] at hin
      rw [hin]
      unfold gE gtot
      by_cases hr : rowE g.length (-1) g[i] = 0
      · have hlen := row_len (by omega) (by omega) hr
        have e : (if rowE (g.length : Int) (-1) g[i] ≠ 0 then rowE (g.length : Int) (-1) g[i] else gE (g.length : Int) (g.drop (i + 1))) = gE (g.length : Int) (g.drop (i + 1)) := if_neg (by simp [hr])
        rw [if_neg (show ¬ rowE (g.length : Int) (-1) g[i] ≠ 0 by simp [hr]), e]
        unfold M_graph_Check_j44 M_graph_Check_j42
        rw [iadd_n (by omega), iadd1_n (by omega), check_out hF hg k (i + 1) (m + g[i].length) (by omega) (by omega) (by omega), Nat.add_assoc]
      · rw [if_pos (by simpa using hr)]
        have e : (if rowE (g.length : Int) (-1) g[i] ≠ 0 then rowE (g.length : Int) (-1) g[i] else gE (g.length : Int) (g.drop (i + 1))) = rowE (g.length : Int) (-1) g[i] := if_pos hr
        rw [e, if_pos hr]
    · rw [if_neg (by simp; omega), List.drop_eq_nil_of_le (by omega)]
      unfold M_graph_Check_j23
      rw [if_neg (show ¬ gE (g.length : Int) [] ≠ 0 by simp [gE])]
      by_cases h6 : 600 < m
      · rw [if_pos (by simp; omega), if_pos (by simpa [gtot] using h6)]
      · rw [if_neg (by simp; omega), if_neg (by simpa [gtot] using h6)]
theorem graphCheck_eq {F : Nat} (hF : 1000 ≤ F) {g : List (List Int)} : M_graph_Check F g = some (gchk g) := by
  unfold M_graph_Check gchk
  by_cases h : 100 < g.length
  · rw [if_pos (by simp; omega), if_pos h]
  · have := check_out hF (g := g) (by omega) F 0 0 (by omega) (by omega) (by omega)
    rw [List.drop_zero, Nat.zero_add, show ((0 : Nat) : Int) = 0 from rfl] at this
    rw [if_neg (by simp; omega), if_neg h, this]
    split
    · rfl
    · split <;> rfl
theorem rcheck_in {F : Nat} {rec138 : (Int × Int) → Option Int} {g : List (List Int)} {i m : Nat} {l : List Int} (hg : g.length ≤ 100) (hl : g[i]? = some l) (hm : m ≤ 100000) : ∀ (k j : Nat), 102 < k + j → j ≤ l.length → ((j : Int) ≤ (if 0 < j then l.getD (j - 1) 0 else -1) + 1) → ((if 0 < j then l.getD (j - 1) 0 else -1) < (g.length : Int)) →
    M_R_GraphCheck_l161 F rec138 g (i : Int) k (((m + j : Nat) : Int), (j : Int)) = if rowE g.length (if 0 < j then l.getD (j - 1) 0 else -1) (l.drop j) ≠ 0 then some (rowE g.length (if 0 < j then l.getD (j - 1) 0 else -1) (l.drop j)) else M_R_GraphCheck_j152 F rec138 (i : Int) ((m + l.length : Nat) : Int)
  | 0, j, h, hj, h1, h2 => by omega
  | k + 1, j, h, hj, h1, h2 => by
    have hg0 : 0 < g.length := by have := (List.getElem?_eq_some_iff.1 hl).1; omega
    show M_R_GraphCheck_b161 F rec138 g (i : Int) (M_R_GraphCheck_l161 F rec138 g (i : Int) k) ((m + j : Nat) : Int) (j : Int) = _
    unfold M_R_GraphCheck_b161
    rw [idx_nat, hl]
    simp only [Option.bind_some]
    by_cases hlt : j < l.length
    · have hrec := rcheck_in (F := F) (rec138 := rec138) hg hl hm k (j + 1) (by omega) (by omega)
      have hgd : l.getD (j + 1 - 1) 0 = l[j] := by simp [List.getD, List.getElem?_eq_getElem hlt]
      rw [if_pos (show 0 < j + 1 by omega), hgd] at hrec
      rw [if_pos (by simp; omega), idx_nat, List.getElem?_eq_getElem hlt, List.drop_eq_getElem_cons hlt]
      simp only [Option.bind_some]
      unfold M_R_between rowE
      rw [isub1_n (by omega) (by omega)]
      simp only [Option.bind_some]
      by_cases c1 : l[j] < 0 ∨ (g.length : Int) ≤ l[j]
      · rw [if_pos (by simp; omega), if_pos c1, if_pos (by decide)]
      · rw [if_neg (by simp; omega), if_neg c1]
        have hgo : M_R_GraphCheck_j165 F (M_R_GraphCheck_l161 F rec138 g (i : Int) k) ((m + j : Nat) : Int) (j : Int) false = (if rowE (g.length : Int) l[j] (l.drop (j + 1)) ≠ 0 then some (rowE (g.length : Int) l[j] (l.drop (j + 1))) else M_R_GraphCheck_j152 F rec138 (i : Int) ((m + l.length : Nat) : Int)) → (l[j] ≤ (if 0 < j then l.getD (j - 1) 0 else -1)) = False →
            M_R_GraphCheck_j165 F (M_R_GraphCheck_l161 F rec138 g (i : Int) k) ((m + j : Nat) : Int) (j : Int) false = if (if l[j] ≤ (if 0 < j then l.getD (j - 1) 0 else -1) then 4 else rowE (g.length : Int) l[j] (l.drop (j + 1))) ≠ 0 then some (if l[j] ≤ (if 0 < j then l.getD (j - 1) 0 else -1) then 4 else rowE (g.length : Int) l[j] (l.drop (j + 1))) else M_R_GraphCheck_j152 F rec138 (i : Int) ((m + l.length : Nat) : Int) := by
          intro h3 h4
          simp only [h4, if_false]
          exact h3
        have hnext : (¬ l[j] ≤ (if 0 < j then l.getD (j - 1) 0 else -1)) → M_R_GraphCheck_j165 F (M_R_GraphCheck_l161 F rec138 g (i : Int) k) ((m + j : Nat) : Int) (j : Int) false = if rowE (g.length : Int) l[j] (l.drop (j + 1)) ≠ 0 then some (rowE (g.length : Int) l[j] (l.drop (j + 1))) else M_R_GraphCheck_j152 F rec138 (i : Int) ((m + l.length : Nat) : Int) := by
          intro hn
          unfold M_R_GraphCheck_j165
          rw [if_neg (by simp), iadd1_n (by omega), iadd1_n (by omega)]
          exact hrec (by omega) (by omega)
        by_cases hj0 : 0 < j
        · have hlt2 : j - 1 < l.length := by omega
          have hgd2 : l.getD (j - 1) 0 = l[j - 1] := by simp [List.getD, List.getElem?_eq_getElem hlt2]
          rw [if_pos (by simp; omega), isub1_n (by omega) (by omega), idx_nat, List.getElem?_eq_getElem hlt2]
          simp only [Option.bind_some]
          by_cases c2 : l[j] ≤ l[j - 1]
          · rw [decide_eq_true c2, if_pos hj0, hgd2, if_pos c2, if_pos (by decide)]
            rfl
          · rw [decide_eq_false c2]
            exact hgo (hnext (by rw [if_pos hj0, hgd2]; exact c2)) (by rw [if_pos hj0, hgd2]; exact eq_false c2)
        · have : j = 0 := by omega
          subst this
          rw [if_neg (by simp)]
          exact hgo (hnext (by simp; omega)) (by simp; omega)
    · rw [if_neg (by simp; omega), List.drop_eq_nil_of_le (by omega), show m + j = m + l.length from by omega, if_neg (by simp [rowE])]
theorem rcheck_out {F : Nat} (hF : 1000 ≤ F) {g : List (List Int)} (hg : g.length ≤ 100) : ∀ (k i : Nat) (m : Nat), g.length < k + i → i ≤ g.length → m ≤ 100 * i →
    M_R_GraphCheck_l138 F g k ((m : Int), (i : Int)) = if gE g.length (g.drop i) ≠ 0 then some (gE g.length (g.drop i)) else if 600 < m + gtot (g.drop i) then some 2 else some 0
  | 0, _, _, _, _, _ => by omega
  | k + 1, i, m, h, hi, hm => by
    show M_R_GraphCheck_b138 F g (M_R_GraphCheck_l138 F g k) (m : Int) (i : Int) = _
    unfold M_R_GraphCheck_b138
    by_cases hlt : i < g.length
    · rw [if_pos (by simp; omega), List.drop_eq_getElem_cons hlt]
      have hin := rcheck_in (F := F) (rec138 := M_R_GraphCheck_l138 F g k) (m := m) (i := i) (l := g[i]) hg (List.getElem?_eq_getElem hlt) (by omega) F 0 (by omega) (by omega) (by simp) (by simp; omega)
      rw [List.drop_zero, show ((0 : Nat) : Int) = 0 from rfl, Nat.add_zero, if_neg (show ¬ 0 < 0 by omega)] at hin
      rw [hin]
      unfold gE gtot
      by_cases hr : rowE g.length (-1) g[i] = 0
      · have hlen := row_len (by omega) (by omega) hr
        have e : (if rowE (g.length : Int) (-1) g[i] ≠ 0 then rowE (g.length : Int) (-1) g[i] else gE (g.length : Int) (g.drop (i + 1))) = gE (g.length : Int) (g.drop (i + 1)) := if_neg (by simp [hr])
        rw [if_neg (show ¬ rowE (g.length : Int) (-1) g[i] ≠ 0 by simp [hr]), e]
        unfold M_R_GraphCheck_j152
        rw [iadd1_n (by omega), rcheck_out hF hg k (i + 1) (m + g[i].length) (by omega) (by omega) (by omega), Nat.add_assoc]
      · have e : (if rowE (g.length : Int) (-1) g[i] ≠ 0 then rowE (g.length : Int) (-1) g[i] else gE (g.length : Int) (g.drop (i + 1))) = rowE (g.length : Int) (-1) g[i] := if_pos hr
        rw [if_pos (by simpa using hr), e, if_pos hr]
    · rw [if_neg (by simp; omega), List.drop_eq_nil_of_le (by omega)]
      unfold M_R_GraphCheck_j83
      rw [if_neg (show ¬ gE (g.length : Int) [] ≠ 0 by simp [gE])]
      by_cases h6 : 600 < m
      · rw [if_pos (by simp; omega), if_pos (by simpa [gtot] using h6)]
      · rw [if_neg (by simp; omega), if_neg (by simpa [gtot] using h6)]
theorem rgraphCheck_eq {F : Nat} (hF : 1000 ≤ F) {g : List (List Int)} : M_R_GraphCheck F g = some (gchk g) := by
  unfold M_R_GraphCheck gchk
  by_cases h : 100 < g.length
  · rw [if_pos (by simp; omega), if_pos h]
  · have := rcheck_out hF (g := g) (by omega) F 0 0 (by omega) (by omega) (by omega)
    rw [List.drop_zero, Nat.zero_add, show ((0 : Nat) : Int) = 0 from rfl] at this
    rw [if_neg (by simp; omega), if_neg h, this]
    split
    · rfl
    · split <;> rfl
def af (i : Nat) : List (List Int) → List (Int × Int)
  | [] => []
  | l :: g => l.map (fun x => ((i : Int), x)) ++ af (i + 1) g
theorem runFold_app {σ τ : Type} {yy : σ → (Int × Int) → Option (σ ⊕ τ)} : ∀ (A B : List (Int × Int)) (s : σ), runFold yy (A ++ B) s = (runFold yy A s).bind (Sum.elim (fun s' => runFold yy B s') (fun t => some (.inr t)))
  | [], B, s => rfl
  | p :: A, B, s => by
    show (yy s p).bind _ = ((yy s p).bind _).bind _
    cases yy s p with
    | none => rfl
    | some r =>
      cases r with
      | inl s' => exact runFold_app A B s'
      | inr t => rfl
theorem all_in {σ τ : Type} {F : Nat} {yy : σ → (Int × Int) → Option (σ ⊕ τ)} {rec7 : (Int × σ) → Option (σ ⊕ τ)} {i : Int} {l : List Int} (hm : l.length ≤ 1000000) : ∀ (k j : Nat) (s : σ), l.length < k + j → j ≤ l.length →
    M_graph_All_1_l10 F yy rec7 i l k ((j : Int), s) = (runFold yy ((l.drop j).map fun x => (i, x)) s).bind (Sum.elim (fun s' => M_graph_All_1_j9 F yy rec7 i s') (fun t => some (.inr t)))
  | 0, _, _, _, _ => by omega
  | k + 1, j, s, h, hj => by
    show M_graph_All_1_b10 F yy rec7 i l (M_graph_All_1_l10 F yy rec7 i l k) (j : Int) s = _
    unfold M_graph_All_1_b10
    by_cases hlt : j < l.length
    · rw [if_pos (by simp; omega), idx_nat, List.getElem?_eq_getElem hlt, List.drop_eq_getElem_cons hlt, List.map_cons]
      simp only [Option.bind_some, runFold]
      cases yy s (i, l[j]) with
      | none => rfl
      | some r =>
        cases r with
        | inl s' =>
          simp only [Option.bind_some, Sum.elim_inl]
          rw [iadd1_n (by omega)]
          exact all_in hm k (j + 1) s' (by omega) (by omega)
        | inr t => rfl
    · rw [if_neg (by simp; omega), List.drop_eq_nil_of_le (by omega)]
      rfl
theorem all_out {σ τ : Type} {F : Nat} {yy : σ → (Int × Int) → Option (σ ⊕ τ)} {g : List (List Int)} (hm : g.length ≤ 1000000) (hr : ∀ l ∈ g, l.length ≤ 1000000 ∧ l.length < F) : ∀ (k i : Nat) (s : σ), g.length < k + i → i ≤ g.length →
    M_graph_All_1_l7 F yy g k ((i : Int), s) = runFold yy (af i (g.drop i)) s
  | 0, _, _, _, _ => by omega
  | k + 1, i, s, h, hi => by
    show M_graph_All_1_b7 F yy g (M_graph_All_1_l7 F yy g k) (i : Int) s = _
    unfold M_graph_All_1_b7
    by_cases hlt : i < g.length
    · have hrow := hr _ (List.getElem_mem hlt)
      rw [if_pos (by simp; omega), idx_nat, List.getElem?_eq_getElem hlt, List.drop_eq_getElem_cons hlt]
      simp only [Option.bind_some]
      have := all_in (F := F) (yy := yy) (rec7 := M_graph_All_1_l7 F yy g k) (i := (i : Int)) hrow.1 F 0 s (by omega) (by omega)
      rw [List.drop_zero, show ((0 : Nat) : Int) = 0 from rfl] at this
      rw [this]
      unfold af
      rw [runFold_app]
      congr 1
      funext r
      cases r with
      | inl s' =>
        simp only [Sum.elim_inl]
        unfold M_graph_All_1_j9
        rw [iadd1_n (by omega)]
        exact all_out hm hr k (i + 1) s' (by omega) (by omega)
      | inr t => rfl
    · rw [if_neg (by simp; omega), List.drop_eq_nil_of_le (by omega)]
      rfl
theorem all_eq {σ τ : Type} {F : Nat} {yy : σ → (Int × Int) → Option (σ ⊕ τ)} {g : List (List Int)} {s : σ} (hF : g.length < F) (hm : g.length ≤ 1000000) (hr : ∀ l ∈ g, l.length ≤ 1000000 ∧ l.length < F) : M_graph_All_1 F yy g s = runFold yy (af 0 g) s := by
  unfold M_graph_All_1
  have := all_out (yy := yy) hm hr F 0 s (by omega) (by omega)
  rw [List.drop_zero] at this
  exact this
theorem af_len : ∀ (i : Nat) (g : List (List Int)), (af i g).length = gtot g
  | _, [] => rfl
  | i, l :: g => by unfold af gtot; rw [List.length_append, List.length_map, af_len (i + 1) g]
theorem pwx : ∀ {A B : List Int}, A.Pairwise (· < ·) → B.Pairwise (· < ·) → (∀ z, z ∈ A ↔ z ∈ B) → A = B := by
  intro A B hA hB h
  have nd : ∀ {C : List Int}, C.Pairwise (· < ·) → C.Nodup := fun hC => hC.imp fun h => by omega
  exact List.Perm.eq_of_pairwise (le := fun x y : Int => x < y) (fun a b _ _ h1 h2 => by omega) hA hB ((List.perm_ext_iff_of_nodup (nd hA) (nd hB)).2 h)
def rowOf (l : List (Int × Int)) (i : Int) : List Int := (l.filter fun p => decide (p.1 = i)).map (·.2)
def tab (n : Nat) (l : List (Int × Int)) : List (List Int) := (List.range n).map fun (i : Nat) => rowOf l (i : Int)
theorem tab_len (n : Nat) (l : List (Int × Int)) : (tab n l).length = n := by simp [tab]
theorem tab_get {n i : Nat} {l : List (Int × Int)} (h : i < n) : (tab n l)[i]? = some (rowOf l i) := by simp [tab, h]
theorem rowOf_len (l : List (Int × Int)) (i : Int) : (rowOf l i).length ≤ l.length := by
  unfold rowOf
  rw [List.length_map]
  exact List.length_filter_le _ _
theorem tab_snoc {n a : Nat} {l : List (Int × Int)} {b : Int} : tab n (l ++ [((a : Int), b)]) = (tab n l).set a (rowOf l a ++ [b]) := by
  apply List.ext_getElem (by simp [tab])
  intro i h1 h2
  rw [tab_len] at h1
  rw [List.getElem_set]
  simp only [tab, List.getElem_map, List.getElem_range]
  by_cases h : a = i
  · rw [if_pos h, ← h]; simp [rowOf]
  · rw [if_neg h]
    have : ¬ (a : Int) = (i : Int) := by omega
    simp [rowOf, this]
theorem tab_nil (n : Nat) : tab n [] = List.replicate n [] := by
  apply List.ext_getElem (by simp [tab])
  intro i h1 h2
  simp [tab, rowOf]
theorem mk_nil {n : Nat} {lim : Nat} (h : n ≤ lim) : mk lim ([] : List Int) (n : Int) = some (tab n []) := by
  unfold mk
  rw [if_pos ⟨by omega, by omega⟩, tab_nil]; simp
def InR (n : Nat) (l : List (Int × Int)) : Prop := ∀ p ∈ l, 0 ≤ p.1 ∧ p.1 < (n : Int) ∧ 0 ≤ p.2 ∧ p.2 < (n : Int)
theorem take_snoc {α : Type} {l : List α} {j : Nat} (h : j < l.length) : l.take (j + 1) = l.take j ++ [l[j]] := by
  rw [List.take_add_one, List.getElem?_eq_getElem h]; rfl
def IsTab (n : Nat) (l : List (Int × Int)) (T : List (List Int)) : Prop :=
  T.length = n ∧ ∀ (i : Nat) (r : List Int), T[i]? = some r → r.Pairwise (· < ·) ∧ ∀ x, x ∈ r ↔ ((i : Int), x) ∈ l
theorem isTab_uniq {n : Nat} {l l' : List (Int × Int)} {T T' : List (List Int)} (h : IsTab n l T) (h' : IsTab n l' T') (hm : ∀ p, p ∈ l ↔ p ∈ l') : T = T' := by
  apply List.ext_getElem (by rw [h.1, h'.1])
  intro i h1 h2
  have a := h.2 i _ (List.getElem?_eq_getElem h1)
  have b := h'.2 i _ (List.getElem?_eq_getElem h2)
  exact pwx a.1 b.1 fun z => by rw [a.2, b.2, hm]
theorem mem_rowOf {l : List (Int × Int)} {i x : Int} : x ∈ rowOf l i ↔ (i, x) ∈ l := by
  unfold rowOf
  rw [List.mem_map]
  constructor
  · rintro ⟨p, hp, rfl⟩
    obtain ⟨h1, h2⟩ := List.mem_filter.1 hp
    have : p.1 = i := by simpa using h2
    rw [← this]; exact h1
  · intro h
    exact ⟨(i, x), List.mem_filter.2 ⟨h, by simp⟩, rfl⟩
theorem mem_af : ∀ {g : List (List Int)} {k : Nat} {p : Int × Int}, p ∈ af k g ↔ ∃ i r, g[i]? = some r ∧ p.1 = ((k + i : Nat) : Int) ∧ p.2 ∈ r
  | [], k, p => by simp [af]
  | l :: g, k, p => by
    unfold af
    rw [List.mem_append, mem_af (g := g), List.mem_map]
    constructor
    · rintro (⟨x, hx, rfl⟩ | ⟨i, r, h1, h2, h3⟩)
      · exact ⟨0, l, by simp, by simp, hx⟩
      · exact ⟨i + 1, r, by simpa using h1, by omega, h3⟩
    · rintro ⟨i, r, h1, h2, h3⟩
      cases i with
      | zero =>
        simp only [List.getElem?_cons_zero, Option.some.injEq] at h1
        subst h1
        exact .inl ⟨p.2, h3, by rw [Nat.add_zero] at h2; rw [← h2]⟩
      | succ i =>
        refine .inr ⟨i, r, by simpa using h1, by omega, h3⟩
theorem af_isTab {g : List (List Int)} (h : ∀ r ∈ g, r.Pairwise (· < ·)) : IsTab g.length (af 0 g) g := by
  refine ⟨rfl, fun i r hr => ⟨h r (List.mem_of_getElem? hr), fun x => ?_⟩⟩
  rw [mem_af]
  constructor
  · intro hx; exact ⟨i, r, hr, by simp, hx⟩
  · rintro ⟨i', r', h1, h2, h3⟩
    have : i' = i := by simp at h2; omega
    subst this
    rw [hr] at h1
    cases h1
    exact h3
theorem gr_in {g : List (List Int)} (h : Gr g) : InR g.length (af 0 g) := fun p hp => by
  obtain ⟨i, r, h1, h2, h3⟩ := mem_af.1 hp
  have h4 := (List.getElem?_eq_some_iff.1 h1).1
  have h5 := (h.2.1 r (List.mem_of_getElem? h1)).2 _ h3
  refine ⟨by omega, by omega, h5.1, h5.2⟩
theorem gr_pw {g : List (List Int)} (h : Gr g) : ∀ r ∈ g, r.Pairwise (· < ·) := fun r hr => (h.2.1 r hr).1
def cols (l : List (Int × Int)) (i j : Nat) : List Int := ((List.range j).filter fun (c : Nat) => decide (((i : Int), (c : Int)) ∈ l)).map fun (c : Nat) => (c : Int)
theorem cols_len (l : List (Int × Int)) (i j : Nat) : (cols l i j).length ≤ j := by
  unfold cols
  rw [List.length_map]
  exact Nat.le_trans (List.length_filter_le _ _) (by simp)
theorem cols_isTab {n : Nat} {l : List (Int × Int)} (hl : InR n l) : IsTab n l ((List.range n).map fun i => cols l i n) := by
  refine ⟨by simp, fun i r hr => ?_⟩
  have hi : i < n := by have := (List.getElem?_eq_some_iff.1 hr).1; simpa using this
  simp only [List.getElem?_map, List.getElem?_range hi, Option.map_some, Option.some.injEq] at hr
  subst hr
  unfold cols
  constructor
  · rw [List.pairwise_map]
    exact (List.pairwise_lt_range.filter _).imp fun h => by omega
  · intro x
    rw [List.mem_map]
    constructor
    · rintro ⟨c, hc, rfl⟩
      simpa using (List.mem_filter.1 hc).2
    · intro h
      have := hl _ h
      obtain ⟨c, hc⟩ := Int.eq_ofNat_of_zero_le this.2.2.1
      have hc : x = (c : Int) := hc
      refine ⟨c, List.mem_filter.2 ⟨by simp; omega, by simp [← hc, h]⟩, hc.symm⟩
theorem gr_len {g : List (List Int)} (h : Gr g) : (af 0 g).length ≤ 600 := by rw [af_len]; exact h.2.2
theorem leads_eq {F i : Nat} {g : List (List Int)} (hF : 1000 ≤ F) (hg : Gr g) (hi : i < g.length) {v : Int} : M_R_Leads F g (i : Int) v = some (decide (((i : Int), v) ∈ af 0 g)) := by
  unfold M_R_Leads
  have hr := gr_row hg (List.getElem_mem hi)
  rw [idx_nat, List.getElem?_eq_getElem hi]
  simp only [Option.bind_some]
  rw [hasInt_eq (by omega) (by omega)]
  simp only [Option.bind_some]
  rw [decide_eq_decide.2 (((af_isTab (gr_pw hg)).2 i _ (List.getElem?_eq_getElem hi)).2 v)]
theorem irem_n {a b : Nat} : irem (a : Int) (b : Int) = ((a % b : Nat) : Int) := by
  unfold irem
  rw [Int.tmod_eq_emod_of_nonneg (by omega)]
  omega
theorem less_eq {F : Nat} {x y : Int} : M_cmp_Less_int F x y = some (decide (x < y)) := by
  unfold M_cmp_Less_int M_cmp_isNaN_int
  simp [M_cmp_Less_int_j1]
theorem half_eq {i j : Nat} (h : i + j < 1000000000) : iconv .i64 (ishr .u64 (iconv .u64 (iadd .i64 (i : Int) (j : Int))) 1) = (((i + j) / 2 : Nat) : Int) := by
  rw [iadd_n (by omega)]
  have e1 : iconv .u64 ((i + j : Nat) : Int) = ((i + j : Nat) : Int) := wrap_u64 (by omega) (by omega)
  have e2 := ishr_eq (k := .u64) (a := ((i + j : Nat) : Int)) (m := 1) (by decide)
  rw [show ((1 : Nat) : Int) = 1 from rfl, show (2 : Int) ^ 1 = 2 from rfl] at e2
  rw [e1, e2]
  have e3 : ((i + j : Nat) : Int) / 2 = (((i + j) / 2 : Nat) : Int) := by omega
  rw [e3]
  exact wrap_i64 (by omega) (by omega)
theorem search_l {F : Nat} {l : List Int} {v : Int} (hl : l.Pairwise (· < ·)) (hm : l.length ≤ 100000) : ∀ (k i j : Nat), j < k + i → i ≤ j → j ≤ l.length → (∀ z ∈ l.take i, z < v) → (∀ z ∈ l.drop j, v ≤ z) →
    ∃ p, M_slices_BinarySearch_int_int_l10 F l v k ((i : Int), (j : Int)) = some (p, decide (v ∈ l))
  | 0, _, _, _, _, _, _, _ => by omega
  | k + 1, i, j, h, hij, hj, h1, h2 => by
    show ∃ p, M_slices_BinarySearch_int_int_b10 F l v (M_slices_BinarySearch_int_int_l10 F l v k) (i : Int) (j : Int) = _
    unfold M_slices_BinarySearch_int_int_b10
    by_cases hlt : i < j
    · have hh : (i + j) / 2 < l.length := by omega
      rw [if_pos (by simp; omega)]
      unfold lett
      rw [half_eq (by omega)]
      simp only
      rw [idx_nat, List.getElem?_eq_getElem hh]
      simp only [Option.bind_some]
      rw [less_eq]
      simp only [Option.bind_some]
      by_cases hc : l[(i + j) / 2] < v
      · rw [decide_eq_true hc, if_pos rfl, iadd1_n (by omega)]
        refine search_l hl hm k ((i + j) / 2 + 1) j (by omega) (by omega) hj (fun z hz => ?_) h2
        obtain ⟨q, hq⟩ := List.getElem?_of_mem hz
        have hq1 := (List.getElem?_eq_some_iff.1 hq).1
        rw [List.length_take] at hq1
        rw [List.getElem?_take_of_lt (by omega), List.getElem?_eq_getElem (by omega)] at hq
        simp only [Option.some.injEq] at hq
        subst hq
        by_cases e : q = (i + j) / 2
        · subst e; exact hc
        · have := List.pairwise_iff_getElem.1 hl q ((i + j) / 2) (by omega) hh (by omega)
          omega
      · rw [decide_eq_false hc, if_neg (by simp)]
        refine search_l hl hm k i ((i + j) / 2) (by omega) (by omega) (by omega) h1 (fun z hz => ?_)
        obtain ⟨q, hq⟩ := List.getElem?_of_mem hz
        rw [List.getElem?_drop] at hq
        have hq1 := (List.getElem?_eq_some_iff.1 hq).1
        rw [List.getElem?_eq_getElem hq1] at hq
        simp only [Option.some.injEq] at hq
        subst hq
        by_cases e : q = 0
        · subst e; simp only [Nat.add_zero]; omega
        · have := List.pairwise_iff_getElem.1 hl ((i + j) / 2) ((i + j) / 2 + q) hh (by omega) (by omega)
          omega
    · obtain rfl : i = j := by omega
      rw [if_neg (by simp)]
      unfold M_slices_BinarySearch_int_int_j2
      by_cases hi : i < l.length
      · have hd : l.drop i = l[i] :: l.drop (i + 1) := List.drop_eq_getElem_cons hi
        have hmem : v ∈ l ↔ l[i] = v := by
          constructor
          · intro hv
            rw [← List.take_append_drop i l] at hv
            rcases List.mem_append.1 hv with hv | hv
            · have := h1 v hv; omega
            · rw [hd] at hv
              rcases List.mem_cons.1 hv with hv | hv
              · exact hv.symm
              · have hp := hl.sublist (List.drop_sublist i l)
                rw [hd] at hp
                have := (List.pairwise_cons.1 hp).1 v hv
                have := h2 l[i] (by rw [hd]; exact List.mem_cons_self ..)
                omega
          · intro hv; rw [← hv]; exact List.getElem_mem hi
        rw [if_pos (by simp; omega), idx_nat, List.getElem?_eq_getElem hi]
        simp only [Option.bind_some]
        by_cases he : l[i] = v
        · rw [if_pos (by simpa using he), decide_eq_true (hmem.2 he)]
          exact ⟨_, rfl⟩
        · rw [if_neg (by simpa using he), decide_eq_false (fun h => he (hmem.1 h))]
          unfold M_slices_isNaN_int
          simp only [Option.bind_some, bne_self_eq_false, Bool.false_eq_true, if_false]
          exact ⟨_, rfl⟩
      · rw [if_neg (by simp; omega)]
        have hn : v ∉ l := by
          intro hv
          rw [List.take_of_length_le (by omega)] at h1
          have := h1 v hv
          omega
        rw [decide_eq_false hn]
        exact ⟨_, rfl⟩
theorem search_eq {F : Nat} (hF : 200000 ≤ F) {l : List Int} {v : Int} (hl : l.Pairwise (· < ·)) (hm : l.length ≤ 100000) : ∃ p, M_slices_BinarySearch_int_int F l v = some (p, decide (v ∈ l)) := by
  unfold M_slices_BinarySearch_int_int
  exact search_l hl hm F 0 l.length (by omega) (by omega) (Nat.le_refl _) (by simp) (by simp)
theorem cup_step {xs : List Int} (h : xs.Pairwise (· ≤ ·)) : ∀ m, m ≤ xs.length → (Go.Lib.compactUpTo xs.toArray m).Pairwise (· < ·) ∧ ∀ z, z ∈ Go.Lib.compactUpTo xs.toArray m ↔ z ∈ xs.take m
  | 0, _ => by simp [Go.Lib.compactUpTo]
  | m + 1, hm => by
    obtain ⟨a1, a2⟩ := cup_step h m (by omega)
    have hlt : m < xs.length := by omega
    have hg : xs.toArray[m]! = xs[m] := by rw [getElem!_pos xs.toArray m (by simpa using hlt)]; simp
    rw [Go.Lib.compactUpTo_succ, hg, take_snoc hlt]
    have hle : ∀ z ∈ xs.take m, z ≤ xs[m] := fun z hz => by
      obtain ⟨i, hi, rfl⟩ := List.mem_iff_getElem.1 hz
      rw [List.length_take] at hi
      rw [List.getElem_take]
      exact List.pairwise_iff_getElem.1 h i m (by omega) hlt (by omega)
    by_cases hk : Go.Lib.keeps xs.toArray m = true
    · rw [if_pos hk]
      refine ⟨List.pairwise_append.2 ⟨a1, by simp, fun a ha b hb => ?_⟩, fun z => by rw [List.mem_append, List.mem_append, a2]⟩
      rw [List.mem_singleton] at hb
      subst hb
      have ha' := (a2 a).1 ha
      have h1 := hle a ha'
      rcases Nat.eq_zero_or_pos m with h0 | h0
      · subst h0; simp at ha'
      · rw [keeps_get h0 hlt] at hk
        have hne : xs[m] ≠ xs[m - 1] := by simpa using hk
        obtain ⟨i, hi, rfl⟩ := List.mem_iff_getElem.1 ha'
        rw [List.length_take] at hi
        rw [List.getElem_take] at h1 ⊢
        have h2 : xs[i] ≤ xs[m - 1] := by
          by_cases hi2 : i = m - 1
          · subst hi2; exact Int.le_refl _
          · exact List.pairwise_iff_getElem.1 h i (m - 1) (by omega) (by omega) (by omega)
        have h3 : xs[m - 1] ≤ xs[m] := List.pairwise_iff_getElem.1 h (m - 1) m (by omega) hlt (by omega)
        omega
    · rw [if_neg hk, List.append_nil]
      refine ⟨a1, fun z => ?_⟩
      rw [a2, List.mem_append]
      rcases Nat.eq_zero_or_pos m with h0 | h0
      · subst h0; simp [Go.Lib.keeps] at hk
      · rw [keeps_get h0 hlt] at hk
        have he : xs[m] = xs[m - 1] := by simpa using hk
        constructor
        · exact .inl
        · rintro (h1 | h1)
          · exact h1
          · rw [List.mem_singleton] at h1
            rw [h1, he]
            have : m - 1 < (xs.take m).length := by rw [List.length_take]; omega
            have e : (xs.take m)[m - 1] = xs[m - 1] := List.getElem_take
            rw [← e]; exact List.getElem_mem this
theorem compact_pw {xs : List Int} (h : xs.Pairwise (· ≤ ·)) : (Go.Lib.compact xs).Pairwise (· < ·) ∧ ∀ z, z ∈ Go.Lib.compact xs ↔ z ∈ xs := by
  obtain ⟨a1, a2⟩ := cup_step h xs.length (Nat.le_refl _)
  refine ⟨a1, fun z => ?_⟩
  have := a2 z
  rwa [List.take_length] at this
def exA (l : List (Int × Int)) : List (Int × Int) := l.flatMap fun p => if p.1 ≠ p.2 then [(p.1, p.2), (p.2, p.1)] else []
theorem exA_mem {l : List (Int × Int)} {p : Int × Int} : p ∈ exA l ↔ p.1 ≠ p.2 ∧ (p ∈ l ∨ (p.2, p.1) ∈ l) := by
  unfold exA
  rw [List.mem_flatMap]
  constructor
  · rintro ⟨q, hq, hp⟩
    by_cases h : q.1 ≠ q.2
    · rw [if_pos h] at hp
      rcases List.mem_cons.1 hp with rfl | hp
      · exact ⟨h, .inl hq⟩
      · rw [List.mem_singleton] at hp
        subst hp
        exact ⟨fun he => h he.symm, .inr hq⟩
    · rw [if_neg h] at hp; simp at hp
  · rintro ⟨h, hq | hq⟩
    · exact ⟨p, hq, by rw [if_pos h]; simp⟩
    · exact ⟨_, hq, by rw [if_pos (fun he => h he.symm)]; simp⟩
theorem exA_len (l : List (Int × Int)) : (exA l).length ≤ 2 * l.length := by
  induction l with
  | nil => simp [exA]
  | cons p l ih =>
    unfold exA at *
    rw [List.flatMap_cons, List.length_append, List.length_cons]
    split
    · simp only [List.length_cons, List.length_nil]; omega
    · simp only [List.length_nil]; omega
theorem exA_app (A B : List (Int × Int)) : exA (A ++ B) = exA A ++ exA B := by simp [exA, List.flatMap_append]
theorem exA_in {n : Nat} {l : List (Int × Int)} (h : InR n l) : InR n (exA l) := fun p hp => by
  obtain ⟨_, h1 | h1⟩ := exA_mem.1 hp
  · exact h p h1
  · have := h _ h1; exact ⟨this.2.2.1, this.2.2.2, this.1, this.2.1⟩
/-- Neighbours told as pairs. -/
def E (g : List (List Int)) : List (Int × Int) := exA (af 0 g)
theorem near_fold {F n : Nat} {yy : List (List Int) → (Int × Int) → Option (List (List Int) ⊕ Empty)} (hy : ∀ s p, yy s p = M_core_near_r2 F s p.1 p.2) : ∀ (A acc : List (Int × Int)), InR n A → acc.length + A.length ≤ 1000000 →
    runFold yy A (tab n (exA acc)) = some (.inl (tab n (exA (acc ++ A))))
  | [], acc, _, _ => by rw [List.append_nil]; rfl
  | p :: A, acc, h, hm => by
    rw [List.length_cons] at hm
    obtain ⟨h1, h2, h3, h4⟩ := h p (by simp)
    have hrec := near_fold hy A (acc ++ [p]) (fun q hq => h q (by simp [hq])) (by simp; omega)
    rw [List.append_assoc] at hrec
    show (yy _ p).bind _ = _
    rw [hy]
    unfold M_core_near_r2
    obtain ⟨a, ha⟩ := Int.eq_ofNat_of_zero_le h1
    obtain ⟨b, hb⟩ := Int.eq_ofNat_of_zero_le h3
    have e : p = ((a : Int), (b : Int)) := Prod.ext ha hb
    have hex := exA_len acc
    have hl1 := rowOf_len (exA acc) (a : Int)
    have hl2 := rowOf_len (exA acc) (b : Int)
    subst e
    simp only at *
    by_cases hab : a = b
    · subst hab
      rw [if_neg (by simp)]
      have : exA (acc ++ [((a : Int), (a : Int))]) = exA acc := by rw [exA_app]; simp [exA]
      rw [this] at hrec
      simp only [Option.bind_some, Sum.elim_inl]
      exact hrec
    · have habi : ¬ (a : Int) = (b : Int) := by omega
      have e1 : exA (acc ++ [((a : Int), (b : Int))]) = exA acc ++ [((a : Int), (b : Int))] ++ [((b : Int), (a : Int))] := by
        rw [exA_app, List.append_assoc]
        simp [exA, habi]
      have e2 : rowOf (exA acc ++ [((a : Int), (b : Int))]) (b : Int) = rowOf (exA acc) (b : Int) := by
        unfold rowOf
        rw [List.filter_append]
        simp [habi]
      rw [e1, tab_snoc, tab_snoc, e2] at hrec
      rw [if_pos (by simpa using habi), idx_nat, tab_get (by omega)]
      simp only [Option.bind_some]
      rw [idx_nat, tab_get (by omega)]
      simp only [Option.bind_some, chk, lett]
      rw [if_pos (by simp; omega), app_eq (by rw [List.length_singleton]; omega)]
      simp only [Option.bind_some]
      rw [app_eq (by rw [List.length_singleton]; omega)]
      simp only [Option.bind_some, Sum.elim_inl, Int.toNat_natCast]
      exact hrec
/-- The first rows done, the rest as they were. -/
def tb2 (n : Nat) (f h : Nat → List Int) (i : Nat) : List (List Int) := (List.range n).map fun a => if a < i then f a else h a
theorem tb2_len (n : Nat) (f h : Nat → List Int) (i : Nat) : (tb2 n f h i).length = n := by simp [tb2]
theorem tb2_get {n i : Nat} {f h : Nat → List Int} (hi : i < n) : (tb2 n f h i)[i]? = some (h i) := by simp [tb2, hi]
theorem tb2_set {n i : Nat} {f h : Nat → List Int} : (tb2 n f h i).set i (f i) = tb2 n f h (i + 1) := by
  apply List.ext_getElem (by simp [tb2])
  intro a h1 h2
  rw [List.getElem_set]
  simp only [tb2, List.getElem_map, List.getElem_range]
  by_cases h : i = a
  · subst h; simp
  · rw [if_neg h]
    by_cases h3 : a < i
    · rw [if_pos h3, if_pos (by omega)]
    · rw [if_neg h3, if_neg (by omega)]
theorem tb2_all {n : Nat} {f h : Nat → List Int} : tb2 n f h n = (List.range n).map f := by
  apply List.ext_getElem (by simp [tb2])
  intro a h1 h2
  rw [tb2_len] at h1
  simp [tb2, h1]
theorem near_l {F n : Nat} {T : List (List Int)} {h : Nat → List Int} (hT : T.length = n) (hh : ∀ i, (h i).length ≤ 1000000) (hn : n ≤ 1000000) : ∀ (k i : Nat), n < k + i → i ≤ n →
    M_core_near_l5 F T k ((i : Int), tb2 n (fun a => Go.Lib.compact (srt (h a))) h i) = some ((List.range n).map fun a => Go.Lib.compact (srt (h a)))
  | 0, _, _, _ => by omega
  | k + 1, i, hk, hi => by
    show M_core_near_b5 F T (M_core_near_l5 F T k) (i : Int) (tb2 n (fun a => Go.Lib.compact (srt (h a))) h i) = _
    unfold M_core_near_b5
    by_cases hlt : i < n
    · have hrec := near_l (F := F) (T := T) (h := h) hT hh hn k (i + 1) (by omega) (by omega)
      have hhi := hh i
      have hsl : (srt (h i)).length = (h i).length := srt_len _
      have hcl := compact_len (srt (h i))
      rw [if_pos (by simp; omega), idx_nat, tb2_get hlt]
      simp only [Option.bind_some]
      unfold M_slices_Sort_int_int
      rw [if_pos (by omega)]
      simp only [Option.bind_some, chk, lett, Int.toNat_natCast]
      rw [if_pos (by simp [hsl]), idx_nat, List.getElem?_set_self (by rw [tb2_len]; exact hlt)]
      simp only [Option.bind_some]
      unfold M_slices_Compact_int_int
      rw [if_pos hcl]
      simp only [Option.bind_some]
      rw [iadd1_n (by omega), List.set_set]
      have := tb2_set (n := n) (i := i) (f := fun a => Go.Lib.compact (srt (h a))) (h := h)
      rw [this]
      exact hrec
    · rw [if_neg (by simp; omega), show i = n from by omega, tb2_all]
      rfl
/-- Each node's neighbours, rising. -/
def nr (g : List (List Int)) : List (List Int) := (List.range g.length).map fun i => cols (E g) i g.length
theorem nr_isTab {g : List (List Int)} (h : Gr g) : IsTab g.length (E g) (nr g) := cols_isTab (exA_in (gr_in h))
theorem near_eq {F : Nat} {g : List (List Int)} (hF : 2000 ≤ F) (hg : Gr g) : M_core_near F g = some (nr g) := by
  have h1 := hg.1
  have h2 := gr_len hg
  have hex := exA_len (af 0 g)
  unfold M_core_near M_graph_All
  rw [mk_nil (by omega)]
  simp only [Option.bind_some]
  rw [all_eq (by omega) (by omega) (fun l hl => by have := gr_row hg hl; omega)]
  have hf := near_fold (F := F) (n := g.length) (yy := fun x x_1 => M_core_near_r2 F x x_1.1 x_1.2) (fun _ _ => rfl) (af 0 g) [] (gr_in hg) (by simp; omega)
  rw [List.nil_append] at hf
  refine (congrArg (fun z => Option.bind z _) hf).trans ?_
  simp only [Option.bind_some, Sum.elim_inl]
  have e0 : tab g.length (exA (af 0 g)) = tb2 g.length (fun a => Go.Lib.compact (srt (rowOf (exA (af 0 g)) (a : Nat)))) (fun (a : Nat) => rowOf (exA (af 0 g)) a) 0 := by
    apply List.ext_getElem (by simp [tb2, tab])
    intro a b1 b2
    simp [tb2, tab]
  have hl := near_l (F := F) (n := g.length) (T := tab g.length (exA (af 0 g))) (h := fun (a : Nat) => rowOf (exA (af 0 g)) a) (tab_len _ _) (fun i => by have := rowOf_len (exA (af 0 g)) (i : Int); show (rowOf (exA (af 0 g)) (i : Int)).length ≤ _; omega) (by omega) F 0 (by omega) (by omega)
  rw [← e0] at hl
  refine Eq.trans hl ?_
  congr 1
  have ht : IsTab g.length (E g) ((List.range g.length).map fun (a : Nat) => Go.Lib.compact (srt (rowOf (exA (af 0 g)) a))) := by
    refine ⟨by simp, fun i r hr => ?_⟩
    have hi : i < g.length := by have := (List.getElem?_eq_some_iff.1 hr).1; simpa using this
    simp only [List.getElem?_map, List.getElem?_range hi, Option.map_some, Option.some.injEq] at hr
    subst hr
    obtain ⟨c1, c2⟩ := compact_pw (srt_pw (rowOf (exA (af 0 g)) (i : Int)))
    exact ⟨c1, fun x => by rw [c2, (srt_perm _).mem_iff, mem_rowOf]; rfl⟩
  exact isTab_uniq ht (nr_isTab hg) fun _ => Iff.rfl
theorem nr_len (g : List (List Int)) : (nr g).length = g.length := by simp [nr]
/-- Are two nodes neighbours? -/
def Nb (g : List (List Int)) (i k : Nat) : Bool := decide (((i : Int), (k : Int)) ∈ E g)
theorem Nb_sym {g : List (List Int)} {i k : Nat} : Nb g i k = Nb g k i := by
  unfold Nb
  refine decide_eq_decide.2 ?_
  unfold E
  rw [exA_mem, exA_mem]
  constructor
  · rintro ⟨h1, h2⟩; exact ⟨fun h => h1 h.symm, h2.symm⟩
  · rintro ⟨h1, h2⟩; exact ⟨fun h => h1 h.symm, h2.symm⟩
theorem Nb_irr {g : List (List Int)} {i : Nat} : Nb g i i = false := by
  unfold Nb
  refine decide_eq_false ?_
  unfold E
  rw [exA_mem]; simp
theorem Nb_lt {g : List (List Int)} (hg : Gr g) {i k : Nat} (h : Nb g i k = true) : i < g.length ∧ k < g.length := by
  have := exA_in (gr_in hg) _ (of_decide_eq_true h)
  simp only at this
  omega
theorem rnear_eq {F i k : Nat} {g : List (List Int)} (hF : 1000 ≤ F) (hg : Gr g) (hi : i < g.length) (hk : k < g.length) : M_R_Near F g (i : Int) (k : Int) = some (Nb g i k) := by
  unfold M_R_Near
  by_cases h : i = k
  · subst h
    rw [if_neg (by simp), Nb_irr]; rfl
  · have hi' : ¬ (i : Int) = (k : Int) := by omega
    rw [if_pos (by simpa using hi'), leads_eq hF hg hi]
    simp only [Option.bind_some]
    unfold Nb E
    by_cases h1 : ((i : Int), (k : Int)) ∈ af 0 g
    · rw [if_pos (by simpa using h1), decide_eq_true (exA_mem.2 ⟨hi', .inl h1⟩)]; rfl
    · rw [if_neg (by simpa using h1), leads_eq hF hg hk]
      simp only [Option.bind_some]
      unfold M_R_Near_j3 M_R_Near_j2
      congr 1
      exact decide_eq_decide.2 ⟨fun h2 => exA_mem.2 ⟨hi', .inr h2⟩, fun h2 => (exA_mem.1 h2).2.resolve_left h1⟩
theorem nr_get {g : List (List Int)} {i : Nat} (hi : i < g.length) : (nr g)[i]? = some (cols (E g) i g.length) := by simp [nr, hi]
/-- A row as a list of nodes. -/
def nbs (g : List (List Int)) (i : Nat) : List Nat := (List.range g.length).filter fun k => Nb g i k
theorem cols_nbs (g : List (List Int)) (i : Nat) : cols (E g) i g.length = (nbs g i).map fun (k : Nat) => (k : Int) := rfl
theorem mem_nbs {g : List (List Int)} (hg : Gr g) {i k : Nat} : k ∈ nbs g i ↔ Nb g i k = true := by
  unfold nbs
  rw [List.mem_filter, List.mem_range]
  exact ⟨fun h => h.2, fun h => ⟨(Nb_lt hg h).2, h⟩⟩
theorem nbs_pw (g : List (List Int)) (i : Nat) : (nbs g i).Pairwise (· < ·) := List.pairwise_lt_range.filter _
theorem nbs_len (g : List (List Int)) (i : Nat) : (nbs g i).length ≤ g.length := by
  unfold nbs
  exact Nat.le_trans (List.length_filter_le _ _) (by simp)
def dg (g : List (List Int)) (S : Nat → Bool) (v : Nat) : Nat := (List.range g.length).countP fun u => S u && Nb g v u
def KK (g : List (List Int)) (k : Nat) (S : Nat → Bool) : Prop := ∀ v, v < g.length → S v = true → k ≤ dg g S v
structure IsCore (g : List (List Int)) (c : Nat → Nat) : Prop where
  own : ∀ v, v < g.length → c v ≤ dg g (fun u => decide (c v ≤ c u)) v
  max : ∀ k S, KK g k S → ∀ v, v < g.length → S v = true → k ≤ c v
theorem dg_mono {g : List (List Int)} {S T : Nat → Bool} {v : Nat} (h : ∀ u, u < g.length → S u = true → T u = true) : dg g S v ≤ dg g T v := by
  unfold dg
  refine List.countP_mono_left fun u hu hs => ?_
  rw [List.mem_range] at hu
  simp only [Bool.and_eq_true] at hs ⊢
  exact ⟨h u hu hs.1, hs.2⟩
theorem KK_le {g : List (List Int)} {k j : Nat} {S : Nat → Bool} (h : KK g k S) (hj : j ≤ k) : KK g j S := fun v hv hs => Nat.le_trans hj (h v hv hs)
theorem core_KK {g : List (List Int)} {c : Nat → Nat} (h : IsCore g c) (m : Nat) : KK g m (fun u => decide (m ≤ c u)) := fun v hv hs => by
  have hs : m ≤ c v := of_decide_eq_true hs
  refine Nat.le_trans hs (Nat.le_trans (h.own v hv) (dg_mono fun u _ hu => ?_))
  have hu : c v ≤ c u := of_decide_eq_true hu
  exact decide_eq_true (by omega)
theorem core_uniq {g : List (List Int)} {c c' : Nat → Nat} (h : IsCore g c) (h' : IsCore g c') : ∀ v, v < g.length → c v = c' v := fun v hv => by
  have h1 := h'.max (c v) _ (core_KK h (c v)) v hv (decide_eq_true (Nat.le_refl _))
  have h2 := h.max (c' v) _ (core_KK h' (c' v)) v hv (decide_eq_true (Nat.le_refl _))
  omega
theorem countP_minus {p : Nat → Bool} {a : Nat} : ∀ {l : List Nat}, l.Nodup → a ∈ l → l.countP p = l.countP (fun u => p u && decide (u ≠ a)) + if p a then 1 else 0
  | [], _, h => by simp at h
  | b :: l, hn, h => by
    obtain ⟨h1, h2⟩ := List.nodup_cons.1 hn
    rw [List.countP_cons, List.countP_cons]
    rcases List.mem_cons.1 h with rfl | h
    · have e : l.countP (fun u => p u && decide (u ≠ a)) = l.countP p := List.countP_congr fun u hu => by
        have : u ≠ a := fun he => h1 (he ▸ hu)
        simp [this]
      rw [e]; simp
    · have hne : b ≠ a := fun he => h1 (he ▸ h)
      rw [countP_minus h2 h]
      simp only [ne_eq, hne, not_false_eq_true, decide_true, Bool.and_true]
      omega
def sub1 (S : Nat → Bool) (a : Nat) : Nat → Bool := fun u => S u && decide (u ≠ a)
theorem dg_minus {g : List (List Int)} {S : Nat → Bool} {a v : Nat} (ha : a < g.length) (hs : S a = true) : dg g S v = dg g (sub1 S a) v + if Nb g v a then 1 else 0 := by
  unfold dg
  rw [countP_minus (a := a) List.nodup_range (List.mem_range.2 ha)]
  congr 1
  · refine List.countP_congr fun u _ => ?_
    unfold sub1
    cases S u <;> cases Nb g v u <;> simp
  · simp [hs]
def Best (L : List Int) (b : Int) (i : Nat) : Prop :=
  (b = -1 ∧ ∀ j, j < i → L.getD j 0 < 0) ∨ ∃ v : Nat, v < i ∧ b = (v : Int) ∧ 0 ≤ L.getD v 0 ∧ ∀ j, j < i → 0 ≤ L.getD j 0 → L.getD v 0 ≤ L.getD j 0
theorem getD_of {L : List Int} {i : Nat} (h : i < L.length) : L.getD i 0 = L[i] := by simp [List.getD, List.getElem?_eq_getElem h]
theorem least_l {F : Nat} {X : List (List Int)} {L : List Int} (hm : L.length ≤ 1000000) : ∀ (k i : Nat) (b : Int), L.length < k + i → i ≤ L.length → Best L b i → ∃ b', M_core_peeler_least_l38 F X L k (b, (i : Int)) = some (b', X, L) ∧ Best L b' L.length
  | 0, _, _, _, _, _ => by omega
  | k + 1, i, b, h, hi, hb => by
    show ∃ b', M_core_peeler_least_b38 F X L (M_core_peeler_least_l38 F X L k) b (i : Int) = some (b', X, L) ∧ _
    unfold M_core_peeler_least_b38 M_core_peeler_least_j45 M_core_peeler_least_j44 M_core_peeler_least_j42
    by_cases hlt : i < L.length
    · have hgi := getD_of hlt
      have hrec := fun b => least_l (F := F) (X := X) hm k (i + 1) b (by omega) (by omega)
      rw [if_pos (by simp; omega), idx_nat, List.getElem?_eq_getElem hlt]
      simp only [Option.bind_some]
      rw [iadd1_n (by omega)]
      have stay : (L[i] < 0 ∨ ∃ v : Nat, v < i ∧ b = (v : Int) ∧ L.getD v 0 ≤ L[i]) → Best L b (i + 1) := by
        intro hc
        rcases hb with ⟨hb1, hb2⟩ | ⟨v, hv, hb1, hb2, hb3⟩
        · rcases hc with hc | ⟨v, _, hc, _⟩
          · refine .inl ⟨hb1, fun j hj => ?_⟩
            by_cases hji : j = i
            · subst hji; omega
            · exact hb2 j (by omega)
          · omega
        · refine .inr ⟨v, by omega, hb1, hb2, fun j hj h0 => ?_⟩
          by_cases hji : j = i
          · subst hji
            rcases hc with hc | ⟨v', _, hc1, hc2⟩
            · omega
            · have : v' = v := by omega
              subst this; omega
          · exact hb3 j (by omega) h0
      by_cases h0 : 0 ≤ L[i]
      · rw [if_pos (by simpa using h0)]
        by_cases hb0 : b < 0
        · rw [if_pos (by simpa using hb0), if_pos trivial]
          refine hrec _ (.inr ⟨i, by omega, rfl, by omega, fun j hj h1 => ?_⟩)
          by_cases hji : j = i
          · subst hji; omega
          · rcases hb with ⟨_, hb2⟩ | ⟨v, hv, hb1, _⟩
            · have := hb2 j (by omega); omega
            · omega
        · rw [if_neg (by simpa using hb0)]
          rcases hb with ⟨hb1, _⟩ | ⟨v, hv, hb1, hb2, hb3⟩
          · omega
          · have hgv := getD_of (show v < L.length by omega)
            rw [hb1, idx_nat, List.getElem?_eq_getElem (by omega)]
            simp only [Option.bind_some]
            by_cases hc : L[i] < L[v]
            · rw [if_pos (by simpa using hc)]
              refine hrec _ (.inr ⟨i, by omega, rfl, by omega, fun j hj h1 => ?_⟩)
              by_cases hji : j = i
              · subst hji; omega
              · have := hb3 j (by omega) h1; omega
            · rw [if_neg (by simpa using hc), ← hb1]
              exact hrec _ (stay (.inr ⟨v, hv, hb1, by omega⟩))
      · rw [if_neg (by simpa using h0), if_neg (by simp)]
        exact hrec _ (stay (.inl (by omega)))
    · rw [if_neg (by simp; omega)]
      refine ⟨b, rfl, ?_⟩
      rw [show L.length = i from by omega]; exact hb
theorem least_eq {F : Nat} {X : List (List Int)} {L : List Int} (hm : L.length ≤ 1000000) (hF : L.length < F) : ∃ b', M_core_peeler_least F X L = some (b', X, L) ∧ Best L b' L.length := by
  unfold M_core_peeler_least
  exact least_l hm F 0 (-1) (by omega) (by omega) (.inl ⟨rfl, by omega⟩)
def dl (n : Nat) (L : List Int) (r : List Nat) : List Int := (List.range n).map fun u => if decide (u ∈ r) && decide (0 ≤ L.getD u 0) then L.getD u 0 - 1 else L.getD u 0
theorem dl_len (n : Nat) (L : List Int) (r : List Nat) : (dl n L r).length = n := by simp [dl]
theorem dl_get {n : Nat} {L : List Int} {r : List Nat} {u : Nat} (h : u < n) : (dl n L r)[u]? = some (if decide (u ∈ r) && decide (0 ≤ L.getD u 0) then L.getD u 0 - 1 else L.getD u 0) := by simp [dl, h]
theorem drop_l {F n : Nat} {X : List (List Int)} {L : List Int} {r : List Nat} (hr : ∀ x ∈ r, x < n) (hnd : r.Nodup) (hL : ∀ u, u < n → -1 ≤ L.getD u 0 ∧ L.getD u 0 ≤ 1000000) (hm : r.length ≤ 1000000) : ∀ (k j : Nat), r.length < k + j → j ≤ r.length →
    M_core_peeler_drop_l3 F X (r.map fun (x : Nat) => (x : Int)) k ((j : Int), dl n L (r.take j)) = some (X, dl n L r)
  | 0, _, _, _ => by omega
  | k + 1, j, h, hj => by
    show M_core_peeler_drop_b3 F X (r.map fun (x : Nat) => (x : Int)) (M_core_peeler_drop_l3 F X (r.map fun (x : Nat) => (x : Int)) k) (j : Int) (dl n L (r.take j)) = _
    unfold M_core_peeler_drop_b3 M_core_peeler_drop_j4
    by_cases hlt : j < r.length
    · have hrec := drop_l (F := F) (X := X) hr hnd hL hm k (j + 1) (by omega) (by omega)
      have hx := hr _ (List.getElem_mem hlt)
      have hni : r[j] ∉ r.take j := fun hmem => by
        obtain ⟨i, hi, he⟩ := List.mem_iff_getElem.1 hmem
        rw [List.length_take] at hi
        rw [List.getElem_take] at he
        have := (List.getElem_inj hnd).1 he
        omega
      have hv : (dl n L (r.take j))[r[j]]? = some (L.getD r[j] 0) := by rw [dl_get hx]; simp [hni]
      have hLx := hL _ hx
      have hiff : ∀ u, u ∈ r.take (j + 1) ↔ u ∈ r.take j ∨ u = r[j] := fun u => by rw [take_snoc hlt, List.mem_append, List.mem_singleton]
      rw [if_pos (by simp; omega), idx_nat, List.getElem?_map, List.getElem?_eq_getElem hlt]
      simp only [Option.map_some, Option.bind_some]
      rw [idx_nat, hv]
      simp only [Option.bind_some]
      by_cases h0 : 0 ≤ L.getD r[j] 0
      · rw [if_pos (by simpa using h0), isub_i64 (by omega) (by omega)]
        simp only [lett, Int.toNat_natCast]
        rw [iadd1_n (by omega)]
        have e : (dl n L (r.take j)).set r[j] (L.getD r[j] 0 - 1) = dl n L (r.take (j + 1)) := by
          apply List.ext_getElem (by simp [dl])
          intro u h1 h2
          rw [dl_len] at h2
          rw [List.getElem_set]
          simp only [dl, List.getElem_map, List.getElem_range]
          by_cases hu : r[j] = u
          · subst hu
            rw [if_pos rfl, if_pos (by simp only [Bool.and_eq_true, decide_eq_true_eq]; exact ⟨(hiff _).2 (.inr rfl), h0⟩)]
          · rw [if_neg hu]
            have : decide (u ∈ r.take j) = decide (u ∈ r.take (j + 1)) := decide_eq_decide.2 ⟨fun h => (hiff u).2 (.inl h), fun h => ((hiff u).1 h).resolve_right fun h => hu h.symm⟩
            rw [this]
        rw [e]
        exact hrec
      · rw [if_neg (by simpa using h0), iadd1_n (by omega)]
        have e : dl n L (r.take j) = dl n L (r.take (j + 1)) := by
          apply List.ext_getElem (by simp [dl])
          intro u h1 h2
          simp only [dl, List.getElem_map, List.getElem_range]
          by_cases hu : r[j] = u
          · subst hu
            have hf : decide (0 ≤ L.getD r[j] 0) = false := decide_eq_false h0
            rw [hf, Bool.and_false, Bool.and_false]
          · have : decide (u ∈ r.take j) = decide (u ∈ r.take (j + 1)) := decide_eq_decide.2 ⟨fun h => (hiff u).2 (.inl h), fun h => ((hiff u).1 h).resolve_right fun h => hu h.symm⟩
            rw [this]
        rw [e]
        exact hrec
    · rw [if_neg (by simp; omega), List.take_of_length_le (by omega)]
/-- How many neighbours of each node are left. -/
def lf (g : List (List Int)) (S : Nat → Bool) : List Int := (List.range g.length).map fun v => if S v then (dg g S v : Int) else -1
theorem lf_len (g : List (List Int)) (S : Nat → Bool) : (lf g S).length = g.length := by simp [lf]
theorem lf_get {g : List (List Int)} {S : Nat → Bool} {v : Nat} (h : v < g.length) : (lf g S)[v]? = some (if S v then (dg g S v : Int) else -1) := by simp [lf, h]
theorem lf_getD {g : List (List Int)} {S : Nat → Bool} {v : Nat} (h : v < g.length) : (lf g S).getD v 0 = if S v then (dg g S v : Int) else -1 := by simp [List.getD, lf_get h]
theorem dg_le (g : List (List Int)) (S : Nat → Bool) (v : Nat) : dg g S v ≤ g.length := by
  unfold dg
  exact Nat.le_trans List.countP_le_length (by simp)
theorem drop_eq {F v : Nat} {g : List (List Int)} {S : Nat → Bool} (hF : 2000 ≤ F) (hg : Gr g) (hv : v < g.length) (hS : S v = true) : M_core_peeler_drop F (nr g) (lf g S) (v : Int) = some (nr g, lf g (sub1 S v)) := by
  have h1 := hg.1
  unfold M_core_peeler_drop
  rw [idx_nat, lf_get hv]
  simp only [Option.bind_some, lett, Int.toNat_natCast]
  rw [idx_nat, nr_get hv, cols_nbs]
  simp only [Option.bind_some]
  have hgd : ∀ u, u < g.length → ((lf g S).set v (-1)).getD u 0 = if u = v then -1 else (lf g S).getD u 0 := fun u hu => by
    unfold List.getD
    rw [List.getElem?_set]
    by_cases h : v = u
    · subst h; rw [if_pos rfl, if_pos (by rw [lf_len]; exact hu), if_pos rfl]; rfl
    · rw [if_neg h, if_neg (fun he => h he.symm)]
  have hd0 : (lf g S).set v (-1) = dl g.length ((lf g S).set v (-1)) ((nbs g v).take 0) := by
    apply List.ext_getElem (by simp [dl, lf])
    intro u b1 b2
    simp only [dl, List.getElem_map, List.getElem_range, List.take_zero, List.not_mem_nil, decide_false, Bool.false_and, Bool.false_eq_true, if_false]
    exact (getD_of b1).symm
  have := drop_l (F := F) (n := g.length) (X := nr g) (L := (lf g S).set v (-1)) (r := nbs g v) (fun x hx => (Nb_lt hg ((mem_nbs hg).1 hx)).2) ((nbs_pw g v).imp fun h => by omega) (fun u hu => by
    rw [hgd u hu, lf_getD hu]
    have := dg_le g S u
    split
    · omega
    · split <;> omega) (by have := nbs_len g v; omega) F 0 (by have := nbs_len g v; omega) (by omega)
  rw [← hd0] at this
  refine Eq.trans this ?_
  congr 2
  apply List.ext_getElem (by simp [dl, lf])
  intro u b1 b2
  rw [dl_len] at b1
  simp only [dl, lf, List.getElem_map, List.getElem_range]
  have hgu := hgd u b1
  rw [lf_getD b1] at hgu
  unfold lf at hgu
  rw [hgu]
  by_cases huv : u = v
  · subst huv
    rw [if_pos rfl]
    simp [sub1]
  · rw [if_neg huv]
    have hsub : sub1 S v u = S u := by simp [sub1, huv]
    rw [hsub]
    by_cases hSu : S u = true
    · rw [if_pos hSu, if_pos hSu]
      have hm := dg_minus (g := g) (S := S) (a := v) (v := u) hv hS
      have hmem : decide (u ∈ nbs g v) = Nb g u v := by rw [Nb_sym]; by_cases h : Nb g v u = true
                                                        · rw [h]; exact decide_eq_true ((mem_nbs hg).2 h)
                                                        · rw [Bool.not_eq_true] at h; rw [h]; exact decide_eq_false fun h2 => by rw [(mem_nbs hg).1 h2] at h; cases h
      rw [hmem]
      by_cases hN : Nb g u v = true
      · rw [if_pos hN] at hm
        rw [if_pos (by simp [hN])]; omega
      · rw [if_neg hN] at hm
        rw [if_neg (by simp [hN])]; omega
    · rw [if_neg hSu, if_neg hSu]
      simp
structure PInv (g : List (List Int)) (S : Nat → Bool) (c : Nat → Nat) (most : Nat) : Prop where
  le : ∀ v, v < g.length → S v = false → c v ≤ most
  ub : ∀ k T, KK g k T → (∀ v, v < g.length → T v = true → S v = false → k ≤ c v) ∧ ((∃ v, v < g.length ∧ T v = true ∧ S v = false) → k ≤ most)
  cur : ∃ R, KK g most R ∧ (∀ u, u < g.length → S u = true → R u = true) ∧ ∀ u, u < g.length → R u = true → S u = false → most ≤ c u
  own : ∀ v, v < g.length → S v = false → ∃ T, T v = true ∧ KK g (c v) T ∧ ∀ u, u < g.length → T u = true → S u = false → c v ≤ c u
def upd (c : Nat → Nat) (a x : Nat) : Nat → Nat := fun v => if v = a then x else c v
theorem pinv_step {g : List (List Int)} {S : Nat → Bool} {c : Nat → Nat} {most a : Nat} (h : PInv g S c most) (ha : a < g.length) (hSa : S a = true) (hmin : ∀ u, u < g.length → S u = true → dg g S a ≤ dg g S u) :
    PInv g (sub1 S a) (upd c a (max most (dg g S a))) (max most (dg g S a)) := by
  have hs : ∀ v, sub1 S a v = false → v ≠ a → S v = false := fun v h1 h2 => by simpa [sub1, h2] using h1
  have cur' : ∃ R, KK g (max most (dg g S a)) R ∧ R a = true ∧ (∀ u, u < g.length → sub1 S a u = true → R u = true) ∧ ∀ u, u < g.length → R u = true → sub1 S a u = false → max most (dg g S a) ≤ upd c a (max most (dg g S a)) u := by
    by_cases hd : dg g S a ≤ most
    · obtain ⟨R, r1, r2, r3⟩ := h.cur
      rw [Nat.max_eq_left hd]
      refine ⟨R, r1, r2 a ha hSa, fun u hu hsu => r2 u hu (by simp [sub1] at hsu; exact hsu.1), fun u hu hRu hsu => ?_⟩
      unfold upd
      by_cases hua : u = a
      · rw [if_pos hua]; exact Nat.le_refl _
      · rw [if_neg hua]; exact r3 u hu hRu (hs u hsu hua)
    · rw [Nat.max_eq_right (by omega)]
      refine ⟨S, fun u hu hSu => hmin u hu hSu, hSa, fun u hu hsu => by simp [sub1] at hsu; exact hsu.1, fun u hu hRu hsu => ?_⟩
      unfold upd
      by_cases hua : u = a
      · rw [if_pos hua]; exact Nat.le_refl _
      · have := hs u hsu hua
        rw [hRu] at this; cases this
  have hle : most ≤ max most (dg g S a) := Nat.le_max_left _ _
  have key : ∀ k T, KK g k T → T a = true → k ≤ max most (dg g S a) := fun k T hT hTa => by
    by_cases hex : ∃ v, v < g.length ∧ T v = true ∧ S v = false
    · exact Nat.le_trans ((h.ub k T hT).2 hex) hle
    · have hsub : ∀ u, u < g.length → T u = true → S u = true := fun u hu hTu => by
        cases hSu : S u with
        | true => rfl
        | false => exact absurd ⟨u, hu, hTu, hSu⟩ hex
      exact Nat.le_trans (hT a ha hTa) (Nat.le_trans (dg_mono hsub) (Nat.le_max_right _ _))
  refine ⟨fun v hv hsv => ?_, fun k T hT => ⟨fun v hv hTv hsv => ?_, ?_⟩, ?_, fun v hv hsv => ?_⟩
  · unfold upd
    by_cases hva : v = a
    · rw [if_pos hva]; exact Nat.le_refl _
    · rw [if_neg hva]; exact Nat.le_trans (h.le v hv (hs v hsv hva)) hle
  · unfold upd
    by_cases hva : v = a
    · rw [if_pos hva]; subst hva; exact key k T hT hTv
    · rw [if_neg hva]; exact (h.ub k T hT).1 v hv hTv (hs v hsv hva)
  · rintro ⟨v, hv, hTv, hsv⟩
    by_cases hva : v = a
    · subst hva; exact key k T hT hTv
    · exact Nat.le_trans ((h.ub k T hT).2 ⟨v, hv, hTv, hs v hsv hva⟩) hle
  · obtain ⟨R, r1, _, r2, r3⟩ := cur'
    exact ⟨R, r1, r2, r3⟩
  · by_cases hva : v = a
    · obtain ⟨R, r1, r0, r2, r3⟩ := cur'
      subst hva
      have e : upd c v (max most (dg g S v)) v = max most (dg g S v) := if_pos rfl
      rw [e]
      exact ⟨R, r0, r1, r3⟩
    · obtain ⟨T, t1, t2, t3⟩ := h.own v hv (hs v hsv hva)
      have e : upd c a (max most (dg g S a)) v = c v := if_neg hva
      rw [e]
      refine ⟨T, t1, t2, fun u hu hTu hsu => ?_⟩
      unfold upd
      by_cases hua : u = a
      · rw [if_pos hua]; exact Nat.le_trans (h.le v hv (hs v hsv hva)) hle
      · rw [if_neg hua]; exact t3 u hu hTu (hs u hsu hua)
theorem pinv_done {g : List (List Int)} {S : Nat → Bool} {c : Nat → Nat} {most : Nat} (h : PInv g S c most) (hS : ∀ v, v < g.length → S v = false) : IsCore g c := by
  refine ⟨fun v hv => ?_, fun k T hT v hv hTv => (h.ub k T hT).1 v hv hTv (hS v hv)⟩
  obtain ⟨T, t1, t2, t3⟩ := h.own v hv (hS v hv)
  exact Nat.le_trans (t2 v hv t1) (dg_mono fun u hu hTu => decide_eq_true (t3 u hu hTu (hS u hu)))
/-- A list of numbers of nodes. -/
def nl (n : Nat) (c : Nat → Nat) : List Int := (List.range n).map fun v => (c v : Int)
theorem nl_len (n : Nat) (c : Nat → Nat) : (nl n c).length = n := by simp [nl]
theorem nl_get {n v : Nat} {c : Nat → Nat} (h : v < n) : (nl n c)[v]? = some (c v : Int) := by simp [nl, h]
theorem nl_set {n a x : Nat} {c : Nat → Nat} : (nl n c).set a (x : Int) = nl n (upd c a x) := by
  apply List.ext_getElem (by simp [nl])
  intro v h1 h2
  rw [List.getElem_set]
  simp only [nl, List.getElem_map, List.getElem_range, upd]
  by_cases h : a = v
  · subst h; simp
  · rw [if_neg h, if_neg (fun he => h he.symm)]
def cntS (n : Nat) (S : Nat → Bool) : Nat := (List.range n).countP S
theorem cntS_minus {n a : Nat} {S : Nat → Bool} (ha : a < n) (hs : S a = true) : cntS n S = cntS n (sub1 S a) + 1 := by
  unfold cntS
  rw [countP_minus (a := a) List.nodup_range (List.mem_range.2 ha), if_pos hs]
  rfl
theorem numbers_loop {F : Nat} {g : List (List Int)} (hF : 2000 ≤ F) (hg : Gr g) : ∀ (k : Nat) (S : Nat → Bool) (c : Nat → Nat) (most : Nat) (b : Int), cntS g.length S < k → PInv g S c most → Best (lf g S) b g.length → most ≤ 1000000 →
    ∃ c', IsCore g c' ∧ M_core_Numbers_l5 F k (nl g.length c, (most : Int), b, nr g, lf g S) = some (nl g.length c', 0)
  | 0, _, _, _, _, h, _, _, _ => by omega
  | k + 1, S, c, most, b, h, hp, hb, hm => by
    have h1 := hg.1
    show ∃ c', IsCore g c' ∧ M_core_Numbers_b5 F (M_core_Numbers_l5 F k) (nl g.length c) (most : Int) b (nr g) (lf g S) = _
    unfold M_core_Numbers_b5
    rcases hb with ⟨hb1, hb2⟩ | ⟨v, hv, hb1, hb2, hb3⟩
    · rw [if_neg (by simp; omega)]
      refine ⟨c, pinv_done hp fun v hv => ?_, rfl⟩
      have := hb2 v hv
      rw [lf_getD hv] at this
      cases hS : S v with
      | false => rfl
      | true => rw [hS] at this; simp at this; omega
    · have hSv : S v = true := by
        rw [lf_getD hv] at hb2
        cases hS : S v with
        | true => rfl
        | false => rw [hS] at hb2; simp at hb2
      have hmin : ∀ u, u < g.length → S u = true → dg g S v ≤ dg g S u := fun u hu hSu => by
        have := hb3 u hu (by rw [lf_getD hu, if_pos hSu]; omega)
        rw [lf_getD hu, lf_getD hv, if_pos hSu, if_pos hSv] at this
        omega
      have hdl := dg_le g S v
      rw [if_pos (by simp; omega), hb1, idx_nat, lf_get hv, if_pos hSv]
      simp only [Option.bind_some]
      rw [idx_nat, nl_get hv]
      simp only [Option.bind_some, lett, Int.toNat_natCast]
      have hmx : imax (most : Int) (dg g S v : Int) = ((max most (dg g S v) : Nat) : Int) := by unfold imax; split <;> omega
      rw [hmx, nl_set, drop_eq hF hg hv hSv]
      simp only [Option.bind_some]
      obtain ⟨b', hl, hbb⟩ := least_eq (F := F) (X := nr g) (L := lf g (sub1 S v)) (by rw [lf_len]; omega) (by rw [lf_len]; omega)
      rw [hl]
      simp only [Option.bind_some]
      rw [lf_len] at hbb
      have hc := cntS_minus hv hSv
      exact numbers_loop hF hg k _ _ _ b' (by omega) (pinv_step hp hv hSv hmin) hbb (by omega)
theorem left_l {F : Nat} {g : List (List Int)} (hg : Gr g) : ∀ (k i : Nat), g.length < k + i → i ≤ g.length → ∀ L, L = (lf g fun _ => true).take i →
    M_core_Numbers_l6 F (nr g) k ((i : Int), L) = M_core_Numbers_j2 F (nr g) (lf g fun _ => true)
  | 0, _, _, _ => by omega
  | k + 1, i, h, hi => by
    have h1 := hg.1
    intro L hL
    show M_core_Numbers_b6 F (nr g) (M_core_Numbers_l6 F (nr g) k) (i : Int) L = _
    unfold M_core_Numbers_b6
    have hLl : L.length = i := by rw [hL, List.length_take, lf_len]; omega
    by_cases hlt : i < g.length
    · rw [if_pos (by simp [nr_len]; omega), idx_nat, nr_get hlt]
      simp only [Option.bind_some]
      rw [app_eq (by simp; omega)]
      simp only [Option.bind_some]
      rw [iadd1_n (by omega)]
      refine left_l hg k (i + 1) (by omega) (by omega) _ ?_
      rw [take_snoc (by rw [lf_len]; exact hlt), ← hL]
      congr 2
      have := lf_get (g := g) (S := fun _ => true) hlt
      rw [List.getElem?_eq_getElem (by rw [lf_len]; exact hlt)] at this
      rw [Option.some.inj this, cols_nbs, List.length_map]
      unfold dg nbs
      rw [List.countP_eq_length_filter]
      simp
    · rw [if_neg (by simp [nr_len]; omega)]
      have hi' : i = g.length := by omega
      subst hi'
      rw [List.take_of_length_le (by rw [lf_len]; omega)] at hL
      rw [hL]
theorem numbers_eq {F : Nat} {g : List (List Int)} (hF : 2000 ≤ F) (hg : Gr g) : ∃ c, IsCore g c ∧ M_core_Numbers F g = some (nl g.length c, 0) := by
  have h1 := hg.1
  unfold M_core_Numbers
  rw [graphCheck_eq (by omega), gchk_ok.2 hg]
  simp only [Option.bind_some]
  rw [if_neg (by simp), near_eq hF hg]
  simp only [Option.bind_some]
  have hl := left_l (F := F) hg F 0 (by omega) (by omega) [] (by simp)
  rw [show ((0 : Nat) : Int) = 0 from rfl] at hl
  rw [hl]
  unfold M_core_Numbers_j2
  obtain ⟨b', hl, hbb⟩ := least_eq (F := F) (X := nr g) (L := lf g fun _ => true) (by rw [lf_len]; omega) (by rw [lf_len]; omega)
  rw [lf_len] at hbb
  have hmk : mk 17592186044416 (0 : Int) ((nr g).length : Int) = some (nl g.length fun _ => 0) := by
    unfold mk
    rw [nr_len, if_pos ⟨by omega, by omega⟩, Int.toNat_natCast]
    congr 1
    apply List.ext_getElem (by simp [nl])
    intro v b1 b2
    simp [nl]
  rw [hmk, hl]
  simp only [Option.bind_some]
  have hcl : cntS g.length (fun _ => true) ≤ g.length := by
    unfold cntS
    exact Nat.le_trans List.countP_le_length (by simp)
  exact numbers_loop hF hg F (fun _ => true) (fun _ => 0) 0 b' (by omega) ⟨fun v _ h => by simp at h, fun k T _ => ⟨fun v _ _ h => by simp at h, fun ⟨v, _, _, h⟩ => by simp at h⟩, ⟨fun _ => true, fun v _ _ => Nat.zero_le _, fun _ _ _ => rfl, fun _ _ _ h => by simp at h⟩, fun v _ h => by simp at h⟩ hbb (by omega)
theorem numbers_bad {F : Nat} {g : List (List Int)} (hF : 2000 ≤ F) (h : gchk g ≠ 0) : M_core_Numbers F g = some ([], gchk g) := by
  unfold M_core_Numbers
  rw [graphCheck_eq (by omega)]
  simp only [Option.bind_some]
  rw [if_pos (by simpa using h)]
def blS (n : Nat) (S : Nat → Bool) : List Bool := (List.range n).map S
theorem blS_get {n v : Nat} {S : Nat → Bool} (h : v < n) : (blS n S)[v]? = some (S v) := by simp [blS, h]
theorem blS_off {n a : Nat} {S : Nat → Bool} : (blS n S).set a false = blS n (sub1 S a) := by
  apply List.ext_getElem (by simp [blS])
  intro v h1 h2
  rw [List.getElem_set]
  simp only [blS, List.getElem_map, List.getElem_range, sub1]
  by_cases h : a = v
  · subst h; simp
  · rw [if_neg h]
    have : v ≠ a := fun he => h he.symm
    simp [this]
theorem rc_count {F i kk : Nat} {g : List (List Int)} {S : Nat → Bool} {ag : Bool} {rec9412 : (List Bool × Bool × Int) → Option (List Int)} (hF : 1000 ≤ F) (hg : Gr g) (hi : i < g.length) : ∀ (k m : Nat), g.length < k + m → m ≤ g.length →
    M_R_CoreNumbers_l9452 F rec9412 g (kk : Int) (blS g.length S) ag (i : Int) k (((List.range m).countP (fun u => S u && Nb g i u) : Int), (m : Int)) = M_R_CoreNumbers_j9445 F rec9412 (kk : Int) (blS g.length S) ag (i : Int) (dg g S i : Int)
  | 0, _, _, _ => by omega
  | k + 1, m, h, hm => by
    have h1 := hg.1
    show M_R_CoreNumbers_b9452 F rec9412 g (kk : Int) (blS g.length S) ag (i : Int) (M_R_CoreNumbers_l9452 F rec9412 g (kk : Int) (blS g.length S) ag (i : Int) k) ((List.range m).countP (fun u => S u && Nb g i u) : Int) (m : Int) = _
    unfold M_R_CoreNumbers_b9452 M_R_CoreNumbers_j9455 M_R_CoreNumbers_j9454
    by_cases hlt : m < g.length
    · have hrec := rc_count (F := F) (kk := kk) (S := S) (ag := ag) (rec9412 := rec9412) hF hg hi k (m + 1) (by omega) (by omega)
      rw [List.range_succ, List.countP_append, List.countP_singleton] at hrec
      have hcl : (List.range m).countP (fun u => S u && Nb g i u) ≤ m := Nat.le_trans List.countP_le_length (by simp)
      rw [if_pos (by simp; omega), idx_nat, blS_get hlt]
      simp only [Option.bind_some]
      by_cases hS : S m = true
      · rw [if_pos hS, rnear_eq hF hg hi hlt]
        simp only [Option.bind_some]
        by_cases hN : Nb g i m = true
        · rw [if_pos hN, iadd1_n (by omega), iadd1_n (by omega)]
          rw [if_pos (by simp [hS, hN])] at hrec
          exact hrec
        · rw [if_neg hN, iadd1_n (by omega)]
          rw [if_neg (by simp [hN])] at hrec
          exact hrec
      · rw [if_neg hS, if_neg (by simp), iadd1_n (by omega)]
        rw [if_neg (by simp [hS])] at hrec
        exact hrec
    · rw [if_neg (by simp; omega), show m = g.length from by omega]
      rfl
/-- What a sweep keeps. -/
structure Swp (g : List (List Int)) (kk : Nat) (S0 S : Nat → Bool) (ag : Bool) (i : Nat) : Prop where
  sub : ∀ u, u < g.length → S u = true → S0 u = true
  keep : ∀ T, KK g kk T → (∀ u, u < g.length → T u = true → S0 u = true) → ∀ u, u < g.length → T u = true → S u = true
  same : ag = false → S = S0 ∧ ∀ v, v < i → S0 v = true → kk ≤ dg g S0 v
  less : ag = true → cntS g.length S < cntS g.length S0
theorem swp_l {F kk : Nat} {g : List (List Int)} {S0 : Nat → Bool} {rec9325 : (List Bool × Bool) → Option (List Int)} (hF : 1000 ≤ F) (hg : Gr g) : ∀ (k i : Nat) (S : Nat → Bool) (ag : Bool), g.length < k + i → i ≤ g.length → Swp g kk S0 S ag i →
    ∃ S' ag', Swp g kk S0 S' ag' g.length ∧ M_R_CoreNumbers_l9412 F rec9325 g (kk : Int) k (blS g.length S, ag, (i : Int)) = rec9325 (blS g.length S', ag')
  | 0, _, _, _, _, _, _ => by omega
  | k + 1, i, S, ag, h, hi, hw => by
    have h1 := hg.1
    show ∃ S' ag', Swp g kk S0 S' ag' g.length ∧ M_R_CoreNumbers_b9412 F rec9325 g (kk : Int) (M_R_CoreNumbers_l9412 F rec9325 g (kk : Int) k) (blS g.length S) ag (i : Int) = _
    unfold M_R_CoreNumbers_b9412
    by_cases hlt : i < g.length
    · have hc := rc_count (F := F) (kk := kk) (S := S) (ag := ag) (rec9412 := M_R_CoreNumbers_l9412 F rec9325 g (kk : Int) k) hF hg hlt F 0 (by omega) (by omega)
      rw [List.range_zero, List.countP_nil] at hc
      rw [if_pos (by simp; omega)]
      have hc' : M_R_CoreNumbers_l9452 F (M_R_CoreNumbers_l9412 F rec9325 g (kk : Int) k) g (kk : Int) (blS g.length S) ag (i : Int) F (0, 0) = _ := hc
      rw [hc']
      unfold M_R_CoreNumbers_j9445 M_R_CoreNumbers_j9434
      rw [idx_nat, blS_get hlt]
      simp only [Option.bind_some]
      by_cases hd : S i = true ∧ dg g S i < kk
      · rw [if_pos (by simp [hd.1]; omega), Int.toNat_natCast]
        simp only [lett]
        rw [blS_off, iadd1_n (by omega)]
        have hcm := cntS_minus hlt hd.1
        have hle : cntS g.length S ≤ cntS g.length S0 := by
          unfold cntS
          exact List.countP_mono_left fun u hu hs => hw.sub u (List.mem_range.1 hu) hs
        refine swp_l hF hg k (i + 1) (sub1 S i) true (by omega) (by omega) ⟨fun u hu hs => ?_, fun T hT hTS u hu hTu => ?_, fun h => (by cases h), fun _ => by omega⟩
        · simp [sub1] at hs; exact hw.sub u hu hs.1
        · have hk := hw.keep T hT hTS
          have hSu := hk u hu hTu
          have : u ≠ i := fun he => by
            subst he
            have := Nat.le_trans (hT u hu hTu) (dg_mono hk)
            omega
          simp [sub1, hSu, this]
      · rw [if_neg (by simp only [Bool.and_eq_true, decide_eq_true_eq]; exact fun h => hd ⟨h.1, by omega⟩), iadd1_n (by omega)]
        refine swp_l hF hg k (i + 1) S ag (by omega) (by omega) ⟨hw.sub, hw.keep, fun hag => ?_, hw.less⟩
        obtain ⟨e1, e2⟩ := hw.same hag
        refine ⟨e1, fun v hv hs => ?_⟩
        by_cases hvi : v = i
        · subst hvi
          subst e1
          have : ¬ dg g S v < kk := fun h => hd ⟨hs, h⟩
          omega
        · exact e2 v (by omega) hs
    · rw [if_neg (by simp; omega)]
      exact ⟨S, ag, by rw [show g.length = i from by omega]; exact hw, rfl⟩
theorem sweeps {F kk : Nat} {g : List (List Int)} {rec7880 : (List Int × List Bool × Int) → Option (List Int)} {o : List Int} (hF : 1000 ≤ F) (hg : Gr g) : ∀ (k : Nat) (S0 : Nat → Bool), cntS g.length S0 + 1 < k →
    ∃ S', KK g kk S' ∧ (∀ u, u < g.length → S' u = true → S0 u = true) ∧ (∀ T, KK g kk T → (∀ u, u < g.length → T u = true → S0 u = true) → ∀ u, u < g.length → T u = true → S' u = true) ∧
      M_R_CoreNumbers_l9325 F rec7880 g o (kk : Int) k (blS g.length S0, true) = M_R_CoreNumbers_j9060 F rec7880 g o (kk : Int) (blS g.length S')
  | 0, _, h => by omega
  | k + 1, S0, h => by
    have h1 := hg.1
    obtain ⟨S1, ag, w, e⟩ := swp_l (F := F) (kk := kk) (S0 := S0) (rec9325 := M_R_CoreNumbers_l9325 F rec7880 g o (kk : Int) k) hF hg F 0 S0 false (by omega) (by omega) ⟨fun _ _ h => h, fun T _ h => h, fun _ => ⟨rfl, fun v hv => by omega⟩, fun h => by cases h⟩
    have e' : M_R_CoreNumbers_l9325 F rec7880 g o (kk : Int) (k + 1) (blS g.length S0, true) = M_R_CoreNumbers_l9325 F rec7880 g o (kk : Int) k (blS g.length S1, ag) := by
      show M_R_CoreNumbers_b9325 F rec7880 g o (kk : Int) (M_R_CoreNumbers_l9325 F rec7880 g o (kk : Int) k) (blS g.length S0) true = _
      unfold M_R_CoreNumbers_b9325
      rw [if_pos rfl]
      exact e
    rw [e']
    cases ag with
    | true =>
      have hl := w.less rfl
      obtain ⟨S', a1, a2, a3, a4⟩ := sweeps (F := F) (kk := kk) (rec7880 := rec7880) (o := o) hF hg k S1 (by omega)
      exact ⟨S', a1, fun u hu hs => w.sub u hu (a2 u hu hs), fun T hT hTS => a3 T hT (w.keep T hT hTS), a4⟩
    | false =>
      obtain ⟨e1, e2⟩ := w.same rfl
      subst e1
      refine ⟨S1, fun v hv hs => e2 v hv hs, fun _ _ h => h, fun T _ h => h, ?_⟩
      cases k with
      | zero => omega
      | succ k =>
        show M_R_CoreNumbers_b9325 F rec7880 g o (kk : Int) (M_R_CoreNumbers_l9325 F rec7880 g o (kk : Int) k) (blS g.length S1) false = _
        unfold M_R_CoreNumbers_b9325
        rw [if_neg (by simp)]
theorem rc_set {F kk n : Nat} {g : List (List Int)} {S : Nat → Bool} {c : Nat → Nat} {rec7880 : (List Int × List Bool × Int) → Option (List Int)} (hn : n = g.length) (hm : n ≤ 1000000) : ∀ (k i : Nat), n < k + i → i ≤ n →
    M_R_CoreNumbers_l9063 F rec7880 g (kk : Int) (blS n S) k (nl n (fun v => if v < i ∧ S v = true then kk else c v), (i : Int)) = M_R_CoreNumbers_j8668 F rec7880 (kk : Int) (nl n (fun v => if S v then kk else c v)) (blS n S)
  | 0, _, _, _ => by omega
  | k + 1, i, h, hi => by
    show M_R_CoreNumbers_b9063 F rec7880 g (kk : Int) (blS n S) (M_R_CoreNumbers_l9063 F rec7880 g (kk : Int) (blS n S) k) (nl n (fun v => if v < i ∧ S v = true then kk else c v)) (i : Int) = _
    unfold M_R_CoreNumbers_b9063 M_R_CoreNumbers_j9064
    by_cases hlt : i < n
    · have hrec := rc_set (F := F) (kk := kk) (g := g) (S := S) (c := c) (rec7880 := rec7880) hn hm k (i + 1) (by omega) (by omega)
      rw [if_pos (by simp; omega), idx_nat, blS_get hlt]
      simp only [Option.bind_some]
      by_cases hS : S i = true
      · rw [if_pos hS, idx_nat, nl_get hlt]
        simp only [Option.bind_some, lett, Int.toNat_natCast]
        rw [nl_set, iadd1_n (by omega)]
        have e : nl n (upd (fun v => if v < i ∧ S v = true then kk else c v) i kk) = nl n (fun v => if v < i + 1 ∧ S v = true then kk else c v) := by
          unfold nl
          refine List.map_congr_left fun v _ => ?_
          unfold upd
          by_cases hv : v = i
          · subst hv; rw [if_pos rfl]; exact congrArg _ (if_pos ⟨Nat.lt_succ_self _, hS⟩).symm
          · rw [if_neg hv]
            have : (v < i ∧ S v = true) ↔ (v < i + 1 ∧ S v = true) := by constructor <;> (rintro ⟨a, b⟩; exact ⟨by omega, b⟩)
            simp only [this]
        rw [e]; exact hrec
      · rw [if_neg hS, iadd1_n (by omega)]
        have e : nl n (fun v => if v < i ∧ S v = true then kk else c v) = nl n (fun v => if v < i + 1 ∧ S v = true then kk else c v) := by
          unfold nl
          refine List.map_congr_left fun v _ => ?_
          by_cases hv : v = i
          · subst hv; simp [hS]
          · have : (v < i ∧ S v = true) ↔ (v < i + 1 ∧ S v = true) := by constructor <;> (rintro ⟨a, b⟩; exact ⟨by omega, b⟩)
            simp only [this]
        rw [e]; exact hrec
    · rw [if_neg (by simp; omega)]
      congr 1
      unfold nl
      refine List.map_congr_left fun v hv => ?_
      have : v < i := by have := List.mem_range.1 hv; omega
      simp [this]
/-- What is known ahead of a length. -/
structure RInv (g : List (List Int)) (kk : Nat) (S : Nat → Bool) (c : Nat → Nat) : Prop where
  big : ∀ T j, kk ≤ j + 1 → KK g j T → ∀ u, u < g.length → T u = true → S u = true
  num : ∀ v, v < g.length → c v + 1 ≤ kk ∧ (S v = true ↔ c v + 1 = kk)
  own : ∀ v, v < g.length → ∃ T, T v = true ∧ KK g (c v) T ∧ ∀ u, u < g.length → T u = true → c v ≤ c u
  ub : ∀ j T, KK g j T → j + 1 ≤ kk → ∀ v, v < g.length → T v = true → j ≤ c v
theorem rinv_step {g : List (List Int)} {kk : Nat} {S S' : Nat → Bool} {c : Nat → Nat} (h : RInv g kk S c) (a1 : KK g kk S')
    (a3 : ∀ T, KK g kk T → (∀ u, u < g.length → T u = true → S u = true) → ∀ u, u < g.length → T u = true → S' u = true) : RInv g (kk + 1) S' (fun v => if S' v then kk else c v) := by
  have big' : ∀ T j, kk ≤ j → KK g j T → ∀ u, u < g.length → T u = true → S' u = true := fun T j hj hT => a3 T (KK_le hT hj) (h.big T j (by omega) hT)
  have hc : ∀ u, u < g.length → c u ≤ if S' u then kk else c u := fun u hu => by
    have := (h.num u hu).1
    split <;> omega
  refine ⟨fun T j hj hT => big' T j (by omega) hT, fun v hv => ?_, fun v hv => ?_, fun j T hT hj v hv hTv => ?_⟩
  · have := (h.num v hv).1
    by_cases hs : S' v = true
    · simp only [hs, if_true]
      exact ⟨by omega, by simp⟩
    · rw [if_neg hs]
      refine ⟨by omega, fun h => absurd h hs, fun h => by omega⟩
  · by_cases hs : S' v = true
    · simp only [hs, if_true]
      refine ⟨S', hs, a1, fun u hu hSu => by rw [if_pos hSu]; exact Nat.le_refl _⟩
    · simp only [hs]
      obtain ⟨T, t1, t2, t3⟩ := h.own v hv
      exact ⟨T, t1, t2, fun u hu hTu => Nat.le_trans (t3 u hu hTu) (hc u hu)⟩
  · by_cases hjk : j = kk
    · subst hjk
      have := big' T j (Nat.le_refl _) hT v hv hTv
      simp [this]
    · exact Nat.le_trans (h.ub j T hT (by omega) v hv hTv) (hc v hv)
theorem dg_lt {g : List (List Int)} {T : Nat → Bool} {v : Nat} (hv : v < g.length) : dg g T v < g.length := by
  have h1 : dg g T v ≤ dg g (fun _ => true) v := dg_mono fun _ _ _ => rfl
  have h2 := dg_minus (g := g) (S := fun _ => true) (a := v) (v := v) hv rfl
  rw [if_neg (by rw [Nb_irr]; simp)] at h2
  have h3 : dg g (sub1 (fun _ => true) v) v ≤ cntS g.length (sub1 (fun _ => true) v) := by
    unfold dg cntS
    exact List.countP_mono_left fun u _ h => by simp only [Bool.and_eq_true] at h; exact h.1
  have h4 := cntS_minus (n := g.length) (S := fun _ => true) hv rfl
  have h5 : cntS g.length (fun _ => true) ≤ g.length := by
    unfold cntS
    exact Nat.le_trans List.countP_le_length (by simp)
  omega
theorem rc_loop {F : Nat} {g : List (List Int)} (hF : 2000 ≤ F) (hg : Gr g) : ∀ (k kk : Nat) (S : Nat → Bool) (c : Nat → Nat), g.length + 1 < k + kk → 1 ≤ kk → kk ≤ g.length + 1 → RInv g kk S c →
    ∃ c', IsCore g c' ∧ M_R_CoreNumbers_l7880 F g k (nl g.length c, blS g.length S, (kk : Int)) = some (nl g.length c')
  | 0, kk, S, c, h, hk, _, hr => by omega
  | k + 1, kk, S, c, h, hk, hkn, hr => by
    have h1 := hg.1
    show ∃ c', IsCore g c' ∧ M_R_CoreNumbers_b7880 F g (M_R_CoreNumbers_l7880 F g k) (nl g.length c) (blS g.length S) (kk : Int) = _
    unfold M_R_CoreNumbers_b7880
    by_cases hlt : kk < g.length
    · have hcl : cntS g.length S ≤ g.length := by
        unfold cntS
        exact Nat.le_trans List.countP_le_length (by simp)
      obtain ⟨S', a1, a2, a3, a4⟩ := sweeps (F := F) (kk := kk) (rec7880 := M_R_CoreNumbers_l7880 F g k) (o := nl g.length c) (by omega) hg F S (by omega)
      rw [if_pos (by simp; omega), a4]
      unfold M_R_CoreNumbers_j9060
      have hs := rc_set (F := F) (kk := kk) (g := g) (S := S') (c := c) (rec7880 := M_R_CoreNumbers_l7880 F g k) rfl (by omega) F 0 (by omega) (by omega)
      have e0 : nl g.length (fun v => if v < 0 ∧ S' v = true then kk else c v) = nl g.length c := by
        unfold nl
        refine List.map_congr_left fun v _ => ?_
        simp
      rw [e0] at hs
      have hs' : M_R_CoreNumbers_l9063 F (M_R_CoreNumbers_l7880 F g k) g (kk : Int) (blS g.length S') F (nl g.length c, 0) = _ := hs
      rw [hs']
      unfold M_R_CoreNumbers_j8668
      rw [iadd1_n (by omega)]
      exact rc_loop hF hg k (kk + 1) S' _ (by omega) (by omega) (by omega) (rinv_step hr a1 a3)
    · rw [if_neg (by simp; omega)]
      refine ⟨c, ⟨fun v hv => ?_, fun j T hT v hv hTv => ?_⟩, rfl⟩
      · obtain ⟨T, t1, t2, t3⟩ := hr.own v hv
        exact Nat.le_trans (t2 v hv t1) (dg_mono fun u hu hTu => decide_eq_true (t3 u hu hTu))
      · have h3 := hT v hv hTv
        have h4 := dg_lt (g := g) (T := T) hv
        exact hr.ub j T hT (by omega) v hv hTv
theorem rc_all {F : Nat} {g : List (List Int)} {o : List Int} (hm : g.length ≤ 1000000) : ∀ (k i : Nat), g.length < k + i → i ≤ g.length → M_R_CoreNumbers_l9456 F g o k (blS g.length (fun v => decide (v < i)), (i : Int)) = M_R_CoreNumbers_j2 F g o (blS g.length fun _ => true)
  | 0, _, _, _ => by omega
  | k + 1, i, h, hi => by
    show M_R_CoreNumbers_b9456 F g o (M_R_CoreNumbers_l9456 F g o k) (blS g.length (fun v => decide (v < i))) (i : Int) = _
    unfold M_R_CoreNumbers_b9456
    by_cases hlt : i < g.length
    · have hrec := rc_all (F := F) (o := o) hm k (i + 1) (by omega) (by omega)
      rw [if_pos (by simp; omega), idx_nat, blS_get hlt]
      simp only [Option.bind_some, lett, Int.toNat_natCast]
      rw [iadd1_n (by omega)]
      have e : (blS g.length (fun v => decide (v < i))).set i true = blS g.length (fun v => decide (v < i + 1)) := by
        apply List.ext_getElem (by simp [blS])
        intro v h1 h2
        rw [List.getElem_set]
        simp only [blS, List.getElem_map, List.getElem_range]
        by_cases h : i = v
        · subst h; simp
        · rw [if_neg h]
          exact decide_eq_decide.2 (by omega)
      rw [e]; exact hrec
    · rw [if_neg (by simp; omega)]
      congr 1
      unfold blS
      refine List.map_congr_left fun v hv => ?_
      have := List.mem_range.1 hv
      exact decide_eq_true (by omega)
theorem mk_rep {α : Type} {lim n : Nat} {y : α} (h : n ≤ lim) : mk lim y (n : Int) = some (List.replicate n y) := by
  unfold mk
  rw [if_pos ⟨by omega, by omega⟩, Int.toNat_natCast]
theorem rep_nl (n : Nat) : List.replicate n (0 : Int) = nl n fun _ => 0 := by
  apply List.ext_getElem (by simp [nl])
  intro v b1 b2
  simp [nl]
theorem rnumbers_eq {F : Nat} {g : List (List Int)} (hF : 2000 ≤ F) (hg : Gr g) : ∃ c, IsCore g c ∧ M_R_CoreNumbers F g = some (nl g.length c) := by
  have h1 := hg.1
  unfold M_R_CoreNumbers
  rw [mk_rep (by omega)]
  simp only [Option.bind_some]
  rw [mk_rep (by omega), rep_nl]
  simp only [Option.bind_some]
  have e : List.replicate g.length false = blS g.length (fun v => decide (v < 0)) := by
    apply List.ext_getElem (by simp [blS])
    intro v b1 b2
    simp [blS]
  rw [e]
  have := rc_all (F := F) (g := g) (o := nl g.length fun _ => 0) (by omega) F 0 (by omega) (by omega)
  have this' : M_R_CoreNumbers_l9456 F g (nl g.length fun _ => 0) F (blS g.length (fun v => decide (v < 0)), 0) = _ := this
  rw [this']
  unfold M_R_CoreNumbers_j2
  exact rc_loop hF hg F 1 (fun _ => true) (fun _ => 0) (by omega) (by omega) (by omega) ⟨fun _ _ _ _ _ _ _ => rfl, fun _ _ => ⟨by omega, by simp⟩, fun v _ => ⟨fun _ => true, rfl, fun _ _ _ => Nat.zero_le _, fun _ _ _ => Nat.le_refl _⟩, fun j T _ hj v _ _ => by omega⟩
def runFoldL {σ τ : Type} (yy : σ → List Int → Option (σ ⊕ τ)) : List (List Int) → σ → Option (σ ⊕ τ)
  | [], s => some (.inl s)
  | r :: R, s => (yy s r).bind (Sum.elim (fun s' => runFoldL yy R s') (fun t => some (.inr t)))
theorem runFoldL_app {σ τ : Type} {yy : σ → List Int → Option (σ ⊕ τ)} : ∀ (A B : List (List Int)) (s : σ), runFoldL yy (A ++ B) s = (runFoldL yy A s).bind (Sum.elim (fun s' => runFoldL yy B s') (fun t => some (.inr t)))
  | [], B, s => rfl
  | p :: A, B, s => by
    show (yy s p).bind _ = ((yy s p).bind _).bind _
    cases yy s p with
    | none => rfl
    | some r =>
      cases r with
      | inl s' => exact runFoldL_app A B s'
      | inr t => rfl
def rowX (X : List (List Int)) (b : Int) : List Int := X.getD b.toNat []
def t3 (X : List (List Int)) (a b : Int) (cs : List Int) : List (List Int) := (cs.filter fun c => decide (c ∈ rowX X b) && decide (a < b)).map fun c => [a, b, c]
def t2 (X : List (List Int)) (a : Int) : List Int → List (List Int)
  | [] => []
  | b :: cs => t3 X a b cs ++ t2 X a cs
def t1 (X : List (List Int)) (i : Nat) : List (List Int) → List (List Int)
  | [] => []
  | l :: R => t2 X (i : Int) l ++ t1 X (i + 1) R
/-- Rows that rise, of nodes. -/
def Rws (X : List (List Int)) : Prop := X.length ≤ 100 ∧ ∀ l ∈ X, l.Pairwise (· < ·) ∧ l.length ≤ 100 ∧ ∀ x ∈ l, 0 ≤ x ∧ x < (X.length : Int)
theorem th_in {σ τ : Type} {F : Nat} {yy : σ → List Int → Option (σ ⊕ τ)} {X : List (List Int)} {a b : Int} {cs : List Int} {i : Nat} {rec163 : (Int × σ) → Option (σ ⊕ τ)} (hF : 200000 ≤ F) (hX : Rws X) (hb : 0 ≤ b ∧ b < (X.length : Int)) (hm : cs.length ≤ 1000000) : ∀ (k j : Nat) (s : σ), cs.length < k + j → j ≤ cs.length →
    M_core_threes_1_l171 F yy rec163 X a (i : Int) b cs k ((j : Int), s) = (runFoldL yy (t3 X a b (cs.drop j)) s).bind (Sum.elim (fun s' => M_core_threes_1_j168 F yy rec163 (i : Int) s') (fun t => some (.inr t)))
  | 0, _, _, _, _ => by omega
  | k + 1, j, s, h, hj => by
    show M_core_threes_1_b171 F yy rec163 X a (i : Int) b cs (M_core_threes_1_l171 F yy rec163 X a (i : Int) b cs k) (j : Int) s = _
    unfold M_core_threes_1_b171 M_core_threes_1_j172
    by_cases hlt : j < cs.length
    · obtain ⟨bn, rfl⟩ := Int.eq_ofNat_of_zero_le hb.1
      have hbl : bn < X.length := by omega
      have hrow := hX.2 _ (List.getElem_mem hbl)
      have hrec := fun s => th_in (F := F) (yy := yy) (X := X) (a := a) (b := (bn : Int)) (i := i) (rec163 := rec163) hF hX hb hm k (j + 1) s (by omega) (by omega)
      rw [if_pos (by simp; omega), idx_nat, List.getElem?_eq_getElem hlt, List.drop_eq_getElem_cons hlt]
      simp only [Option.bind_some]
      rw [idx_nat, List.getElem?_eq_getElem hbl]
      simp only [Option.bind_some]
      obtain ⟨p, hp⟩ := search_eq (F := F) hF (v := cs[j]) hrow.1 (by omega)
      rw [hp]
      simp only [Option.bind_some]
      rw [iadd1_n (by omega)]
      have e : rowX X (bn : Int) = X[bn] := by unfold rowX; simp [List.getD, List.getElem?_eq_getElem hbl]
      by_cases hc : (decide (cs[j] ∈ X[bn]) && decide (a < (bn : Int))) = true
      · have e3 : t3 X a (bn : Int) (cs[j] :: cs.drop (j + 1)) = [a, (bn : Int), cs[j]] :: t3 X a (bn : Int) (cs.drop (j + 1)) := by
          unfold t3
          rw [List.filter_cons_of_pos (by rw [e]; exact hc), List.map_cons]
        rw [if_pos hc, e3]
        unfold runFoldL
        cases yy s [a, (bn : Int), cs[j]] with
        | none => rfl
        | some r =>
          cases r with
          | inl s' => exact hrec s'
          | inr t => rfl
      · have e3 : t3 X a (bn : Int) (cs[j] :: cs.drop (j + 1)) = t3 X a (bn : Int) (cs.drop (j + 1)) := by
          unfold t3
          rw [List.filter_cons_of_neg (by rw [e]; exact hc)]
        rw [if_neg hc, e3]
        exact hrec s
    · rw [if_neg (by simp; omega), List.drop_eq_nil_of_le (by omega)]
      rfl
theorem th_mid {σ τ : Type} {F a : Nat} {yy : σ → List Int → Option (σ ⊕ τ)} {X : List (List Int)} {l : List Int} {rec115 : (Int × σ) → Option (σ ⊕ τ)} (hF : 200000 ≤ F) (hX : Rws X) (hl : ∀ x ∈ l, 0 ≤ x ∧ x < (X.length : Int)) (hm : l.length ≤ 100) : ∀ (k i : Nat) (s : σ), l.length < k + i → i ≤ l.length →
    M_core_threes_1_l163 F yy rec115 X (a : Int) l k ((i : Int), s) = (runFoldL yy (t2 X (a : Int) (l.drop i)) s).bind (Sum.elim (fun s' => M_core_threes_1_j144 F yy rec115 (a : Int) s') (fun t => some (.inr t)))
  | 0, _, _, _, _ => by omega
  | k + 1, i, s, h, hi => by
    show M_core_threes_1_b163 F yy rec115 X (a : Int) l (M_core_threes_1_l163 F yy rec115 X (a : Int) l k) (i : Int) s = _
    unfold M_core_threes_1_b163
    by_cases hlt : i < l.length
    · have hs := sub_n (l := l) (i := i + 1) (j := l.length) (by omega) (by omega)
      rw [List.take_length] at hs
      rw [if_pos (by simp; omega), idx_nat, List.getElem?_eq_getElem hlt, List.drop_eq_getElem_cons hlt]
      simp only [Option.bind_some]
      rw [iadd1_n (by omega), hs]
      simp only [Option.bind_some]
      have hin := th_in (F := F) (yy := yy) (X := X) (a := (a : Int)) (b := l[i]) (cs := l.drop (i + 1)) (i := i) (rec163 := M_core_threes_1_l163 F yy rec115 X (a : Int) l k) hF hX (hl _ (List.getElem_mem hlt)) (by simp; omega) F 0 s (by simp; omega) (by omega)
      rw [List.drop_zero] at hin
      refine Eq.trans hin ?_
      unfold t2
      rw [runFoldL_app]
      cases runFoldL yy (t3 X (a : Int) l[i] (l.drop (i + 1))) s with
      | none => rfl
      | some r =>
        cases r with
        | inl s' =>
          simp only [Option.bind_some, Sum.elim_inl]
          unfold M_core_threes_1_j168
          rw [iadd1_n (by omega)]
          exact th_mid hF hX hl hm k (i + 1) s' (by omega) (by omega)
        | inr t => rfl
    · rw [if_neg (by simp; omega), List.drop_eq_nil_of_le (by omega)]
      rfl
theorem th_out {σ τ : Type} {F : Nat} {yy : σ → List Int → Option (σ ⊕ τ)} {X : List (List Int)} (hF : 200000 ≤ F) (hX : Rws X) : ∀ (k a : Nat) (s : σ), X.length < k + a → a ≤ X.length →
    M_core_threes_1_l115 F yy X k ((a : Int), s) = runFoldL yy (t1 X a (X.drop a)) s
  | 0, _, _, _, _ => by omega
  | k + 1, a, s, h, ha => by
    have h1 := hX.1
    show M_core_threes_1_b115 F yy X (M_core_threes_1_l115 F yy X k) (a : Int) s = _
    unfold M_core_threes_1_b115
    by_cases hlt : a < X.length
    · have hrow := hX.2 _ (List.getElem_mem hlt)
      rw [if_pos (by simp; omega), idx_nat, List.getElem?_eq_getElem hlt, List.drop_eq_getElem_cons hlt]
      simp only [Option.bind_some]
      have hin := th_mid (F := F) (a := a) (yy := yy) (X := X) (l := X[a]) (rec115 := M_core_threes_1_l115 F yy X k) hF hX hrow.2.2 hrow.2.1 F 0 s (by omega) (by omega)
      rw [List.drop_zero] at hin
      refine Eq.trans hin ?_
      unfold t1
      rw [runFoldL_app]
      cases runFoldL yy (t2 X (a : Int) X[a]) s with
      | none => rfl
      | some r =>
        cases r with
        | inl s' =>
          simp only [Option.bind_some, Sum.elim_inl]
          unfold M_core_threes_1_j144
          rw [iadd1_n (by omega)]
          exact th_out hF hX k (a + 1) s' (by omega) (by omega)
        | inr t => rfl
    · rw [if_neg (by simp; omega), List.drop_eq_nil_of_le (by omega)]
      rfl
/-- How often each node stands in a list. -/
def cnt (n : Nat) (l : List Int) : List Int := (List.range n).map fun (i : Nat) => ((l.count (i : Int) : Nat) : Int)
theorem cnt_len (n : Nat) (l : List Int) : (cnt n l).length = n := by simp [cnt]
theorem cnt_get {n i : Nat} {l : List Int} (h : i < n) : (cnt n l)[i]? = some ((l.count (i : Int) : Nat) : Int) := by simp [cnt, h]
theorem cnt_snoc {n a : Nat} {l : List Int} : (cnt n l).set a ((l.count (a : Int) + 1 : Nat) : Int) = cnt n (l ++ [(a : Int)]) := by
  apply List.ext_getElem (by simp [cnt])
  intro i h1 h2
  rw [List.getElem_set]
  simp only [cnt, List.getElem_map, List.getElem_range, List.count_append]
  by_cases h : a = i
  · subst h; rw [if_pos rfl]; simp
  · rw [if_neg h]
    have : ¬ (a : Int) = (i : Int) := by omega
    simp [this]
theorem cnt_inc {n a : Nat} {l : List Int} {lim : Nat} (ha : a < n) (hl : l.length ≤ lim) (hlim : lim ≤ 1000000000) : idx (cnt n l) (a : Int) = some ((l.count (a : Int) : Nat) : Int) ∧ (cnt n l).set a (iadd .i64 ((l.count (a : Int) : Nat) : Int) 1) = cnt n (l ++ [(a : Int)]) := by
  have := List.count_le_length (a := (a : Int)) (l := l)
  exact ⟨by rw [idx_nat, cnt_get ha], by rw [iadd1_n (by omega), cnt_snoc]⟩
theorem cnt_perm {n : Nat} {l m : List Int} (h : l.Perm m) : cnt n l = cnt n m := by
  unfold cnt
  exact List.map_congr_left fun i _ => by rw [h.count_eq]
theorem th_yield {F n : Nat} {al : Nat} {l : List Int} {a b c : Nat} (hF : 10 ≤ F) (ha : a < n) (hb : b < n) (hc : c < n) (hl : l.length ≤ 100000000) (hal : al ≤ 100000000) : M_core_Threes_r5 F (al : Int) (cnt n l) [(a : Int), (b : Int), (c : Int)] = some (.inl (((al + 1 : Nat) : Int), cnt n (l ++ [(a : Int), (b : Int), (c : Int)]))) := by
  obtain ⟨k, rfl⟩ := Nat.exists_eq_add_of_le hF
  unfold M_core_Threes_r5 chk
  rw [if_pos (by simp), if_pos (by simp), Nat.add_comm]
  have step : ∀ (fu x i : Nat) (l : List Int) (m : List Int), x < n → l.length ≤ 200000000 → i < 3 → [(a : Int), (b : Int), (c : Int)][i]? = some (x : Int) → M_core_Threes_l8 (k + 10) (al : Int) [(a : Int), (b : Int), (c : Int)] (fu + 1) ((i : Int), cnt n l) = M_core_Threes_l8 (k + 10) (al : Int) [(a : Int), (b : Int), (c : Int)] fu (((i + 1 : Nat) : Int), cnt n (l ++ [(x : Int)])) := by
    intro fu x i l m hx hl hi hg
    show M_core_Threes_b8 (k + 10) (al : Int) [(a : Int), (b : Int), (c : Int)] (M_core_Threes_l8 (k + 10) (al : Int) [(a : Int), (b : Int), (c : Int)] fu) (i : Int) (cnt n l) = _
    unfold M_core_Threes_b8
    obtain ⟨e1, e2⟩ := cnt_inc (n := n) (a := x) (l := l) (lim := 200000000) hx hl (by omega)
    rw [if_pos (by simp; omega)]
    simp only [chk]
    rw [if_pos (by simp), idx_nat, hg]
    simp only [Option.bind_some]
    rw [e1]
    simp only [Option.bind_some, lett, Int.toNat_natCast]
    rw [e2, iadd1_n (by omega)]
  have h0 := step (k + 9) a 0 l [] ha (by omega) (by omega) rfl
  have h1 := step (k + 8) b 1 (l ++ [(a : Int)]) [] hb (by simp; omega) (by omega) rfl
  have h2 := step (k + 7) c 2 (l ++ [(a : Int)] ++ [(b : Int)]) [] hc (by simp; omega) (by omega) rfl
  refine Eq.trans h0 (Eq.trans h1 (Eq.trans h2 ?_))
  show M_core_Threes_b8 (k + 10) (al : Int) [(a : Int), (b : Int), (c : Int)] (M_core_Threes_l8 (k + 10) (al : Int) [(a : Int), (b : Int), (c : Int)] (k + 6)) ((3 : Nat) : Int) (cnt n (l ++ [(a : Int)] ++ [(b : Int)] ++ [(c : Int)])) = _
  unfold M_core_Threes_b8
  rw [if_neg (by simp), iadd1_n (by omega)]
  simp
def Tri (n : Nat) (x : List Int) : Prop := ∃ a b c : Nat, x = [(a : Int), (b : Int), (c : Int)] ∧ a < n ∧ b < n ∧ c < n
theorem th_fold {F n : Nat} {yy : (Int × List Int) → List Int → Option ((Int × List Int) ⊕ Empty)} (hF : 10 ≤ F) (hy : ∀ s p, yy s p = M_core_Threes_r5 F s.1 s.2 p) : ∀ (A acc : List (List Int)), (∀ x ∈ A, Tri n x) → (∀ x ∈ acc, Tri n x) → acc.length + A.length ≤ 10000000 →
    runFoldL yy A ((acc.length : Int), cnt n acc.flatten) = some (.inl (((acc ++ A).length : Int), cnt n (acc ++ A).flatten))
  | [], acc, _, _, _ => by rw [List.append_nil]; rfl
  | p :: A, acc, h, hacc, hm => by
    rw [List.length_cons] at hm
    obtain ⟨a, b, c, rfl, ha, hb, hc⟩ := h p (by simp)
    have hrec := th_fold hF hy A (acc ++ [[(a : Int), (b : Int), (c : Int)]]) (fun q hq => h q (by simp [hq])) (fun q hq => by
      rcases List.mem_append.1 hq with hq | hq
      · exact hacc q hq
      · rw [List.mem_singleton] at hq; exact hq ▸ ⟨a, b, c, rfl, ha, hb, hc⟩) (by simp; omega)
    have hfl : ∀ (L : List (List Int)), (∀ x ∈ L, Tri n x) → L.flatten.length = 3 * L.length := by
      intro L
      induction L with
      | nil => intro _; rfl
      | cons x L ih =>
        intro hL
        obtain ⟨a', b', c', rfl, _⟩ := hL x (by simp)
        rw [List.flatten_cons, List.length_append, ih fun y hy => hL y (by simp [hy])]
        simp; omega
    have := hfl acc hacc
    show (yy _ _).bind _ = _
    rw [hy, th_yield hF ha hb hc (by omega) (by omega)]
    simp only [Option.bind_some, Sum.elim_inl]
    rw [List.append_assoc, List.flatten_append, List.length_append] at hrec
    simp only [List.flatten_cons, List.flatten_nil, List.append_nil, List.length_singleton] at hrec
    exact hrec
theorem mem_t3 {X : List (List Int)} {a b : Int} {cs x : List Int} : x ∈ t3 X a b cs ↔ ∃ c, c ∈ cs ∧ c ∈ rowX X b ∧ a < b ∧ x = [a, b, c] := by
  unfold t3
  rw [List.mem_map]
  constructor
  · rintro ⟨c, hc, rfl⟩
    obtain ⟨h1, h2⟩ := List.mem_filter.1 hc
    simp only [Bool.and_eq_true, decide_eq_true_eq] at h2
    exact ⟨c, h1, h2.1, h2.2, rfl⟩
  · rintro ⟨c, h1, h2, h3, rfl⟩
    exact ⟨c, List.mem_filter.2 ⟨h1, by simp [h2, h3]⟩, rfl⟩
theorem mem_t2 {X : List (List Int)} {a : Int} {x : List Int} : ∀ {l : List Int}, l.Pairwise (· < ·) → (x ∈ t2 X a l ↔ ∃ b c, b ∈ l ∧ c ∈ l ∧ b < c ∧ c ∈ rowX X b ∧ a < b ∧ x = [a, b, c])
  | [], _ => by simp [t2]
  | b :: cs, h => by
    obtain ⟨h1, h2⟩ := List.pairwise_cons.1 h
    unfold t2
    rw [List.mem_append, mem_t3, mem_t2 h2]
    constructor
    · rintro (⟨c, c1, c2, c3, c4⟩ | ⟨b', c, c1, c2, c3, c4, c5, c6⟩)
      · exact ⟨b, c, by simp, by simp [c1], h1 c c1, c2, c3, c4⟩
      · exact ⟨b', c, by simp [c1], by simp [c2], c3, c4, c5, c6⟩
    · rintro ⟨b', c, c1, c2, c3, c4, c5, c6⟩
      rcases List.mem_cons.1 c1 with d1 | d1
      · subst d1
        rcases List.mem_cons.1 c2 with d2 | d2
        · omega
        · exact .inl ⟨c, d2, c4, c5, c6⟩
      · rcases List.mem_cons.1 c2 with d2 | d2
        · have := h1 b' d1; omega
        · exact .inr ⟨b', c, d1, d2, c3, c4, c5, c6⟩
theorem mem_t1 {X : List (List Int)} {x : List Int} : ∀ {R : List (List Int)} {i : Nat}, x ∈ t1 X i R ↔ ∃ j l, R[j]? = some l ∧ x ∈ t2 X ((i + j : Nat) : Int) l
  | [], i => by simp [t1]
  | l :: R, i => by
    unfold t1
    rw [List.mem_append, mem_t1 (R := R)]
    constructor
    · rintro (h | ⟨j, l', h1, h2⟩)
      · exact ⟨0, l, by simp, by simpa using h⟩
      · exact ⟨j + 1, l', by simpa using h1, by rw [show i + (j + 1) = i + 1 + j by omega]; exact h2⟩
    · rintro ⟨j, l', h1, h2⟩
      cases j with
      | zero =>
        simp only [List.getElem?_cons_zero, Option.some.injEq] at h1
        subst h1
        exact .inl (by simpa using h2)
      | succ j => exact .inr ⟨j, l', by simpa using h1, by rw [show i + 1 + j = i + (j + 1) by omega]; exact h2⟩
theorem t3_nodup {X : List (List Int)} {a b : Int} {cs : List Int} (h : cs.Nodup) : (t3 X a b cs).Nodup := by
  have h : cs.Pairwise fun x y => x ≠ y := h
  show (t3 X a b cs).Pairwise fun x y => x ≠ y
  unfold t3
  rw [List.pairwise_map]
  exact (h.filter _).imp fun hxy he => hxy (by simpa using he)
theorem t2_nodup {X : List (List Int)} {a : Int} : ∀ {l : List Int}, l.Pairwise (· < ·) → (t2 X a l).Nodup
  | [], _ => by simp [t2]
  | b :: cs, h => by
    obtain ⟨h1, h2⟩ := List.pairwise_cons.1 h
    unfold t2
    rw [List.nodup_append]
    refine ⟨t3_nodup (h2.imp fun h => by omega), t2_nodup h2, fun x hx y hy he => ?_⟩
    obtain ⟨c, _, _, _, rfl⟩ := mem_t3.1 hx
    obtain ⟨b', c', c1, _, _, _, _, rfl⟩ := (mem_t2 h2).1 hy
    have := h1 b' c1
    simp at he; omega
theorem t1_nodup {X : List (List Int)} : ∀ {R : List (List Int)} {i : Nat}, (∀ l ∈ R, l.Pairwise (· < ·)) → (t1 X i R).Nodup
  | [], _, _ => by simp [t1]
  | l :: R, i, h => by
    unfold t1
    rw [List.nodup_append]
    refine ⟨t2_nodup (h l (by simp)), t1_nodup fun l' hl => h l' (by simp [hl]), fun x hx y hy he => ?_⟩
    obtain ⟨b, c, _, _, _, _, _, rfl⟩ := (mem_t2 (h l (by simp))).1 hx
    obtain ⟨j, l', h1, h2⟩ := mem_t1.1 hy
    obtain ⟨b', c', _, _, _, _, _, rfl⟩ := (mem_t2 (h l' (by simp [List.mem_of_getElem? h1]))).1 h2
    simp at he; omega
theorem t2_len {X : List (List Int)} {a : Int} : ∀ (l : List Int), (t2 X a l).length ≤ l.length * l.length
  | [] => by simp [t2]
  | b :: cs => by
    have := t2_len (X := X) (a := a) cs
    have h3 : (t3 X a b cs).length ≤ cs.length := by
      unfold t3
      rw [List.length_map]
      exact List.length_filter_le _ _
    unfold t2
    rw [List.length_append, List.length_cons]
    have : (cs.length + 1) * (cs.length + 1) = cs.length * cs.length + 2 * cs.length + 1 := by
      rw [Nat.add_mul, Nat.mul_add]; omega
    omega
theorem t1_len {X : List (List Int)} : ∀ (R : List (List Int)) (i : Nat), (∀ l ∈ R, l.length ≤ 100) → (t1 X i R).length ≤ 10000 * R.length
  | [], _, _ => by simp [t1]
  | l :: R, i, h => by
    have h1 := t1_len (X := X) R (i + 1) fun l' hl => h l' (by simp [hl])
    have h2 := t2_len (X := X) (a := (i : Int)) l
    have h3 : l.length * l.length ≤ 100 * 100 := Nat.mul_le_mul (h l (by simp)) (h l (by simp))
    unfold t1
    rw [List.length_append, List.length_cons]
    omega
theorem nr_rws {g : List (List Int)} (hg : Gr g) : Rws (nr g) := by
  have h1 := hg.1
  refine ⟨by rw [nr_len]; exact h1, fun l hl => ?_⟩
  obtain ⟨i, hi⟩ := List.getElem?_of_mem hl
  have hlt : i < g.length := by have := (List.getElem?_eq_some_iff.1 hi).1; rwa [nr_len] at this
  rw [nr_get hlt] at hi
  cases hi
  refine ⟨((nr_isTab hg).2 i _ (nr_get hlt)).1, Nat.le_trans (cols_len _ _ _) h1, fun x hx => ?_⟩
  have := exA_in (gr_in hg) _ (((nr_isTab hg).2 i _ (nr_get hlt)).2 x |>.1 hx)
  rw [nr_len]
  exact ⟨this.2.2.1, this.2.2.2⟩
/-- All threes. -/
def th (g : List (List Int)) : List (List Int) := t1 (nr g) 0 (nr g)
theorem mem_th {g : List (List Int)} (hg : Gr g) {x : List Int} : x ∈ th g ↔ ∃ a b c : Nat, x = [(a : Int), (b : Int), (c : Int)] ∧ a < b ∧ b < c ∧ c < g.length ∧ Nb g a b = true ∧ Nb g a c = true ∧ Nb g b c = true := by
  have hr := nr_rws hg
  unfold th
  rw [mem_t1]
  have hrow : ∀ (b : Nat) (z : Int), b < g.length → (z ∈ rowX (nr g) (b : Int) ↔ ((b : Int), z) ∈ E g) := fun b z hb => by
    unfold rowX
    rw [Int.toNat_natCast, List.getD, nr_get hb, Option.getD_some]
    exact ((nr_isTab hg).2 b _ (nr_get hb)).2 z
  constructor
  · rintro ⟨a, l, h1, h2⟩
    rw [Nat.zero_add] at h2
    have hal : a < g.length := by have := (List.getElem?_eq_some_iff.1 h1).1; rwa [nr_len] at this
    have hl := hr.2 l (List.mem_of_getElem? h1)
    have hm := ((nr_isTab hg).2 a _ h1).2
    obtain ⟨b, c, c1, c2, c3, c4, c5, rfl⟩ := (mem_t2 hl.1).1 h2
    have hb := hl.2.2 b c1
    have hc := hl.2.2 c c2
    rw [nr_len] at hb hc
    obtain ⟨bn, rfl⟩ := Int.eq_ofNat_of_zero_le hb.1
    obtain ⟨cn, rfl⟩ := Int.eq_ofNat_of_zero_le hc.1
    refine ⟨a, bn, cn, rfl, by omega, by omega, by omega, decide_eq_true ((hm _).1 c1), decide_eq_true ((hm _).1 c2), decide_eq_true ((hrow bn _ (by omega)).1 c4)⟩
  · rintro ⟨a, b, c, rfl, h1, h2, h3, n1, n2, n3⟩
    have hal : a < g.length := by omega
    have hm := ((nr_isTab hg).2 a _ (nr_get hal)).2
    refine ⟨a, _, nr_get hal, ?_⟩
    rw [Nat.zero_add]
    exact (mem_t2 ((nr_isTab hg).2 a _ (nr_get hal)).1).2 ⟨(b : Int), (c : Int), (hm _).2 (of_decide_eq_true n1), (hm _).2 (of_decide_eq_true n2), by omega, (hrow b _ (by omega)).2 (of_decide_eq_true n3), by omega, rfl⟩
theorem th_tri {g : List (List Int)} (hg : Gr g) : ∀ x ∈ th g, Tri g.length x := fun x hx => by
  obtain ⟨a, b, c, rfl, h1, h2, h3, _⟩ := (mem_th hg).1 hx
  exact ⟨a, b, c, rfl, by omega, by omega, h3⟩
theorem th_nodup {g : List (List Int)} (hg : Gr g) : (th g).Nodup := t1_nodup fun l hl => ((nr_rws hg).2 l hl).1
theorem th_len {g : List (List Int)} (hg : Gr g) : (th g).length ≤ 1000000 := by
  have h1 := hg.1
  have := t1_len (X := nr g) (nr g) 0 fun l hl => ((nr_rws hg).2 l hl).2.1
  unfold th
  rw [nr_len] at this
  omega
theorem threes_eq {F : Nat} {g : List (List Int)} (hF : 200000 ≤ F) (hg : Gr g) : M_core_Threes F g = some (cnt g.length (th g).flatten, ((th g).length : Int), 0) := by
  have h1 := hg.1
  unfold M_core_Threes
  rw [graphCheck_eq (by omega), gchk_ok.2 hg]
  simp only [Option.bind_some]
  rw [if_neg (by simp), mk_rep (by omega)]
  simp only [Option.bind_some]
  rw [near_eq (by omega) hg]
  simp only [Option.bind_some]
  unfold M_core_threes M_core_threes_1
  simp only [Option.bind_some]
  have ho := th_out (F := F) (yy := fun (x : Int × List Int) x_1 => M_core_Threes_r5 F x.1 x.2 x_1) hF (nr_rws hg) F 0 (0, List.replicate g.length 0) (by rw [nr_len]; omega) (by omega)
  rw [List.drop_zero] at ho
  have hf := th_fold (F := F) (n := g.length) (yy := fun x x_1 => M_core_Threes_r5 F x.1 x.2 x_1) (by omega) (fun _ _ => rfl) (th g) [] (th_tri hg) (by simp) (by have := th_len hg; simp; omega)
  have e0 : cnt g.length ([] : List (List Int)).flatten = List.replicate g.length 0 := by
    apply List.ext_getElem (by simp [cnt])
    intro v b1 b2
    simp [cnt]
  rw [e0, List.nil_append] at hf
  have hf' : runFoldL (fun (x : Int × List Int) x_1 => M_core_Threes_r5 F x.1 x.2 x_1) (t1 (nr g) 0 (nr g)) (0, List.replicate g.length 0) = _ := hf
  rw [hf'] at ho
  refine (congrArg (fun z => Option.bind z _) ho).trans ?_
  rfl
theorem threes_bad {F : Nat} {g : List (List Int)} (hF : 2000 ≤ F) (h : gchk g ≠ 0) : M_core_Threes F g = some ([], 0, gchk g) := by
  unfold M_core_Threes
  rw [graphCheck_eq (by omega)]
  simp only [Option.bind_some]
  rw [if_pos (by simpa using h)]
def tl (g : List (List Int)) (c b m : Nat) : List (List Int) := if Nb g b c then ((List.range m).filter fun a => Nb g a b && Nb g a c).map fun (a : Nat) => [(a : Int), (b : Int), (c : Int)] else []
def tc (g : List (List Int)) (c m : Nat) : List (List Int) := (List.range m).flatMap fun b => tl g c b b
def ta (g : List (List Int)) (m : Nat) : List (List Int) := (List.range m).flatMap fun c => tc g c c
theorem tl_len (g : List (List Int)) (c b m : Nat) : (tl g c b m).length ≤ m := by
  unfold tl
  split
  · rw [List.length_map]; exact Nat.le_trans (List.length_filter_le _ _) (by simp)
  · simp
theorem tl_succ {g : List (List Int)} {c b m : Nat} (hN : Nb g b c = true) : tl g c b (m + 1) = if Nb g m b && Nb g m c then tl g c b m ++ [[(m : Int), (b : Int), (c : Int)]] else tl g c b m := by
  unfold tl
  rw [if_pos hN, if_pos hN, List.range_succ, List.filter_append, List.map_append]
  by_cases h : (Nb g m b && Nb g m c) = true
  · rw [if_pos h]; simp [h]
  · rw [if_neg h]; simp [h]
theorem tc_succ {g : List (List Int)} {c m : Nat} : tc g c (m + 1) = tc g c m ++ tl g c m m := by
  unfold tc
  rw [List.range_succ, List.flatMap_append]; simp
theorem ta_succ {g : List (List Int)} {m : Nat} : ta g (m + 1) = ta g m ++ tc g m m := by
  unfold ta
  rw [List.range_succ, List.flatMap_append]; simp
theorem tri_flat {n : Nat} : ∀ {L : List (List Int)}, (∀ x ∈ L, Tri n x) → L.flatten.length = 3 * L.length
  | [], _ => rfl
  | x :: L, h => by
    obtain ⟨a', b', c', rfl, _⟩ := h x (by simp)
    rw [List.flatten_cons, List.length_append, tri_flat fun y hy => h y (by simp [hy])]
    simp; omega
theorem tl_tri {g : List (List Int)} {c b m : Nat} (hc : c < g.length) (hb : b < g.length) (hm : m ≤ g.length) : ∀ x ∈ tl g c b m, Tri g.length x := fun x hx => by
  unfold tl at hx
  split at hx
  · obtain ⟨a, ha, rfl⟩ := List.mem_map.1 hx
    have := List.mem_range.1 (List.mem_filter.1 ha).1
    exact ⟨a, b, c, rfl, by omega, hb, hc⟩
  · simp at hx
theorem tc_tri {g : List (List Int)} {c m : Nat} (hc : c < g.length) (hm : m ≤ g.length) : ∀ x ∈ tc g c m, Tri g.length x := fun x hx => by
  unfold tc at hx
  obtain ⟨b, hb, hx⟩ := List.mem_flatMap.1 hx
  have := List.mem_range.1 hb
  exact tl_tri hc (by omega) (by omega) x hx
theorem ta_tri {g : List (List Int)} {m : Nat} (hm : m ≤ g.length) : ∀ x ∈ ta g m, Tri g.length x := fun x hx => by
  unfold ta at hx
  obtain ⟨c, hc, hx⟩ := List.mem_flatMap.1 hx
  have := List.mem_range.1 hc
  exact tc_tri (by omega) (by omega) x hx
theorem tri_app {n : Nat} {A B : List (List Int)} (h1 : ∀ x ∈ A, Tri n x) (h2 : ∀ x ∈ B, Tri n x) : ∀ x ∈ A ++ B, Tri n x := fun x hx => by
  rcases List.mem_append.1 hx with h | h
  · exact h1 x h
  · exact h2 x h
theorem rt_in {F c b : Nat} {g P : List (List Int)} {rec1176 : (List Int × Int × Int) → Option (List Int × Int)} (hF : 1000 ≤ F) (hg : Gr g) (hc : c < g.length) (hb : b < g.length) (hN : Nb g b c = true) (hP : ∀ x ∈ P, Tri g.length x) (hl : P.length ≤ 10000000) : ∀ (k a : Nat), b < k + a → a ≤ b →
    M_R_CoreThrees_l1204 F rec1176 g (c : Int) (b : Int) k (cnt g.length (P ++ tl g c b a).flatten, ((P ++ tl g c b a).length : Int), (a : Int)) = M_R_CoreThrees_j1193 F rec1176 (b : Int) (cnt g.length (P ++ tl g c b b).flatten) ((P ++ tl g c b b).length : Int)
  | 0, _, _, _ => by omega
  | k + 1, a, h, ha => by
    have h1 := hg.1
    show M_R_CoreThrees_b1204 F rec1176 g (c : Int) (b : Int) (M_R_CoreThrees_l1204 F rec1176 g (c : Int) (b : Int) k) (cnt g.length (P ++ tl g c b a).flatten) ((P ++ tl g c b a).length : Int) (a : Int) = _
    unfold M_R_CoreThrees_b1204 M_R_CoreThrees_j1206
    by_cases hlt : a < b
    · have hrec := rt_in (F := F) (rec1176 := rec1176) hF hg hc hb hN hP hl k (a + 1) (by omega) (by omega)
      rw [tl_succ hN] at hrec
      have htl := tl_len g c b a
      have hfl := tri_flat (tri_app hP (tl_tri (m := a) hc hb (by omega)))
      rw [List.length_append] at hfl
      rw [if_pos (by simp; omega), rnear_eq hF hg hb hc, hN]
      simp only [Option.bind_some, if_true]
      rw [rnear_eq hF hg (by omega) hb]
      simp only [Option.bind_some]
      have skip : (Nb g a b && Nb g a c) = false → M_R_CoreThrees_j1209 F (M_R_CoreThrees_l1204 F rec1176 g (c : Int) (b : Int) k) (c : Int) (b : Int) (cnt g.length (P ++ tl g c b a).flatten) ((P ++ tl g c b a).length : Int) (a : Int) false = M_R_CoreThrees_j1193 F rec1176 (b : Int) (cnt g.length (P ++ tl g c b b).flatten) ((P ++ tl g c b b).length : Int) := fun hf => by
        unfold M_R_CoreThrees_j1209 M_R_CoreThrees_j1208
        rw [if_neg (by simp), iadd1_n (by omega)]
        rw [if_neg (by simp [hf])] at hrec
        exact hrec
      by_cases hab : Nb g a b = true
      · rw [if_pos hab, rnear_eq hF hg (by omega) hc]
        simp only [Option.bind_some]
        by_cases hac : Nb g a c = true
        · rw [hac]
          unfold M_R_CoreThrees_j1209 M_R_CoreThrees_j1208
          rw [if_pos (by simp [hab, hac])] at hrec
          obtain ⟨e1, e2⟩ := cnt_inc (n := g.length) (a := a) (l := (P ++ tl g c b a).flatten) (lim := 100000000) (by omega) (by omega) (by omega)
          obtain ⟨e3, e4⟩ := cnt_inc (n := g.length) (a := b) (l := (P ++ tl g c b a).flatten ++ [(a : Int)]) (lim := 100000000) hb (by simp only [List.length_append, List.length_singleton] at *; omega) (by omega)
          obtain ⟨e5, e6⟩ := cnt_inc (n := g.length) (a := c) (l := (P ++ tl g c b a).flatten ++ [(a : Int)] ++ [(b : Int)]) (lim := 100000000) hc (by simp only [List.length_append, List.length_singleton] at *; omega) (by omega)
          rw [if_pos rfl, e1]
          simp only [Option.bind_some, lett, Int.toNat_natCast]
          rw [e2, e3]
          simp only [Option.bind_some]
          rw [e4, e5]
          simp only [Option.bind_some]
          rw [e6, iadd1_n (by rw [List.length_append]; omega), iadd1_n (by omega)]
          rw [← List.append_assoc, List.length_append, List.flatten_append] at hrec
          simp only [List.flatten_cons, List.flatten_nil, List.append_nil, List.length_singleton] at hrec
          rw [List.append_assoc, List.append_assoc]
          exact hrec
        · rw [Bool.not_eq_true] at hac
          rw [hac]
          exact skip (by simp [hac])
      · rw [if_neg hab]
        rw [Bool.not_eq_true] at hab
        exact skip (by simp [hab])
    · rw [if_neg (by simp; omega), if_neg (by simp), show a = b from by omega]
theorem rt_row {F c b : Nat} {g P : List (List Int)} {rec1176 : (List Int × Int × Int) → Option (List Int × Int)} (hF : 1000 ≤ F) (hg : Gr g) (hc : c < g.length) (hb : b < g.length) (hP : ∀ x ∈ P, Tri g.length x) (hl : P.length ≤ 10000000) :
    M_R_CoreThrees_l1204 F rec1176 g (c : Int) (b : Int) F (cnt g.length P.flatten, (P.length : Int), 0) = M_R_CoreThrees_j1193 F rec1176 (b : Int) (cnt g.length (P ++ tl g c b b).flatten) ((P ++ tl g c b b).length : Int) := by
  have h1 := hg.1
  by_cases hN : Nb g b c = true
  · have := rt_in (F := F) (rec1176 := rec1176) hF hg hc hb hN hP hl F 0 (by omega) (by omega)
    have e : tl g c b 0 = [] := by unfold tl; simp
    rw [e, List.append_nil] at this
    exact this
  · have e : tl g c b b = [] := by unfold tl; rw [if_neg hN]
    rw [e, List.append_nil]
    obtain ⟨k, hk⟩ := Nat.exists_eq_succ_of_ne_zero (show F ≠ 0 by omega)
    have e2 : M_R_CoreThrees_l1204 F rec1176 g (c : Int) (b : Int) F (cnt g.length P.flatten, (P.length : Int), 0) = M_R_CoreThrees_b1204 F rec1176 g (c : Int) (b : Int) (M_R_CoreThrees_l1204 F rec1176 g (c : Int) (b : Int) k) (cnt g.length P.flatten) (P.length : Int) 0 := by
      conv => lhs; arg 6; rw [hk]
      rfl
    rw [e2]
    unfold M_R_CoreThrees_b1204 M_R_CoreThrees_j1206
    rw [Bool.not_eq_true] at hN
    split
    · rw [rnear_eq hF hg hb hc, hN]
      simp
    · simp
theorem rt_mid {F c : Nat} {g P : List (List Int)} {rec1008 : (List Int × Int × Int) → Option (List Int × Int)} (hF : 1000 ≤ F) (hg : Gr g) (hc : c < g.length) (hP : ∀ x ∈ P, Tri g.length x) : ∀ (k b : Nat), c < k + b → b ≤ c → P.length + 100 * c ≤ 1000000 + 100 * b → (P ++ tc g c b).length ≤ 1000000 + 100 * b →
    M_R_CoreThrees_l1176 F rec1008 g (c : Int) k (cnt g.length (P ++ tc g c b).flatten, ((P ++ tc g c b).length : Int), (b : Int)) = M_R_CoreThrees_j1109 F rec1008 (c : Int) (cnt g.length (P ++ tc g c c).flatten) ((P ++ tc g c c).length : Int)
  | 0, _, _, _, _, _ => by omega
  | k + 1, b, h, hb, hl0, hl => by
    have h1 := hg.1
    show M_R_CoreThrees_b1176 F rec1008 g (c : Int) (M_R_CoreThrees_l1176 F rec1008 g (c : Int) k) (cnt g.length (P ++ tc g c b).flatten) ((P ++ tc g c b).length : Int) (b : Int) = _
    unfold M_R_CoreThrees_b1176
    by_cases hlt : b < c
    · have htl := tl_len g c b b
      rw [if_pos (by simp; omega), rt_row hF hg hc (by omega) (tri_app hP (tc_tri hc (by omega))) (by omega)]
      unfold M_R_CoreThrees_j1193
      rw [iadd1_n (by omega), List.append_assoc, ← tc_succ]
      exact rt_mid hF hg hc hP k (b + 1) (by omega) (by omega) (by omega) (by rw [tc_succ, ← List.append_assoc, List.length_append]; omega)
    · rw [if_neg (by simp; omega), show b = c from by omega]
theorem tc_len {g : List (List Int)} (c : Nat) : ∀ m, m ≤ 100 → (tc g c m).length ≤ 100 * m
  | 0, _ => by simp [tc]
  | m + 1, h => by
    have h1 := tc_len (g := g) c m (by omega)
    have h2 := tl_len g c m m
    rw [tc_succ, List.length_append]; omega
theorem ta_len {g : List (List Int)} : ∀ m, m ≤ 100 → (ta g m).length ≤ 10000 * m
  | 0, _ => by simp [ta]
  | m + 1, h => by
    have h1 := ta_len (g := g) m (by omega)
    have h2 := tc_len (g := g) m m (by omega)
    rw [ta_succ, List.length_append]; omega
theorem rt_out {F : Nat} {g : List (List Int)} (hF : 1000 ≤ F) (hg : Gr g) : ∀ (k c : Nat), g.length < k + c → c ≤ g.length →
    M_R_CoreThrees_l1008 F g k (cnt g.length (ta g c).flatten, ((ta g c).length : Int), (c : Int)) = some (cnt g.length (ta g g.length).flatten, ((ta g g.length).length : Int))
  | 0, _, _, _ => by omega
  | k + 1, c, h, hc => by
    have h1 := hg.1
    show M_R_CoreThrees_b1008 F g (M_R_CoreThrees_l1008 F g k) (cnt g.length (ta g c).flatten) ((ta g c).length : Int) (c : Int) = _
    unfold M_R_CoreThrees_b1008
    by_cases hlt : c < g.length
    · have hl := ta_len (g := g) c (by omega)
      have hm := rt_mid (F := F) (rec1008 := M_R_CoreThrees_l1008 F g k) hF hg hlt (ta_tri (g := g) hc) F 0 (by omega) (by omega) (by omega) (by simp [tc]; omega)
      have e : tc g c 0 = [] := by simp [tc]
      rw [e, List.append_nil] at hm
      rw [if_pos (by simp; omega)]
      have hm' : M_R_CoreThrees_l1176 F (M_R_CoreThrees_l1008 F g k) g (c : Int) F (cnt g.length (ta g c).flatten, ((ta g c).length : Int), 0) = _ := hm
      rw [hm']
      unfold M_R_CoreThrees_j1109
      rw [iadd1_n (by omega), ← ta_succ]
      exact rt_out hF hg k (c + 1) (by omega) (by omega)
    · rw [if_neg (by simp; omega), show c = g.length from by omega]
      rfl
theorem mem_ta {g : List (List Int)} {x : List Int} : x ∈ ta g g.length ↔ ∃ a b c : Nat, x = [(a : Int), (b : Int), (c : Int)] ∧ a < b ∧ b < c ∧ c < g.length ∧ Nb g a b = true ∧ Nb g a c = true ∧ Nb g b c = true := by
  unfold ta tc tl
  constructor
  · intro hx
    obtain ⟨c, hc, hx⟩ := List.mem_flatMap.1 hx
    obtain ⟨b, hb, hx⟩ := List.mem_flatMap.1 hx
    split at hx
    · rename_i hN
      obtain ⟨a, ha, rfl⟩ := List.mem_map.1 hx
      obtain ⟨h1, h2⟩ := List.mem_filter.1 ha
      simp only [Bool.and_eq_true] at h2
      exact ⟨a, b, c, rfl, List.mem_range.1 h1, List.mem_range.1 hb, List.mem_range.1 hc, h2.1, h2.2, hN⟩
    · simp at hx
  · rintro ⟨a, b, c, rfl, h1, h2, h3, n1, n2, n3⟩
    refine List.mem_flatMap.2 ⟨c, List.mem_range.2 h3, List.mem_flatMap.2 ⟨b, List.mem_range.2 h2, ?_⟩⟩
    rw [if_pos n3]
    exact List.mem_map.2 ⟨a, List.mem_filter.2 ⟨List.mem_range.2 h1, by simp [n1, n2]⟩, rfl⟩
theorem ta_nodup (g : List (List Int)) (m : Nat) : (ta g m).Nodup := by
  have rp : ∀ m, (List.range m).Pairwise fun x y : Nat => x < y := fun m => List.pairwise_lt_range
  show (ta g m).Pairwise fun x y => x ≠ y
  unfold ta
  rw [List.pairwise_flatMap]
  refine ⟨fun c _ => ?_, (rp m).imp fun {c c'} hcc x hx y hy he => ?_⟩
  · unfold tc
    rw [List.pairwise_flatMap]
    refine ⟨fun b _ => ?_, (rp c).imp fun {b b'} hbb x hx y hy he => ?_⟩
    · unfold tl
      split
      · rw [List.pairwise_map]
        exact ((rp b).filter _).imp fun h he => by simp at he; omega
      · exact List.Pairwise.nil
    · unfold tl at hx hy
      split at hx
      · split at hy
        · obtain ⟨a, _, rfl⟩ := List.mem_map.1 hx
          obtain ⟨a', _, rfl⟩ := List.mem_map.1 hy
          simp at he; omega
        · simp at hy
      · simp at hx
  · unfold tc tl at hx hy
    obtain ⟨b, _, hx⟩ := List.mem_flatMap.1 hx
    obtain ⟨b', _, hy⟩ := List.mem_flatMap.1 hy
    split at hx
    · split at hy
      · obtain ⟨a, _, rfl⟩ := List.mem_map.1 hx
        obtain ⟨a', _, rfl⟩ := List.mem_map.1 hy
        simp at he; omega
      · simp at hy
    · simp at hx
theorem ta_perm {g : List (List Int)} (hg : Gr g) : (ta g g.length).Perm (th g) :=
  (List.perm_ext_iff_of_nodup (ta_nodup g _) (th_nodup hg)).2 fun x => by rw [mem_ta, mem_th hg]
theorem rthrees_eq {F : Nat} {g : List (List Int)} (hF : 1000 ≤ F) (hg : Gr g) : M_R_CoreThrees F g = some (cnt g.length (th g).flatten, ((th g).length : Int)) := by
  have h1 := hg.1
  unfold M_R_CoreThrees
  rw [mk_rep (by omega)]
  simp only [Option.bind_some]
  have e0 : cnt g.length (ta g 0).flatten = List.replicate g.length 0 := by
    apply List.ext_getElem (by simp [cnt])
    intro v b1 b2
    simp [cnt, ta]
  have := rt_out hF hg F 0 (by omega) (by omega)
  rw [e0] at this
  refine Eq.trans this ?_
  rw [(ta_perm hg).length_eq, cnt_perm (ta_perm hg).flatten]
def oL (n : Nat) (o : Nat → Int) : List Int := (List.range n).map o
theorem oL_len (n : Nat) (o : Nat → Int) : (oL n o).length = n := by simp [oL]
theorem oL_get {n v : Nat} {o : Nat → Int} (h : v < n) : (oL n o)[v]? = some (o v) := by simp [oL, h]
def updI (o : Nat → Int) (a : Nat) (x : Int) : Nat → Int := fun v => if v = a then x else o v
theorem oL_set {n a : Nat} {x : Int} {o : Nat → Int} : (oL n o).set a x = oL n (updI o a x) := by
  apply List.ext_getElem (by simp [oL])
  intro v h1 h2
  rw [List.getElem_set]
  simp only [oL, List.getElem_map, List.getElem_range, updI]
  by_cases h : a = v
  · subst h; simp
  · rw [if_neg h, if_neg (fun he => h he.symm)]
/-- Who comes into question. -/
def cand (g : List (List Int)) (a : Nat) (o : Nat → Int) : Option Nat := (List.range g.length).find? fun b => Nb g a b && (decide (a < b) && decide (o b < 0))
def pstep (g : List (List Int)) (a : Nat) (o : Nat → Int) : Nat → Int := match cand g a o with
  | none => o
  | some b => if o a < 0 then updI (updI o a b) b a else o
def prs (g : List (List Int)) : Nat → Nat → Int
  | 0 => fun _ => -1
  | a + 1 => pstep g a (prs g a)
theorem index_l {F a n : Nat} {o : Nat → Int} (hm : n ≤ 1000000) : ∀ (l : List Nat) (k i : Nat) (L : List Int), (∀ x ∈ l, x < n) → L.drop i = (l.map fun (x : Nat) => (x : Int)) → i ≤ L.length → L.length < k + i → L.length ≤ 1000000 →
    (∃ (j b : Nat), M_slices_IndexFunc_int_int_core_Pairs_1_l3 F L (a : Int) (oL n o) k (i : Int) = some ((i + j : Nat) : Int) ∧ L[i + j]? = some (b : Int) ∧ l.find? (fun b => decide (a < b) && decide (o b < 0)) = some b) ∨
    (M_slices_IndexFunc_int_int_core_Pairs_1_l3 F L (a : Int) (oL n o) k (i : Int) = some (-1) ∧ l.find? (fun b => decide (a < b) && decide (o b < 0)) = none)
  | _, 0, i, L, _, _, h1, h2, _ => by omega
  | [], k + 1, i, L, _, hd, h1, h2, _ => by
    right
    have : L.length ≤ i := by
      have := congrArg List.length hd
      simp at this; omega
    refine ⟨?_, rfl⟩
    show M_slices_IndexFunc_int_int_core_Pairs_1_b3 F L (a : Int) (oL n o) (M_slices_IndexFunc_int_int_core_Pairs_1_l3 F L (a : Int) (oL n o) k) (i : Int) = _
    unfold M_slices_IndexFunc_int_int_core_Pairs_1_b3
    rw [if_neg (by simp; omega)]
    rfl
  | x :: l, k + 1, i, L, hx, hd, h1, h2, hL => by
    have hlen : L.length - i = (x :: l).length := by
      have := congrArg List.length hd
      simpa using this
    rw [List.length_cons] at hlen
    have hlt : i < L.length := by omega
    rw [List.drop_eq_getElem_cons hlt, List.map_cons, List.cons.injEq] at hd
    obtain ⟨hd1, hd2⟩ := hd
    have hxn := hx x (by simp)
    have hgo : M_slices_IndexFunc_int_int_core_Pairs_1_l3 F L (a : Int) (oL n o) (k + 1) (i : Int) = if decide (a < x) && decide (o x < 0) then some (i : Int) else M_slices_IndexFunc_int_int_core_Pairs_1_l3 F L (a : Int) (oL n o) k ((i + 1 : Nat) : Int) := by
      show M_slices_IndexFunc_int_int_core_Pairs_1_b3 F L (a : Int) (oL n o) (M_slices_IndexFunc_int_int_core_Pairs_1_l3 F L (a : Int) (oL n o) k) (i : Int) = _
      unfold M_slices_IndexFunc_int_int_core_Pairs_1_b3
      rw [if_pos (by simp; omega), idx_nat, List.getElem?_eq_getElem hlt, hd1]
      simp only [Option.bind_some]
      rw [iadd1_n (by omega)]
      unfold M_core_Pairs_1 M_core_Pairs_1_j1
      by_cases hc : a < x
      · rw [if_pos (by simp; omega), idx_nat, oL_get hxn]
        simp [hc]
      · rw [if_neg (by simp; omega)]
        simp [hc]
    rw [hgo, List.find?_cons]
    by_cases hc : (decide (a < x) && decide (o x < 0)) = true
    · rw [hc]
      left
      exact ⟨0, x, rfl, by rw [Nat.add_zero, List.getElem?_eq_getElem hlt, hd1], rfl⟩
    · rw [if_neg hc]
      rw [Bool.not_eq_true] at hc
      rw [hc]
      rcases index_l (F := F) (a := a) (o := o) hm l k (i + 1) L (fun y hy => hx y (by simp [hy])) hd2 (by omega) (by omega) hL with ⟨j, b, e1, e2, e3⟩ | ⟨e1, e2⟩
      · left
        exact ⟨j + 1, b, by rw [e1]; congr 2; omega, by rw [show i + (j + 1) = i + 1 + j by omega]; exact e2, e3⟩
      · exact .inr ⟨e1, e2⟩
theorem find_nbs {g : List (List Int)} {a : Nat} {o : Nat → Int} : (nbs g a).find? (fun b => decide (a < b) && decide (o b < 0)) = cand g a o := by
  unfold nbs cand
  rw [List.find?_filter]
  congr 1
  funext b
  cases Nb g a b <;> simp
theorem cand_spec {g : List (List Int)} {a b : Nat} {o : Nat → Int} (h : cand g a o = some b) : b < g.length ∧ Nb g a b = true ∧ a < b ∧ o b < 0 := by
  unfold cand at h
  have h1 := List.find?_some h
  have h2 := List.mem_of_find?_eq_some h
  simp only [Bool.and_eq_true, decide_eq_true_eq] at h1
  exact ⟨List.mem_range.1 h2, h1.1, h1.2.1, h1.2.2⟩
theorem pairs_l {F : Nat} {g : List (List Int)} (hF : 2000 ≤ F) (hg : Gr g) : ∀ (k a : Nat), g.length < k + a → a ≤ g.length → M_core_Pairs_l8 F (nr g) k ((a : Int), oL g.length (prs g a)) = some (oL g.length (prs g g.length), 0)
  | 0, _, _, _ => by omega
  | k + 1, a, h, ha => by
    have h1 := hg.1
    show M_core_Pairs_b8 F (nr g) (M_core_Pairs_l8 F (nr g) k) (a : Int) (oL g.length (prs g a)) = _
    unfold M_core_Pairs_b8 M_core_Pairs_j9
    by_cases hlt : a < g.length
    · have hrec := pairs_l hF hg k (a + 1) (by omega) (by omega)
      have hnl := nbs_len g a
      rw [if_pos (by simp [nr_len]; omega), idx_nat, nr_get hlt, cols_nbs]
      simp only [Option.bind_some]
      rw [iadd1_n (by omega)]
      unfold M_slices_IndexFunc_int_int_core_Pairs_1
      rcases index_l (F := F) (a := a) (n := g.length) (o := prs g a) (by omega) (nbs g a) F 0 ((nbs g a).map fun (x : Nat) => (x : Int)) (fun x hx => (Nb_lt hg ((mem_nbs hg).1 hx)).2) (by simp) (by omega) (by simp; omega) (by simp; omega) with ⟨j, b, e1, e2, e3⟩ | ⟨e1, e2⟩
      · rw [find_nbs] at e3
        obtain ⟨hb1, hb2, hb3, hb4⟩ := cand_spec e3
        have e1' : M_slices_IndexFunc_int_int_core_Pairs_1_l3 F ((nbs g a).map fun (x : Nat) => (x : Int)) (a : Int) (oL g.length (prs g a)) F 0 = _ := e1
        rw [e1', Nat.zero_add]
        rw [Nat.zero_add] at e2
        simp only [Option.bind_some]
        rw [idx_nat, oL_get hlt]
        simp only [Option.bind_some]
        have hst : prs g (a + 1) = if prs g a a < 0 then updI (updI (prs g a) a b) b a else prs g a := by
          show pstep g a (prs g a) = _
          unfold pstep
          rw [e3]
        by_cases ho : prs g a a < 0
        · rw [if_pos (by simp [ho]), idx_nat, e2]
          simp only [Option.bind_some]
          rw [idx_nat, oL_get hb1]
          simp only [Option.bind_some, lett, Int.toNat_natCast]
          rw [oL_set, oL_set]
          rw [hst, if_pos ho] at hrec
          exact hrec
        · rw [if_neg (by simp [ho])]
          rw [hst, if_neg ho] at hrec
          exact hrec
      · rw [find_nbs] at e2
        have e1' : M_slices_IndexFunc_int_int_core_Pairs_1_l3 F ((nbs g a).map fun (x : Nat) => (x : Int)) (a : Int) (oL g.length (prs g a)) F 0 = _ := e1
        rw [e1']
        simp only [Option.bind_some]
        rw [idx_nat, oL_get hlt]
        simp only [Option.bind_some]
        have hst : prs g (a + 1) = prs g a := by
          show pstep g a (prs g a) = _
          unfold pstep
          rw [e2]
        rw [if_neg (by simp)]
        rw [hst] at hrec
        exact hrec
    · rw [if_neg (by simp [nr_len]; omega), show a = g.length from by omega]
      rfl
theorem rp_done {F a : Nat} {g : List (List Int)} {o : Nat → Int} {rec170 : (List Int × Int) → Option (List Int)} (hF : 1000 ≤ F) (hg : Gr g) (ha : a < g.length) (ho : ¬ o a < 0) : ∀ (k b : Nat), g.length < k + b → b ≤ g.length →
    M_R_CorePairs_l198 F rec170 g (a : Int) k (oL g.length o, (b : Int)) = M_R_CorePairs_j187 F rec170 (a : Int) (oL g.length o)
  | 0, _, _, _ => by omega
  | k + 1, b, h, hb => by
    have h1 := hg.1
    show M_R_CorePairs_b198 F rec170 g (a : Int) (M_R_CorePairs_l198 F rec170 g (a : Int) k) (oL g.length o) (b : Int) = _
    unfold M_R_CorePairs_b198 M_R_CorePairs_j202 M_R_CorePairs_j203 M_R_CorePairs_j201
    by_cases hlt : b < g.length
    · have hrec := rp_done (F := F) (rec170 := rec170) hF hg ha ho k (b + 1) (by omega) (by omega)
      rw [if_pos (by simp; omega), rnear_eq hF hg ha hlt]
      simp only [Option.bind_some]
      rw [idx_nat, oL_get ha]
      simp only [Option.bind_some]
      rw [decide_eq_false ho, iadd1_n (by omega)]
      simp only [Bool.false_eq_true, if_false]
      split <;> exact hrec
    · rw [if_neg (by simp; omega)]
theorem rp_go {F a : Nat} {g : List (List Int)} {o : Nat → Int} {rec170 : (List Int × Int) → Option (List Int)} (hF : 1000 ≤ F) (hg : Gr g) (ha : a < g.length) (ho : o a < 0) : ∀ (k b : Nat), g.length < k + b → b ≤ g.length → a < b →
    M_R_CorePairs_l198 F rec170 g (a : Int) k (oL g.length o, (b : Int)) = M_R_CorePairs_j187 F rec170 (a : Int) (oL g.length (match ((List.range g.length).drop b).find? (fun b => Nb g a b && (decide (a < b) && decide (o b < 0))) with | none => o | some c => updI (updI o a c) c a))
  | 0, _, _, _, _ => by omega
  | k + 1, b, h, hb, hab => by
    have h1 := hg.1
    show M_R_CorePairs_b198 F rec170 g (a : Int) (M_R_CorePairs_l198 F rec170 g (a : Int) k) (oL g.length o) (b : Int) = _
    unfold M_R_CorePairs_b198 M_R_CorePairs_j202 M_R_CorePairs_j203 M_R_CorePairs_j201
    by_cases hlt : b < g.length
    · have hrec := rp_go (F := F) (rec170 := rec170) hF hg ha ho k (b + 1) (by omega) (by omega) (by omega)
      rw [List.drop_eq_getElem_cons (by simp; omega), List.getElem_range, List.find?_cons]
      rw [if_pos (by simp; omega), rnear_eq hF hg ha hlt]
      simp only [Option.bind_some]
      rw [idx_nat, oL_get ha]
      simp only [Option.bind_some]
      rw [decide_eq_true ho, iadd1_n (by omega), idx_nat, oL_get hlt]
      simp only [Option.bind_some, if_true]
      by_cases hN : Nb g a b = true
      · rw [if_pos hN, hN]
        by_cases hob : o b < 0
        · rw [if_pos (by simpa using hob), decide_eq_true hab, decide_eq_true hob]
          simp only [lett, Int.toNat_natCast, Bool.and_self]
          rw [oL_set, idx_nat, oL_get hlt]
          simp only [Option.bind_some]
          rw [oL_set]
          exact rp_done hF hg ha (by unfold updI; rw [if_neg (by omega), if_pos rfl]; omega) k (b + 1) (by omega) (by omega)
        · rw [if_neg (by simpa using hob), decide_eq_false hob, Bool.and_false, Bool.and_false]
          exact hrec
      · rw [if_neg hN]
        rw [Bool.not_eq_true] at hN
        rw [hN, if_neg (by simp), Bool.false_and]
        exact hrec
    · rw [if_neg (by simp; omega), List.drop_eq_nil_of_le (by simp; omega)]
      rfl
theorem find_drop {p : Nat → Bool} : ∀ {l : List Nat} {k : Nat}, (∀ x ∈ l.take k, p x = false) → l.find? p = (l.drop k).find? p
  | l, 0, _ => by simp
  | [], k + 1, _ => by simp
  | x :: l, k + 1, h => by
    rw [List.find?_cons, h x (by simp), List.drop_succ_cons]
    exact find_drop fun y hy => h y (by simp [hy])
theorem rp_out {F : Nat} {g : List (List Int)} (hF : 1000 ≤ F) (hg : Gr g) : ∀ (k a : Nat), g.length < k + a → a ≤ g.length → M_R_CorePairs_l170 F g k (oL g.length (prs g a), (a : Int)) = some (oL g.length (prs g g.length))
  | 0, _, _, _ => by omega
  | k + 1, a, h, ha => by
    have h1 := hg.1
    show M_R_CorePairs_b170 F g (M_R_CorePairs_l170 F g k) (oL g.length (prs g a)) (a : Int) = _
    unfold M_R_CorePairs_b170
    by_cases hlt : a < g.length
    · have hrec := rp_out hF hg k (a + 1) (by omega) (by omega)
      have hstep : M_R_CorePairs_l198 F (M_R_CorePairs_l170 F g k) g (a : Int) F (oL g.length (prs g a), ((a + 1 : Nat) : Int)) = M_R_CorePairs_j187 F (M_R_CorePairs_l170 F g k) (a : Int) (oL g.length (prs g (a + 1))) := by
        by_cases ho : prs g a a < 0
        · rw [rp_go hF hg hlt ho F (a + 1) (by omega) (by omega) (by omega)]
          have e : ((List.range g.length).drop (a + 1)).find? (fun b => Nb g a b && (decide (a < b) && decide (prs g a b < 0))) = cand g a (prs g a) := by
            unfold cand
            refine (find_drop fun x hx => ?_).symm
            obtain ⟨i, hi, rfl⟩ := List.mem_iff_getElem.1 hx
            rw [List.length_take] at hi
            rw [List.getElem_take, List.getElem_range]
            have : ¬ a < i := by omega
            simp [this]
          rw [e]
          congr 2
          show _ = pstep g a (prs g a)
          unfold pstep
          cases cand g a (prs g a) with
          | none => rfl
          | some b => simp only; rw [if_pos ho]
        · rw [rp_done hF hg hlt ho F (a + 1) (by omega) (by omega)]
          congr 2
          show _ = pstep g a (prs g a)
          unfold pstep
          cases cand g a (prs g a) with
          | none => rfl
          | some b => simp only; rw [if_neg ho]
      rw [if_pos (by simp; omega), iadd1_n (by omega), hstep]
      unfold M_R_CorePairs_j187
      rw [iadd1_n (by omega)]
      exact hrec
    · rw [if_neg (by simp; omega), show a = g.length from by omega]
      rfl
theorem rp_fill {F : Nat} {g : List (List Int)} (hm : g.length ≤ 1000000) : ∀ (k i : Nat), g.length < k + i → i ≤ g.length → M_R_CorePairs_l204 F g k (List.replicate i (-1), (i : Int)) = M_R_CorePairs_j2 F g (List.replicate g.length (-1))
  | 0, _, _, _ => by omega
  | k + 1, i, h, hi => by
    show M_R_CorePairs_b204 F g (M_R_CorePairs_l204 F g k) (List.replicate i (-1)) (i : Int) = _
    unfold M_R_CorePairs_b204
    by_cases hlt : i < g.length
    · have hrec := rp_fill (F := F) hm k (i + 1) (by omega) (by omega)
      rw [if_pos (by simp; omega), app_eq (by simp; omega), iadd1_n (by omega)]
      rw [List.replicate_succ'] at hrec
      exact hrec
    · rw [if_neg (by simp; omega), show i = g.length from by omega]
theorem rep_oL (g : List (List Int)) : List.replicate g.length (-1 : Int) = oL g.length (prs g 0) := by
  apply List.ext_getElem (by simp [oL])
  intro v b1 b2
  simp [oL, prs]
theorem rpairs_eq {F : Nat} {g : List (List Int)} (hF : 1000 ≤ F) (hg : Gr g) : M_R_CorePairs F g = some (oL g.length (prs g g.length)) := by
  have h1 := hg.1
  unfold M_R_CorePairs
  have := rp_fill (F := F) (g := g) (by omega) F 0 (by omega) (by omega)
  rw [List.replicate_zero] at this
  refine Eq.trans this ?_
  unfold M_R_CorePairs_j2
  rw [rep_oL]
  exact rp_out hF hg F 0 (by omega) (by omega)
theorem rep_l {F n : Nat} (hn : n ≤ 1000000) : ∀ (k i : Nat) (L : List Int), L.length = n → (∀ j, j < i → L[j]? = some (-1)) → i ≤ n → n < k + i → 1 ≤ i ∨ n = 0 → M_slices_Repeat_int_int_l3 F k (L, (i : Int)) = some (List.replicate n (-1))
  | 0, i, L, _, _, _, _, _ => by omega
  | k + 1, i, L, hL, hj, hi, hk, h0 => by
    show M_slices_Repeat_int_int_b3 F (M_slices_Repeat_int_int_l3 F k) L (i : Int) = _
    unfold M_slices_Repeat_int_int_b3
    by_cases hlt : i < n
    · have s1 := sub_n (l := L) (i := i) (j := L.length) (by omega) (by omega)
      have s2 := sub_n (l := L) (i := 0) (j := i) (by omega) (by omega)
      rw [List.take_length] at s1
      rw [show ((0 : Nat) : Int) = 0 from rfl, List.drop_zero] at s2
      rw [if_pos (by simp; omega), s1]
      simp only [Option.bind_some]
      rw [s2]
      simp only [Option.bind_some, lett, Int.toNat_natCast]
      rw [iadd_n (by simp; omega)]
      refine rep_l hn k _ _ (by rw [overlay_len (by omega)]; exact hL) (fun j hji => ?_) (by simp; omega) (by simp; omega) (.inl (by omega))
      unfold overlay
      simp only [List.length_take, List.length_drop] at hji
      by_cases hj1 : j < i
      · rw [List.append_assoc, List.getElem?_append_left (by simp; omega), List.getElem?_take_of_lt hj1]
        exact hj j hj1
      · rw [List.getElem?_append_left (by simp; omega), List.getElem?_append_right (by simp; omega)]
        rw [List.length_take, show min i L.length = i by omega, List.getElem?_take_of_lt (by omega), List.getElem?_take_of_lt (by omega)]
        exact hj _ (by omega)
    · rw [if_neg (by simp; omega)]
      unfold M_slices_Repeat_int_int_j2
      congr 1
      apply List.ext_getElem (by simp [hL])
      intro v b1 b2
      have := hj v (by omega)
      rw [List.getElem?_eq_getElem b1] at this
      rw [Option.some.inj this]; simp
theorem mul64_small {F n : Nat} (hn : n ≤ 1000000) : M_math_bits_Mul F 1 (n : Int) = some (0, (n : Int)) := by
  unfold M_math_bits_Mul M_math_bits_Mul64
  simp only [lett, Option.bind_some]
  have w : ∀ {x : Int}, 0 ≤ x → x < 18446744073709551616 → IntKind.wrap .u64 x = x := fun h1 h2 => wrap_u64 h1 h2
  have i1 : iand .u64 1 4294967295 = 1 := by decide
  have i2 : iand .u64 (n : Int) 4294967295 = (n : Int) := by
    have := iand_mask (k := .u64) (a := (n : Int)) (m := 32) (by omega) (by show (n : Int) < 18446744073709551616; omega) (by decide) (by decide)
    have e : ((2 ^ 32 - 1 : Nat) : Int) = 4294967295 := by decide
    rw [e] at this
    rw [this, show (2 : Int) ^ 32 = 4294967296 from by decide]; omega
  have s1 : ishr .u64 1 32 = 0 := by decide
  have s2 : ishr .u64 (n : Int) 32 = 0 := by
    have e2 := ishr_eq (k := .u64) (a := (n : Int)) (m := 32) (by decide)
    rw [show ((32 : Nat) : Int) = 32 from rfl, show (2 : Int) ^ 32 = 4294967296 from by decide] at e2
    rw [e2, show (n : Int) / 4294967296 = 0 by omega]
  have m1 : imul .u64 1 (n : Int) = (n : Int) := by
    unfold imul
    rw [Int.one_mul]; exact w (by omega) (by omega)
  have m2 : imul .u64 0 (n : Int) = 0 := by
    unfold imul
    rw [Int.zero_mul]; exact w (by decide) (by decide)
  have m3 : imul .u64 1 0 = 0 := by decide
  have m4 : imul .u64 0 0 = 0 := by decide
  have a0 : iadd .u64 0 0 = 0 := by decide
  rw [i1, i2, s1, s2, m1, m2, m3, m4]
  rw [s2, a0]
  have i3 : iand .u64 0 4294967295 = 0 := by decide
  have s3 : ishr .u64 0 32 = 0 := by decide
  rw [i3, a0, s3, a0, a0]
theorem repeat_eq {F n : Nat} (hF : 2000 ≤ F) (hn : n ≤ 1000) : M_slices_Repeat_int_int F [-1] (n : Int) = some (List.replicate n (-1)) := by
  unfold M_slices_Repeat_int_int
  rw [if_neg (by simp)]
  have e1 : iconv .u64 (([-1] : List Int).length : Int) = 1 := by decide
  have e2 : iconv .u64 (n : Int) = (n : Int) := wrap_u64 (by omega) (by omega)
  rw [e1, e2, mul64_small (by omega)]
  simp only [Option.bind_some]
  rw [if_neg (by simp; omega)]
  have e3 : iconv .i64 (n : Int) = (n : Int) := wrap_i64 (by omega) (by omega)
  rw [e3, mk_rep (by omega)]
  simp only [Option.bind_some, lett]
  rcases Nat.eq_zero_or_pos n with h0 | h0
  · subst h0
    exact rep_l (F := F) (n := 0) (by omega) F 0 _ (by simp [overlay]) (by omega) (by omega) (by omega) (.inr rfl)
  · have : ((min ([-1] : List Int).length (List.replicate n (0 : Int)).length : Nat) : Int) = ((1 : Nat) : Int) := by simp; omega
    rw [this]
    refine rep_l (F := F) (n := n) (by omega) F 1 _ (by rw [overlay_len (by omega)]; simp) (fun j hj => ?_) (by omega) (by omega) (.inl (by omega))
    have : j = 0 := by omega
    subst this
    unfold overlay
    rw [List.take_zero, List.nil_append, List.getElem?_append_left (by simp; omega), List.getElem?_take_of_lt (by simp; omega)]
    rfl
theorem pairs_eq {F : Nat} {g : List (List Int)} (hF : 2000 ≤ F) (hg : Gr g) : M_core_Pairs F g = some (oL g.length (prs g g.length), 0) := by
  have h1 := hg.1
  unfold M_core_Pairs
  rw [graphCheck_eq (by omega), gchk_ok.2 hg]
  simp only [Option.bind_some]
  rw [if_neg (by simp), repeat_eq hF (by omega)]
  simp only [Option.bind_some]
  rw [near_eq hF hg]
  simp only [Option.bind_some]
  rw [rep_oL]
  exact pairs_l hF hg F 0 (by omega) (by omega)
theorem pairs_bad {F : Nat} {g : List (List Int)} (hF : 2000 ≤ F) (h : gchk g ≠ 0) : M_core_Pairs F g = some ([], gchk g) := by
  unfold M_core_Pairs
  rw [graphCheck_eq (by omega)]
  simp only [Option.bind_some]
  rw [if_pos (by simpa using h)]
def g0c : List (List Int) := [[0, 1, 2], [2], [0], [2], []]
theorem g0c_gr : Gr g0c := gchk_ok.1 (by decide)
theorem g0c_core {c : Nat → Nat} (h : IsCore g0c c) : nl 5 c = [2, 2, 2, 1, 0] := by
  have k2 : KK g0c 2 (fun u => decide (u < 3)) := by unfold KK dg; decide
  have k1 : KK g0c 1 (fun u => decide (u < 4)) := by unfold KK dg; decide
  have l0 := h.max 2 _ k2 0 (by decide) (by decide)
  have l1 := h.max 2 _ k2 1 (by decide) (by decide)
  have l2 := h.max 2 _ k2 2 (by decide) (by decide)
  have l3 := h.max 1 _ k1 3 (by decide) (by decide)
  have up : ∀ v, v < 5 → c v ≤ dg g0c (fun _ => true) v := fun v hv => Nat.le_trans (h.own v hv) (dg_mono fun _ _ _ => rfl)
  have u0 : c 0 ≤ 2 := up 0 (by decide)
  have u1 : c 1 ≤ 2 := up 1 (by decide)
  have u3 : c 3 ≤ 1 := up 3 (by decide)
  have u4 : c 4 ≤ 0 := up 4 (by decide)
  have u2 : c 2 ≤ 2 := by
    refine Nat.le_of_not_lt fun hlt => ?_
    have h1 := h.own 2 (by decide)
    have h2 : dg g0c (fun u => decide (c 2 ≤ c u)) 2 ≤ dg g0c (fun u => decide (u = 2)) 2 := dg_mono fun u hu hc => by
      have hc := of_decide_eq_true hc
      refine decide_eq_true ?_
      have hu : u < 5 := hu
      rcases Nat.lt_or_ge u 2 with h3 | h3
      · have : u = 0 ∨ u = 1 := by omega
        rcases this with rfl | rfl <;> omega
      · rcases Nat.eq_or_lt_of_le h3 with h4 | h4
        · omega
        · have : u = 3 ∨ u = 4 := by omega
          rcases this with rfl | rfl <;> omega
    have h3 : dg g0c (fun u => decide (u = 2)) 2 = 0 := by decide
    omega
  have e0 : c 0 = 2 := by omega
  have e1 : c 1 = 2 := by omega
  have e2 : c 2 = 2 := by omega
  have e3 : c 3 = 1 := by omega
  have e4 : c 4 = 0 := by omega
  show [((c 0 : Nat) : Int), (c 1 : Nat), (c 2 : Nat), (c 3 : Nat), (c 4 : Nat)] = _
  rw [e0, e1, e2, e3, e4]; rfl
theorem cbg_eq {F : Nat} (hF : 200000 ≤ F) : M_L_coreBegun F = some true := by
  obtain ⟨c, hc, e⟩ := numbers_eq (F := F) (by omega) g0c_gr
  have e1 : M_core_Numbers F [[0, 1, 2], [2], [0], [2], []] = some ([2, 2, 2, 1, 0], 0) := by rw [← g0c_core hc]; exact e
  have e2 : M_core_Threes F [[0, 1, 2], [2], [0], [2], []] = some ([1, 1, 1, 0, 0], 1, 0) := by
    have h1 : cnt g0c.length (th g0c).flatten = [1, 1, 1, 0, 0] := by decide
    have h2 : (th g0c).length = 1 := by decide
    have := threes_eq (F := F) hF g0c_gr
    rw [h1, h2] at this
    exact this
  have e3 : M_core_Pairs F [[0, 1, 2], [2], [0], [2], []] = some ([1, 0, 3, 2, -1], 0) := by
    have h1 : oL g0c.length (prs g0c g0c.length) = [1, 0, 3, 2, -1] := by decide
    have := pairs_eq (F := F) (by omega) g0c_gr
    rw [h1] at this
    exact this
  unfold M_L_coreBegun
  rw [e1]
  simp only [Option.bind_some]
  rw [e2]
  simp only [Option.bind_some]
  rw [e3]
  simp only [Option.bind_some]
  rw [same_intsR (by simp; omega) (by decide)]
  simp only [Option.bind_some]
  rw [if_pos (by decide), same_intsR (by simp; omega) (by decide)]
  simp only [Option.bind_some]
  unfold M_L_coreBegun_j1
  rw [if_pos (by decide), same_intsR (by simp; omega) (by decide)]
  rfl
theorem ct_tail {F : Nat} {n p : List Int} {t : List Int} {all c : Int} (hF : 200000 ≤ F) (hn : n.length ≤ 100) (hp : p.length ≤ 100) (ht : t.length ≤ 100) :
    M_L_CoreTells_j1 F (n, c) (t, all, c) (p, c) c n t p all = some true := by
  unfold M_L_CoreTells_j1
  rw [cbg_eq hF]
  simp only [Option.bind_some, if_true]
  rw [same_intsR (by omega) (by omega)]
  simp only [Option.bind_some]
  unfold M_L_CoreTells_j2
  rw [if_pos (by simp), same_intsR (by show t.length < F; omega) (by show t.length ≤ _; omega)]
  simp only [Option.bind_some]
  unfold M_L_CoreTells_j3
  rw [if_pos (by simp), same_intsR (by show p.length < F; omega) (by show p.length ≤ _; omega)]
  simp only [Option.bind_some]
  unfold M_L_CoreTells_j4
  simp
theorem coreTells_true {F : Nat} {g : List (List Int)} (hF : 200000 ≤ F) : M_L_CoreTells F g = some true := by
  unfold M_L_CoreTells
  by_cases h : gchk g = 0
  · have hg := gchk_ok.1 h
    have h1 := hg.1
    obtain ⟨c, hc, e⟩ := numbers_eq (F := F) (by omega) hg
    obtain ⟨c', hc', e'⟩ := rnumbers_eq (F := F) (by omega) hg
    have ec : nl g.length c' = nl g.length c := by
      unfold nl
      exact List.map_congr_left fun v hv => by rw [core_uniq hc' hc v (List.mem_range.1 hv)]
    rw [e, threes_eq hF hg, pairs_eq (by omega) hg, rgraphCheck_eq (by omega), h]
    simp only [Option.bind_some]
    rw [if_pos (by simp), e', ec, rpairs_eq (by omega) hg, rthrees_eq (by omega) hg]
    simp only [Option.bind_some]
    exact ct_tail hF (by rw [nl_len]; exact h1) (by rw [oL_len]; exact h1) (by rw [cnt_len]; exact h1)
  · rw [numbers_bad (by omega) h, threes_bad (by omega) h, pairs_bad (by omega) h, rgraphCheck_eq (by omega)]
    simp only [Option.bind_some]
    rw [if_neg (by simpa using h)]
    exact ct_tail hF (by simp) (by simp) (by simp)
def inS (x : Int) (i : Nat) : Bool := ((irem (ishr .u64 x (irem (i : Int) 64)) 2) : Int) == 1
theorem inS_eq {F i : Nat} {x : Int} : M_L_CoreNumbers_1 F (i : Int) x = some (inS x i) := by
  unfold M_L_CoreNumbers_1 chk
  have : (0 : Int) ≤ irem (i : Int) 64 := by
    have := @irem_n i 64
    rw [show ((64 : Nat) : Int) = 64 from rfl] at this
    rw [this]; omega
  rw [if_pos (by simpa using this)]
  rfl
theorem cn_in {F i : Nat} {g : List (List Int)} {x : Int} {c : Nat → Nat} {e : Int} {least : Int} {rec603 : (Int × Int) → Option Bool} (hF : 1000 ≤ F) (hg : Gr g) (hi : i < g.length) : ∀ (k m : Nat), g.length < k + m → m ≤ g.length →
    M_L_CoreNumbers_l711 F rec603 g x (nl g.length c, e) least (i : Int) k (((List.range m).countP (fun u => decide (c i ≤ c u) && Nb g i u) : Int), ((List.range m).countP (fun u => inS x u && Nb g i u) : Int), (m : Int)) = M_L_CoreNumbers_j691 F rec603 x (nl g.length c, e) least (i : Int) (dg g (fun u => decide (c i ≤ c u)) i : Int) (dg g (inS x) i : Int)
  | 0, _, _, _ => by omega
  | k + 1, m, h, hm => by
    have h1 := hg.1
    show M_L_CoreNumbers_b711 F rec603 g x (nl g.length c, e) least (i : Int) (M_L_CoreNumbers_l711 F rec603 g x (nl g.length c, e) least (i : Int) k) ((List.range m).countP (fun u => decide (c i ≤ c u) && Nb g i u) : Int) ((List.range m).countP (fun u => inS x u && Nb g i u) : Int) (m : Int) = _
    unfold M_L_CoreNumbers_b711
    by_cases hlt : m < g.length
    · have hrec := cn_in (F := F) (x := x) (c := c) (e := e) (least := least) (rec603 := rec603) hF hg hi k (m + 1) (by omega) (by omega)
      rw [List.range_succ, List.countP_append, List.countP_singleton, List.countP_append, List.countP_singleton] at hrec
      have hc1 : (List.range m).countP (fun u => decide (c i ≤ c u) && Nb g i u) ≤ m := Nat.le_trans List.countP_le_length (by simp)
      have hc2 : (List.range m).countP (fun u => inS x u && Nb g i u) ≤ m := Nat.le_trans List.countP_le_length (by simp)
      rw [if_pos (by simp [nl_len]; omega)]
      simp only
      rw [idx_nat, nl_get hlt]
      simp only [Option.bind_some]
      rw [idx_nat, nl_get hi]
      simp only [Option.bind_some]
      rw [rnear_eq hF hg hi hlt]
      simp only [Option.bind_some]
      have tail : ∀ own : Nat, own = (List.range m).countP (fun u => decide (c i ≤ c u) && Nb g i u) + (if (decide (c i ≤ c m) && Nb g i m) = true then 1 else 0) →
          M_L_CoreNumbers_j718 F (M_L_CoreNumbers_l711 F rec603 g x (nl g.length c, e) least (i : Int) k) g x (i : Int) ((List.range m).countP (fun u => inS x u && Nb g i u) : Int) (m : Int) (own : Int) = M_L_CoreNumbers_j691 F rec603 x (nl g.length c, e) least (i : Int) (dg g (fun u => decide (c i ≤ c u)) i : Int) (dg g (inS x) i : Int) := by
        intro own hown
        unfold M_L_CoreNumbers_j718 M_L_CoreNumbers_j719 M_L_CoreNumbers_j716
        rw [rnear_eq hF hg hi hlt, hown]
        simp only [Option.bind_some]
        by_cases hN : Nb g i m = true
        · rw [if_pos hN, inS_eq]
          simp only [Option.bind_some]
          by_cases hS : inS x m = true
          · rw [if_pos hS, iadd1_n (by omega), iadd1_n (by omega)]
            rw [if_pos (show (inS x m && Nb g i m) = true by simp [hS, hN])] at hrec
            exact hrec
          · rw [if_neg hS, iadd1_n (by omega)]
            rw [if_neg (show ¬ (inS x m && Nb g i m) = true by simp [hS])] at hrec
            exact hrec
        · rw [if_neg hN, if_neg (by simp), iadd1_n (by omega)]
          rw [if_neg (show ¬ (inS x m && Nb g i m) = true by simp [hN])] at hrec
          exact hrec
      unfold M_L_CoreNumbers_j720
      by_cases hN : Nb g i m = true
      · rw [if_pos hN]
        by_cases hle : c i ≤ c m
        · rw [if_pos (by simp; omega), iadd1_n (by omega)]
          exact tail _ (by rw [if_pos (by simp [hN, hle])])
        · rw [if_neg (by simp; omega)]
          exact tail _ (by rw [if_neg (by simp [hle])]; rfl)
      · rw [if_neg hN, if_neg (by simp)]
        exact tail _ (by rw [if_neg (by simp [hN])]; rfl)
    · rw [if_neg (by simp [nl_len]; omega), show m = g.length from by omega]
      rfl
theorem cn_last {F : Nat} {g : List (List Int)} {x : Int} {c : Nat → Nat} {e : Int} {least : Int} (hm : g.length ≤ 1000000) (h : ∀ i, i < g.length → inS x i = true → least ≤ (c i : Int)) : ∀ (k i : Nat), g.length < k + i → i ≤ g.length → M_L_CoreNumbers_l366 F x (nl g.length c, e) least k (i : Int) = some true
  | 0, _, _, _ => by omega
  | k + 1, i, hk, hi => by
    show M_L_CoreNumbers_b366 F x (nl g.length c, e) least (M_L_CoreNumbers_l366 F x (nl g.length c, e) least k) (i : Int) = _
    unfold M_L_CoreNumbers_b366 M_L_CoreNumbers_j368
    by_cases hlt : i < g.length
    · have hrec := cn_last (F := F) (e := e) hm h k (i + 1) (by omega) (by omega)
      rw [if_pos (by simp [nl_len]; omega), inS_eq, iadd1_n (by omega)]
      simp only [Option.bind_some]
      by_cases hS : inS x i = true
      · have := h i hlt hS
        rw [if_pos hS, idx_nat, nl_get hlt]
        simp only [Option.bind_some]
        rw [if_neg (by simp; omega)]
        exact hrec
      · rw [if_neg hS, if_neg (by simp)]
        exact hrec
    · rw [if_neg (by simp [nl_len]; omega)]
      rfl
def LInv (g : List (List Int)) (x least : Int) (i : Nat) : Prop := (least = -1 ∧ ∀ u, u < i → inS x u = false) ∨ ∃ L : Nat, least = (L : Int) ∧ ∀ u, u < i → inS x u = true → L ≤ dg g (inS x) u
theorem cn_out {F : Nat} {g : List (List Int)} {x : Int} {c : Nat → Nat} {e : Int} (hF : 1000 ≤ F) (hg : Gr g) (hc : IsCore g c) : ∀ (k i : Nat) (least : Int), g.length < k + i → i ≤ g.length → LInv g x least i →
    M_L_CoreNumbers_l603 F g x (nl g.length c, e) k (least, (i : Int)) = some true
  | 0, _, _, _, _, _ => by omega
  | k + 1, i, least, h, hi, hL => by
    have h1 := hg.1
    show M_L_CoreNumbers_b603 F g x (nl g.length c, e) (M_L_CoreNumbers_l603 F g x (nl g.length c, e) k) least (i : Int) = _
    unfold M_L_CoreNumbers_b603
    by_cases hlt : i < g.length
    · have hin := cn_in (F := F) (x := x) (c := c) (e := e) (least := least) (rec603 := M_L_CoreNumbers_l603 F g x (nl g.length c, e) k) hF hg hlt F 0 (by omega) (by omega)
      rw [List.range_zero, List.countP_nil, List.countP_nil] at hin
      have hin' : M_L_CoreNumbers_l711 F (M_L_CoreNumbers_l603 F g x (nl g.length c, e) k) g x (nl g.length c, e) least (i : Int) F (0, 0, 0) = _ := hin
      rw [if_pos (by simp [nl_len]; omega), hin']
      unfold M_L_CoreNumbers_j691 M_L_CoreNumbers_j692 M_L_CoreNumbers_j662
      have hown := hc.own i hlt
      simp only
      rw [idx_nat, nl_get hlt]
      simp only [Option.bind_some]
      rw [if_neg (by simp; omega), inS_eq, iadd1_n (by omega)]
      simp only [Option.bind_some]
      by_cases hS : inS x i = true
      · rw [if_pos hS]
        rcases hL with ⟨hL1, hL2⟩ | ⟨L, hL1, hL2⟩
        · rw [if_pos (by simp [hL1])]
          refine cn_out hF hg hc k (i + 1) _ (by omega) (by omega) (.inr ⟨_, rfl, fun u hu hs => ?_⟩)
          by_cases hui : u = i
          · subst hui; exact Nat.le_refl _
          · rw [hL2 u (by omega)] at hs; cases hs
        · by_cases hlt2 : dg g (inS x) i < L
          · rw [if_pos (by simp [hL1]; omega)]
            refine cn_out hF hg hc k (i + 1) _ (by omega) (by omega) (.inr ⟨_, rfl, fun u hu hs => ?_⟩)
            by_cases hui : u = i
            · subst hui; exact Nat.le_refl _
            · have := hL2 u (by omega) hs; omega
          · rw [if_neg (by simp [hL1]; omega)]
            refine cn_out hF hg hc k (i + 1) _ (by omega) (by omega) (.inr ⟨L, hL1, fun u hu hs => ?_⟩)
            by_cases hui : u = i
            · subst hui; omega
            · exact hL2 u (by omega) hs
      · rw [if_neg hS, if_neg (by simp)]
        refine cn_out hF hg hc k (i + 1) _ (by omega) (by omega) ?_
        rcases hL with ⟨hL1, hL2⟩ | ⟨L, hL1, hL2⟩
        · refine .inl ⟨hL1, fun u hu => ?_⟩
          by_cases hui : u = i
          · subst hui; simpa using hS
          · exact hL2 u (by omega)
        · refine .inr ⟨L, hL1, fun u hu hs => ?_⟩
          by_cases hui : u = i
          · subst hui; exact absurd hs hS
          · exact hL2 u (by omega) hs
    · rw [if_neg (by simp [nl_len]; omega)]
      unfold M_L_CoreNumbers_j353
      refine cn_last (by omega) (fun u hu hs => ?_) F 0 (by omega) (by omega)
      rcases hL with ⟨hL1, hL2⟩ | ⟨L, hL1, hL2⟩
      · rw [hL1]; omega
      · have := hc.max L (inS x) (fun v hv hs => hL2 v (by omega) hs) u hu hs
        omega
theorem coreNumbers_true {F : Nat} {g : List (List Int)} {x : Int} (hF : 200000 ≤ F) : M_L_CoreNumbers F g x = some true := by
  unfold M_L_CoreNumbers
  by_cases h : gchk g = 0
  · have hg := gchk_ok.1 h
    have h1 := hg.1
    obtain ⟨c, hc, e⟩ := numbers_eq (F := F) (by omega) hg
    rw [e, cbg_eq hF]
    simp only [Option.bind_some]
    rw [if_neg (by decide), if_neg (by simp)]
    exact cn_out (F := F) (by omega) hg hc F 0 (-1) (by omega) (by omega) (.inl ⟨rfl, by omega⟩)
  · rw [numbers_bad (by omega) h, cbg_eq hF]
    simp only [Option.bind_some]
    rw [if_neg (by decide), if_pos (by simpa using h)]
    rfl
theorem countP_lt_succ {i : Nat} : ∀ {l : List Int}, (∀ x ∈ l, 0 ≤ x) → l.countP (fun x => decide (x < ((i + 1 : Nat) : Int))) = l.countP (fun x => decide (x < (i : Int))) + l.count (i : Int)
  | [], _ => by simp
  | x :: l, h => by
    have ih := countP_lt_succ (i := i) (l := l) fun y hy => h y (by simp [hy])
    have hx := h x (by simp)
    rw [List.countP_cons, List.countP_cons, List.count_cons, ih]
    by_cases h1 : x < (i : Int)
    · rw [if_pos (by simp; omega), if_pos (by simp; omega), if_neg (by simp; omega)]; omega
    · by_cases h2 : x = (i : Int)
      · rw [if_pos (by simp; omega), if_neg (by simp; omega), if_pos (by simp; omega)]; omega
      · rw [if_neg (by simp; omega), if_neg (by simp; omega), if_neg (by simp; omega)]; omega
theorem ct_loop {F : Nat} {g : List (List Int)} {c : Nat → Nat} {T : List Int} {all z e : Int} (hg : Gr g) (hT0 : ∀ x ∈ T, 0 ≤ x ∧ x < (g.length : Int)) (hTl : T.length ≤ 10000000) (h2 : ∀ i, i < g.length → (i : Int) ∈ T → 2 ≤ c i) (hall : imul .i64 3 all = (T.length : Int)) : ∀ (k i : Nat), g.length < k + i → i ≤ g.length →
    M_L_CoreThrees_l33 F (cnt g.length T, all, z) (nl g.length c, e) k ((T.countP (fun x => decide (x < (i : Int))) : Int), (i : Int)) = some true
  | 0, _, _, _ => by omega
  | k + 1, i, h, hi => by
    have h1 := hg.1
    show M_L_CoreThrees_b33 F (cnt g.length T, all, z) (nl g.length c, e) (M_L_CoreThrees_l33 F (cnt g.length T, all, z) (nl g.length c, e) k) (T.countP (fun x => decide (x < (i : Int))) : Int) (i : Int) = _
    unfold M_L_CoreThrees_b33 M_L_CoreThrees_j39 M_L_CoreThrees_j38
    by_cases hlt : i < g.length
    · have hrec := ct_loop (F := F) (c := c) (z := z) (e := e) hg hT0 hTl h2 hall k (i + 1) (by omega) (by omega)
      rw [countP_lt_succ fun x hx => (hT0 x hx).1] at hrec
      have b1 : T.countP (fun x => decide (x < (i : Int))) ≤ T.length := List.countP_le_length
      have b2 : T.count (i : Int) ≤ T.length := List.count_le_length
      rw [if_pos (by simp [cnt_len]; omega)]
      simp only
      rw [idx_nat, cnt_get hlt]
      simp only [Option.bind_some]
      rw [iadd_n (by omega), iadd1_n (by omega)]
      by_cases h0 : 0 < T.count (i : Int)
      · have hc := h2 i hlt (List.count_pos_iff.1 h0)
        rw [if_pos (by simp; exact List.count_pos_iff.1 h0), if_neg (by simp [nl_len]; omega), idx_nat, nl_get hlt]
        simp only [Option.bind_some]
        rw [if_neg (by simp; omega)]
        exact hrec
      · rw [if_neg (by simp; exact fun hm => h0 (List.count_pos_iff.2 hm)), if_neg (by simp)]
        exact hrec
    · rw [if_neg (by simp [cnt_len]; omega)]
      unfold M_L_CoreThrees_j20
      simp only
      rw [hall, show i = g.length from by omega]
      have : T.countP (fun x => decide (x < (g.length : Int))) = T.length := List.countP_eq_length.2 fun x hx => by simpa using (hT0 x hx).2
      rw [this]; simp
theorem three_core {g : List (List Int)} (hg : Gr g) {c : Nat → Nat} (hc : IsCore g c) {i : Nat} (hi : i < g.length) (h : (i : Int) ∈ (th g).flatten) : 2 ≤ c i := by
  obtain ⟨x, hx, hix⟩ := List.mem_flatten.1 h
  obtain ⟨p, q, r, rfl, h1, h2, h3, n1, n2, n3⟩ := (mem_th hg).1 hx
  have n1' : Nb g q p = true := by rw [Nb_sym]; exact n1
  have n2' : Nb g r p = true := by rw [Nb_sym]; exact n2
  have n3' : Nb g r q = true := by rw [Nb_sym]; exact n3
  have hS : ∀ u, (decide (u = p) || decide (u = q) || decide (u = r)) = true ↔ u = p ∨ u = q ∨ u = r := fun u => by simp [or_assoc]
  have two : ∀ (v x y : Nat), x < g.length → y < g.length → x ≠ y → Nb g v x = true → Nb g v y = true → (x = p ∨ x = q ∨ x = r) → (y = p ∨ y = q ∨ y = r) → 2 ≤ dg g (fun u => decide (u = p) || decide (u = q) || decide (u = r)) v := by
    intro v x y hx hy hxy nx ny sx sy
    have e1 := dg_minus (g := g) (S := fun u => decide (u = p) || decide (u = q) || decide (u = r)) (a := x) (v := v) hx ((hS x).2 sx)
    have e2 := dg_minus (g := g) (S := sub1 (fun u => decide (u = p) || decide (u = q) || decide (u = r)) x) (a := y) (v := v) hy (by
      unfold sub1
      rw [Bool.and_eq_true]
      exact ⟨(hS y).2 sy, decide_eq_true fun h => hxy h.symm⟩)
    rw [if_pos nx] at e1
    rw [if_pos ny] at e2
    omega
  refine hc.max 2 (fun u => decide (u = p) || decide (u = q) || decide (u = r)) (fun v _ hs => ?_) i hi ?_
  · rcases (hS v).1 hs with rfl | rfl | rfl
    · exact two _ q r (by omega) h3 (by omega) n1 n2 (by simp) (by simp)
    · exact two _ p r (by omega) h3 (by omega) n1' n3 (by simp) (by simp)
    · exact two _ p q (by omega) (by omega) (by omega) n2' n3' (by simp) (by simp)
  · refine (hS i).2 ?_
    simp at hix; omega
theorem coreThrees_true {F : Nat} {g : List (List Int)} (hF : 200000 ≤ F) : M_L_CoreThrees F g = some true := by
  unfold M_L_CoreThrees
  by_cases h : gchk g = 0
  · have hg := gchk_ok.1 h
    have h1 := hg.1
    obtain ⟨c, hc, e⟩ := numbers_eq (F := F) (by omega) hg
    rw [threes_eq hF hg, e, cbg_eq hF]
    simp only [Option.bind_some]
    rw [if_neg (by decide), if_neg (by simp)]
    have hfl := tri_flat (th_tri hg)
    have hl := th_len hg
    have h0 : ((th g).flatten.countP (fun x => decide (x < ((0 : Nat) : Int))) : Int) = 0 := by
      have : (th g).flatten.countP (fun x => decide (x < ((0 : Nat) : Int))) = 0 := List.countP_eq_zero.2 fun x hx => by
        obtain ⟨y, hy, hxy⟩ := List.mem_flatten.1 hx
        obtain ⟨a, b, d, rfl, _⟩ := th_tri hg y hy
        simp at hxy; simp; omega
      rw [this]; rfl
    have := ct_loop (F := F) (c := c) (T := (th g).flatten) (all := ((th g).length : Int)) (z := 0) (e := 0) hg (fun x hx => by
      obtain ⟨y, hy, hxy⟩ := List.mem_flatten.1 hx
      obtain ⟨a, b, d, rfl, h1, h2, h3⟩ := th_tri hg y hy
      simp at hxy; omega) (by omega) (fun i hi hm => three_core hg hc hi hm) (by rw [imul_i64 (by omega) (by omega)]; omega) F 0 (by omega) (by omega)
    rw [h0] at this
    exact this
  · rw [threes_bad (by omega) h, numbers_bad (by omega) h, cbg_eq hF]
    simp only [Option.bind_some]
    rw [if_neg (by decide), if_pos (by simp [h])]
    simp
theorem cd_in {F i : Nat} {g : List (List Int)} {c : Nat → Nat} {e hi lo : Int} {rec118 : (Int × Int × Int) → Option Bool} (hF : 1000 ≤ F) (hg : Gr g) (hil : i < g.length) : ∀ (k m : Nat), g.length < k + m → m ≤ g.length →
    M_L_CoreDegree_l140 F rec118 g (nl g.length c, e) hi lo (i : Int) k (((List.range m).countP (fun u => true && Nb g i u) : Int), (m : Int)) = M_L_CoreDegree_j135 F rec118 (nl g.length c, e) hi lo (i : Int) (dg g (fun _ => true) i : Int)
  | 0, _, _, _ => by omega
  | k + 1, m, h, hm => by
    have h1 := hg.1
    show M_L_CoreDegree_b140 F rec118 g (nl g.length c, e) hi lo (i : Int) (M_L_CoreDegree_l140 F rec118 g (nl g.length c, e) hi lo (i : Int) k) ((List.range m).countP (fun u => true && Nb g i u) : Int) (m : Int) = _
    unfold M_L_CoreDegree_b140 M_L_CoreDegree_j141
    by_cases hlt : m < g.length
    · have hrec := cd_in (F := F) (c := c) (e := e) (hi := hi) (lo := lo) (rec118 := rec118) hF hg hil k (m + 1) (by omega) (by omega)
      rw [List.range_succ, List.countP_append, List.countP_singleton] at hrec
      have hc1 : (List.range m).countP (fun u => true && Nb g i u) ≤ m := Nat.le_trans List.countP_le_length (by simp)
      rw [if_pos (by simp [nl_len]; omega), rnear_eq hF hg hil hlt, iadd1_n (show m + 1 < _ by omega)]
      simp only [Option.bind_some]
      by_cases hN : Nb g i m = true
      · rw [if_pos hN, iadd1_n (by omega)]
        rw [if_pos (by simp [hN])] at hrec
        exact hrec
      · rw [if_neg hN]
        rw [if_neg (by simp [hN])] at hrec
        exact hrec
    · rw [if_neg (by simp [nl_len]; omega), show m = g.length from by omega]
      rfl
theorem cd_out {F : Nat} {g : List (List Int)} {c : Nat → Nat} {e : Int} (hF : 1000 ≤ F) (hg : Gr g) (hc : IsCore g c) (hn : 0 < g.length) : ∀ (k i : Nat) (hi lo : Int), g.length < k + i → i ≤ g.length → (∀ u, u < i → (c u : Int) ≤ hi) → (∀ u, u < i → lo ≤ (dg g (fun _ => true) u : Int)) → 0 ≤ hi →
    M_L_CoreDegree_l118 F g (nl g.length c, e) k (hi, lo, (i : Int)) = some true
  | 0, _, _, _, _, _, _, _, _ => by omega
  | k + 1, i, hi, lo, h, hil, h2, h3, h0 => by
    have h1 := hg.1
    show M_L_CoreDegree_b118 F g (nl g.length c, e) (M_L_CoreDegree_l118 F g (nl g.length c, e) k) hi lo (i : Int) = _
    unfold M_L_CoreDegree_b118
    by_cases hlt : i < g.length
    · have hin := cd_in (F := F) (c := c) (e := e) (hi := hi) (lo := lo) (rec118 := M_L_CoreDegree_l118 F g (nl g.length c, e) k) hF hg hlt F 0 (by omega) (by omega)
      have hin' : M_L_CoreDegree_l140 F (M_L_CoreDegree_l118 F g (nl g.length c, e) k) g (nl g.length c, e) hi lo (i : Int) F (0, 0) = _ := hin
      rw [if_pos (by simp [nl_len]; omega), hin']
      unfold M_L_CoreDegree_j135 M_L_CoreDegree_j137 M_L_CoreDegree_j130
      have hown : c i ≤ dg g (fun _ => true) i := Nat.le_trans (hc.own i hlt) (dg_mono fun _ _ _ => rfl)
      simp only
      rw [idx_nat, nl_get hlt]
      simp only [Option.bind_some]
      rw [if_neg (by simp), if_neg (by simp; omega), iadd1_n (by omega)]
      refine cd_out hF hg hc hn k (i + 1) _ _ (by omega) (by omega) (fun u hu => ?_) (fun u hu => ?_) ?_
      · unfold imax
        by_cases hui : u = i
        · subst hui; split <;> omega
        · have := h2 u (by omega); split <;> omega
      · unfold imin
        by_cases hui : u = i
        · subst hui; split <;> omega
        · have := h3 u (by omega); split <;> omega
      · unfold imax; split <;> omega
    · rw [if_neg (by simp [nl_len]; omega)]
      unfold M_L_CoreDegree_j71
      have hle : lo ≤ hi := by
        by_cases hlo : lo ≤ 0
        · omega
        · have hk : KK g lo.toNat (fun _ => true) := fun v hv _ => by have := h3 v (by omega); omega
          have h5 := hc.max _ _ hk 0 hn rfl
          have h6 := h2 0 (by omega)
          omega
      rw [decide_eq_true hle]
theorem coreDegree_true {F : Nat} {g : List (List Int)} (hF : 200000 ≤ F) : M_L_CoreDegree F g = some true := by
  unfold M_L_CoreDegree
  by_cases h : gchk g = 0
  · have hg := gchk_ok.1 h
    have h1 := hg.1
    obtain ⟨c, hc, e⟩ := numbers_eq (F := F) (by omega) hg
    rw [e, cbg_eq hF]
    simp only [Option.bind_some]
    rw [if_neg (by decide)]
    by_cases hn : g.length = 0
    · rw [if_pos (by simp [nl_len, hn])]
      simp
    · rw [if_neg (by simp [nl_len, hn])]
      exact cd_out (F := F) (by omega) hg hc (by omega) F 0 0 _ (by omega) (by omega) (by omega) (by omega) (by omega)
  · rw [numbers_bad (by omega) h, cbg_eq hF]
    simp only [Option.bind_some]
    rw [if_neg (by decide), if_pos (by simp)]
    simp
end Go.Proofs.Ytdiabhkbchmpaaa
