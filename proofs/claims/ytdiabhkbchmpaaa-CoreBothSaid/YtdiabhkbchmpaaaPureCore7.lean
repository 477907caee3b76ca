/- Plain facts of what the functions of this seat compute. -/
import Derived.Test.YtdiabhkbchmpaaaModels
import Derived.KernelRfl
import Derived.Lib.SlicesCompact
namespace Go.Proofs.Ytdiabhkbchmpaaa
open Go SX
/-- The byte at place k of a list of bits. -/
def byt (l : List Int) (k : Nat) : Int :=
  l.getD (8 * k) 0 * 128 + l.getD (8 * k + 1) 0 * 64 + l.getD (8 * k + 2) 0 * 32 + l.getD (8 * k + 3) 0 * 16 + l.getD (8 * k + 4) 0 * 8 + l.getD (8 * k + 5) 0 * 4 + l.getD (8 * k + 6) 0 * 2 + l.getD (8 * k + 7) 0
def pk (l : List Int) : List Int := (List.range ((l.length + 7) / 8)).map (byt l)
def Bit (l : List Int) : Prop := ∀ x ∈ l, x = 0 ∨ x = 1
theorem Bit.getD {l : List Int} (h : Bit l) (i : Nat) : l.getD i 0 = 0 ∨ l.getD i 0 = 1 := by
  by_cases hi : i < l.length
  · have := h l[i] (List.getElem_mem hi)
    simpa [List.getD, hi] using this
  · left
    simp [List.getD, List.getElem?_eq_none (Nat.le_of_not_lt hi)]
theorem iadd_n {a b : Nat} (h : a + b < 9223372036854775808) : iadd .i64 (a : Int) (b : Int) = ((a + b : Nat) : Int) := by rw [iadd_i64 (by omega) (by omega)]; omega
theorem iadd1_n {a : Nat} (h : a + 1 < 9223372036854775808) : iadd .i64 (a : Int) 1 = ((a + 1 : Nat) : Int) := by rw [iadd_i64 (by omega) (by omega)]; omega
theorem isub1_n {a : Nat} (h : 1 ≤ a) (h2 : a < 9223372036854775808) : isub .i64 (a : Int) 1 = ((a - 1 : Nat) : Int) := by rw [isub_i64 (by omega) (by omega)]; omega
/-- The bits of a number, in so many places, the highest one first. -/
def nb (n : Nat) : Nat → List Int
  | 0 => []
  | w + 1 => ((n / 2 ^ w % 2 : Nat) : Int) :: nb n w
theorem sub_n {α : Type} {l : List α} {i j : Nat} (h1 : i ≤ j) (h2 : j ≤ l.length) : sub l (i : Int) (j : Int) = some ((l.take j).drop i) := by
  unfold sub
  rw [if_pos ⟨by omega, by omega, by omega⟩, Int.toNat_natCast, Int.toNat_natCast]
/-- How many bits a number has. -/
def len (x : Nat) : Nat := if x = 0 then 0 else x.log2 + 1
def ec (code : Nat → List Int) (n : Int) : Int × List Int × Int := if 1099511627776 < n then (0, [], 3) else (((code n.toNat).length : Int), pk (code n.toNat), 0)
def sh (m : Nat) : Nat := len (m - 1)
def dd (m : Nat) : Nat := 2 ^ sh m - m
def le (n m : Nat) : List Int := if n < dd m then nb n (sh m - 1) else nb (n + dd m) (sh m)
theorem srt_perm (l : List Int) : (srt l).Perm l := List.mergeSort_perm l _
theorem srt_pw (l : List Int) : (srt l).Pairwise (· ≤ ·) := by
  have h := List.pairwise_mergeSort (le := fun x y : Int => decide (x ≤ y)) (fun a b c h1 h2 => by simp only [decide_eq_true_eq] at *; omega) (fun a b => by simp only [Bool.or_eq_true, decide_eq_true_eq]; omega) l
  exact h.imp (fun h => by simpa using h)
theorem compact_len (xs : List Int) : (Go.Lib.compact xs).length ≤ xs.length := by
  unfold Go.Lib.compact Go.Lib.compactUpTo
  rw [List.length_map]
  exact Nat.le_trans (List.length_filter_le _ _) (by simp)
theorem keeps_get {xs : List Int} {j : Nat} (h0 : 0 < j) (hj : j < xs.length) : Go.Lib.keeps xs.toArray j = decide (xs[j] ≠ xs[j - 1]) := by
  unfold Go.Lib.keeps
  have e1 : xs.toArray[j]! = xs[j] := by rw [getElem!_pos xs.toArray j (by simpa using hj)]; simp
  have e2 : xs.toArray[j - 1]! = xs[j - 1] := by rw [getElem!_pos xs.toArray (j - 1) (by simp; omega)]; simp
  rw [e1, e2]
  have : j ≠ 0 := by omega
  simp [this]
theorem same_ints_l (F : Nat) {xs : List Int} (hm : xs.length ≤ 1000000) : ∀ (k i : Nat), xs.length < k + i → i ≤ xs.length → M_R_SameInts_l3 F xs xs k (i : Int) = some true
  | 0, _, _, _ => by omega
  | k + 1, i, h, hi => by
    show M_R_SameInts_b3 F xs xs (M_R_SameInts_l3 F xs xs k) (i : Int) = _
    unfold M_R_SameInts_b3
    by_cases hlt : i < xs.length
    · rw [if_pos (by simp; omega), idx_nat, List.getElem?_eq_getElem hlt]
      simp only [Option.bind_some]
      rw [if_neg (by simp), iadd1_n (by omega)]
      exact same_ints_l F hm k (i + 1) (by omega) (by omega)
    · rw [if_neg (by simp; omega)]; rfl
theorem same_intsR {F : Nat} {xs : List Int} (hF : xs.length < F) (hm : xs.length ≤ 1000000) : M_R_SameInts F xs xs = some true := by
  unfold M_R_SameInts
  rw [if_neg (by simp)]
  exact same_ints_l F hm F 0 (by omega) (by omega)
def runFold {σ τ : Type} (yy : σ → (Int × Int) → Option (σ ⊕ τ)) : List (Int × Int) → σ → Option (σ ⊕ τ)
  | [], s => some (.inl s)
  | r :: R, s => (yy s r).bind (Sum.elim (fun s' => runFold yy R s') (fun t => some (.inr t)))
def rowE (n : Int) : Int → List Int → Int
  | _, [] => 0
  | last, x :: l => if x < 0 ∨ n ≤ x then 3 else if x ≤ last then 4 else rowE n x l
def gE (n : Int) : List (List Int) → Int
  | [] => 0
  | l :: g => if rowE n (-1) l ≠ 0 then rowE n (-1) l else gE n g
def gtot : List (List Int) → Nat
  | [] => 0
  | l :: g => l.length + gtot g
def gchk (g : List (List Int)) : Int := if 100 < g.length then 2 else if gE g.length g ≠ 0 then gE g.length g else if 600 < gtot g then 2 else 0
theorem rowE_ok : ∀ {n last : Int} {l : List Int}, rowE n last l = 0 ↔ (l.Pairwise (· < ·) ∧ ∀ x ∈ l, last < x) ∧ ∀ x ∈ l, 0 ≤ x ∧ x < n
  | n, last, [] => by simp [rowE]
  | n, last, x :: l => by
    unfold rowE
    by_cases h1 : x < 0 ∨ n ≤ x
    · rw [if_pos h1]
      constructor
      · intro h; simp at h
      · rintro ⟨_, h⟩; have := h x (by simp); omega
    · rw [if_neg h1]
      by_cases h2 : x ≤ last
      · rw [if_pos h2]
        constructor
        · intro h; simp at h
        · rintro ⟨⟨_, h⟩, _⟩; have := h x (by simp); omega
      · rw [if_neg h2, rowE_ok, List.pairwise_cons]
        constructor
        · rintro ⟨⟨a1, a2⟩, a3⟩
          refine ⟨⟨⟨a2, a1⟩, fun y hy => ?_⟩, fun y hy => ?_⟩
          · rcases List.mem_cons.1 hy with rfl | hy
            · omega
            · have := a2 y hy; omega
          · rcases List.mem_cons.1 hy with rfl | hy
            · omega
            · exact a3 y hy
        · rintro ⟨⟨⟨a1, a2⟩, a3⟩, a4⟩
          exact ⟨⟨a2, a1⟩, fun y hy => a4 y (by simp [hy])⟩
theorem row_len {n last : Int} : ∀ {l : List Int}, -1 ≤ last → last < n → rowE n last l = 0 → last + 1 + l.length ≤ n
  | [], h1, h2, _ => by simp; omega
  | x :: l, h1, h2, h => by
    unfold rowE at h
    split at h
    · simp at h
    · split at h
      · simp at h
      · have := row_len (l := l) (by omega) (by omega) h
        rw [List.length_cons]; omega
theorem gE_ok {n : Int} : ∀ {g : List (List Int)}, gE n g = 0 ↔ ∀ l ∈ g, rowE n (-1) l = 0
  | [] => by simp [gE]
  | l :: g => by
    unfold gE
    by_cases h : rowE n (-1) l = 0
    · rw [if_neg (by simp [h]), gE_ok]; simp [h]
    · rw [if_pos h]; simp [h]
/-- A graph that is right. -/
def Gr (g : List (List Int)) : Prop := g.length ≤ 100 ∧ (∀ l ∈ g, l.Pairwise (· < ·) ∧ ∀ x ∈ l, 0 ≤ x ∧ x < g.length) ∧ gtot g ≤ 600
theorem gchk_ok {g : List (List Int)} : gchk g = 0 ↔ Gr g := by
  unfold gchk Gr
  by_cases h1 : 100 < g.length
  · rw [if_pos h1]; simp; omega
  · rw [if_neg h1]
    by_cases h2 : gE g.length g = 0
    · rw [if_neg (by simp [h2])]
      have h3 := gE_ok.1 h2
      have h4 : ∀ l ∈ g, l.Pairwise (· < ·) ∧ ∀ x ∈ l, 0 ≤ x ∧ x < (g.length : Int) := fun l hl => by
        have := rowE_ok.1 (h3 l hl)
        exact ⟨this.1.1, this.2⟩
      by_cases h5 : 600 < gtot g
      · rw [if_pos h5]; simp; omega
      · rw [if_neg h5]
        exact ⟨fun _ => ⟨by omega, h4, by omega⟩, fun _ => rfl⟩
    · rw [if_pos h2]
      refine ⟨fun h => absurd h h2, fun h => absurd (gE_ok.2 fun l hl => rowE_ok.2 ⟨⟨(h.2.1 l hl).1, fun x hx => ?_⟩, (h.2.1 l hl).2⟩) h2⟩
      have := (h.2.1 l hl).2 x hx; omega
theorem gr_row {g : List (List Int)} (h : Gr g) {l : List Int} (hl : l ∈ g) : l.length ≤ 100 := by
  have h1 := (h.2.1 l hl).2
  have h2 : rowE g.length (-1) l = 0 := rowE_ok.2 ⟨⟨(h.2.1 l hl).1, fun x hx => by have := h1 x hx; omega⟩, h1⟩
  have := row_len (by omega) (by omega) h2
  have := h.1
  omega
theorem check_in {F : Nat} {rec38 : (Int × Int) → Option Int} {g : List (List Int)} {m i : Int} {l : List Int} (hg : g.length ≤ 100) : ∀ (k j : Nat) (last : Int), 102 < k + j → (j : Int) ≤ last + 1 → last < g.length → -1 ≤ last →
    M_graph_Check_l45 F rec38 g m i l k (last, (j : Int)) = if rowE g.length last (l.drop j) ≠ 0 then some (rowE g.length last (l.drop j)) else M_graph_Check_j44 F rec38 m i l
  | 0, j, last, h, h1, h2, h3 => by omega
  | k + 1, j, last, h, h1, h2, h3 => by
    show M_graph_Check_b45 F rec38 g m i l (M_graph_Check_l45 F rec38 g m i l k) last (j : Int) = _
    unfold M_graph_Check_b45
    by_cases hlt : j < l.length
    · rw [if_pos (by simp; omega), idx_nat, List.getElem?_eq_getElem hlt, List.drop_eq_getElem_cons hlt]
      simp only [Option.bind_some]
      unfold rowE
      by_cases c1 : l[j] < 0 ∨ (g.length : Int) ≤ l[j]
      · rw [if_pos (by simpa using c1), if_pos c1, if_pos (by decide)]
      · rw [if_neg (by simpa using c1), if_neg c1]
        by_cases c2 : l[j] ≤ last
        · rw [if_pos (by simpa using c2), if_pos c2, if_pos (by decide)]
        · rw [if_neg (by simpa using c2), if_neg c2, iadd1_n (by omega)]
          exact check_in hg k (j + 1) l[j] (by omega) (by omega) (by omega) (by omega)
    · rw [if_neg (by simp; omega), List.drop_eq_nil_of_le (by omega)]
      rw [if_neg (by simp [rowE])]
theorem check_out {F : Nat} (hF : 1000 ≤ F) {g : List (List Int)} (hg : g.length ≤ 100) : ∀ (k i : Nat) (m : Nat), g.length < k + i → i ≤ g.length → m ≤ 100 * i →
    M_graph_Check_l38 F g k ((m : Int), (i : Int)) = if gE g.length (g.drop i) ≠ 0 then some (gE g.length (g.drop i)) else if 600 < m + gtot (g.drop i) then some 2 else some 0
  | 0, _, _, _, _, _ => by omega
  | k + 1, i, m, h, hi, hm => by
    show M_graph_Check_b38 F g (M_graph_Check_l38 F g k) (m : Int) (i : Int) = _
    unfold M_graph_Check_b38
    by_cases hlt : i < g.length
    · rw [if_pos (by simp; omega), idx_nat, List.getElem?_eq_getElem hlt, List.drop_eq_getElem_cons hlt]
      simp only [Option.bind_some]
      have hin := check_in (F := F) (rec38 := M_graph_Check_l38 F g k) (m := (m : Int)) (i := (i : Int)) (l := g[i]) hg F 0 (-1) (by omega) (by omega) (by omega) (by omega)
      rw [List.drop_zero, show ((0 : Nat) : Int) = 0 from rfl] at hin
      rw [hin]
      unfold gE gtot
      by_cases hr : rowE g.length (-1) g[i] = 0
      · have hlen := row_len (by omega) (by omega) hr
        have e : (if rowE (g.length : Int) (-1) g[i] ≠ 0 then rowE (g.length : Int) (-1) g[i] else gE (g.length : Int) (g.drop (i + 1))) = gE (g.length : Int) (g.drop (i + 1)) := if_neg (by simp [hr])
        rw [if_neg (show ¬ rowE (g.length : Int) (-1) g[i] ≠ 0 by simp [hr]), e]
        unfold M_graph_Check_j44 M_graph_Check_j42
        rw [iadd_n (by omega), iadd1_n (by omega), check_out hF hg k (i + 1) (m + g[i].length) (by omega) (by omega) (by omega), Nat.add_assoc]
      · rw [if_pos (by simpa using hr)]
        have e : (if rowE (g.length : Int) (-1) g[i] ≠ 0 then rowE (g.length : Int) (-1) g[i] else gE (g.length : Int) (g.drop (i + 1))) = rowE (g.length : Int) (-1) g[i] := if_pos hr
        rw [e, if_pos hr]
    · rw [if_neg (by simp; omega), List.drop_eq_nil_of_le (by omega)]
      unfold M_graph_Check_j23
      rw [if_neg (show ¬ gE (g.length : Int) [] ≠ 0 by simp [gE])]
      by_cases h6 : 600 < m
      · rw [if_pos (by simp; omega), if_pos (by simpa [gtot] using h6)]
      · rw [if_neg (by simp; omega), if_neg (by simpa [gtot] using h6)]
theorem graphCheck_eq {F : Nat} (hF : 1000 ≤ F) {g : List (List Int)} : M_graph_Check F g = some (gchk g) := by
  unfold M_graph_Check gchk
  by_cases h : 100 < g.length
  · rw [if_pos (by simp; omega), if_pos h]
  · have := check_out hF (g := g) (by omega) F 0 0 (by omega) (by omega) (by omega)
    rw [List.drop_zero, Nat.zero_add, show ((0 : Nat) : Int) = 0 from rfl] at this
    rw [if_neg (by simp; omega), if_neg h, this]
    split
    · rfl
    · split <;> rfl
def af (i : Nat) : List (List Int) → List (Int × Int)
  | [] => []
  | l :: g => l.map (fun x => ((i : Int), x)) ++ af (i + 1) g
theorem runFold_app {σ τ : Type} {yy : σ → (Int × Int) → Option (σ ⊕ τ)} : ∀ (A B : List (Int × Int)) (s : σ), runFold yy (A ++ B) s = (runFold yy A s).bind (Sum.elim (fun s' => runFold yy B s') (fun t => some (.inr t)))
  | [], B, s => rfl
  | p :: A, B, s => by
    show (yy s p).bind _ = ((yy s p).bind _).bind _
    cases yy s p with
    | none => rfl
    | some r =>
      cases r with
      | inl s' => exact runFold_app A B s'
      | inr t => rfl
theorem all_in {σ τ : Type} {F : Nat} {yy : σ → (Int × Int) → Option (σ ⊕ τ)} {rec7 : (Int × σ) → Option (σ ⊕ τ)} {i : Int} {l : List Int} (hm : l.length ≤ 1000000) : ∀ (k j : Nat) (s : σ), l.length < k + j → j ≤ l.length →
    M_graph_All_1_l10 F yy rec7 i l k ((j : Int), s) = (runFold yy ((l.drop j).map fun x => (i, x)) s).bind (Sum.elim (fun s' => M_graph_All_1_j9 F yy rec7 i s') (fun t => some (.inr t)))
  | 0, _, _, _, _ => by omega
  | k + 1, j, s, h, hj => by
    show M_graph_All_1_b10 F yy rec7 i l (M_graph_All_1_l10 F yy rec7 i l k) (j : Int) s = _
    unfold M_graph_All_1_b10
    by_cases hlt : j < l.length
    · rw [if_pos (by simp; omega), idx_nat, List.getElem?_eq_getElem hlt, List.drop_eq_getElem_cons hlt, List.map_cons]
      simp only [Option.bind_some, runFold]
      cases yy s (i, l[j]) with
      | none => rfl
      | some r =>
        cases r with
        | inl s' =>
          simp only [Option.bind_some, Sum.elim_inl]
          rw [iadd1_n (by omega)]
          exact all_in hm k (j + 1) s' (by omega) (by omega)
        | inr t => rfl
    · rw [if_neg (by simp; omega), List.drop_eq_nil_of_le (by omega)]
      rfl
theorem all_out {σ τ : Type} {F : Nat} {yy : σ → (Int × Int) → Option (σ ⊕ τ)} {g : List (List Int)} (hm : g.length ≤ 1000000) (hr : ∀ l ∈ g, l.length ≤ 1000000 ∧ l.length < F) : ∀ (k i : Nat) (s : σ), g.length < k + i → i ≤ g.length →
    M_graph_All_1_l7 F yy g k ((i : Int), s) = runFold yy (af i (g.drop i)) s
  | 0, _, _, _, _ => by omega
  | k + 1, i, s, h, hi => by
    show M_graph_All_1_b7 F yy g (M_graph_All_1_l7 F yy g k) (i : Int) s = _
    unfold M_graph_All_1_b7
    by_cases hlt : i < g.length
    · have hrow := hr _ (List.getElem_mem hlt)
      rw [if_pos (by simp; omega), idx_nat, List.getElem?_eq_getElem hlt, List.drop_eq_getElem_cons hlt]
      simp only [Option.bind_some]
      have := all_in (F := F) (yy := yy) (rec7 := M_graph_All_1_l7 F yy g k) (i := (i : Int)) hrow.1 F 0 s (by omega) (by omega)
      rw [List.drop_zero, show ((0 : Nat) : Int) = 0 from rfl] at this
      rw [this]
      unfold af
      rw [runFold_app]
      congr 1
      funext r
      cases r with
      | inl s' =>
        simp only [Sum.elim_inl]
        unfold M_graph_All_1_j9
        rw [iadd1_n (by omega)]
        exact all_out hm hr k (i + 1) s' (by omega) (by omega)
      | inr t => rfl
    · rw [if_neg (by simp; omega), List.drop_eq_nil_of_le (by omega)]
      rfl
theorem all_eq {σ τ : Type} {F : Nat} {yy : σ → (Int × Int) → Option (σ ⊕ τ)} {g : List (List Int)} {s : σ} (hF : g.length < F) (hm : g.length ≤ 1000000) (hr : ∀ l ∈ g, l.length ≤ 1000000 ∧ l.length < F) : M_graph_All_1 F yy g s = runFold yy (af 0 g) s := by
  unfold M_graph_All_1
  have := all_out (yy := yy) hm hr F 0 s (by omega) (by omega)
  rw [List.drop_zero] at this
  exact this
theorem vals_eq {σ τ : Type} {F : Nat} {yy : σ → (Int × Int) → Option (σ ⊕ τ)} {l : List (Int × Int)} (hm : l.length ≤ 1000000) : ∀ (k i : Nat) (s : σ), l.length < k + i → i ≤ l.length →
    M_slices_Values_api_Arc_api_Arc_1_l1 F yy l k ((i : Int), s) = runFold yy (l.drop i) s
  | 0, _, _, _, _ => by omega
  | k + 1, i, s, h, hi => by
    show M_slices_Values_api_Arc_api_Arc_1_b1 F yy l (M_slices_Values_api_Arc_api_Arc_1_l1 F yy l k) (i : Int) s = _
    unfold M_slices_Values_api_Arc_api_Arc_1_b1
    by_cases hlt : i < l.length
    · rw [if_pos (by simp; omega), idx_nat, List.getElem?_eq_getElem hlt, List.drop_eq_getElem_cons hlt]
      simp only [Option.bind_some, runFold]
      cases yy s l[i] with
      | none => rfl
      | some r =>
        cases r with
        | inl s' =>
          simp only [Option.bind_some, Sum.elim_inl]
          rw [iadd1_n (by omega)]
          exact vals_eq hm k (i + 1) s' (by omega) (by omega)
        | inr t => rfl
    · rw [if_neg (by simp; omega), List.drop_eq_nil_of_le (by omega)]
      rfl
theorem fold_app {τ : Type} {lim : Nat} {f : Int × Int → Int × Int} {yy : List (Int × Int) → (Int × Int) → Option (List (Int × Int) ⊕ τ)} (hy : ∀ s p, yy s p = (app lim s [f p]).bind fun z => some (.inl z)) : ∀ (L s : List (Int × Int)), s.length + L.length ≤ lim → runFold yy L s = some (.inl (s ++ L.map f))
  | [], s, _ => by simp [runFold]
  | p :: L, s, h => by
    rw [List.length_cons] at h
    show (yy s p).bind _ = _
    rw [hy, app_eq (by simp; omega)]
    simp only [Option.bind_some, Sum.elim_inl]
    rw [fold_app hy L (s ++ [f p]) (by simp; omega)]
    simp
theorem af_len : ∀ (i : Nat) (g : List (List Int)), (af i g).length = gtot g
  | _, [] => rfl
  | i, l :: g => by unfold af gtot; rw [List.length_append, List.length_map, af_len (i + 1) g]
theorem collect_all {F : Nat} {g : List (List Int)} (hF : 1000 ≤ F) (h : Gr g) : M_slices_Collect_api_Arc_graph_All_1 F g = some (af 0 g) := by
  unfold M_slices_Collect_api_Arc_graph_All_1 M_slices_AppendSeq_api_Arc_api_Arc_graph_All_1
  have h1 := h.1
  have h2 := h.2.2
  rw [all_eq (by omega) (by omega) (fun l hl => by have := gr_row h hl; omega), fold_app (lim := 4398046511104) (f := fun p => p) ?hy (af 0 g) [] (by rw [af_len]; simp; omega)]
  · simp
  · exact fun s p => rfl
theorem collect_vals {F : Nat} {l : List (Int × Int)} (hF : l.length < F) (hm : l.length ≤ 1000000) : M_slices_Collect_api_Arc_slices_Values_api_Arc_api_Arc_1 F l = some l := by
  unfold M_slices_Collect_api_Arc_slices_Values_api_Arc_api_Arc_1 M_slices_AppendSeq_api_Arc_api_Arc_slices_Values_api_Arc_api_Arc_1 M_slices_Values_api_Arc_api_Arc_1
  have := fun yy => vals_eq (σ := List (Int × Int)) (τ := Empty) (F := F) (yy := yy) hm F 0 [] (by omega) (by omega)
  rw [show ((0 : Nat) : Int) = 0 from rfl] at this
  rw [this, List.drop_zero, fold_app (lim := 4398046511104) (f := fun p => p) ?hy l [] (by simp; omega)]
  · simp
  · exact fun s p => rfl
theorem turned_eq {F : Nat} {g : List (List Int)} (hF : 1000 ≤ F) (h : Gr g) : M_graph_turned F g = some ((af 0 g).map fun p => (p.2, p.1)) := by
  unfold M_graph_turned M_graph_All
  have h1 := h.1
  have h2 := h.2.2
  simp only [Option.bind_some]
  rw [all_eq (by omega) (by omega) (fun l hl => by have := gr_row h hl; omega), fold_app (lim := 4398046511104) (f := fun p => (p.2, p.1)) ?hy (af 0 g) [] (by rw [af_len]; simp; omega)]
  · simp
  · exact fun s p => rfl
def lexLt (p q : Int × Int) : Prop := p.1 < q.1 ∨ (p.1 = q.1 ∧ p.2 < q.2)
instance decLex (p q : Int × Int) : Decidable (lexLt p q) := by unfold lexLt; infer_instance
theorem lexLt_irr (a : Int × Int) : ¬ lexLt a a := by unfold lexLt; omega
theorem lexLt_tr (a b d : Int × Int) : lexLt a b → lexLt b d → lexLt a d := by unfold lexLt; omega
theorem lexLt_tot (a b : Int × Int) : lexLt a b ∨ a = b ∨ lexLt b a := by
  obtain ⟨a1, a2⟩ := a
  obtain ⟨b1, b2⟩ := b
  simp only [lexLt, Prod.mk.injEq]; omega
theorem compare_eq {F : Nat} {x y : Int} : M_cmp_Compare_int F x y = some (if x < y then -1 else if y < x then 1 else 0) := by
  unfold M_cmp_Compare_int M_cmp_isNaN_int
  simp only [bne_self_eq_false, Option.bind_some, Bool.false_eq_true, if_false, decide_eq_true_eq]
  split
  · rfl
  · split <;> rfl
theorem or_eq {F : Nat} (hF : 3 ≤ F) {x y : Int} : M_cmp_Or_int F [x, y] = some (if x ≠ 0 then x else y) := by
  obtain ⟨k, rfl⟩ := Nat.exists_eq_add_of_le hF
  rw [Nat.add_comm]
  unfold M_cmp_Or_int
  show M_cmp_Or_int_b3 (k + 3) [x, y] (M_cmp_Or_int_l3 (k + 3) [x, y] (k + 2)) 0 = _
  unfold M_cmp_Or_int_b3
  rw [if_pos (by simp)]
  show ((some x).bind _) = _
  simp only [Option.bind_some]
  by_cases hx : x = 0
  · rw [if_neg (by simp [hx]), if_neg (by simp [hx])]
    show M_cmp_Or_int_b3 (k + 3) [x, y] (M_cmp_Or_int_l3 (k + 3) [x, y] (k + 1)) 1 = _
    unfold M_cmp_Or_int_b3
    rw [if_pos (by simp)]
    show ((some y).bind _) = _
    simp only [Option.bind_some]
    by_cases hy : y = 0
    · rw [if_neg (by simp [hy]), hy]
      show M_cmp_Or_int_b3 (k + 3) [x, y] (M_cmp_Or_int_l3 (k + 3) [x, y] k) 2 = _
      unfold M_cmp_Or_int_b3
      rw [if_neg (by simp)]
      rfl
    · rw [if_pos (by simp [hy])]
  · rw [if_pos (by simp [hx]), if_pos hx]
theorem order_eq {F : Nat} (hF : 3 ≤ F) (a b : Int × Int) : ∃ z, M_graph_order F a.1 a.2 b.1 b.2 = some z ∧ (z < 0 ↔ lexLt a b) := by
  unfold M_graph_order
  rw [compare_eq, compare_eq]
  simp only [Option.bind_some]
  rw [or_eq hF]
  simp only [Option.bind_some]
  unfold lexLt
  by_cases h1 : a.1 < b.1
  · exact ⟨-1, by simp [h1], by simp [h1]⟩
  · by_cases h2 : b.1 < a.1
    · exact ⟨1, by simp [h1, h2], by omega⟩
    · refine ⟨if a.2 < b.2 then -1 else if b.2 < a.2 then 1 else 0, by simp [h1, h2], ?_⟩
      split
      · omega
      · split <;> omega
def srtA (l : List (Int × Int)) : List (Int × Int) := l.mergeSort fun a b => decide (¬ lexLt b a)
theorem srtA_perm (l : List (Int × Int)) : (srtA l).Perm l := List.mergeSort_perm l _
theorem srtA_pw (l : List (Int × Int)) : (srtA l).Pairwise fun a b => ¬ lexLt b a := by
  have h := List.pairwise_mergeSort (le := fun a b : Int × Int => decide (¬ lexLt b a)) (fun a b c h1 h2 => by simp only [decide_eq_true_eq] at *; unfold lexLt at *; omega) (fun a b => by simp only [Bool.or_eq_true, decide_eq_true_eq]; unfold lexLt; omega) l
  exact h.imp (fun h => by simpa using h)
theorem srtA_len (l : List (Int × Int)) : (srtA l).length = l.length := (srtA_perm l).length_eq
theorem lex_weak {l : List (Int × Int)} (h : l.Pairwise lexLt) : l.Pairwise fun a b => ¬ lexLt b a := h.imp fun h => by unfold lexLt at *; omega
theorem srtA_eq {l m : List (Int × Int)} (hp : l.Perm m) (hm : m.Pairwise fun a b => ¬ lexLt b a) : srtA l = m :=
  List.Perm.eq_of_pairwise (le := fun a b : Int × Int => ¬ lexLt b a) (fun a b _ _ h1 h2 => by rcases lexLt_tot a b with h | h | h <;> simp_all) (srtA_pw l) hm ((srtA_perm l).trans hp)
theorem lex_nodup {l : List (Int × Int)} (h : l.Pairwise lexLt) : l.Nodup := List.Pairwise.imp (S := fun a b => a ≠ b) (fun {a b} h (he : a = b) => lexLt_irr a (by rw [← he] at h; exact h)) h
theorem srtA_strict {l : List (Int × Int)} (h : l.Nodup) : (srtA l).Pairwise lexLt := by
  have h1 : (srtA l).Nodup := (srtA_perm l).nodup_iff.2 h
  refine (List.Pairwise.and (srtA_pw l) h1).imp fun {a b} h => ?_
  rcases lexLt_tot a b with h2 | h2 | h2
  · exact h2
  · exact absurd h2 h.2
  · exact absurd h2 h.1
theorem sortFunc_eq {F : Nat} {l : List (Int × Int)} (hF : 3 ≤ F) (hl : l.length ≤ 1000000) : M_slices_SortFunc_api_Arc_api_Arc_graph_order F l = some (srtA l) :=
  sortF_eq (lt := lexLt) (fun a _ b _ => order_eq hF a b) lexLt_irr lexLt_tr lexLt_tot (by omega) (srtA_perm l) (srtA_pw l)
theorem sortedFunc_eq {F : Nat} {l : List (Int × Int)} (hF : 3 ≤ F) (hF2 : l.length < F) (hl : l.length ≤ 1000000) : M_slices_SortedFunc_api_Arc_slices_Values_api_Arc_api_Arc_1_graph_order F l = some (srtA l) := by
  unfold M_slices_SortedFunc_api_Arc_slices_Values_api_Arc_api_Arc_1_graph_order
  rw [collect_vals hF2 hl]
  simp only [Option.bind_some]
  rw [sortFunc_eq hF hl]
  simp [chk, srtA_len]
theorem pwx : ∀ {A B : List Int}, A.Pairwise (· < ·) → B.Pairwise (· < ·) → (∀ z, z ∈ A ↔ z ∈ B) → A = B := by
  intro A B hA hB h
  have nd : ∀ {C : List Int}, C.Pairwise (· < ·) → C.Nodup := fun hC => hC.imp fun h => by omega
  exact List.Perm.eq_of_pairwise (le := fun x y : Int => x < y) (fun a b _ _ h1 h2 => by omega) hA hB ((List.perm_ext_iff_of_nodup (nd hA) (nd hB)).2 h)
def rowOf (l : List (Int × Int)) (i : Int) : List Int := (l.filter fun p => decide (p.1 = i)).map (·.2)
def tab (n : Nat) (l : List (Int × Int)) : List (List Int) := (List.range n).map fun (i : Nat) => rowOf l (i : Int)
theorem tab_len (n : Nat) (l : List (Int × Int)) : (tab n l).length = n := by simp [tab]
theorem tab_get {n i : Nat} {l : List (Int × Int)} (h : i < n) : (tab n l)[i]? = some (rowOf l i) := by simp [tab, h]
theorem rowOf_len (l : List (Int × Int)) (i : Int) : (rowOf l i).length ≤ l.length := by
  unfold rowOf
  rw [List.length_map]
  exact List.length_filter_le _ _
theorem tab_snoc {n a : Nat} {l : List (Int × Int)} {b : Int} : tab n (l ++ [((a : Int), b)]) = (tab n l).set a (rowOf l a ++ [b]) := by
  apply List.ext_getElem (by simp [tab])
  intro i h1 h2
  rw [tab_len] at h1
  rw [List.getElem_set]
  simp only [tab, List.getElem_map, List.getElem_range]
  by_cases h : a = i
  · rw [if_pos h, ← h]; simp [rowOf]
  · rw [if_neg h]
    have : ¬ (a : Int) = (i : Int) := by omega
    simp [rowOf, this]
theorem tab_nil (n : Nat) : tab n [] = List.replicate n [] := by
  apply List.ext_getElem (by simp [tab])
  intro i h1 h2
  simp [tab, rowOf]
theorem mk_nil {n : Nat} {lim : Nat} (h : n ≤ lim) : mk lim ([] : List Int) (n : Int) = some (tab n []) := by
  unfold mk
  rw [if_pos ⟨by omega, by omega⟩, tab_nil]; simp
def InR (n : Nat) (l : List (Int × Int)) : Prop := ∀ p ∈ l, 0 ≤ p.1 ∧ p.1 < (n : Int) ∧ 0 ≤ p.2 ∧ p.2 < (n : Int)
theorem take_snoc {α : Type} {l : List α} {j : Nat} (h : j < l.length) : l.take (j + 1) = l.take j ++ [l[j]] := by
  rw [List.take_add_one, List.getElem?_eq_getElem h]; rfl
theorem built_l {F n : Nat} {l : List (Int × Int)} (hl : ∀ p ∈ l, 0 ≤ p.1 ∧ p.1 < (n : Int)) (hm : l.length ≤ 1000000) : ∀ (k j : Nat), l.length < k + j → j ≤ l.length →
    M_graph_Built_l3 F l k ((j : Int), tab n (l.take j)) = some (tab n l)
  | 0, _, _, _ => by omega
  | k + 1, j, h, hj => by
    show M_graph_Built_b3 F l (M_graph_Built_l3 F l k) (j : Int) (tab n (l.take j)) = _
    unfold M_graph_Built_b3
    by_cases hlt : j < l.length
    · obtain ⟨h1, h2⟩ := hl _ (List.getElem_mem hlt)
      have hrec := built_l (F := F) hl hm k (j + 1) (by omega) (by omega)
      obtain ⟨a, ha⟩ := Int.eq_ofNat_of_zero_le h1
      have e : l[j] = ((a : Int), l[j].2) := by rw [← ha]
      rw [take_snoc hlt, e, tab_snoc] at hrec
      have hrl := rowOf_len (l.take j) (a : Int)
      rw [List.length_take] at hrl
      rw [if_pos (by simp; omega), idx_nat, List.getElem?_eq_getElem hlt]
      simp only [Option.bind_some]
      rw [ha, idx_nat, tab_get (by omega)]
      simp only [Option.bind_some]
      rw [app_eq (by simp; omega)]
      simp only [Option.bind_some, lett]
      rw [iadd1_n (by omega), Int.toNat_natCast]
      exact hrec
    · rw [if_neg (by simp; omega), List.take_of_length_le (by omega)]
      rfl
theorem built_eq {F n : Nat} {l : List (Int × Int)} (hl : ∀ p ∈ l, 0 ≤ p.1 ∧ p.1 < (n : Int)) (hm : l.length ≤ 1000000) (hF : l.length < F) (hn : n ≤ 1000000) : M_graph_Built F (n : Int) l = some (tab n l) := by
  unfold M_graph_Built
  rw [mk_nil (by omega)]
  simp only [Option.bind_some]
  have := built_l (F := F) hl hm F 0 (by omega) (by omega)
  rw [List.take_zero] at this
  exact this
def IsTab (n : Nat) (l : List (Int × Int)) (T : List (List Int)) : Prop :=
  T.length = n ∧ ∀ (i : Nat) (r : List Int), T[i]? = some r → r.Pairwise (· < ·) ∧ ∀ x, x ∈ r ↔ ((i : Int), x) ∈ l
theorem isTab_uniq {n : Nat} {l l' : List (Int × Int)} {T T' : List (List Int)} (h : IsTab n l T) (h' : IsTab n l' T') (hm : ∀ p, p ∈ l ↔ p ∈ l') : T = T' := by
  apply List.ext_getElem (by rw [h.1, h'.1])
  intro i h1 h2
  have a := h.2 i _ (List.getElem?_eq_getElem h1)
  have b := h'.2 i _ (List.getElem?_eq_getElem h2)
  exact pwx a.1 b.1 fun z => by rw [a.2, b.2, hm]
theorem mem_rowOf {l : List (Int × Int)} {i x : Int} : x ∈ rowOf l i ↔ (i, x) ∈ l := by
  unfold rowOf
  rw [List.mem_map]
  constructor
  · rintro ⟨p, hp, rfl⟩
    obtain ⟨h1, h2⟩ := List.mem_filter.1 hp
    have : p.1 = i := by simpa using h2
    rw [← this]; exact h1
  · intro h
    exact ⟨(i, x), List.mem_filter.2 ⟨h, by simp⟩, rfl⟩
theorem rowOf_pw {l : List (Int × Int)} {i : Int} (h : l.Pairwise lexLt) : (rowOf l i).Pairwise (· < ·) := by
  unfold rowOf
  rw [List.pairwise_map]
  refine (h.filter _).imp_of_mem fun {a b} ha hb hab => ?_
  have h1 := (List.mem_filter.1 ha).2
  have h2 := (List.mem_filter.1 hb).2
  simp only [decide_eq_true_eq] at h1 h2
  unfold lexLt at hab; omega
theorem tab_isTab {n : Nat} {l : List (Int × Int)} (h : l.Pairwise lexLt) : IsTab n l (tab n l) := by
  refine ⟨tab_len n l, fun i r hr => ?_⟩
  have hi : i < n := by have := (List.getElem?_eq_some_iff.1 hr).1; rwa [tab_len] at this
  rw [tab_get hi] at hr
  cases hr
  exact ⟨rowOf_pw h, fun x => mem_rowOf⟩
theorem isTab_congr {n : Nat} {l l' : List (Int × Int)} {T : List (List Int)} (h : IsTab n l T) (hm : ∀ p, p ∈ l ↔ p ∈ l') : IsTab n l' T :=
  ⟨h.1, fun i r hr => ⟨(h.2 i r hr).1, fun x => by rw [(h.2 i r hr).2, hm]⟩⟩
theorem mem_af : ∀ {g : List (List Int)} {k : Nat} {p : Int × Int}, p ∈ af k g ↔ ∃ i r, g[i]? = some r ∧ p.1 = ((k + i : Nat) : Int) ∧ p.2 ∈ r
  | [], k, p => by simp [af]
  | l :: g, k, p => by
    unfold af
    rw [List.mem_append, mem_af (g := g), List.mem_map]
    constructor
    · rintro (⟨x, hx, rfl⟩ | ⟨i, r, h1, h2, h3⟩)
      · exact ⟨0, l, by simp, by simp, hx⟩
      · exact ⟨i + 1, r, by simpa using h1, by omega, h3⟩
    · rintro ⟨i, r, h1, h2, h3⟩
      cases i with
      | zero =>
        simp only [List.getElem?_cons_zero, Option.some.injEq] at h1
        subst h1
        exact .inl ⟨p.2, h3, by rw [Nat.add_zero] at h2; rw [← h2]⟩
      | succ i =>
        refine .inr ⟨i, r, by simpa using h1, by omega, h3⟩
theorem af_pw : ∀ {g : List (List Int)} {k : Nat}, (∀ r ∈ g, r.Pairwise (· < ·)) → (af k g).Pairwise lexLt
  | [], k, _ => by simp [af]
  | l :: g, k, h => by
    unfold af
    rw [List.pairwise_append]
    refine ⟨?_, af_pw fun r hr => h r (by simp [hr]), ?_⟩
    · rw [List.pairwise_map]
      exact (h l (by simp)).imp fun h => .inr ⟨rfl, h⟩
    · intro a ha b hb
      obtain ⟨x, _, rfl⟩ := List.mem_map.1 ha
      obtain ⟨i, r, _, h2, _⟩ := mem_af.1 hb
      left
      show (k : Int) < b.1
      omega
theorem af_isTab {g : List (List Int)} (h : ∀ r ∈ g, r.Pairwise (· < ·)) : IsTab g.length (af 0 g) g := by
  refine ⟨rfl, fun i r hr => ⟨h r (List.mem_of_getElem? hr), fun x => ?_⟩⟩
  rw [mem_af]
  constructor
  · intro hx; exact ⟨i, r, hr, by simp, hx⟩
  · rintro ⟨i', r', h1, h2, h3⟩
    have : i' = i := by simp at h2; omega
    subst this
    rw [hr] at h1
    cases h1
    exact h3
theorem isTab_pw {n : Nat} {l : List (Int × Int)} {T : List (List Int)} (h : IsTab n l T) : ∀ r ∈ T, r.Pairwise (· < ·) := fun r hr => by
  obtain ⟨i, hi⟩ := List.getElem?_of_mem hr
  exact (h.2 i r hi).1
theorem isTab_mem {n : Nat} {l : List (Int × Int)} {T : List (List Int)} (h : IsTab n l T) (hl : InR n l) (p : Int × Int) : p ∈ af 0 T ↔ p ∈ l := by
  rw [mem_af]
  constructor
  · rintro ⟨i, r, h1, h2, h3⟩
    have := ((h.2 i r h1).2 p.2).1 h3
    rw [Nat.zero_add] at h2
    rw [← h2] at this
    exact this
  · intro hp
    obtain ⟨h1, h2, _, _⟩ := hl p hp
    obtain ⟨a, ha⟩ := Int.eq_ofNat_of_zero_le h1
    have hlt : a < T.length := by rw [h.1]; omega
    refine ⟨a, T[a], List.getElem?_eq_getElem hlt, by omega, ?_⟩
    rw [(h.2 a _ (List.getElem?_eq_getElem hlt)).2, ← ha]
    exact hp
theorem isTab_af {n : Nat} {l : List (Int × Int)} {T : List (List Int)} (h : IsTab n l T) (hl : InR n l) (hp : l.Pairwise lexLt) : af 0 T = l := by
  have h1 := af_pw (k := 0) (isTab_pw h)
  exact List.Perm.eq_of_pairwise (le := fun a b : Int × Int => ¬ lexLt b a) (fun a b _ _ h1 h2 => by rcases lexLt_tot a b with h | h | h <;> simp_all) (lex_weak h1) (lex_weak hp) ((List.perm_ext_iff_of_nodup (lex_nodup h1) (lex_nodup hp)).2 (isTab_mem h hl))
theorem isTab_perm {n : Nat} {l : List (Int × Int)} {T : List (List Int)} (h : IsTab n l T) (hl : InR n l) (hn : l.Nodup) : (af 0 T).Perm l :=
  (List.perm_ext_iff_of_nodup (lex_nodup (af_pw (isTab_pw h))) hn).2 (isTab_mem h hl)
theorem isTab_gr {n : Nat} {l : List (Int × Int)} {T : List (List Int)} (h : IsTab n l T) (hl : InR n l) (hn : n ≤ 100) (hm : (af 0 T).length ≤ 600) : Gr T := by
  refine ⟨by rw [h.1]; exact hn, fun r hr => ⟨isTab_pw h r hr, fun x hx => ?_⟩, by rw [← af_len 0]; exact hm⟩
  obtain ⟨i, hi⟩ := List.getElem?_of_mem hr
  have := hl _ (((h.2 i r hi).2 x).1 hx)
  rw [h.1]
  exact ⟨this.2.2.1, this.2.2.2⟩
theorem gr_in {g : List (List Int)} (h : Gr g) : InR g.length (af 0 g) := fun p hp => by
  obtain ⟨i, r, h1, h2, h3⟩ := mem_af.1 hp
  have h4 := (List.getElem?_eq_some_iff.1 h1).1
  have h5 := (h.2.1 r (List.mem_of_getElem? h1)).2 _ h3
  refine ⟨by omega, by omega, h5.1, h5.2⟩
theorem gr_pw {g : List (List Int)} (h : Gr g) : ∀ r ∈ g, r.Pairwise (· < ·) := fun r hr => (h.2.1 r hr).1
def ofE (n : Int) : List (Int × Int) → List (Int × Int) → Int
  | _, [] => 0
  | seen, p :: l => if p.1 < 0 ∨ n ≤ p.1 ∨ p.2 < 0 ∨ n ≤ p.2 then 3 else if p ∈ seen then 6 else ofE n (seen ++ [p]) l
theorem ofE_cons {n : Int} {seen : List (Int × Int)} {p : Int × Int} {l : List (Int × Int)} : ofE n seen (p :: l) = if p.1 < 0 ∨ n ≤ p.1 ∨ p.2 < 0 ∨ n ≤ p.2 then 3 else if p ∈ seen then 6 else ofE n (seen ++ [p]) l := rfl
theorem ofE_ok {n : Nat} : ∀ {l seen : List (Int × Int)}, ofE n seen l = 0 ↔ InR n l ∧ l.Nodup ∧ ∀ p ∈ l, p ∉ seen
  | [], seen => by simp [ofE, InR]
  | p :: l, seen => by
    unfold ofE
    by_cases h1 : p.1 < 0 ∨ (n : Int) ≤ p.1 ∨ p.2 < 0 ∨ (n : Int) ≤ p.2
    · rw [if_pos h1]
      refine ⟨fun h => by simp at h, fun h => ?_⟩
      have := h.1 p (by simp); omega
    · rw [if_neg h1]
      by_cases h2 : p ∈ seen
      · rw [if_pos h2]
        refine ⟨fun h => by simp at h, fun h => ?_⟩
        exact absurd h2 (h.2.2 p (by simp))
      · rw [if_neg h2, ofE_ok, List.nodup_cons]
        constructor
        · rintro ⟨a1, a2, a3⟩
          refine ⟨fun q hq => ?_, ⟨fun hp => a3 p hp (by simp), a2⟩, fun q hq => ?_⟩
          · rcases List.mem_cons.1 hq with rfl | hq
            · omega
            · exact a1 q hq
          · rcases List.mem_cons.1 hq with rfl | hq
            · exact h2
            · exact fun h => a3 q hq (by simp [h])
        · rintro ⟨a1, ⟨a2, a3⟩, a4⟩
          refine ⟨fun q hq => a1 q (by simp [hq]), a3, fun q hq h => ?_⟩
          rcases List.mem_append.1 h with h | h
          · exact a4 q (by simp [hq]) h
          · have : q = p := by simpa using h
            subst this; exact a2 hq
def ofM (n : Int) (l : List (Int × Int)) : List (List Int) × Int :=
  if n < 0 ∨ 100 < n then ([], 3) else if 600 < l.length then ([], 2) else if ofE n [] l ≠ 0 then ([], ofE n [] l) else (tab n.toNat (srtA l), 0)
theorem of_l {F n : Nat} {l : List (Int × Int)} (hF : 1000 ≤ F) (hn : n ≤ 100) (hl : l.length ≤ 600) : ∀ (k j : Nat), l.length < k + j → j ≤ l.length → (ofE n [] l = ofE n (l.take j) (l.drop j)) →
    M_graph_Of_l3 F (n : Int) l k ((j : Int), l.take j) = some (if ofE n [] l ≠ 0 then ([], ofE n [] l) else (tab n (srtA l), 0))
  | 0, _, _, _, _ => by omega
  | k + 1, j, h, hj, he => by
    show M_graph_Of_b3 F (n : Int) l (M_graph_Of_l3 F (n : Int) l k) (j : Int) (l.take j) = _
    unfold M_graph_Of_b3
    by_cases hlt : j < l.length
    · have hrec := of_l (F := F) hF hn hl k (j + 1) (by omega) (by omega)
      rw [if_pos (by simp; omega), idx_nat, List.getElem?_eq_getElem hlt]
      simp only [Option.bind_some]
      rw [List.drop_eq_getElem_cons hlt, ofE_cons] at he
      by_cases h1 : l[j].1 < 0 ∨ (n : Int) ≤ l[j].1 ∨ l[j].2 < 0 ∨ (n : Int) ≤ l[j].2
      · rw [if_pos h1] at he
        rw [if_pos (by simp only [Bool.or_eq_true, decide_eq_true_eq]; omega), if_pos (by rw [he]; decide), he]
      · rw [if_neg h1] at he
        rw [if_neg (by simp only [Bool.or_eq_true, decide_eq_true_eq]; omega)]
        by_cases h2 : l[j] ∈ l.take j
        · rw [if_pos h2] at he
          rw [if_pos (by simpa using h2), if_pos (by rw [he]; decide), he]
        · rw [if_neg h2, ← take_snoc hlt] at he
          rw [if_neg (by simpa using h2)]
          have : sins (l.take j) (l[j].1, l[j].2) = some (l.take (j + 1)) := by
            unfold sins
            rw [if_neg h2, take_snoc hlt]
          rw [this]
          simp only [Option.bind_some]
          rw [iadd1_n (by omega)]
          exact hrec he
    · rw [List.drop_eq_nil_of_le (by omega)] at he
      have he : ofE n [] l = 0 := he
      obtain ⟨a1, a2, _⟩ := ofE_ok.1 he
      rw [if_neg (by simp; omega), if_neg (by rw [he]; decide)]
      unfold M_graph_Of_j2 M_slices_Values_api_Arc_api_Arc
      simp only [Option.bind_some]
      rw [sortedFunc_eq (by omega) (by omega) (by omega)]
      simp only [Option.bind_some]
      rw [built_eq (fun p hp => by have := a1 p ((srtA_perm l).mem_iff.1 hp); omega) (by rw [srtA_len]; omega) (by rw [srtA_len]; omega) (by omega)]
      rfl
theorem of_eq {F : Nat} {n : Int} {l : List (Int × Int)} (hF : 1000 ≤ F) : M_graph_Of F n l = some (ofM n l) := by
  unfold M_graph_Of ofM
  by_cases h1 : n < 0 ∨ 100 < n
  · rw [if_pos (by simpa using h1), if_pos h1]
  · rw [if_neg (by simpa using h1), if_neg h1]
    by_cases h2 : 600 < l.length
    · rw [if_pos (by simp; omega), if_pos h2]
    · rw [if_neg (by simp; omega), if_neg h2]
      obtain ⟨m, rfl⟩ := Int.eq_ofNat_of_zero_le (show 0 ≤ n by omega)
      have := of_l (F := F) (n := m) (l := l) hF (by omega) (by omega) F 0 (by omega) (by omega) (by simp)
      rw [List.take_zero] at this
      exact this
theorem ofM_tab {n : Nat} {l : List (Int × Int)} (hn : n ≤ 100) (hl : l.length ≤ 600) (h1 : InR n l) (h2 : l.Nodup) : ofM n l = (tab n (srtA l), 0) := by
  have h3 : ofE n [] l = 0 := ofE_ok.2 ⟨h1, h2, fun p _ => by simp⟩
  unfold ofM
  rw [if_neg (by omega), if_neg (by omega), if_neg (by rw [h3]; decide), Int.toNat_natCast]
theorem srt_isTab {n : Nat} {l : List (Int × Int)} (h : l.Nodup) : IsTab n l (tab n (srtA l)) :=
  isTab_congr (tab_isTab (srtA_strict h)) fun _ => (srtA_perm l).mem_iff
def cols (l : List (Int × Int)) (i j : Nat) : List Int := ((List.range j).filter fun (c : Nat) => decide (((i : Int), (c : Int)) ∈ l)).map fun (c : Nat) => (c : Int)
theorem cols_len (l : List (Int × Int)) (i j : Nat) : (cols l i j).length ≤ j := by
  unfold cols
  rw [List.length_map]
  exact Nat.le_trans (List.length_filter_le _ _) (by simp)
theorem cols_isTab {n : Nat} {l : List (Int × Int)} (hl : InR n l) : IsTab n l ((List.range n).map fun i => cols l i n) := by
  refine ⟨by simp, fun i r hr => ?_⟩
  have hi : i < n := by have := (List.getElem?_eq_some_iff.1 hr).1; simpa using this
  simp only [List.getElem?_map, List.getElem?_range hi, Option.map_some, Option.some.injEq] at hr
  subst hr
  unfold cols
  constructor
  · rw [List.pairwise_map]
    exact (List.pairwise_lt_range.filter _).imp fun h => by omega
  · intro x
    rw [List.mem_map]
    constructor
    · rintro ⟨c, hc, rfl⟩
      simpa using (List.mem_filter.1 hc).2
    · intro h
      have := hl _ h
      obtain ⟨c, hc⟩ := Int.eq_ofNat_of_zero_le this.2.2.1
      have hc : x = (c : Int) := hc
      refine ⟨c, List.mem_filter.2 ⟨by simp; omega, by simp [← hc, h]⟩, hc.symm⟩
theorem arcs_eq {F : Nat} {g : List (List Int)} (hF : 1000 ≤ F) : M_graph_Arcs F g = some (if gchk g ≠ 0 then ([], gchk g) else (af 0 g, 0)) := by
  unfold M_graph_Arcs M_graph_All
  rw [graphCheck_eq hF]
  simp only [Option.bind_some]
  by_cases h : gchk g = 0
  · rw [if_neg (by simp [h]), if_neg (by simp [h]), collect_all hF (gchk_ok.1 h)]
    rfl
  · rw [if_pos (by simpa using h), if_pos h]
def sw (l : List (Int × Int)) : List (Int × Int) := l.map fun p => (p.2, p.1)
theorem sw_len (l : List (Int × Int)) : (sw l).length = l.length := by simp [sw]
theorem sw_mem {l : List (Int × Int)} {p : Int × Int} : p ∈ sw l ↔ (p.2, p.1) ∈ l := by
  unfold sw
  rw [List.mem_map]
  constructor
  · rintro ⟨q, hq, rfl⟩; exact hq
  · intro h; exact ⟨_, h, rfl⟩
theorem sw_in {n : Nat} {l : List (Int × Int)} (h : InR n l) : InR n (sw l) := fun p hp => by
  have := h _ (sw_mem.1 hp)
  exact ⟨this.2.2.1, this.2.2.2, this.1, this.2.1⟩
theorem sw_nodup {l : List (Int × Int)} (h : l.Nodup) : (sw l).Nodup := by
  have h : l.Pairwise fun a b => a ≠ b := h
  show (sw l).Pairwise fun a b => a ≠ b
  unfold sw
  rw [List.pairwise_map]
  exact h.imp fun {a b} hab he => hab (by cases a; cases b; simp_all)
theorem gr_len {g : List (List Int)} (h : Gr g) : (af 0 g).length ≤ 600 := by rw [af_len]; exact h.2.2
theorem gr_nodup {g : List (List Int)} (h : Gr g) : (af 0 g).Nodup := lex_nodup (af_pw (gr_pw h))
/-- The turned graph. -/
def tn (g : List (List Int)) : List (List Int) := tab g.length (srtA (sw (af 0 g)))
theorem tn_isTab {g : List (List Int)} (h : Gr g) : IsTab g.length (sw (af 0 g)) (tn g) := srt_isTab (sw_nodup (gr_nodup h))
theorem turn_eq {F : Nat} {g : List (List Int)} (hF : 1000 ≤ F) : M_graph_Turn F g = some (if gchk g ≠ 0 then ([], gchk g) else (tn g, 0)) := by
  unfold M_graph_Turn
  rw [graphCheck_eq hF]
  simp only [Option.bind_some]
  by_cases h : gchk g = 0
  · have hg := gchk_ok.1 h
    have h1 := hg.1
    have h2 := gr_len hg
    rw [if_neg (by simp [h]), if_neg (by simp [h]), turned_eq hF hg]
    simp only [Option.bind_some]
    show (M_slices_Values_api_Arc_api_Arc F (sw (af 0 g))).bind _ = _
    unfold M_slices_Values_api_Arc_api_Arc
    simp only [Option.bind_some]
    show (M_slices_SortedFunc_api_Arc_slices_Values_api_Arc_api_Arc_1_graph_order F (sw (af 0 g))).bind _ = _
    rw [sortedFunc_eq (by omega) (by rw [sw_len]; omega) (by rw [sw_len]; omega)]
    simp only [Option.bind_some]
    rw [built_eq (fun p hp => by have := sw_in (gr_in hg) p ((srtA_perm _).mem_iff.1 hp); omega) (by rw [srtA_len, sw_len]; omega) (by rw [srtA_len, sw_len]; omega) (by omega)]
    rfl
  · rw [if_pos (by simpa using h), if_pos h]
theorem sw_snoc (l : List (Int × Int)) (p : Int × Int) : sw (l ++ [p]) = sw l ++ [(p.2, p.1)] := by simp [sw]
def ddA : Int × Int → List (Int × Int) → List (Int × Int)
  | _, [] => []
  | p, q :: l => if q = p then ddA p l else q :: ddA q l
def ddP : List (Int × Int) → List (Int × Int)
  | [] => []
  | p :: l => p :: ddA p l
theorem ddA_mem : ∀ {l : List (Int × Int)} {p x : Int × Int}, x ∈ p :: ddA p l ↔ x ∈ p :: l
  | [], p, x => by simp [ddA]
  | q :: l, p, x => by
    unfold ddA
    by_cases h : q = p
    · rw [if_pos h, ddA_mem, h]; simp
    · rw [if_neg h, List.mem_cons, ddA_mem, List.mem_cons (a := x) (b := p)]
theorem ddP_mem {l : List (Int × Int)} {x : Int × Int} : x ∈ ddP l ↔ x ∈ l := by
  cases l with
  | nil => simp [ddP]
  | cons p l => exact ddA_mem
theorem ddA_pw : ∀ {l : List (Int × Int)} {p : Int × Int}, (p :: l).Pairwise (fun a b => ¬ lexLt b a) → (p :: ddA p l).Pairwise lexLt
  | [], p, _ => by simp [ddA]
  | q :: l, p, h => by
    obtain ⟨h1, h2⟩ := List.pairwise_cons.1 h
    obtain ⟨h3, h4⟩ := List.pairwise_cons.1 h2
    unfold ddA
    by_cases hq : q = p
    · rw [if_pos hq]
      exact ddA_pw (List.pairwise_cons.2 ⟨fun z hz => h1 z (by simp [hz]), h4⟩)
    · rw [if_neg hq]
      have h5 := ddA_pw h2
      refine List.pairwise_cons.2 ⟨fun z hz => ?_, h5⟩
      have hpq : lexLt p q := by
        have := h1 q (by simp)
        rcases lexLt_tot p q with h | h | h
        · exact h
        · exact absurd h.symm hq
        · exact absurd h this
      rcases List.mem_cons.1 hz with rfl | hz
      · exact hpq
      · exact lexLt_tr _ _ _ hpq ((List.pairwise_cons.1 h5).1 z hz)
theorem ddP_pw {l : List (Int × Int)} (h : l.Pairwise fun a b => ¬ lexLt b a) : (ddP l).Pairwise lexLt := by
  cases l with
  | nil => simp [ddP]
  | cons p l => exact ddA_pw h
theorem ddA_len : ∀ (l : List (Int × Int)) (p : Int × Int), (ddA p l).length ≤ l.length
  | [], p => by simp [ddA]
  | q :: l, p => by
    unfold ddA
    split
    · have := ddA_len l p; simp; omega
    · have := ddA_len l q; simp; omega
theorem ddP_len (l : List (Int × Int)) : (ddP l).length ≤ l.length := by
  cases l with
  | nil => simp [ddP]
  | cons p l => have := ddA_len l p; simp [ddP]; omega
theorem drop_set_lt {α : Type} {xs : List α} {a b : Nat} {v : α} (h : a < b) : (xs.set a v).drop b = xs.drop b := by
  apply List.ext_getElem (by simp)
  intro i h1 h2
  simp only [List.getElem_drop]
  rw [List.getElem_set, if_neg (by omega)]
theorem compact_in {F K : Nat} {l : List (Int × Int)} (hm : l.length ≤ 1000000) (hK : K < l.length) : ∀ (n k2 k : Nat) (x : List (Int × Int)), l.length < n + (K + k2) → 1 ≤ k2 → K + k2 ≤ l.length → x.length = l.length → k < K + k2 → x.drop (K + k2 - 1) = l.drop (K + k2 - 1) → x.take k ++ ddA (l.getD (K + k2 - 1) (0, 0)) (l.drop (K + k2)) = ddP l →
    M_slices_Compact_api_Arc_api_Arc_l116 F l (K : Int) n (x, (k : Int), (k2 : Int)) = some (ddP l)
  | 0, _, _, _, _, _, _, _, _, _, _ => by omega
  | n + 1, k2, k, x, h, h1, h2, hx, hk, hd, he => by
    have hat : ∀ j, K + k2 - 1 ≤ j → x[j]? = l[j]? := fun j hj => by
      have := congrArg (fun z => z[j - (K + k2 - 1)]?) hd
      simp only [List.getElem?_drop] at this
      rwa [show K + k2 - 1 + (j - (K + k2 - 1)) = j from by omega] at this
    show M_slices_Compact_api_Arc_api_Arc_b116 F l (K : Int) (M_slices_Compact_api_Arc_api_Arc_l116 F l (K : Int) n) x (k : Int) (k2 : Int) = _
    unfold M_slices_Compact_api_Arc_api_Arc_b116
    rw [Int.toNat_natCast]
    by_cases hlt : K + k2 < l.length
    · have hlt1 : K + k2 - 1 < l.length := by omega
      rw [if_pos (by simp; omega)]
      simp only [chk]
      rw [if_pos (by simp [hx]), idx_nat, List.getElem?_drop, hat _ (by omega), List.getElem?_eq_getElem hlt]
      simp only [Option.bind_some]
      rw [if_pos (by simp [hx]), isub1_n h1 (by omega), idx_nat, List.getElem?_drop, show K + (k2 - 1) = K + k2 - 1 from by omega, hat _ (by omega), List.getElem?_eq_getElem hlt1]
      simp only [Option.bind_some]
      rw [List.drop_eq_getElem_cons hlt, show l.getD (K + k2 - 1) (0, 0) = l[K + k2 - 1] from by simp [List.getD, List.getElem?_eq_getElem hlt1]] at he
      unfold ddA at he
      have hgd : l.getD (K + (k2 + 1) - 1) (0, 0) = l[K + k2] := by rw [show K + (k2 + 1) - 1 = K + k2 from by omega]; simp [List.getD, List.getElem?_eq_getElem hlt]
      have hrec := compact_in (F := F) hm hK n (k2 + 1)
      by_cases hc : l[K + k2] = l[K + k2 - 1]
      · rw [if_pos hc] at he
        rw [if_neg (by simp [hc])]
        unfold M_slices_Compact_api_Arc_api_Arc_j117
        rw [iadd1_n (by omega)]
        refine hrec k x (by omega) (by omega) (by omega) hx (by omega) ?_ ?_
        · have := congrArg (fun z => z.drop 1) hd
          simp only [List.drop_drop] at this
          rwa [show K + k2 - 1 + 1 = K + (k2 + 1) - 1 from by omega] at this
        · rw [hgd, hc]; exact he
      · rw [if_neg hc] at he
        rw [if_pos (by simp only [Bool.not_eq_true', Bool.and_eq_false_iff, beq_eq_false_iff_ne, ne_eq]; by_cases h5 : l[K + k2].1 = l[K + k2 - 1].1
                       · exact .inr fun h6 => hc (Prod.ext h5 h6)
                       · exact .inl h5), if_pos (by simp [hx]), idx_nat, List.getElem?_eq_getElem (by omega)]
        simp only [Option.bind_some, lett, Int.toNat_natCast]
        unfold M_slices_Compact_api_Arc_api_Arc_j117
        rw [iadd1_n (by omega), iadd1_n (by omega)]
        refine hrec (k + 1) _ (by omega) (by omega) (by omega) (by simp [hx]) (by omega) ?_ ?_
        · rw [drop_set_lt (by omega)]
          have := congrArg (fun z => z.drop 1) hd
          simp only [List.drop_drop] at this
          rwa [show K + k2 - 1 + 1 = K + (k2 + 1) - 1 from by omega] at this
        · have hkl : k < x.length := by omega
          rw [hgd, take_snoc (by simp; omega), List.take_set_of_le (by omega), List.getElem_set_self, List.append_assoc]
          exact he
    · rw [if_neg (by simp; omega)]
      unfold M_slices_Compact_api_Arc_api_Arc_j113
      rw [List.drop_eq_nil_of_le (by omega)] at he
      simp only [ddA, List.append_nil] at he
      simp only [chk, lett]
      rw [if_pos (by simp; omega), Int.toNat_natCast]
      have := sub_n (l := x.take k ++ List.replicate (x.length - k) ((0 : Int), (0 : Int))) (i := 0) (j := k) (by omega) (by simp; omega)
      rw [show ((0 : Nat) : Int) = 0 from rfl, List.drop_zero, List.take_append_of_le_length (by simp; omega), List.take_take, Nat.min_self] at this
      rw [this, he]
      rfl
theorem compact_out {F : Nat} {l : List (Int × Int)} (hF : l.length < F) (hm : l.length ≤ 1000000) : ∀ (n k : Nat), l.length < n + k → 1 ≤ k → k ≤ l.length → l.take k ++ ddA (l.getD (k - 1) (0, 0)) (l.drop k) = ddP l →
    M_slices_Compact_api_Arc_api_Arc_l98 F l n (k : Int) = some (ddP l)
  | 0, _, _, _, _, _ => by omega
  | n + 1, k, h, h1, h2, he => by
    show M_slices_Compact_api_Arc_api_Arc_b98 F l (M_slices_Compact_api_Arc_api_Arc_l98 F l n) (k : Int) = _
    unfold M_slices_Compact_api_Arc_api_Arc_b98
    by_cases hlt : k < l.length
    · have hlt1 : k - 1 < l.length := by omega
      have hgd0 : l.getD (k - 1) (0, 0) = l[k - 1] := by simp [List.getD, List.getElem?_eq_getElem hlt1]
      have hgd : l.getD (k + 1 - 1) (0, 0) = l[k] := by rw [show k + 1 - 1 = k from by omega]; simp [List.getD, List.getElem?_eq_getElem hlt]
      rw [List.drop_eq_getElem_cons hlt, hgd0] at he
      unfold ddA at he
      rw [if_pos (by simp; omega), idx_nat, List.getElem?_eq_getElem hlt]
      simp only [Option.bind_some]
      rw [isub1_n h1 (by omega), idx_nat, List.getElem?_eq_getElem hlt1]
      simp only [Option.bind_some]
      by_cases hc : l[k] = l[k - 1]
      · rw [if_pos hc] at he
        rw [if_pos (by simp [hc])]
        simp only [chk]
        rw [if_pos (by simp; omega)]
        refine compact_in (F := F) hm hlt F 1 k l (by omega) (by omega) (by omega) rfl (by omega) rfl ?_
        rw [hgd, hc]; exact he
      · rw [if_neg hc] at he
        rw [if_neg (by simp only [Bool.and_eq_true, beq_iff_eq]; exact fun h => hc (Prod.ext h.1 h.2))]
        unfold M_slices_Compact_api_Arc_api_Arc_j108
        rw [iadd1_n (by omega)]
        refine compact_out hF hm n (k + 1) (by omega) (by omega) (by omega) ?_
        rw [hgd, take_snoc hlt, List.append_assoc]; exact he
    · rw [if_neg (by simp; omega)]
      unfold M_slices_Compact_api_Arc_api_Arc_j59
      rw [List.drop_eq_nil_of_le (by omega), List.take_of_length_le (by omega)] at he
      simp only [ddA, List.append_nil] at he
      exact congrArg some he
theorem compactA_eq {F : Nat} {l : List (Int × Int)} (hF : l.length < F) (hm : l.length ≤ 1000000) : M_slices_Compact_api_Arc_api_Arc F l = some (ddP l) := by
  unfold M_slices_Compact_api_Arc_api_Arc
  by_cases h : l.length < 2
  · rw [if_pos (by simp; omega)]
    match l, h with
    | [], _ => rfl
    | [p], _ => rfl
  · rw [if_neg (by simp; omega)]
    refine compact_out hF hm F 1 (by omega) (by omega) (by omega) ?_
    cases l with
    | nil => simp at h
    | cons p l => rfl
def bw (g : List (List Int)) : List (Int × Int) := af 0 g ++ sw (af 0 g)
def bd (g : List (List Int)) : List (Int × Int) := ddP (srtA (bw g))
def bt (g : List (List Int)) : List (List Int) := tab g.length (bd g)
theorem bw_mem {g : List (List Int)} {p : Int × Int} : p ∈ bw g ↔ p ∈ af 0 g ∨ (p.2, p.1) ∈ af 0 g := by
  unfold bw
  rw [List.mem_append, sw_mem]
theorem bd_mem {g : List (List Int)} {p : Int × Int} : p ∈ bd g ↔ p ∈ bw g := by
  unfold bd
  rw [ddP_mem, (srtA_perm _).mem_iff]
theorem bd_pw (g : List (List Int)) : (bd g).Pairwise lexLt := ddP_pw (srtA_pw _)
theorem bw_in {g : List (List Int)} (h : Gr g) : InR g.length (bw g) := fun p hp => by
  rcases List.mem_append.1 hp with hp | hp
  · exact gr_in h p hp
  · exact sw_in (gr_in h) p hp
theorem bd_in {g : List (List Int)} (h : Gr g) : InR g.length (bd g) := fun p hp => bw_in h p (bd_mem.1 hp)
theorem bw_len {g : List (List Int)} (h : Gr g) : (bw g).length ≤ 1200 := by
  have := gr_len h
  unfold bw
  rw [List.length_append, sw_len]; omega
theorem bd_len {g : List (List Int)} (h : Gr g) : (bd g).length ≤ 1200 := by
  have h1 := ddP_len (srtA (bw g))
  rw [srtA_len] at h1
  have := bw_len h
  unfold bd; omega
theorem bt_isTab0 (g : List (List Int)) : IsTab g.length (bd g) (bt g) := tab_isTab (bd_pw g)
theorem bt_af {g : List (List Int)} (h : Gr g) : af 0 (bt g) = bd g := isTab_af (bt_isTab0 g) (bd_in h) (bd_pw g)
theorem bt_gr {g : List (List Int)} (h : Gr g) (hl : (bd g).length ≤ 600) : Gr (bt g) := isTab_gr (bt_isTab0 g) (bd_in h) h.1 (by rw [bt_af h]; exact hl)
theorem bt_len (g : List (List Int)) : (bt g).length = g.length := tab_len _ _
def bothM (g : List (List Int)) : List (List Int) × Int := if 600 < (bd g).length then ([], 2) else (bt g, 0)
theorem both_eq {F : Nat} {g : List (List Int)} (hF : 2000 ≤ F) : M_graph_Both F g = some (if gchk g ≠ 0 then ([], gchk g) else bothM g) := by
  unfold M_graph_Both M_graph_All
  rw [graphCheck_eq (by omega)]
  simp only [Option.bind_some]
  by_cases h : gchk g = 0
  · have hg := gchk_ok.1 h
    have h1 := hg.1
    have h2 := gr_len hg
    have h3 := bw_len hg
    have h4 := bd_len hg
    rw [if_neg (by simp [h]), if_neg (by simp [h]), collect_all (by omega) hg]
    simp only [Option.bind_some]
    rw [turned_eq (by omega) hg]
    simp only [Option.bind_some]
    show (app _ (af 0 g) (sw (af 0 g))).bind _ = _
    rw [app_eq (by rw [sw_len]; omega)]
    simp only [Option.bind_some]
    show (M_slices_SortFunc_api_Arc_api_Arc_graph_order F (bw g)).bind _ = _
    rw [sortFunc_eq (by omega) (by omega)]
    simp only [Option.bind_some, chk]
    rw [if_pos (by rw [srtA_len]; simp [bw]), compactA_eq (by rw [srtA_len]; omega) (by rw [srtA_len]; omega)]
    simp only [Option.bind_some]
    show (if decide (600 < ((bd g).length : Int)) then _ else (M_graph_Built F (g.length : Int) (bd g)).bind _) = _
    unfold bothM
    by_cases h5 : 600 < (bd g).length
    · rw [if_pos (by simp; omega), if_pos h5]
    · rw [if_neg (by simp; omega), if_neg h5, built_eq (fun p hp => by have := bd_in hg p hp; omega) (by omega) (by omega) (by omega)]
      rfl
  · rw [if_pos (by simpa using h), if_pos h]
def lens (g : List (List Int)) : List Int := g.map fun r => (r.length : Int)
def deg (n : Nat) (l : List (Int × Int)) : List Int := lens (tab n l)
theorem deg_get {n i : Nat} {l : List (Int × Int)} (h : i < n) : (deg n l)[i]? = some ((rowOf l i).length : Int) := by
  unfold deg lens
  rw [List.getElem?_map, tab_get h]; rfl
theorem deg_snoc {n a : Nat} {l : List (Int × Int)} {b : Int} : deg n (l ++ [((a : Int), b)]) = (deg n l).set a (((rowOf l a).length + 1 : Nat) : Int) := by
  unfold deg lens
  rw [tab_snoc, List.map_set, List.length_append, List.length_singleton]
theorem deg_perm {n : Nat} {l l' : List (Int × Int)} (h : l.Perm l') : deg n l = deg n l' := by
  unfold deg lens tab
  rw [List.map_map, List.map_map]
  refine List.map_congr_left fun i _ => ?_
  show ((rowOf l i).length : Int) = ((rowOf l' i).length : Int)
  unfold rowOf
  rw [List.length_map, List.length_map, (h.filter _).length_eq]
theorem deg_isTab {n : Nat} {l : List (Int × Int)} {T : List (List Int)} (h : IsTab n l T) (hn : l.Nodup) : deg n l = lens T := by
  rw [isTab_uniq h (srt_isTab hn) fun p => Iff.rfl, ← deg_perm (srtA_perm l)]
  rfl
theorem degrees_fold {F n : Nat} {yy : (List Int × List Int) → (Int × Int) → Option ((List Int × List Int) ⊕ Empty)} (hy : ∀ s p, yy s p = M_graph_Degrees_r3 F s.1 s.2 p.1 p.2) : ∀ (A acc : List (Int × Int)), InR n A → acc.length + A.length ≤ 1000000 →
    runFold yy A (deg n (sw acc), deg n acc) = some (.inl (deg n (sw (acc ++ A)), deg n (acc ++ A)))
  | [], acc, _, _ => by rw [List.append_nil]; rfl
  | p :: A, acc, h, hm => by
    rw [List.length_cons] at hm
    obtain ⟨h1, h2, h3, h4⟩ := h p (by simp)
    have hrec := degrees_fold hy A (acc ++ [p]) (fun q hq => h q (by simp [hq])) (by simp; omega)
    rw [List.append_assoc] at hrec
    show (yy _ p).bind _ = _
    rw [hy]
    unfold M_graph_Degrees_r3
    obtain ⟨a, ha⟩ := Int.eq_ofNat_of_zero_le h1
    obtain ⟨b, hb⟩ := Int.eq_ofNat_of_zero_le h3
    have e : p = ((a : Int), (b : Int)) := Prod.ext ha hb
    have hl1 := rowOf_len acc (a : Int)
    have hl2 := rowOf_len (sw acc) (b : Int)
    rw [sw_len] at hl2
    subst e
    simp only at *
    rw [idx_nat, deg_get (by omega)]
    simp only [Option.bind_some, lett]
    rw [idx_nat, deg_get (by omega)]
    simp only [Option.bind_some]
    rw [iadd1_n (by omega), iadd1_n (by omega), Int.toNat_natCast, Int.toNat_natCast, ← deg_snoc (b := (a : Int)), ← deg_snoc (b := (b : Int))]
    rw [sw_snoc] at hrec
    simp only [Sum.elim_inl]
    exact hrec
theorem lens_tab_nil (n : Nat) : deg n [] = List.replicate n 0 := by
  unfold deg lens
  rw [tab_nil, List.map_replicate]; rfl
def degM (g : List (List Int)) : List Int × List Int × Int := if gchk g ≠ 0 then ([], [], gchk g) else (lens g, lens (tn g), 0)
theorem degrees_eq {F : Nat} {g : List (List Int)} (hF : 1000 ≤ F) : M_graph_Degrees F g = some (degM g) := by
  unfold M_graph_Degrees degM
  rw [graphCheck_eq hF]
  simp only [Option.bind_some]
  by_cases h : gchk g = 0
  · have hg := gchk_ok.1 h
    have h1 := hg.1
    have h2 := gr_len hg
    rw [if_neg (by simp [h]), if_neg (by simp [h])]
    have hmk : mk 17592186044416 (0 : Int) (g.length : Int) = some (deg g.length []) := by
      unfold mk
      rw [if_pos ⟨by omega, by omega⟩, lens_tab_nil, Int.toNat_natCast]
    rw [hmk]
    simp only [Option.bind_some]
    unfold M_graph_Degrees_j1 M_graph_All
    simp only [Option.bind_some]
    rw [all_eq (by omega) (by omega) (fun l hl => by have := gr_row hg hl; omega)]
    have := degrees_fold (F := F) (n := g.length) (yy := fun x x_1 => M_graph_Degrees_r3 F x.1 x.2 x_1.1 x_1.2) (fun _ _ => rfl) (af 0 g) [] (gr_in hg) (by simp; omega)
    rw [List.nil_append] at this
    refine (congrArg (fun z => Option.bind z _) this).trans ?_
    simp only [Option.bind_some, Sum.elim_inl]
    rw [deg_isTab (af_isTab (gr_pw hg)) (gr_nodup hg), deg_isTab (tn_isTab hg) (sw_nodup (gr_nodup hg))]
  · rw [if_pos (by simpa using h), if_pos h]
theorem same_arcs_l {F : Nat} {xs : List (Int × Int)} (hm : xs.length ≤ 1000000) : ∀ (k i : Nat), xs.length < k + i → i ≤ xs.length → M_R_SameArcs_l3 F xs xs k (i : Int) = some true
  | 0, _, _, _ => by omega
  | k + 1, i, h, hi => by
    show M_R_SameArcs_b3 F xs xs (M_R_SameArcs_l3 F xs xs k) (i : Int) = _
    unfold M_R_SameArcs_b3
    by_cases hlt : i < xs.length
    · rw [if_pos (by simp; omega), idx_nat, List.getElem?_eq_getElem hlt]
      simp only [Option.bind_some]
      rw [if_neg (by simp), iadd1_n (by omega)]
      exact same_arcs_l hm k (i + 1) (by omega) (by omega)
    · rw [if_neg (by simp; omega)]
      rfl
theorem same_arcs {F : Nat} {xs : List (Int × Int)} (hF : xs.length < F) (hm : xs.length ≤ 1000000) : M_R_SameArcs F xs xs = some true := by
  unfold M_R_SameArcs
  rw [if_neg (by simp)]
  exact same_arcs_l hm F 0 (by omega) (by omega)
theorem same_lists_l {F : Nat} {xs : List (List Int)} (hm : xs.length ≤ 1000000) (hr : ∀ r ∈ xs, r.length ≤ 1000000 ∧ r.length < F) : ∀ (k i : Nat), xs.length < k + i → i ≤ xs.length → M_R_SameLists_l3 F xs xs k (i : Int) = some true
  | 0, _, _, _ => by omega
  | k + 1, i, h, hi => by
    show M_R_SameLists_b3 F xs xs (M_R_SameLists_l3 F xs xs k) (i : Int) = _
    unfold M_R_SameLists_b3
    by_cases hlt : i < xs.length
    · have := hr _ (List.getElem_mem hlt)
      rw [if_pos (by simp; omega), idx_nat, List.getElem?_eq_getElem hlt]
      simp only [Option.bind_some]
      rw [same_intsR this.2 this.1]
      simp only [Option.bind_some]
      rw [if_neg (by simp), iadd1_n (by omega)]
      exact same_lists_l hm hr k (i + 1) (by omega) (by omega)
    · rw [if_neg (by simp; omega)]
      rfl
theorem same_lists {F : Nat} {xs : List (List Int)} (hF : xs.length < F) (hm : xs.length ≤ 1000000) (hr : ∀ r ∈ xs, r.length ≤ 1000000 ∧ r.length < F) : M_R_SameLists F xs xs = some true := by
  unfold M_R_SameLists
  rw [if_neg (by simp)]
  exact same_lists_l hm hr F 0 (by omega) (by omega)
theorem gbg_eq {F : Nat} (hF : 2000 ≤ F) : M_L_graphBegun F = some true := by
  have s1 : srtA [(2, 0), (0, 1), (0, 0)] = [(0, 0), (0, 1), (2, 0)] := srtA_eq (by decide) (by decide)
  have o1 : ofM 3 [(2, 0), (0, 1), (0, 0)] = ([[0, 1], [], [0]], 0) := by
    rw [show (3 : Int) = ((3 : Nat) : Int) from rfl, ofM_tab (by decide) (by decide) (by unfold InR; decide) (by decide), s1]; rfl
  have c1 : gchk [[0, 1], [], [0]] = 0 := by decide
  have hg := gchk_ok.1 c1
  have a1 : af 0 [[0, 1], [], [0]] = [(0, 0), (0, 1), (2, 0)] := rfl
  have t1 : tn [[0, 1], [], [0]] = [[0, 2], [0], []] := by
    unfold tn
    rw [a1, show sw [(0, 0), (0, 1), (2, 0)] = [(0, 0), (1, 0), (0, 2)] from rfl, srtA_eq (m := [(0, 0), (0, 2), (1, 0)]) (by decide) (by decide)]; rfl
  have b0 : bd [[0, 1], [], [0]] = [(0, 0), (0, 1), (0, 2), (1, 0), (2, 0)] := by
    unfold bd bw
    rw [a1, show sw [(0, 0), (0, 1), (2, 0)] = [(0, 0), (1, 0), (0, 2)] from rfl, srtA_eq (m := [(0, 0), (0, 0), (0, 1), (0, 2), (1, 0), (2, 0)]) (by decide) (by decide)]; rfl
  have b1 : bothM [[0, 1], [], [0]] = ([[0, 1, 2], [0], [0]], 0) := by
    unfold bothM bt
    rw [b0]; rfl
  have d1 : degM [[0, 1], [], [0]] = ([2, 0, 1], [2, 1, 0], 0) := by
    unfold degM
    rw [c1, t1]; rfl
  have o2 : ofM 1 [(0, 0), (0, 0)] = ([], 6) := by decide
  unfold M_L_graphBegun
  rw [of_eq (by omega), o1]
  simp only [Option.bind_some]
  rw [arcs_eq (by omega), c1, if_neg (by decide), a1]
  simp only [Option.bind_some]
  rw [turn_eq (by omega), c1, if_neg (by decide), t1]
  simp only [Option.bind_some]
  rw [both_eq hF, c1, if_neg (by decide), b1]
  simp only [Option.bind_some]
  rw [degrees_eq (by omega), d1]
  simp only [Option.bind_some]
  rw [of_eq (by omega), o2]
  simp only [Option.bind_some]
  have sl : ∀ g : List (List Int), g.length ≤ 3 → (∀ r ∈ g, r.length ≤ 3) → M_R_SameLists F g g = some true := fun g h1 h2 => same_lists (by omega) (by omega) (fun r hr => by have := h2 r hr; omega)
  rw [sl _ (by decide) (by decide)]
  simp only [Option.bind_some]
  rw [if_pos (by decide), same_arcs (by simp; omega) (by decide)]
  simp only [Option.bind_some]
  unfold M_L_graphBegun_j1
  rw [if_pos (by decide), sl _ (by decide) (by decide)]
  simp only [Option.bind_some]
  unfold M_L_graphBegun_j2
  rw [if_pos (by decide), sl _ (by decide) (by decide)]
  simp only [Option.bind_some]
  unfold M_L_graphBegun_j3
  rw [if_pos (by decide), same_intsR (by simp; omega) (by decide)]
  simp only [Option.bind_some]
  unfold M_L_graphBegun_j4
  rw [if_pos (by decide), same_intsR (by simp; omega) (by decide)]
  simp only [Option.bind_some]
  unfold M_L_graphBegun_j5
  rw [if_pos (by decide), graphCheck_eq (by omega)]
  simp only [Option.bind_some]
  rfl
theorem less_eq {F : Nat} {x y : Int} : M_cmp_Less_int F x y = some (decide (x < y)) := by
  unfold M_cmp_Less_int M_cmp_isNaN_int
  simp [M_cmp_Less_int_j1]
theorem half_eq {i j : Nat} (h : i + j < 1000000000) : iconv .i64 (ishr .u64 (iconv .u64 (iadd .i64 (i : Int) (j : Int))) 1) = (((i + j) / 2 : Nat) : Int) := by
  rw [iadd_n (by omega)]
  have e1 : iconv .u64 ((i + j : Nat) : Int) = ((i + j : Nat) : Int) := wrap_u64 (by omega) (by omega)
  have e2 := ishr_eq (k := .u64) (a := ((i + j : Nat) : Int)) (m := 1) (by decide)
  rw [show ((1 : Nat) : Int) = 1 from rfl, show (2 : Int) ^ 1 = 2 from rfl] at e2
  rw [e1, e2]
  have e3 : ((i + j : Nat) : Int) / 2 = (((i + j) / 2 : Nat) : Int) := by omega
  rw [e3]
  exact wrap_i64 (by omega) (by omega)
theorem search_l {F : Nat} {l : List Int} {v : Int} (hl : l.Pairwise (· < ·)) (hm : l.length ≤ 100000) : ∀ (k i j : Nat), j < k + i → i ≤ j → j ≤ l.length → (∀ z ∈ l.take i, z < v) → (∀ z ∈ l.drop j, v ≤ z) →
    ∃ p, M_slices_BinarySearch_int_int_l10 F l v k ((i : Int), (j : Int)) = some (p, decide (v ∈ l))
  | 0, _, _, _, _, _, _, _ => by omega
  | k + 1, i, j, h, hij, hj, h1, h2 => by
    show ∃ p, M_slices_BinarySearch_int_int_b10 F l v (M_slices_BinarySearch_int_int_l10 F l v k) (i : Int) (j : Int) = _
    unfold M_slices_BinarySearch_int_int_b10
    by_cases hlt : i < j
    · have hh : (i + j) / 2 < l.length := by omega
      rw [if_pos (by simp; omega)]
      unfold lett
      rw [half_eq (by omega)]
      simp only
      rw [idx_nat, List.getElem?_eq_getElem hh]
      simp only [Option.bind_some]
      rw [less_eq]
      simp only [Option.bind_some]
      by_cases hc : l[(i + j) / 2] < v
      · rw [decide_eq_true hc, if_pos rfl, iadd1_n (by omega)]
        refine search_l hl hm k ((i + j) / 2 + 1) j (by omega) (by omega) hj (fun z hz => ?_) h2
        obtain ⟨q, hq⟩ := List.getElem?_of_mem hz
        have hq1 := (List.getElem?_eq_some_iff.1 hq).1
        rw [List.length_take] at hq1
        rw [List.getElem?_take_of_lt (by omega), List.getElem?_eq_getElem (by omega)] at hq
        simp only [Option.some.injEq] at hq
        subst hq
        by_cases e : q = (i + j) / 2
        · subst e; exact hc
        · have := List.pairwise_iff_getElem.1 hl q ((i + j) / 2) (by omega) hh (by omega)
          omega
      · rw [decide_eq_false hc, if_neg (by simp)]
        refine search_l hl hm k i ((i + j) / 2) (by omega) (by omega) (by omega) h1 (fun z hz => ?_)
        obtain ⟨q, hq⟩ := List.getElem?_of_mem hz
        rw [List.getElem?_drop] at hq
        have hq1 := (List.getElem?_eq_some_iff.1 hq).1
        rw [List.getElem?_eq_getElem hq1] at hq
        simp only [Option.some.injEq] at hq
        subst hq
        by_cases e : q = 0
        · subst e; simp only [Nat.add_zero]; omega
        · have := List.pairwise_iff_getElem.1 hl ((i + j) / 2) ((i + j) / 2 + q) hh (by omega) (by omega)
          omega
    · obtain rfl : i = j := by omega
      rw [if_neg (by simp)]
      unfold M_slices_BinarySearch_int_int_j2
      by_cases hi : i < l.length
      · have hd : l.drop i = l[i] :: l.drop (i + 1) := List.drop_eq_getElem_cons hi
        have hmem : v ∈ l ↔ l[i] = v := by
          constructor
          · intro hv
            rw [← List.take_append_drop i l] at hv
            rcases List.mem_append.1 hv with hv | hv
            · have := h1 v hv; omega
            · rw [hd] at hv
              rcases List.mem_cons.1 hv with hv | hv
              · exact hv.symm
              · have hp := hl.sublist (List.drop_sublist i l)
                rw [hd] at hp
                have := (List.pairwise_cons.1 hp).1 v hv
                have := h2 l[i] (by rw [hd]; exact List.mem_cons_self ..)
                omega
          · intro hv; rw [← hv]; exact List.getElem_mem hi
        rw [if_pos (by simp; omega), idx_nat, List.getElem?_eq_getElem hi]
        simp only [Option.bind_some]
        by_cases he : l[i] = v
        · rw [if_pos (by simpa using he), decide_eq_true (hmem.2 he)]
          exact ⟨_, rfl⟩
        · rw [if_neg (by simpa using he), decide_eq_false (fun h => he (hmem.1 h))]
          unfold M_slices_isNaN_int
          simp only [Option.bind_some, bne_self_eq_false, Bool.false_eq_true, if_false]
          exact ⟨_, rfl⟩
      · rw [if_neg (by simp; omega)]
        have hn : v ∉ l := by
          intro hv
          rw [List.take_of_length_le (by omega)] at h1
          have := h1 v hv
          omega
        rw [decide_eq_false hn]
        exact ⟨_, rfl⟩
theorem search_eq {F : Nat} (hF : 200000 ≤ F) {l : List Int} {v : Int} (hl : l.Pairwise (· < ·)) (hm : l.length ≤ 100000) : ∃ p, M_slices_BinarySearch_int_int F l v = some (p, decide (v ∈ l)) := by
  unfold M_slices_BinarySearch_int_int
  exact search_l hl hm F 0 l.length (by omega) (by omega) (Nat.le_refl _) (by simp) (by simp)
theorem cup_step {xs : List Int} (h : xs.Pairwise (· ≤ ·)) : ∀ m, m ≤ xs.length → (Go.Lib.compactUpTo xs.toArray m).Pairwise (· < ·) ∧ ∀ z, z ∈ Go.Lib.compactUpTo xs.toArray m ↔ z ∈ xs.take m
  | 0, _ => by simp [Go.Lib.compactUpTo]
  | m + 1, hm => by
    obtain ⟨a1, a2⟩ := cup_step h m (by omega)
    have hlt : m < xs.length := by omega
    have hg : xs.toArray[m]! = xs[m] := by rw [getElem!_pos xs.toArray m (by simpa using hlt)]; simp
    rw [Go.Lib.compactUpTo_succ, hg, take_snoc hlt]
    have hle : ∀ z ∈ xs.take m, z ≤ xs[m] := fun z hz => by
      obtain ⟨i, hi, rfl⟩ := List.mem_iff_getElem.1 hz
      rw [List.length_take] at hi
      rw [List.getElem_take]
      exact List.pairwise_iff_getElem.1 h i m (by omega) hlt (by omega)
    by_cases hk : Go.Lib.keeps xs.toArray m = true
    · rw [if_pos hk]
      refine ⟨List.pairwise_append.2 ⟨a1, by simp, fun a ha b hb => ?_⟩, fun z => by rw [List.mem_append, List.mem_append, a2]⟩
      rw [List.mem_singleton] at hb
      subst hb
      have ha' := (a2 a).1 ha
      have h1 := hle a ha'
      rcases Nat.eq_zero_or_pos m with h0 | h0
      · subst h0; simp at ha'
      · rw [keeps_get h0 hlt] at hk
        have hne : xs[m] ≠ xs[m - 1] := by simpa using hk
        obtain ⟨i, hi, rfl⟩ := List.mem_iff_getElem.1 ha'
        rw [List.length_take] at hi
        rw [List.getElem_take] at h1 ⊢
        have h2 : xs[i] ≤ xs[m - 1] := by
          by_cases hi2 : i = m - 1
          · subst hi2; exact Int.le_refl _
          · exact List.pairwise_iff_getElem.1 h i (m - 1) (by omega) (by omega) (by omega)
        have h3 : xs[m - 1] ≤ xs[m] := List.pairwise_iff_getElem.1 h (m - 1) m (by omega) hlt (by omega)
        omega
    · rw [if_neg hk, List.append_nil]
      refine ⟨a1, fun z => ?_⟩
      rw [a2, List.mem_append]
      rcases Nat.eq_zero_or_pos m with h0 | h0
      · subst h0; simp [Go.Lib.keeps] at hk
      · rw [keeps_get h0 hlt] at hk
        have he : xs[m] = xs[m - 1] := by simpa using hk
        constructor
        · exact .inl
        · rintro (h1 | h1)
          · exact h1
          · rw [List.mem_singleton] at h1
            rw [h1, he]
            have : m - 1 < (xs.take m).length := by rw [List.length_take]; omega
            have e : (xs.take m)[m - 1] = xs[m - 1] := List.getElem_take
            rw [← e]; exact List.getElem_mem this
theorem compact_pw {xs : List Int} (h : xs.Pairwise (· ≤ ·)) : (Go.Lib.compact xs).Pairwise (· < ·) ∧ ∀ z, z ∈ Go.Lib.compact xs ↔ z ∈ xs := by
  obtain ⟨a1, a2⟩ := cup_step h xs.length (Nat.le_refl _)
  refine ⟨a1, fun z => ?_⟩
  have := a2 z
  rwa [List.take_length] at this
def exA (l : List (Int × Int)) : List (Int × Int) := l.flatMap fun p => if p.1 ≠ p.2 then [(p.1, p.2), (p.2, p.1)] else []
theorem exA_mem {l : List (Int × Int)} {p : Int × Int} : p ∈ exA l ↔ p.1 ≠ p.2 ∧ (p ∈ l ∨ (p.2, p.1) ∈ l) := by
  unfold exA
  rw [List.mem_flatMap]
  constructor
  · rintro ⟨q, hq, hp⟩
    by_cases h : q.1 ≠ q.2
    · rw [if_pos h] at hp
      rcases List.mem_cons.1 hp with rfl | hp
      · exact ⟨h, .inl hq⟩
      · rw [List.mem_singleton] at hp
        subst hp
        exact ⟨fun he => h he.symm, .inr hq⟩
    · rw [if_neg h] at hp; simp at hp
  · rintro ⟨h, hq | hq⟩
    · exact ⟨p, hq, by rw [if_pos h]; simp⟩
    · exact ⟨_, hq, by rw [if_pos (fun he => h he.symm)]; simp⟩
theorem exA_len (l : List (Int × Int)) : (exA l).length ≤ 2 * l.length := by
  induction l with
  | nil => simp [exA]
  | cons p l ih =>
    unfold exA at *
    rw [List.flatMap_cons, List.length_append, List.length_cons]
    split
    · simp only [List.length_cons, List.length_nil]; omega
    · simp only [List.length_nil]; omega
theorem exA_app (A B : List (Int × Int)) : exA (A ++ B) = exA A ++ exA B := by simp [exA, List.flatMap_append]
theorem exA_in {n : Nat} {l : List (Int × Int)} (h : InR n l) : InR n (exA l) := fun p hp => by
  obtain ⟨_, h1 | h1⟩ := exA_mem.1 hp
  · exact h p h1
  · have := h _ h1; exact ⟨this.2.2.1, this.2.2.2, this.1, this.2.1⟩
/-- Neighbours told as pairs. -/
def E (g : List (List Int)) : List (Int × Int) := exA (af 0 g)
theorem near_fold {F n : Nat} {yy : List (List Int) → (Int × Int) → Option (List (List Int) ⊕ Empty)} (hy : ∀ s p, yy s p = M_core_near_r2 F s p.1 p.2) : ∀ (A acc : List (Int × Int)), InR n A → acc.length + A.length ≤ 1000000 →
    runFold yy A (tab n (exA acc)) = some (.inl (tab n (exA (acc ++ A))))
  | [], acc, _, _ => by rw [List.append_nil]; rfl
  | p :: A, acc, h, hm => by
    rw [List.length_cons] at hm
    obtain ⟨h1, h2, h3, h4⟩ := h p (by simp)
    have hrec := near_fold hy A (acc ++ [p]) (fun q hq => h q (by simp [hq])) (by simp; omega)
    rw [List.append_assoc] at hrec
    show (yy _ p).bind _ = _
    rw [hy]
    unfold M_core_near_r2
    obtain ⟨a, ha⟩ := Int.eq_ofNat_of_zero_le h1
    obtain ⟨b, hb⟩ := Int.eq_ofNat_of_zero_le h3
    have e : p = ((a : Int), (b : Int)) := Prod.ext ha hb
    have hex := exA_len acc
    have hl1 := rowOf_len (exA acc) (a : Int)
    have hl2 := rowOf_len (exA acc) (b : Int)
    subst e
    simp only at *
    by_cases hab : a = b
    · subst hab
      rw [if_neg (by simp)]
      have : exA (acc ++ [((a : Int), (a : Int))]) = exA acc := by rw [exA_app]; simp [exA]
      rw [this] at hrec
      simp only [Option.bind_some, Sum.elim_inl]
      exact hrec
    · have habi : ¬ (a : Int) = (b : Int) := by omega
      have e1 : exA (acc ++ [((a : Int), (b : Int))]) = exA acc ++ [((a : Int), (b : Int))] ++ [((b : Int), (a : Int))] := by
        rw [exA_app, List.append_assoc]
        simp [exA, habi]
      have e2 : rowOf (exA acc ++ [((a : Int), (b : Int))]) (b : Int) = rowOf (exA acc) (b : Int) := by
        unfold rowOf
        rw [List.filter_append]
        simp [habi]
      rw [e1, tab_snoc, tab_snoc, e2] at hrec
      rw [if_pos (by simpa using habi), idx_nat, tab_get (by omega)]
      simp only [Option.bind_some]
      rw [idx_nat, tab_get (by omega)]
      simp only [Option.bind_some, chk, lett]
      rw [if_pos (by simp; omega), app_eq (by rw [List.length_singleton]; omega)]
      simp only [Option.bind_some]
      rw [app_eq (by rw [List.length_singleton]; omega)]
      simp only [Option.bind_some, Sum.elim_inl, Int.toNat_natCast]
      exact hrec
/-- The first rows done, the rest as they were. -/
def tb2 (n : Nat) (f h : Nat → List Int) (i : Nat) : List (List Int) := (List.range n).map fun a => if a < i then f a else h a
theorem tb2_len (n : Nat) (f h : Nat → List Int) (i : Nat) : (tb2 n f h i).length = n := by simp [tb2]
theorem tb2_get {n i : Nat} {f h : Nat → List Int} (hi : i < n) : (tb2 n f h i)[i]? = some (h i) := by simp [tb2, hi]
theorem tb2_set {n i : Nat} {f h : Nat → List Int} : (tb2 n f h i).set i (f i) = tb2 n f h (i + 1) := by
  apply List.ext_getElem (by simp [tb2])
  intro a h1 h2
  rw [List.getElem_set]
  simp only [tb2, List.getElem_map, List.getElem_range]
  by_cases h : i = a
  · subst h; simp
  · rw [if_neg h]
    by_cases h3 : a < i
    · rw [if_pos h3, if_pos (by omega)]
    · rw [if_neg h3, if_neg (by omega)]
theorem tb2_all {n : Nat} {f h : Nat → List Int} : tb2 n f h n = (List.range n).map f := by
  apply List.ext_getElem (by simp [tb2])
  intro a h1 h2
  rw [tb2_len] at h1
  simp [tb2, h1]
theorem near_l {F n : Nat} {T : List (List Int)} {h : Nat → List Int} (hT : T.length = n) (hh : ∀ i, (h i).length ≤ 1000000) (hn : n ≤ 1000000) : ∀ (k i : Nat), n < k + i → i ≤ n →
    M_core_near_l5 F T k ((i : Int), tb2 n (fun a => Go.Lib.compact (srt (h a))) h i) = some ((List.range n).map fun a => Go.Lib.compact (srt (h a)))
  | 0, _, _, _ => by omega
  | k + 1, i, hk, hi => by
    show M_core_near_b5 F T (M_core_near_l5 F T k) (i : Int) (tb2 n (fun a => Go.Lib.compact (srt (h a))) h i) = _
    unfold M_core_near_b5
    by_cases hlt : i < n
    · have hrec := near_l (F := F) (T := T) (h := h) hT hh hn k (i + 1) (by omega) (by omega)
      have hhi := hh i
      have hsl : (srt (h i)).length = (h i).length := srt_len _
      have hcl := compact_len (srt (h i))
      rw [if_pos (by simp; omega), idx_nat, tb2_get hlt]
      simp only [Option.bind_some]
      unfold M_slices_Sort_int_int
      rw [if_pos (by omega)]
      simp only [Option.bind_some, chk, lett, Int.toNat_natCast]
      rw [if_pos (by simp [hsl]), idx_nat, List.getElem?_set_self (by rw [tb2_len]; exact hlt)]
      simp only [Option.bind_some]
      unfold M_slices_Compact_int_int
      rw [if_pos hcl]
      simp only [Option.bind_some]
      rw [iadd1_n (by omega), List.set_set]
      have := tb2_set (n := n) (i := i) (f := fun a => Go.Lib.compact (srt (h a))) (h := h)
      rw [this]
      exact hrec
    · rw [if_neg (by simp; omega), show i = n from by omega, tb2_all]
      rfl
/-- Each node's neighbours, rising. -/
def nr (g : List (List Int)) : List (List Int) := (List.range g.length).map fun i => cols (E g) i g.length
theorem nr_isTab {g : List (List Int)} (h : Gr g) : IsTab g.length (E g) (nr g) := cols_isTab (exA_in (gr_in h))
theorem near_eq {F : Nat} {g : List (List Int)} (hF : 2000 ≤ F) (hg : Gr g) : M_core_near F g = some (nr g) := by
  have h1 := hg.1
  have h2 := gr_len hg
  have hex := exA_len (af 0 g)
  unfold M_core_near M_graph_All
  rw [mk_nil (by omega)]
  simp only [Option.bind_some]
  rw [all_eq (by omega) (by omega) (fun l hl => by have := gr_row hg hl; omega)]
  have hf := near_fold (F := F) (n := g.length) (yy := fun x x_1 => M_core_near_r2 F x x_1.1 x_1.2) (fun _ _ => rfl) (af 0 g) [] (gr_in hg) (by simp; omega)
  rw [List.nil_append] at hf
  refine (congrArg (fun z => Option.bind z _) hf).trans ?_
  simp only [Option.bind_some, Sum.elim_inl]
  have e0 : tab g.length (exA (af 0 g)) = tb2 g.length (fun a => Go.Lib.compact (srt (rowOf (exA (af 0 g)) (a : Nat)))) (fun (a : Nat) => rowOf (exA (af 0 g)) a) 0 := by
    apply List.ext_getElem (by simp [tb2, tab])
    intro a b1 b2
    simp [tb2, tab]
  have hl := near_l (F := F) (n := g.length) (T := tab g.length (exA (af 0 g))) (h := fun (a : Nat) => rowOf (exA (af 0 g)) a) (tab_len _ _) (fun i => by have := rowOf_len (exA (af 0 g)) (i : Int); show (rowOf (exA (af 0 g)) (i : Int)).length ≤ _; omega) (by omega) F 0 (by omega) (by omega)
  rw [← e0] at hl
  refine Eq.trans hl ?_
  congr 1
  have ht : IsTab g.length (E g) ((List.range g.length).map fun (a : Nat) => Go.Lib.compact (srt (rowOf (exA (af 0 g)) a))) := by
    refine ⟨by simp, fun i r hr => ?_⟩
    have hi : i < g.length := by have := (List.getElem?_eq_some_iff.1 hr).1; simpa using this
    simp only [List.getElem?_map, List.getElem?_range hi, Option.map_some, Option.some.injEq] at hr
    subst hr
    obtain ⟨c1, c2⟩ := compact_pw (srt_pw (rowOf (exA (af 0 g)) (i : Int)))
    exact ⟨c1, fun x => by rw [c2, (srt_perm _).mem_iff, mem_rowOf]; rfl⟩
  exact isTab_uniq ht (nr_isTab hg) fun _ => Iff.rfl
theorem nr_len (g : List (List Int)) : (nr g).length = g.length := by simp [nr]
/-- Are two nodes neighbours? -/
def Nb (g : List (List Int)) (i k : Nat) : Bool := decide (((i : Int), (k : Int)) ∈ E g)
theorem Nb_sym {g : List (List Int)} {i k : Nat} : Nb g i k = Nb g k i := by
  unfold Nb
  refine decide_eq_decide.2 ?_
  unfold E
  rw [exA_mem, exA_mem]
  constructor
  · rintro ⟨h1, h2⟩; exact ⟨fun h => h1 h.symm, h2.symm⟩
  · rintro ⟨h1, h2⟩; exact ⟨fun h => h1 h.symm, h2.symm⟩
theorem Nb_lt {g : List (List Int)} (hg : Gr g) {i k : Nat} (h : Nb g i k = true) : i < g.length ∧ k < g.length := by
  have := exA_in (gr_in hg) _ (of_decide_eq_true h)
  simp only at this
  omega
theorem nr_get {g : List (List Int)} {i : Nat} (hi : i < g.length) : (nr g)[i]? = some (cols (E g) i g.length) := by simp [nr, hi]
/-- A row as a list of nodes. -/
def nbs (g : List (List Int)) (i : Nat) : List Nat := (List.range g.length).filter fun k => Nb g i k
theorem cols_nbs (g : List (List Int)) (i : Nat) : cols (E g) i g.length = (nbs g i).map fun (k : Nat) => (k : Int) := rfl
theorem mem_nbs {g : List (List Int)} (hg : Gr g) {i k : Nat} : k ∈ nbs g i ↔ Nb g i k = true := by
  unfold nbs
  rw [List.mem_filter, List.mem_range]
  exact ⟨fun h => h.2, fun h => ⟨(Nb_lt hg h).2, h⟩⟩
theorem nbs_pw (g : List (List Int)) (i : Nat) : (nbs g i).Pairwise (· < ·) := List.pairwise_lt_range.filter _
theorem nbs_len (g : List (List Int)) (i : Nat) : (nbs g i).length ≤ g.length := by
  unfold nbs
  exact Nat.le_trans (List.length_filter_le _ _) (by simp)
def dg (g : List (List Int)) (S : Nat → Bool) (v : Nat) : Nat := (List.range g.length).countP fun u => S u && Nb g v u
def KK (g : List (List Int)) (k : Nat) (S : Nat → Bool) : Prop := ∀ v, v < g.length → S v = true → k ≤ dg g S v
structure IsCore (g : List (List Int)) (c : Nat → Nat) : Prop where
  own : ∀ v, v < g.length → c v ≤ dg g (fun u => decide (c v ≤ c u)) v
  max : ∀ k S, KK g k S → ∀ v, v < g.length → S v = true → k ≤ c v
theorem dg_mono {g : List (List Int)} {S T : Nat → Bool} {v : Nat} (h : ∀ u, u < g.length → S u = true → T u = true) : dg g S v ≤ dg g T v := by
  unfold dg
  refine List.countP_mono_left fun u hu hs => ?_
  rw [List.mem_range] at hu
  simp only [Bool.and_eq_true] at hs ⊢
  exact ⟨h u hu hs.1, hs.2⟩
theorem core_KK {g : List (List Int)} {c : Nat → Nat} (h : IsCore g c) (m : Nat) : KK g m (fun u => decide (m ≤ c u)) := fun v hv hs => by
  have hs : m ≤ c v := of_decide_eq_true hs
  refine Nat.le_trans hs (Nat.le_trans (h.own v hv) (dg_mono fun u _ hu => ?_))
  have hu : c v ≤ c u := of_decide_eq_true hu
  exact decide_eq_true (by omega)
theorem core_uniq {g : List (List Int)} {c c' : Nat → Nat} (h : IsCore g c) (h' : IsCore g c') : ∀ v, v < g.length → c v = c' v := fun v hv => by
  have h1 := h'.max (c v) _ (core_KK h (c v)) v hv (decide_eq_true (Nat.le_refl _))
  have h2 := h.max (c' v) _ (core_KK h' (c' v)) v hv (decide_eq_true (Nat.le_refl _))
  omega
theorem countP_minus {p : Nat → Bool} {a : Nat} : ∀ {l : List Nat}, l.Nodup → a ∈ l → l.countP p = l.countP (fun u => p u && decide (u ≠ a)) + if p a then 1 else 0
  | [], _, h => by simp at h
  | b :: l, hn, h => by
    obtain ⟨h1, h2⟩ := List.nodup_cons.1 hn
    rw [List.countP_cons, List.countP_cons]
    rcases List.mem_cons.1 h with rfl | h
    · have e : l.countP (fun u => p u && decide (u ≠ a)) = l.countP p := List.countP_congr fun u hu => by
        have : u ≠ a := fun he => h1 (he ▸ hu)
        simp [this]
      rw [e]; simp
    · have hne : b ≠ a := fun he => h1 (he ▸ h)
      rw [countP_minus h2 h]
      simp only [ne_eq, hne, not_false_eq_true, decide_true, Bool.and_true]
      omega
def sub1 (S : Nat → Bool) (a : Nat) : Nat → Bool := fun u => S u && decide (u ≠ a)
theorem dg_minus {g : List (List Int)} {S : Nat → Bool} {a v : Nat} (ha : a < g.length) (hs : S a = true) : dg g S v = dg g (sub1 S a) v + if Nb g v a then 1 else 0 := by
  unfold dg
  rw [countP_minus (a := a) List.nodup_range (List.mem_range.2 ha)]
  congr 1
  · refine List.countP_congr fun u _ => ?_
    unfold sub1
    cases S u <;> cases Nb g v u <;> simp
  · simp [hs]
def Best (L : List Int) (b : Int) (i : Nat) : Prop :=
  (b = -1 ∧ ∀ j, j < i → L.getD j 0 < 0) ∨ ∃ v : Nat, v < i ∧ b = (v : Int) ∧ 0 ≤ L.getD v 0 ∧ ∀ j, j < i → 0 ≤ L.getD j 0 → L.getD v 0 ≤ L.getD j 0
theorem getD_of {L : List Int} {i : Nat} (h : i < L.length) : L.getD i 0 = L[i] := by simp [List.getD, List.getElem?_eq_getElem h]
theorem least_l {F : Nat} {X : List (List Int)} {L : List Int} (hm : L.length ≤ 1000000) : ∀ (k i : Nat) (b : Int), L.length < k + i → i ≤ L.length → Best L b i → ∃ b', M_core_peeler_least_l38 F X L k (b, (i : Int)) = some (b', X, L) ∧ Best L b' L.length
  | 0, _, _, _, _, _ => by omega
  | k + 1, i, b, h, hi, hb => by
    show ∃ b', M_core_peeler_least_b38 F X L (M_core_peeler_least_l38 F X L k) b (i : Int) = some (b', X, L) ∧ _
    unfold M_core_peeler_least_b38 M_core_peeler_least_j45 M_core_peeler_least_j44 M_core_peeler_least_j42
    by_cases hlt : i < L.length
    · have hgi := getD_of hlt
      have hrec := fun b => least_l (F := F) (X := X) hm k (i + 1) b (by omega) (by omega)
      rw [if_pos (by simp; omega), idx_nat, List.getElem?_eq_getElem hlt]
      simp only [Option.bind_some]
      rw [iadd1_n (by omega)]
      have stay : (L[i] < 0 ∨ ∃ v : Nat, v < i ∧ b = (v : Int) ∧ L.getD v 0 ≤ L[i]) → Best L b (i + 1) := by
        intro hc
        rcases hb with ⟨hb1, hb2⟩ | ⟨v, hv, hb1, hb2, hb3⟩
        · rcases hc with hc | ⟨v, _, hc, _⟩
          · refine .inl ⟨hb1, fun j hj => ?_⟩
            by_cases hji : j = i
            · subst hji; omega
            · exact hb2 j (by omega)
          · omega
        · refine .inr ⟨v, by omega, hb1, hb2, fun j hj h0 => ?_⟩
          by_cases hji : j = i
          · subst hji
            rcases hc with hc | ⟨v', _, hc1, hc2⟩
            · omega
            · have : v' = v := by omega
              subst this; omega
          · exact hb3 j (by omega) h0
      by_cases h0 : 0 ≤ L[i]
      · rw [if_pos (by simpa using h0)]
        by_cases hb0 : b < 0
        · rw [if_pos (by simpa using hb0), if_pos trivial]
          refine hrec _ (.inr ⟨i, by omega, rfl, by omega, fun j hj h1 => ?_⟩)
          by_cases hji : j = i
          · subst hji; omega
          · rcases hb with ⟨_, hb2⟩ | ⟨v, hv, hb1, _⟩
            · have := hb2 j (by omega); omega
            · omega
        · rw [if_neg (by simpa using hb0)]
          rcases hb with ⟨hb1, _⟩ | ⟨v, hv, hb1, hb2, hb3⟩
          · omega
          · have hgv := getD_of (show v < L.length by omega)
            rw [hb1, idx_nat, List.getElem?_eq_getElem (by omega)]
            simp only [Option.bind_some]
            by_cases hc : L[i] < L[v]
            · rw [if_pos (by simpa using hc)]
              refine hrec _ (.inr ⟨i, by omega, rfl, by omega, fun j hj h1 => ?_⟩)
              by_cases hji : j = i
              · subst hji; omega
              · have := hb3 j (by omega) h1; omega
            · rw [if_neg (by simpa using hc), ← hb1]
              exact hrec _ (stay (.inr ⟨v, hv, hb1, by omega⟩))
      · rw [if_neg (by simpa using h0), if_neg (by simp)]
        exact hrec _ (stay (.inl (by omega)))
    · rw [if_neg (by simp; omega)]
      refine ⟨b, rfl, ?_⟩
      rw [show L.length = i from by omega]; exact hb
theorem least_eq {F : Nat} {X : List (List Int)} {L : List Int} (hm : L.length ≤ 1000000) (hF : L.length < F) : ∃ b', M_core_peeler_least F X L = some (b', X, L) ∧ Best L b' L.length := by
  unfold M_core_peeler_least
  exact least_l hm F 0 (-1) (by omega) (by omega) (.inl ⟨rfl, by omega⟩)
def dl (n : Nat) (L : List Int) (r : List Nat) : List Int := (List.range n).map fun u => if decide (u ∈ r) && decide (0 ≤ L.getD u 0) then L.getD u 0 - 1 else L.getD u 0
theorem dl_len (n : Nat) (L : List Int) (r : List Nat) : (dl n L r).length = n := by simp [dl]
theorem dl_get {n : Nat} {L : List Int} {r : List Nat} {u : Nat} (h : u < n) : (dl n L r)[u]? = some (if decide (u ∈ r) && decide (0 ≤ L.getD u 0) then L.getD u 0 - 1 else L.getD u 0) := by simp [dl, h]
theorem drop_l {F n : Nat} {X : List (List Int)} {L : List Int} {r : List Nat} (hr : ∀ x ∈ r, x < n) (hnd : r.Nodup) (hL : ∀ u, u < n → -1 ≤ L.getD u 0 ∧ L.getD u 0 ≤ 1000000) (hm : r.length ≤ 1000000) : ∀ (k j : Nat), r.length < k + j → j ≤ r.length →
    M_core_peeler_drop_l3 F X (r.map fun (x : Nat) => (x : Int)) k ((j : Int), dl n L (r.take j)) = some (X, dl n L r)
  | 0, _, _, _ => by omega
  | k + 1, j, h, hj => by
    show M_core_peeler_drop_b3 F X (r.map fun (x : Nat) => (x : Int)) (M_core_peeler_drop_l3 F X (r.map fun (x : Nat) => (x : Int)) k) (j : Int) (dl n L (r.take j)) = _
    unfold M_core_peeler_drop_b3 M_core_peeler_drop_j4
    by_cases hlt : j < r.length
    · have hrec := drop_l (F := F) (X := X) hr hnd hL hm k (j + 1) (by omega) (by omega)
      have hx := hr _ (List.getElem_mem hlt)
      have hni : r[j] ∉ r.take j := fun hmem => by
        obtain ⟨i, hi, he⟩ := List.mem_iff_getElem.1 hmem
        rw [List.length_take] at hi
        rw [List.getElem_take] at he
        have := (List.getElem_inj hnd).1 he
        omega
      have hv : (dl n L (r.take j))[r[j]]? = some (L.getD r[j] 0) := by rw [dl_get hx]; simp [hni]
      have hLx := hL _ hx
      have hiff : ∀ u, u ∈ r.take (j + 1) ↔ u ∈ r.take j ∨ u = r[j] := fun u => by rw [take_snoc hlt, List.mem_append, List.mem_singleton]
      rw [if_pos (by simp; omega), idx_nat, List.getElem?_map, List.getElem?_eq_getElem hlt]
      simp only [Option.map_some, Option.bind_some]
      rw [idx_nat, hv]
      simp only [Option.bind_some]
      by_cases h0 : 0 ≤ L.getD r[j] 0
      · rw [if_pos (by simpa using h0), isub_i64 (by omega) (by omega)]
        simp only [lett, Int.toNat_natCast]
        rw [iadd1_n (by omega)]
        have e : (dl n L (r.take j)).set r[j] (L.getD r[j] 0 - 1) = dl n L (r.take (j + 1)) := by
          apply List.ext_getElem (by simp [dl])
          intro u h1 h2
          rw [dl_len] at h2
          rw [List.getElem_set]
          simp only [dl, List.getElem_map, List.getElem_range]
          by_cases hu : r[j] = u
          · subst hu
            rw [if_pos rfl, if_pos (by simp only [Bool.and_eq_true, decide_eq_true_eq]; exact ⟨(hiff _).2 (.inr rfl), h0⟩)]
          · rw [if_neg hu]
            have : decide (u ∈ r.take j) = decide (u ∈ r.take (j + 1)) := decide_eq_decide.2 ⟨fun h => (hiff u).2 (.inl h), fun h => ((hiff u).1 h).resolve_right fun h => hu h.symm⟩
            rw [this]
        rw [e]
        exact hrec
      · rw [if_neg (by simpa using h0), iadd1_n (by omega)]
        have e : dl n L (r.take j) = dl n L (r.take (j + 1)) := by
          apply List.ext_getElem (by simp [dl])
          intro u h1 h2
          simp only [dl, List.getElem_map, List.getElem_range]
          by_cases hu : r[j] = u
          · subst hu
            have hf : decide (0 ≤ L.getD r[j] 0) = false := decide_eq_false h0
            rw [hf, Bool.and_false, Bool.and_false]
          · have : decide (u ∈ r.take j) = decide (u ∈ r.take (j + 1)) := decide_eq_decide.2 ⟨fun h => (hiff u).2 (.inl h), fun h => ((hiff u).1 h).resolve_right fun h => hu h.symm⟩
            rw [this]
        rw [e]
        exact hrec
    · rw [if_neg (by simp; omega), List.take_of_length_le (by omega)]
/-- How many neighbours of each node are left. -/
def lf (g : List (List Int)) (S : Nat → Bool) : List Int := (List.range g.length).map fun v => if S v then (dg g S v : Int) else -1
theorem lf_len (g : List (List Int)) (S : Nat → Bool) : (lf g S).length = g.length := by simp [lf]
theorem lf_get {g : List (List Int)} {S : Nat → Bool} {v : Nat} (h : v < g.length) : (lf g S)[v]? = some (if S v then (dg g S v : Int) else -1) := by simp [lf, h]
theorem lf_getD {g : List (List Int)} {S : Nat → Bool} {v : Nat} (h : v < g.length) : (lf g S).getD v 0 = if S v then (dg g S v : Int) else -1 := by simp [List.getD, lf_get h]
theorem dg_le (g : List (List Int)) (S : Nat → Bool) (v : Nat) : dg g S v ≤ g.length := by
  unfold dg
  exact Nat.le_trans List.countP_le_length (by simp)
theorem drop_eq {F v : Nat} {g : List (List Int)} {S : Nat → Bool} (hF : 2000 ≤ F) (hg : Gr g) (hv : v < g.length) (hS : S v = true) : M_core_peeler_drop F (nr g) (lf g S) (v : Int) = some (nr g, lf g (sub1 S v)) := by
  have h1 := hg.1
  unfold M_core_peeler_drop
  rw [idx_nat, lf_get hv]
  simp only [Option.bind_some, lett, Int.toNat_natCast]
  rw [idx_nat, nr_get hv, cols_nbs]
  simp only [Option.bind_some]
  have hgd : ∀ u, u < g.length → ((lf g S).set v (-1)).getD u 0 = if u = v then -1 else (lf g S).getD u 0 := fun u hu => by
    unfold List.getD
    rw [List.getElem?_set]
    by_cases h : v = u
    · subst h; rw [if_pos rfl, if_pos (by rw [lf_len]; exact hu), if_pos rfl]; rfl
    · rw [if_neg h, if_neg (fun he => h he.symm)]
  have hd0 : (lf g S).set v (-1) = dl g.length ((lf g S).set v (-1)) ((nbs g v).take 0) := by
    apply List.ext_getElem (by simp [dl, lf])
    intro u b1 b2
    simp only [dl, List.getElem_map, List.getElem_range, List.take_zero, List.not_mem_nil, decide_false, Bool.false_and, Bool.false_eq_true, if_false]
    exact (getD_of b1).symm
  have := drop_l (F := F) (n := g.length) (X := nr g) (L := (lf g S).set v (-1)) (r := nbs g v) (fun x hx => (Nb_lt hg ((mem_nbs hg).1 hx)).2) ((nbs_pw g v).imp fun h => by omega) (fun u hu => by
    rw [hgd u hu, lf_getD hu]
    have := dg_le g S u
    split
    · omega
    · split <;> omega) (by have := nbs_len g v; omega) F 0 (by have := nbs_len g v; omega) (by omega)
  rw [← hd0] at this
  refine Eq.trans this ?_
  congr 2
  apply List.ext_getElem (by simp [dl, lf])
  intro u b1 b2
  rw [dl_len] at b1
  simp only [dl, lf, List.getElem_map, List.getElem_range]
  have hgu := hgd u b1
  rw [lf_getD b1] at hgu
  unfold lf at hgu
  rw [hgu]
  by_cases huv : u = v
  · subst huv
    rw [if_pos rfl]
    simp [sub1]
  · rw [if_neg huv]
    have hsub : sub1 S v u = S u := by simp [sub1, huv]
    rw [hsub]
    by_cases hSu : S u = true
    · rw [if_pos hSu, if_pos hSu]
      have hm := dg_minus (g := g) (S := S) (a := v) (v := u) hv hS
      have hmem : decide (u ∈ nbs g v) = Nb g u v := by rw [Nb_sym]; by_cases h : Nb g v u = true
                                                        · rw [h]; exact decide_eq_true ((mem_nbs hg).2 h)
                                                        · rw [Bool.not_eq_true] at h; rw [h]; exact decide_eq_false fun h2 => by rw [(mem_nbs hg).1 h2] at h; cases h
      rw [hmem]
      by_cases hN : Nb g u v = true
      · rw [if_pos hN] at hm
        rw [if_pos (by simp [hN])]; omega
      · rw [if_neg hN] at hm
        rw [if_neg (by simp [hN])]; omega
    · rw [if_neg hSu, if_neg hSu]
      simp
structure PInv (g : List (List Int)) (S : Nat → Bool) (c : Nat → Nat) (most : Nat) : Prop where
  le : ∀ v, v < g.length → S v = false → c v ≤ most
  ub : ∀ k T, KK g k T → (∀ v, v < g.length → T v = true → S v = false → k ≤ c v) ∧ ((∃ v, v < g.length ∧ T v = true ∧ S v = false) → k ≤ most)
  cur : ∃ R, KK g most R ∧ (∀ u, u < g.length → S u = true → R u = true) ∧ ∀ u, u < g.length → R u = true → S u = false → most ≤ c u
  own : ∀ v, v < g.length → S v = false → ∃ T, T v = true ∧ KK g (c v) T ∧ ∀ u, u < g.length → T u = true → S u = false → c v ≤ c u
def upd (c : Nat → Nat) (a x : Nat) : Nat → Nat := fun v => if v = a then x else c v
theorem pinv_step {g : List (List Int)} {S : Nat → Bool} {c : Nat → Nat} {most a : Nat} (h : PInv g S c most) (ha : a < g.length) (hSa : S a = true) (hmin : ∀ u, u < g.length → S u = true → dg g S a ≤ dg g S u) :
    PInv g (sub1 S a) (upd c a (max most (dg g S a))) (max most (dg g S a)) := by
  have hs : ∀ v, sub1 S a v = false → v ≠ a → S v = false := fun v h1 h2 => by simpa [sub1, h2] using h1
  have cur' : ∃ R, KK g (max most (dg g S a)) R ∧ R a = true ∧ (∀ u, u < g.length → sub1 S a u = true → R u = true) ∧ ∀ u, u < g.length → R u = true → sub1 S a u = false → max most (dg g S a) ≤ upd c a (max most (dg g S a)) u := by
    by_cases hd : dg g S a ≤ most
    · obtain ⟨R, r1, r2, r3⟩ := h.cur
      rw [Nat.max_eq_left hd]
      refine ⟨R, r1, r2 a ha hSa, fun u hu hsu => r2 u hu (by simp [sub1] at hsu; exact hsu.1), fun u hu hRu hsu => ?_⟩
      unfold upd
      by_cases hua : u = a
      · rw [if_pos hua]; exact Nat.le_refl _
      · rw [if_neg hua]; exact r3 u hu hRu (hs u hsu hua)
    · rw [Nat.max_eq_right (by omega)]
      refine ⟨S, fun u hu hSu => hmin u hu hSu, hSa, fun u hu hsu => by simp [sub1] at hsu; exact hsu.1, fun u hu hRu hsu => ?_⟩
      unfold upd
      by_cases hua : u = a
      · rw [if_pos hua]; exact Nat.le_refl _
      · have := hs u hsu hua
        rw [hRu] at this; cases this
  have hle : most ≤ max most (dg g S a) := Nat.le_max_left _ _
  have key : ∀ k T, KK g k T → T a = true → k ≤ max most (dg g S a) := fun k T hT hTa => by
    by_cases hex : ∃ v, v < g.length ∧ T v = true ∧ S v = false
    · exact Nat.le_trans ((h.ub k T hT).2 hex) hle
    · have hsub : ∀ u, u < g.length → T u = true → S u = true := fun u hu hTu => by
        cases hSu : S u with
        | true => rfl
        | false => exact absurd ⟨u, hu, hTu, hSu⟩ hex
      exact Nat.le_trans (hT a ha hTa) (Nat.le_trans (dg_mono hsub) (Nat.le_max_right _ _))
  refine ⟨fun v hv hsv => ?_, fun k T hT => ⟨fun v hv hTv hsv => ?_, ?_⟩, ?_, fun v hv hsv => ?_⟩
  · unfold upd
    by_cases hva : v = a
    · rw [if_pos hva]; exact Nat.le_refl _
    · rw [if_neg hva]; exact Nat.le_trans (h.le v hv (hs v hsv hva)) hle
  · unfold upd
    by_cases hva : v = a
    · rw [if_pos hva]; subst hva; exact key k T hT hTv
    · rw [if_neg hva]; exact (h.ub k T hT).1 v hv hTv (hs v hsv hva)
  · rintro ⟨v, hv, hTv, hsv⟩
    by_cases hva : v = a
    · subst hva; exact key k T hT hTv
    · exact Nat.le_trans ((h.ub k T hT).2 ⟨v, hv, hTv, hs v hsv hva⟩) hle
  · obtain ⟨R, r1, _, r2, r3⟩ := cur'
    exact ⟨R, r1, r2, r3⟩
  · by_cases hva : v = a
    · obtain ⟨R, r1, r0, r2, r3⟩ := cur'
      subst hva
      have e : upd c v (max most (dg g S v)) v = max most (dg g S v) := if_pos rfl
      rw [e]
      exact ⟨R, r0, r1, r3⟩
    · obtain ⟨T, t1, t2, t3⟩ := h.own v hv (hs v hsv hva)
      have e : upd c a (max most (dg g S a)) v = c v := if_neg hva
      rw [e]
      refine ⟨T, t1, t2, fun u hu hTu hsu => ?_⟩
      unfold upd
      by_cases hua : u = a
      · rw [if_pos hua]; exact Nat.le_trans (h.le v hv (hs v hsv hva)) hle
      · rw [if_neg hua]; exact t3 u hu hTu (hs u hsu hua)
theorem pinv_done {g : List (List Int)} {S : Nat → Bool} {c : Nat → Nat} {most : Nat} (h : PInv g S c most) (hS : ∀ v, v < g.length → S v = false) : IsCore g c := by
  refine ⟨fun v hv => ?_, fun k T hT v hv hTv => (h.ub k T hT).1 v hv hTv (hS v hv)⟩
  obtain ⟨T, t1, t2, t3⟩ := h.own v hv (hS v hv)
  exact Nat.le_trans (t2 v hv t1) (dg_mono fun u hu hTu => decide_eq_true (t3 u hu hTu (hS u hu)))
/-- A list of numbers of nodes. -/
def nl (n : Nat) (c : Nat → Nat) : List Int := (List.range n).map fun v => (c v : Int)
theorem nl_len (n : Nat) (c : Nat → Nat) : (nl n c).length = n := by simp [nl]
theorem nl_get {n v : Nat} {c : Nat → Nat} (h : v < n) : (nl n c)[v]? = some (c v : Int) := by simp [nl, h]
theorem nl_set {n a x : Nat} {c : Nat → Nat} : (nl n c).set a (x : Int) = nl n (upd c a x) := by
  apply List.ext_getElem (by simp [nl])
  intro v h1 h2
  rw [List.getElem_set]
  simp only [nl, List.getElem_map, List.getElem_range, upd]
  by_cases h : a = v
  · subst h; simp
  · rw [if_neg h, if_neg (fun he => h he.symm)]
def cntS (n : Nat) (S : Nat → Bool) : Nat := (List.range n).countP S
theorem cntS_minus {n a : Nat} {S : Nat → Bool} (ha : a < n) (hs : S a = true) : cntS n S = cntS n (sub1 S a) + 1 := by
  unfold cntS
  rw [countP_minus (a := a) List.nodup_range (List.mem_range.2 ha), if_pos hs]
  rfl
theorem numbers_loop {F : Nat} {g : List (List Int)} (hF : 2000 ≤ F) (hg : Gr g) : ∀ (k : Nat) (S : Nat → Bool) (c : Nat → Nat) (most : Nat) (b : Int), cntS g.length S < k → PInv g S c most → Best (lf g S) b g.length → most ≤ 1000000 →
    ∃ c', IsCore g c' ∧ M_core_Numbers_l5 F k (nl g.length c, (most : Int), b, nr g, lf g S) = some (nl g.length c', 0)
  | 0, _, _, _, _, h, _, _, _ => by omega
  | k + 1, S, c, most, b, h, hp, hb, hm => by
    have h1 := hg.1
    show ∃ c', IsCore g c' ∧ M_core_Numbers_b5 F (M_core_Numbers_l5 F k) (nl g.length c) (most : Int) b (nr g) (lf g S) = _
    unfold M_core_Numbers_b5
    rcases hb with ⟨hb1, hb2⟩ | ⟨v, hv, hb1, hb2, hb3⟩
    · rw [if_neg (by simp; omega)]
      refine ⟨c, pinv_done hp fun v hv => ?_, rfl⟩
      have := hb2 v hv
      rw [lf_getD hv] at this
      cases hS : S v with
      | false => rfl
      | true => rw [hS] at this; simp at this; omega
    · have hSv : S v = true := by
        rw [lf_getD hv] at hb2
        cases hS : S v with
        | true => rfl
        | false => rw [hS] at hb2; simp at hb2
      have hmin : ∀ u, u < g.length → S u = true → dg g S v ≤ dg g S u := fun u hu hSu => by
        have := hb3 u hu (by rw [lf_getD hu, if_pos hSu]; omega)
        rw [lf_getD hu, lf_getD hv, if_pos hSu, if_pos hSv] at this
        omega
      have hdl := dg_le g S v
      rw [if_pos (by simp; omega), hb1, idx_nat, lf_get hv, if_pos hSv]
      simp only [Option.bind_some]
      rw [idx_nat, nl_get hv]
      simp only [Option.bind_some, lett, Int.toNat_natCast]
      have hmx : imax (most : Int) (dg g S v : Int) = ((max most (dg g S v) : Nat) : Int) := by unfold imax; split <;> omega
      rw [hmx, nl_set, drop_eq hF hg hv hSv]
      simp only [Option.bind_some]
      obtain ⟨b', hl, hbb⟩ := least_eq (F := F) (X := nr g) (L := lf g (sub1 S v)) (by rw [lf_len]; omega) (by rw [lf_len]; omega)
      rw [hl]
      simp only [Option.bind_some]
      rw [lf_len] at hbb
      have hc := cntS_minus hv hSv
      exact numbers_loop hF hg k _ _ _ b' (by omega) (pinv_step hp hv hSv hmin) hbb (by omega)
theorem left_l {F : Nat} {g : List (List Int)} (hg : Gr g) : ∀ (k i : Nat), g.length < k + i → i ≤ g.length → ∀ L, L = (lf g fun _ => true).take i →
    M_core_Numbers_l6 F (nr g) k ((i : Int), L) = M_core_Numbers_j2 F (nr g) (lf g fun _ => true)
  | 0, _, _, _ => by omega
  | k + 1, i, h, hi => by
    have h1 := hg.1
    intro L hL
    show M_core_Numbers_b6 F (nr g) (M_core_Numbers_l6 F (nr g) k) (i : Int) L = _
    unfold M_core_Numbers_b6
    have hLl : L.length = i := by rw [hL, List.length_take, lf_len]; omega
    by_cases hlt : i < g.length
    · rw [if_pos (by simp [nr_len]; omega), idx_nat, nr_get hlt]
      simp only [Option.bind_some]
      rw [app_eq (by simp; omega)]
      simp only [Option.bind_some]
      rw [iadd1_n (by omega)]
      refine left_l hg k (i + 1) (by omega) (by omega) _ ?_
      rw [take_snoc (by rw [lf_len]; exact hlt), ← hL]
      congr 2
      have := lf_get (g := g) (S := fun _ => true) hlt
      rw [List.getElem?_eq_getElem (by rw [lf_len]; exact hlt)] at this
      rw [Option.some.inj this, cols_nbs, List.length_map]
      unfold dg nbs
      rw [List.countP_eq_length_filter]
      simp
    · rw [if_neg (by simp [nr_len]; omega)]
      have hi' : i = g.length := by omega
      subst hi'
      rw [List.take_of_length_le (by rw [lf_len]; omega)] at hL
      rw [hL]
theorem numbers_eq {F : Nat} {g : List (List Int)} (hF : 2000 ≤ F) (hg : Gr g) : ∃ c, IsCore g c ∧ M_core_Numbers F g = some (nl g.length c, 0) := by
  have h1 := hg.1
  unfold M_core_Numbers
  rw [graphCheck_eq (by omega), gchk_ok.2 hg]
  simp only [Option.bind_some]
  rw [if_neg (by simp), near_eq hF hg]
  simp only [Option.bind_some]
  have hl := left_l (F := F) hg F 0 (by omega) (by omega) [] (by simp)
  rw [show ((0 : Nat) : Int) = 0 from rfl] at hl
  rw [hl]
  unfold M_core_Numbers_j2
  obtain ⟨b', hl, hbb⟩ := least_eq (F := F) (X := nr g) (L := lf g fun _ => true) (by rw [lf_len]; omega) (by rw [lf_len]; omega)
  rw [lf_len] at hbb
  have hmk : mk 17592186044416 (0 : Int) ((nr g).length : Int) = some (nl g.length fun _ => 0) := by
    unfold mk
    rw [nr_len, if_pos ⟨by omega, by omega⟩, Int.toNat_natCast]
    congr 1
    apply List.ext_getElem (by simp [nl])
    intro v b1 b2
    simp [nl]
  rw [hmk, hl]
  simp only [Option.bind_some]
  have hcl : cntS g.length (fun _ => true) ≤ g.length := by
    unfold cntS
    exact Nat.le_trans List.countP_le_length (by simp)
  exact numbers_loop hF hg F (fun _ => true) (fun _ => 0) 0 b' (by omega) ⟨fun v _ h => by simp at h, fun k T _ => ⟨fun v _ _ h => by simp at h, fun ⟨v, _, _, h⟩ => by simp at h⟩, ⟨fun _ => true, fun v _ _ => Nat.zero_le _, fun _ _ _ => rfl, fun _ _ _ h => by simp at h⟩, fun v _ h => by simp at h⟩ hbb (by omega)
theorem numbers_bad {F : Nat} {g : List (List Int)} (hF : 2000 ≤ F) (h : gchk g ≠ 0) : M_core_Numbers F g = some ([], gchk g) := by
  unfold M_core_Numbers
  rw [graphCheck_eq (by omega)]
  simp only [Option.bind_some]
  rw [if_pos (by simpa using h)]
theorem mk_rep {α : Type} {lim n : Nat} {y : α} (h : n ≤ lim) : mk lim y (n : Int) = some (List.replicate n y) := by
  unfold mk
  rw [if_pos ⟨by omega, by omega⟩, Int.toNat_natCast]
def runFoldL {σ τ : Type} (yy : σ → List Int → Option (σ ⊕ τ)) : List (List Int) → σ → Option (σ ⊕ τ)
  | [], s => some (.inl s)
  | r :: R, s => (yy s r).bind (Sum.elim (fun s' => runFoldL yy R s') (fun t => some (.inr t)))
theorem runFoldL_app {σ τ : Type} {yy : σ → List Int → Option (σ ⊕ τ)} : ∀ (A B : List (List Int)) (s : σ), runFoldL yy (A ++ B) s = (runFoldL yy A s).bind (Sum.elim (fun s' => runFoldL yy B s') (fun t => some (.inr t)))
  | [], B, s => rfl
  | p :: A, B, s => by
    show (yy s p).bind _ = ((yy s p).bind _).bind _
    cases yy s p with
    | none => rfl
    | some r =>
      cases r with
      | inl s' => exact runFoldL_app A B s'
      | inr t => rfl
def rowX (X : List (List Int)) (b : Int) : List Int := X.getD b.toNat []
def t3 (X : List (List Int)) (a b : Int) (cs : List Int) : List (List Int) := (cs.filter fun c => decide (c ∈ rowX X b) && decide (a < b)).map fun c => [a, b, c]
def t2 (X : List (List Int)) (a : Int) : List Int → List (List Int)
  | [] => []
  | b :: cs => t3 X a b cs ++ t2 X a cs
def t1 (X : List (List Int)) (i : Nat) : List (List Int) → List (List Int)
  | [] => []
  | l :: R => t2 X (i : Int) l ++ t1 X (i + 1) R
/-- Rows that rise, of nodes. -/
def Rws (X : List (List Int)) : Prop := X.length ≤ 100 ∧ ∀ l ∈ X, l.Pairwise (· < ·) ∧ l.length ≤ 100 ∧ ∀ x ∈ l, 0 ≤ x ∧ x < (X.length : Int)
theorem th_in {σ τ : Type} {F : Nat} {yy : σ → List Int → Option (σ ⊕ τ)} {X : List (List Int)} {a b : Int} {cs : List Int} {i : Nat} {rec163 : (Int × σ) → Option (σ ⊕ τ)} (hF : 200000 ≤ F) (hX : Rws X) (hb : 0 ≤ b ∧ b < (X.length : Int)) (hm : cs.length ≤ 1000000) : ∀ (k j : Nat) (s : σ), cs.length < k + j → j ≤ cs.length →
    M_core_threes_1_l171 F yy rec163 X a (i : Int) b cs k ((j : Int), s) = (runFoldL yy (t3 X a b (cs.drop j)) s).bind (Sum.elim (fun s' => M_core_threes_1_j168 F yy rec163 (i : Int) s') (fun t => some (.inr t)))
  | 0, _, _, _, _ => by omega
  | k + 1, j, s, h, hj => by
    show M_core_threes_1_b171 F yy rec163 X a (i : Int) b cs (M_core_threes_1_l171 F yy rec163 X a (i : Int) b cs k) (j : Int) s = _
    unfold M_core_threes_1_b171 M_core_threes_1_j172
    by_cases hlt : j < cs.length
    · obtain ⟨bn, rfl⟩ := Int.eq_ofNat_of_zero_le hb.1
      have hbl : bn < X.length := by omega
      have hrow := hX.2 _ (List.getElem_mem hbl)
      have hrec := fun s => th_in (F := F) (yy := yy) (X := X) (a := a) (b := (bn : Int)) (i := i) (rec163 := rec163) hF hX hb hm k (j + 1) s (by omega) (by omega)
      rw [if_pos (by simp; omega), idx_nat, List.getElem?_eq_getElem hlt, List.drop_eq_getElem_cons hlt]
      simp only [Option.bind_some]
      rw [idx_nat, List.getElem?_eq_getElem hbl]
      simp only [Option.bind_some]
      obtain ⟨p, hp⟩ := search_eq (F := F) hF (v := cs[j]) hrow.1 (by omega)
      rw [hp]
      simp only [Option.bind_some]
      rw [iadd1_n (by omega)]
      have e : rowX X (bn : Int) = X[bn] := by unfold rowX; simp [List.getD, List.getElem?_eq_getElem hbl]
      by_cases hc : (decide (cs[j] ∈ X[bn]) && decide (a < (bn : Int))) = true
      · have e3 : t3 X a (bn : Int) (cs[j] :: cs.drop (j + 1)) = [a, (bn : Int), cs[j]] :: t3 X a (bn : Int) (cs.drop (j + 1)) := by
          unfold t3
          rw [List.filter_cons_of_pos (by rw [e]; exact hc), List.map_cons]
        rw [if_pos hc, e3]
        unfold runFoldL
        cases yy s [a, (bn : Int), cs[j]] with
        | none => rfl
        | some r =>
          cases r with
          | inl s' => exact hrec s'
          | inr t => rfl
      · have e3 : t3 X a (bn : Int) (cs[j] :: cs.drop (j + 1)) = t3 X a (bn : Int) (cs.drop (j + 1)) := by
          unfold t3
          rw [List.filter_cons_of_neg (by rw [e]; exact hc)]
        rw [if_neg hc, e3]
        exact hrec s
    · rw [if_neg (by simp; omega), List.drop_eq_nil_of_le (by omega)]
      rfl
theorem th_mid {σ τ : Type} {F a : Nat} {yy : σ → List Int → Option (σ ⊕ τ)} {X : List (List Int)} {l : List Int} {rec115 : (Int × σ) → Option (σ ⊕ τ)} (hF : 200000 ≤ F) (hX : Rws X) (hl : ∀ x ∈ l, 0 ≤ x ∧ x < (X.length : Int)) (hm : l.length ≤ 100) : ∀ (k i : Nat) (s : σ), l.length < k + i → i ≤ l.length →
    M_core_threes_1_l163 F yy rec115 X (a : Int) l k ((i : Int), s) = (runFoldL yy (t2 X (a : Int) (l.drop i)) s).bind (Sum.elim (fun s' => M_core_threes_1_j144 F yy rec115 (a : Int) s') (fun t => some (.inr t)))
  | 0, _, _, _, _ => by omega
  | k + 1, i, s, h, hi => by
    show M_core_threes_1_b163 F yy rec115 X (a : Int) l (M_core_threes_1_l163 F yy rec115 X (a : Int) l k) (i : Int) s = _
    unfold M_core_threes_1_b163
    by_cases hlt : i < l.length
    · have hs := sub_n (l := l) (i := i + 1) (j := l.length) (by omega) (by omega)
      rw [List.take_length] at hs
      rw [if_pos (by simp; omega), idx_nat, List.getElem?_eq_getElem hlt, List.drop_eq_getElem_cons hlt]
      simp only [Option.bind_some]
      rw [iadd1_n (by omega), hs]
      simp only [Option.bind_some]
      have hin := th_in (F := F) (yy := yy) (X := X) (a := (a : Int)) (b := l[i]) (cs := l.drop (i + 1)) (i := i) (rec163 := M_core_threes_1_l163 F yy rec115 X (a : Int) l k) hF hX (hl _ (List.getElem_mem hlt)) (by simp; omega) F 0 s (by simp; omega) (by omega)
      rw [List.drop_zero] at hin
      refine Eq.trans hin ?_
      unfold t2
      rw [runFoldL_app]
      cases runFoldL yy (t3 X (a : Int) l[i] (l.drop (i + 1))) s with
      | none => rfl
      | some r =>
        cases r with
        | inl s' =>
          simp only [Option.bind_some, Sum.elim_inl]
          unfold M_core_threes_1_j168
          rw [iadd1_n (by omega)]
          exact th_mid hF hX hl hm k (i + 1) s' (by omega) (by omega)
        | inr t => rfl
    · rw [if_neg (by simp; omega), List.drop_eq_nil_of_le (by omega)]
      rfl
theorem th_out {σ τ : Type} {F : Nat} {yy : σ → List Int → Option (σ ⊕ τ)} {X : List (List Int)} (hF : 200000 ≤ F) (hX : Rws X) : ∀ (k a : Nat) (s : σ), X.length < k + a → a ≤ X.length →
    M_core_threes_1_l115 F yy X k ((a : Int), s) = runFoldL yy (t1 X a (X.drop a)) s
  | 0, _, _, _, _ => by omega
  | k + 1, a, s, h, ha => by
    have h1 := hX.1
    show M_core_threes_1_b115 F yy X (M_core_threes_1_l115 F yy X k) (a : Int) s = _
    unfold M_core_threes_1_b115
    by_cases hlt : a < X.length
    · have hrow := hX.2 _ (List.getElem_mem hlt)
      rw [if_pos (by simp; omega), idx_nat, List.getElem?_eq_getElem hlt, List.drop_eq_getElem_cons hlt]
      simp only [Option.bind_some]
      have hin := th_mid (F := F) (a := a) (yy := yy) (X := X) (l := X[a]) (rec115 := M_core_threes_1_l115 F yy X k) hF hX hrow.2.2 hrow.2.1 F 0 s (by omega) (by omega)
      rw [List.drop_zero] at hin
      refine Eq.trans hin ?_
      unfold t1
      rw [runFoldL_app]
      cases runFoldL yy (t2 X (a : Int) X[a]) s with
      | none => rfl
      | some r =>
        cases r with
        | inl s' =>
          simp only [Option.bind_some, Sum.elim_inl]
          unfold M_core_threes_1_j144
          rw [iadd1_n (by omega)]
          exact th_out hF hX k (a + 1) s' (by omega) (by omega)
        | inr t => rfl
    · rw [if_neg (by simp; omega), List.drop_eq_nil_of_le (by omega)]
      rfl
/-- How often each node stands in a list. -/
def cnt (n : Nat) (l : List Int) : List Int := (List.range n).map fun (i : Nat) => ((l.count (i : Int) : Nat) : Int)
theorem cnt_len (n : Nat) (l : List Int) : (cnt n l).length = n := by simp [cnt]
theorem cnt_get {n i : Nat} {l : List Int} (h : i < n) : (cnt n l)[i]? = some ((l.count (i : Int) : Nat) : Int) := by simp [cnt, h]
theorem cnt_snoc {n a : Nat} {l : List Int} : (cnt n l).set a ((l.count (a : Int) + 1 : Nat) : Int) = cnt n (l ++ [(a : Int)]) := by
  apply List.ext_getElem (by simp [cnt])
  intro i h1 h2
  rw [List.getElem_set]
  simp only [cnt, List.getElem_map, List.getElem_range, List.count_append]
  by_cases h : a = i
  · subst h; rw [if_pos rfl]; simp
  · rw [if_neg h]
    have : ¬ (a : Int) = (i : Int) := by omega
    simp [this]
theorem cnt_inc {n a : Nat} {l : List Int} {lim : Nat} (ha : a < n) (hl : l.length ≤ lim) (hlim : lim ≤ 1000000000) : idx (cnt n l) (a : Int) = some ((l.count (a : Int) : Nat) : Int) ∧ (cnt n l).set a (iadd .i64 ((l.count (a : Int) : Nat) : Int) 1) = cnt n (l ++ [(a : Int)]) := by
  have := List.count_le_length (a := (a : Int)) (l := l)
  exact ⟨by rw [idx_nat, cnt_get ha], by rw [iadd1_n (by omega), cnt_snoc]⟩
theorem th_yield {F n : Nat} {al : Nat} {l : List Int} {a b c : Nat} (hF : 10 ≤ F) (ha : a < n) (hb : b < n) (hc : c < n) (hl : l.length ≤ 100000000) (hal : al ≤ 100000000) : M_core_Threes_r5 F (al : Int) (cnt n l) [(a : Int), (b : Int), (c : Int)] = some (.inl (((al + 1 : Nat) : Int), cnt n (l ++ [(a : Int), (b : Int), (c : Int)]))) := by
  obtain ⟨k, rfl⟩ := Nat.exists_eq_add_of_le hF
  unfold M_core_Threes_r5 chk
  rw [if_pos (by simp), if_pos (by simp), Nat.add_comm]
  have step : ∀ (fu x i : Nat) (l : List Int) (m : List Int), x < n → l.length ≤ 200000000 → i < 3 → [(a : Int), (b : Int), (c : Int)][i]? = some (x : Int) → M_core_Threes_l8 (k + 10) (al : Int) [(a : Int), (b : Int), (c : Int)] (fu + 1) ((i : Int), cnt n l) = M_core_Threes_l8 (k + 10) (al : Int) [(a : Int), (b : Int), (c : Int)] fu (((i + 1 : Nat) : Int), cnt n (l ++ [(x : Int)])) := by
    intro fu x i l m hx hl hi hg
    show M_core_Threes_b8 (k + 10) (al : Int) [(a : Int), (b : Int), (c : Int)] (M_core_Threes_l8 (k + 10) (al : Int) [(a : Int), (b : Int), (c : Int)] fu) (i : Int) (cnt n l) = _
    unfold M_core_Threes_b8
    obtain ⟨e1, e2⟩ := cnt_inc (n := n) (a := x) (l := l) (lim := 200000000) hx hl (by omega)
    rw [if_pos (by simp; omega)]
    simp only [chk]
    rw [if_pos (by simp), idx_nat, hg]
    simp only [Option.bind_some]
    rw [e1]
    simp only [Option.bind_some, lett, Int.toNat_natCast]
    rw [e2, iadd1_n (by omega)]
  have h0 := step (k + 9) a 0 l [] ha (by omega) (by omega) rfl
  have h1 := step (k + 8) b 1 (l ++ [(a : Int)]) [] hb (by simp; omega) (by omega) rfl
  have h2 := step (k + 7) c 2 (l ++ [(a : Int)] ++ [(b : Int)]) [] hc (by simp; omega) (by omega) rfl
  refine Eq.trans h0 (Eq.trans h1 (Eq.trans h2 ?_))
  show M_core_Threes_b8 (k + 10) (al : Int) [(a : Int), (b : Int), (c : Int)] (M_core_Threes_l8 (k + 10) (al : Int) [(a : Int), (b : Int), (c : Int)] (k + 6)) ((3 : Nat) : Int) (cnt n (l ++ [(a : Int)] ++ [(b : Int)] ++ [(c : Int)])) = _
  unfold M_core_Threes_b8
  rw [if_neg (by simp), iadd1_n (by omega)]
  simp
def Tri (n : Nat) (x : List Int) : Prop := ∃ a b c : Nat, x = [(a : Int), (b : Int), (c : Int)] ∧ a < n ∧ b < n ∧ c < n
theorem th_fold {F n : Nat} {yy : (Int × List Int) → List Int → Option ((Int × List Int) ⊕ Empty)} (hF : 10 ≤ F) (hy : ∀ s p, yy s p = M_core_Threes_r5 F s.1 s.2 p) : ∀ (A acc : List (List Int)), (∀ x ∈ A, Tri n x) → (∀ x ∈ acc, Tri n x) → acc.length + A.length ≤ 10000000 →
    runFoldL yy A ((acc.length : Int), cnt n acc.flatten) = some (.inl (((acc ++ A).length : Int), cnt n (acc ++ A).flatten))
  | [], acc, _, _, _ => by rw [List.append_nil]; rfl
  | p :: A, acc, h, hacc, hm => by
    rw [List.length_cons] at hm
    obtain ⟨a, b, c, rfl, ha, hb, hc⟩ := h p (by simp)
    have hrec := th_fold hF hy A (acc ++ [[(a : Int), (b : Int), (c : Int)]]) (fun q hq => h q (by simp [hq])) (fun q hq => by
      rcases List.mem_append.1 hq with hq | hq
      · exact hacc q hq
      · rw [List.mem_singleton] at hq; exact hq ▸ ⟨a, b, c, rfl, ha, hb, hc⟩) (by simp; omega)
    have hfl : ∀ (L : List (List Int)), (∀ x ∈ L, Tri n x) → L.flatten.length = 3 * L.length := by
      intro L
      induction L with
      | nil => intro _; rfl
      | cons x L ih =>
        intro hL
        obtain ⟨a', b', c', rfl, _⟩ := hL x (by simp)
        rw [List.flatten_cons, List.length_append, ih fun y hy => hL y (by simp [hy])]
        simp; omega
    have := hfl acc hacc
    show (yy _ _).bind _ = _
    rw [hy, th_yield hF ha hb hc (by omega) (by omega)]
    simp only [Option.bind_some, Sum.elim_inl]
    rw [List.append_assoc, List.flatten_append, List.length_append] at hrec
    simp only [List.flatten_cons, List.flatten_nil, List.append_nil, List.length_singleton] at hrec
    exact hrec
theorem mem_t3 {X : List (List Int)} {a b : Int} {cs x : List Int} : x ∈ t3 X a b cs ↔ ∃ c, c ∈ cs ∧ c ∈ rowX X b ∧ a < b ∧ x = [a, b, c] := by
  unfold t3
  rw [List.mem_map]
  constructor
  · rintro ⟨c, hc, rfl⟩
    obtain ⟨h1, h2⟩ := List.mem_filter.1 hc
    simp only [Bool.and_eq_true, decide_eq_true_eq] at h2
    exact ⟨c, h1, h2.1, h2.2, rfl⟩
  · rintro ⟨c, h1, h2, h3, rfl⟩
    exact ⟨c, List.mem_filter.2 ⟨h1, by simp [h2, h3]⟩, rfl⟩
theorem mem_t2 {X : List (List Int)} {a : Int} {x : List Int} : ∀ {l : List Int}, l.Pairwise (· < ·) → (x ∈ t2 X a l ↔ ∃ b c, b ∈ l ∧ c ∈ l ∧ b < c ∧ c ∈ rowX X b ∧ a < b ∧ x = [a, b, c])
  | [], _ => by simp [t2]
  | b :: cs, h => by
    obtain ⟨h1, h2⟩ := List.pairwise_cons.1 h
    unfold t2
    rw [List.mem_append, mem_t3, mem_t2 h2]
    constructor
    · rintro (⟨c, c1, c2, c3, c4⟩ | ⟨b', c, c1, c2, c3, c4, c5, c6⟩)
      · exact ⟨b, c, by simp, by simp [c1], h1 c c1, c2, c3, c4⟩
      · exact ⟨b', c, by simp [c1], by simp [c2], c3, c4, c5, c6⟩
    · rintro ⟨b', c, c1, c2, c3, c4, c5, c6⟩
      rcases List.mem_cons.1 c1 with d1 | d1
      · subst d1
        rcases List.mem_cons.1 c2 with d2 | d2
        · omega
        · exact .inl ⟨c, d2, c4, c5, c6⟩
      · rcases List.mem_cons.1 c2 with d2 | d2
        · have := h1 b' d1; omega
        · exact .inr ⟨b', c, d1, d2, c3, c4, c5, c6⟩
theorem mem_t1 {X : List (List Int)} {x : List Int} : ∀ {R : List (List Int)} {i : Nat}, x ∈ t1 X i R ↔ ∃ j l, R[j]? = some l ∧ x ∈ t2 X ((i + j : Nat) : Int) l
  | [], i => by simp [t1]
  | l :: R, i => by
    unfold t1
    rw [List.mem_append, mem_t1 (R := R)]
    constructor
    · rintro (h | ⟨j, l', h1, h2⟩)
      · exact ⟨0, l, by simp, by simpa using h⟩
      · exact ⟨j + 1, l', by simpa using h1, by rw [show i + (j + 1) = i + 1 + j by omega]; exact h2⟩
    · rintro ⟨j, l', h1, h2⟩
      cases j with
      | zero =>
        simp only [List.getElem?_cons_zero, Option.some.injEq] at h1
        subst h1
        exact .inl (by simpa using h2)
      | succ j => exact .inr ⟨j, l', by simpa using h1, by rw [show i + 1 + j = i + (j + 1) by omega]; exact h2⟩
theorem t3_nodup {X : List (List Int)} {a b : Int} {cs : List Int} (h : cs.Nodup) : (t3 X a b cs).Nodup := by
  have h : cs.Pairwise fun x y => x ≠ y := h
  show (t3 X a b cs).Pairwise fun x y => x ≠ y
  unfold t3
  rw [List.pairwise_map]
  exact (h.filter _).imp fun hxy he => hxy (by simpa using he)
theorem t2_nodup {X : List (List Int)} {a : Int} : ∀ {l : List Int}, l.Pairwise (· < ·) → (t2 X a l).Nodup
  | [], _ => by simp [t2]
  | b :: cs, h => by
    obtain ⟨h1, h2⟩ := List.pairwise_cons.1 h
    unfold t2
    rw [List.nodup_append]
    refine ⟨t3_nodup (h2.imp fun h => by omega), t2_nodup h2, fun x hx y hy he => ?_⟩
    obtain ⟨c, _, _, _, rfl⟩ := mem_t3.1 hx
    obtain ⟨b', c', c1, _, _, _, _, rfl⟩ := (mem_t2 h2).1 hy
    have := h1 b' c1
    simp at he; omega
theorem t1_nodup {X : List (List Int)} : ∀ {R : List (List Int)} {i : Nat}, (∀ l ∈ R, l.Pairwise (· < ·)) → (t1 X i R).Nodup
  | [], _, _ => by simp [t1]
  | l :: R, i, h => by
    unfold t1
    rw [List.nodup_append]
    refine ⟨t2_nodup (h l (by simp)), t1_nodup fun l' hl => h l' (by simp [hl]), fun x hx y hy he => ?_⟩
    obtain ⟨b, c, _, _, _, _, _, rfl⟩ := (mem_t2 (h l (by simp))).1 hx
    obtain ⟨j, l', h1, h2⟩ := mem_t1.1 hy
    obtain ⟨b', c', _, _, _, _, _, rfl⟩ := (mem_t2 (h l' (by simp [List.mem_of_getElem? h1]))).1 h2
    simp at he; omega
theorem t2_len {X : List (List Int)} {a : Int} : ∀ (l : List Int), (t2 X a l).length ≤ l.length * l.length
  | [] => by simp [t2]
  | b :: cs => by
    have := t2_len (X := X) (a := a) cs
    have h3 : (t3 X a b cs).length ≤ cs.length := by
      unfold t3
      rw [List.length_map]
      exact List.length_filter_le _ _
    unfold t2
    rw [List.length_append, List.length_cons]
    have : (cs.length + 1) * (cs.length + 1) = cs.length * cs.length + 2 * cs.length + 1 := by
      rw [Nat.add_mul, Nat.mul_add]; omega
    omega
theorem t1_len {X : List (List Int)} : ∀ (R : List (List Int)) (i : Nat), (∀ l ∈ R, l.length ≤ 100) → (t1 X i R).length ≤ 10000 * R.length
  | [], _, _ => by simp [t1]
  | l :: R, i, h => by
    have h1 := t1_len (X := X) R (i + 1) fun l' hl => h l' (by simp [hl])
    have h2 := t2_len (X := X) (a := (i : Int)) l
    have h3 : l.length * l.length ≤ 100 * 100 := Nat.mul_le_mul (h l (by simp)) (h l (by simp))
    unfold t1
    rw [List.length_append, List.length_cons]
    omega
theorem nr_rws {g : List (List Int)} (hg : Gr g) : Rws (nr g) := by
  have h1 := hg.1
  refine ⟨by rw [nr_len]; exact h1, fun l hl => ?_⟩
  obtain ⟨i, hi⟩ := List.getElem?_of_mem hl
  have hlt : i < g.length := by have := (List.getElem?_eq_some_iff.1 hi).1; rwa [nr_len] at this
  rw [nr_get hlt] at hi
  cases hi
  refine ⟨((nr_isTab hg).2 i _ (nr_get hlt)).1, Nat.le_trans (cols_len _ _ _) h1, fun x hx => ?_⟩
  have := exA_in (gr_in hg) _ (((nr_isTab hg).2 i _ (nr_get hlt)).2 x |>.1 hx)
  rw [nr_len]
  exact ⟨this.2.2.1, this.2.2.2⟩
/-- All threes. -/
def th (g : List (List Int)) : List (List Int) := t1 (nr g) 0 (nr g)
theorem mem_th {g : List (List Int)} (hg : Gr g) {x : List Int} : x ∈ th g ↔ ∃ a b c : Nat, x = [(a : Int), (b : Int), (c : Int)] ∧ a < b ∧ b < c ∧ c < g.length ∧ Nb g a b = true ∧ Nb g a c = true ∧ Nb g b c = true := by
  have hr := nr_rws hg
  unfold th
  rw [mem_t1]
  have hrow : ∀ (b : Nat) (z : Int), b < g.length → (z ∈ rowX (nr g) (b : Int) ↔ ((b : Int), z) ∈ E g) := fun b z hb => by
    unfold rowX
    rw [Int.toNat_natCast, List.getD, nr_get hb, Option.getD_some]
    exact ((nr_isTab hg).2 b _ (nr_get hb)).2 z
  constructor
  · rintro ⟨a, l, h1, h2⟩
    rw [Nat.zero_add] at h2
    have hal : a < g.length := by have := (List.getElem?_eq_some_iff.1 h1).1; rwa [nr_len] at this
    have hl := hr.2 l (List.mem_of_getElem? h1)
    have hm := ((nr_isTab hg).2 a _ h1).2
    obtain ⟨b, c, c1, c2, c3, c4, c5, rfl⟩ := (mem_t2 hl.1).1 h2
    have hb := hl.2.2 b c1
    have hc := hl.2.2 c c2
    rw [nr_len] at hb hc
    obtain ⟨bn, rfl⟩ := Int.eq_ofNat_of_zero_le hb.1
    obtain ⟨cn, rfl⟩ := Int.eq_ofNat_of_zero_le hc.1
    refine ⟨a, bn, cn, rfl, by omega, by omega, by omega, decide_eq_true ((hm _).1 c1), decide_eq_true ((hm _).1 c2), decide_eq_true ((hrow bn _ (by omega)).1 c4)⟩
  · rintro ⟨a, b, c, rfl, h1, h2, h3, n1, n2, n3⟩
    have hal : a < g.length := by omega
    have hm := ((nr_isTab hg).2 a _ (nr_get hal)).2
    refine ⟨a, _, nr_get hal, ?_⟩
    rw [Nat.zero_add]
    exact (mem_t2 ((nr_isTab hg).2 a _ (nr_get hal)).1).2 ⟨(b : Int), (c : Int), (hm _).2 (of_decide_eq_true n1), (hm _).2 (of_decide_eq_true n2), by omega, (hrow b _ (by omega)).2 (of_decide_eq_true n3), by omega, rfl⟩
theorem th_tri {g : List (List Int)} (hg : Gr g) : ∀ x ∈ th g, Tri g.length x := fun x hx => by
  obtain ⟨a, b, c, rfl, h1, h2, h3, _⟩ := (mem_th hg).1 hx
  exact ⟨a, b, c, rfl, by omega, by omega, h3⟩
theorem th_nodup {g : List (List Int)} (hg : Gr g) : (th g).Nodup := t1_nodup fun l hl => ((nr_rws hg).2 l hl).1
theorem th_len {g : List (List Int)} (hg : Gr g) : (th g).length ≤ 1000000 := by
  have h1 := hg.1
  have := t1_len (X := nr g) (nr g) 0 fun l hl => ((nr_rws hg).2 l hl).2.1
  unfold th
  rw [nr_len] at this
  omega
theorem threes_eq {F : Nat} {g : List (List Int)} (hF : 200000 ≤ F) (hg : Gr g) : M_core_Threes F g = some (cnt g.length (th g).flatten, ((th g).length : Int), 0) := by
  have h1 := hg.1
  unfold M_core_Threes
  rw [graphCheck_eq (by omega), gchk_ok.2 hg]
  simp only [Option.bind_some]
  rw [if_neg (by simp), mk_rep (by omega)]
  simp only [Option.bind_some]
  rw [near_eq (by omega) hg]
  simp only [Option.bind_some]
  unfold M_core_threes M_core_threes_1
  simp only [Option.bind_some]
  have ho := th_out (F := F) (yy := fun (x : Int × List Int) x_1 => M_core_Threes_r5 F x.1 x.2 x_1) hF (nr_rws hg) F 0 (0, List.replicate g.length 0) (by rw [nr_len]; omega) (by omega)
  rw [List.drop_zero] at ho
  have hf := th_fold (F := F) (n := g.length) (yy := fun x x_1 => M_core_Threes_r5 F x.1 x.2 x_1) (by omega) (fun _ _ => rfl) (th g) [] (th_tri hg) (by simp) (by have := th_len hg; simp; omega)
  have e0 : cnt g.length ([] : List (List Int)).flatten = List.replicate g.length 0 := by
    apply List.ext_getElem (by simp [cnt])
    intro v b1 b2
    simp [cnt]
  rw [e0, List.nil_append] at hf
  have hf' : runFoldL (fun (x : Int × List Int) x_1 => M_core_Threes_r5 F x.1 x.2 x_1) (t1 (nr g) 0 (nr g)) (0, List.replicate g.length 0) = _ := hf
  rw [hf'] at ho
  refine (congrArg (fun z => Option.bind z _) ho).trans ?_
  rfl
theorem threes_bad {F : Nat} {g : List (List Int)} (hF : 2000 ≤ F) (h : gchk g ≠ 0) : M_core_Threes F g = some ([], 0, gchk g) := by
  unfold M_core_Threes
  rw [graphCheck_eq (by omega)]
  simp only [Option.bind_some]
  rw [if_pos (by simpa using h)]
def oL (n : Nat) (o : Nat → Int) : List Int := (List.range n).map o
theorem oL_len (n : Nat) (o : Nat → Int) : (oL n o).length = n := by simp [oL]
theorem oL_get {n v : Nat} {o : Nat → Int} (h : v < n) : (oL n o)[v]? = some (o v) := by simp [oL, h]
def updI (o : Nat → Int) (a : Nat) (x : Int) : Nat → Int := fun v => if v = a then x else o v
theorem oL_set {n a : Nat} {x : Int} {o : Nat → Int} : (oL n o).set a x = oL n (updI o a x) := by
  apply List.ext_getElem (by simp [oL])
  intro v h1 h2
  rw [List.getElem_set]
  simp only [oL, List.getElem_map, List.getElem_range, updI]
  by_cases h : a = v
  · subst h; simp
  · rw [if_neg h, if_neg (fun he => h he.symm)]
/-- Who comes into question. -/
def cand (g : List (List Int)) (a : Nat) (o : Nat → Int) : Option Nat := (List.range g.length).find? fun b => Nb g a b && (decide (a < b) && decide (o b < 0))
def pstep (g : List (List Int)) (a : Nat) (o : Nat → Int) : Nat → Int := match cand g a o with
  | none => o
  | some b => if o a < 0 then updI (updI o a b) b a else o
def prs (g : List (List Int)) : Nat → Nat → Int
  | 0 => fun _ => -1
  | a + 1 => pstep g a (prs g a)
theorem index_l {F a n : Nat} {o : Nat → Int} (hm : n ≤ 1000000) : ∀ (l : List Nat) (k i : Nat) (L : List Int), (∀ x ∈ l, x < n) → L.drop i = (l.map fun (x : Nat) => (x : Int)) → i ≤ L.length → L.length < k + i → L.length ≤ 1000000 →
    (∃ (j b : Nat), M_slices_IndexFunc_int_int_core_Pairs_1_l3 F L (a : Int) (oL n o) k (i : Int) = some ((i + j : Nat) : Int) ∧ L[i + j]? = some (b : Int) ∧ l.find? (fun b => decide (a < b) && decide (o b < 0)) = some b) ∨
    (M_slices_IndexFunc_int_int_core_Pairs_1_l3 F L (a : Int) (oL n o) k (i : Int) = some (-1) ∧ l.find? (fun b => decide (a < b) && decide (o b < 0)) = none)
  | _, 0, i, L, _, _, h1, h2, _ => by omega
  | [], k + 1, i, L, _, hd, h1, h2, _ => by
    right
    have : L.length ≤ i := by
      have := congrArg List.length hd
      simp at this; omega
    refine ⟨?_, rfl⟩
    show M_slices_IndexFunc_int_int_core_Pairs_1_b3 F L (a : Int) (oL n o) (M_slices_IndexFunc_int_int_core_Pairs_1_l3 F L (a : Int) (oL n o) k) (i : Int) = _
    unfold M_slices_IndexFunc_int_int_core_Pairs_1_b3
    rw [if_neg (by simp; omega)]
    rfl
  | x :: l, k + 1, i, L, hx, hd, h1, h2, hL => by
    have hlen : L.length - i = (x :: l).length := by
      have := congrArg List.length hd
      simpa using this
    rw [List.length_cons] at hlen
    have hlt : i < L.length := by omega
    rw [List.drop_eq_getElem_cons hlt, List.map_cons, List.cons.injEq] at hd
    obtain ⟨hd1, hd2⟩ := hd
    have hxn := hx x (by simp)
    have hgo : M_slices_IndexFunc_int_int_core_Pairs_1_l3 F L (a : Int) (oL n o) (k + 1) (i : Int) = if decide (a < x) && decide (o x < 0) then some (i : Int) else M_slices_IndexFunc_int_int_core_Pairs_1_l3 F L (a : Int) (oL n o) k ((i + 1 : Nat) : Int) := by
      show M_slices_IndexFunc_int_int_core_Pairs_1_b3 F L (a : Int) (oL n o) (M_slices_IndexFunc_int_int_core_Pairs_1_l3 F L (a : Int) (oL n o) k) (i : Int) = _
      unfold M_slices_IndexFunc_int_int_core_Pairs_1_b3
      rw [if_pos (by simp; omega), idx_nat, List.getElem?_eq_getElem hlt, hd1]
      simp only [Option.bind_some]
      rw [iadd1_n (by omega)]
      unfold M_core_Pairs_1 M_core_Pairs_1_j1
      by_cases hc : a < x
      · rw [if_pos (by simp; omega), idx_nat, oL_get hxn]
        simp [hc]
      · rw [if_neg (by simp; omega)]
        simp [hc]
    rw [hgo, List.find?_cons]
    by_cases hc : (decide (a < x) && decide (o x < 0)) = true
    · rw [hc]
      left
      exact ⟨0, x, rfl, by rw [Nat.add_zero, List.getElem?_eq_getElem hlt, hd1], rfl⟩
    · rw [if_neg hc]
      rw [Bool.not_eq_true] at hc
      rw [hc]
      rcases index_l (F := F) (a := a) (o := o) hm l k (i + 1) L (fun y hy => hx y (by simp [hy])) hd2 (by omega) (by omega) hL with ⟨j, b, e1, e2, e3⟩ | ⟨e1, e2⟩
      · left
        exact ⟨j + 1, b, by rw [e1]; congr 2; omega, by rw [show i + (j + 1) = i + 1 + j by omega]; exact e2, e3⟩
      · exact .inr ⟨e1, e2⟩
theorem find_nbs {g : List (List Int)} {a : Nat} {o : Nat → Int} : (nbs g a).find? (fun b => decide (a < b) && decide (o b < 0)) = cand g a o := by
  unfold nbs cand
  rw [List.find?_filter]
  congr 1
  funext b
  cases Nb g a b <;> simp
theorem cand_spec {g : List (List Int)} {a b : Nat} {o : Nat → Int} (h : cand g a o = some b) : b < g.length ∧ Nb g a b = true ∧ a < b ∧ o b < 0 := by
  unfold cand at h
  have h1 := List.find?_some h
  have h2 := List.mem_of_find?_eq_some h
  simp only [Bool.and_eq_true, decide_eq_true_eq] at h1
  exact ⟨List.mem_range.1 h2, h1.1, h1.2.1, h1.2.2⟩
theorem pairs_l {F : Nat} {g : List (List Int)} (hF : 2000 ≤ F) (hg : Gr g) : ∀ (k a : Nat), g.length < k + a → a ≤ g.length → M_core_Pairs_l8 F (nr g) k ((a : Int), oL g.length (prs g a)) = some (oL g.length (prs g g.length), 0)
  | 0, _, _, _ => by omega
  | k + 1, a, h, ha => by
    have h1 := hg.1
    show M_core_Pairs_b8 F (nr g) (M_core_Pairs_l8 F (nr g) k) (a : Int) (oL g.length (prs g a)) = _
    unfold M_core_Pairs_b8 M_core_Pairs_j9
    by_cases hlt : a < g.length
    · have hrec := pairs_l hF hg k (a + 1) (by omega) (by omega)
      have hnl := nbs_len g a
      rw [if_pos (by simp [nr_len]; omega), idx_nat, nr_get hlt, cols_nbs]
      simp only [Option.bind_some]
      rw [iadd1_n (by omega)]
      unfold M_slices_IndexFunc_int_int_core_Pairs_1
      rcases index_l (F := F) (a := a) (n := g.length) (o := prs g a) (by omega) (nbs g a) F 0 ((nbs g a).map fun (x : Nat) => (x : Int)) (fun x hx => (Nb_lt hg ((mem_nbs hg).1 hx)).2) (by simp) (by omega) (by simp; omega) (by simp; omega) with ⟨j, b, e1, e2, e3⟩ | ⟨e1, e2⟩
      · rw [find_nbs] at e3
        obtain ⟨hb1, hb2, hb3, hb4⟩ := cand_spec e3
        have e1' : M_slices_IndexFunc_int_int_core_Pairs_1_l3 F ((nbs g a).map fun (x : Nat) => (x : Int)) (a : Int) (oL g.length (prs g a)) F 0 = _ := e1
        rw [e1', Nat.zero_add]
        rw [Nat.zero_add] at e2
        simp only [Option.bind_some]
        rw [idx_nat, oL_get hlt]
        simp only [Option.bind_some]
        have hst : prs g (a + 1) = if prs g a a < 0 then updI (updI (prs g a) a b) b a else prs g a := by
          show pstep g a (prs g a) = _
          unfold pstep
          rw [e3]
        by_cases ho : prs g a a < 0
        · rw [if_pos (by simp [ho]), idx_nat, e2]
          simp only [Option.bind_some]
          rw [idx_nat, oL_get hb1]
          simp only [Option.bind_some, lett, Int.toNat_natCast]
          rw [oL_set, oL_set]
          rw [hst, if_pos ho] at hrec
          exact hrec
        · rw [if_neg (by simp [ho])]
          rw [hst, if_neg ho] at hrec
          exact hrec
      · rw [find_nbs] at e2
        have e1' : M_slices_IndexFunc_int_int_core_Pairs_1_l3 F ((nbs g a).map fun (x : Nat) => (x : Int)) (a : Int) (oL g.length (prs g a)) F 0 = _ := e1
        rw [e1']
        simp only [Option.bind_some]
        rw [idx_nat, oL_get hlt]
        simp only [Option.bind_some]
        have hst : prs g (a + 1) = prs g a := by
          show pstep g a (prs g a) = _
          unfold pstep
          rw [e2]
        rw [if_neg (by simp)]
        rw [hst] at hrec
        exact hrec
    · rw [if_neg (by simp [nr_len]; omega), show a = g.length from by omega]
      rfl
theorem rep_oL (g : List (List Int)) : List.replicate g.length (-1 : Int) = oL g.length (prs g 0) := by
  apply List.ext_getElem (by simp [oL])
  intro v b1 b2
  simp [oL, prs]
theorem rep_l {F n : Nat} (hn : n ≤ 1000000) : ∀ (k i : Nat) (L : List Int), L.length = n → (∀ j, j < i → L[j]? = some (-1)) → i ≤ n → n < k + i → 1 ≤ i ∨ n = 0 → M_slices_Repeat_int_int_l3 F k (L, (i : Int)) = some (List.replicate n (-1))
  | 0, i, L, _, _, _, _, _ => by omega
  | k + 1, i, L, hL, hj, hi, hk, h0 => by
    show M_slices_Repeat_int_int_b3 F (M_slices_Repeat_int_int_l3 F k) L (i : Int) = _
    unfold M_slices_Repeat_int_int_b3
    by_cases hlt : i < n
    · have s1 := sub_n (l := L) (i := i) (j := L.length) (by omega) (by omega)
      have s2 := sub_n (l := L) (i := 0) (j := i) (by omega) (by omega)
      rw [List.take_length] at s1
      rw [show ((0 : Nat) : Int) = 0 from rfl, List.drop_zero] at s2
      rw [if_pos (by simp; omega), s1]
      simp only [Option.bind_some]
      rw [s2]
      simp only [Option.bind_some, lett, Int.toNat_natCast]
      rw [iadd_n (by simp; omega)]
      refine rep_l hn k _ _ (by rw [overlay_len (by omega)]; exact hL) (fun j hji => ?_) (by simp; omega) (by simp; omega) (.inl (by omega))
      unfold overlay
      simp only [List.length_take, List.length_drop] at hji
      by_cases hj1 : j < i
      · rw [List.append_assoc, List.getElem?_append_left (by simp; omega), List.getElem?_take_of_lt hj1]
        exact hj j hj1
      · rw [List.getElem?_append_left (by simp; omega), List.getElem?_append_right (by simp; omega)]
        rw [List.length_take, show min i L.length = i by omega, List.getElem?_take_of_lt (by omega), List.getElem?_take_of_lt (by omega)]
        exact hj _ (by omega)
    · rw [if_neg (by simp; omega)]
      unfold M_slices_Repeat_int_int_j2
      congr 1
      apply List.ext_getElem (by simp [hL])
      intro v b1 b2
      have := hj v (by omega)
      rw [List.getElem?_eq_getElem b1] at this
      rw [Option.some.inj this]; simp
theorem mul64_small {F n : Nat} (hn : n ≤ 1000000) : M_math_bits_Mul F 1 (n : Int) = some (0, (n : Int)) := by
  unfold M_math_bits_Mul M_math_bits_Mul64
  simp only [lett, Option.bind_some]
  have w : ∀ {x : Int}, 0 ≤ x → x < 18446744073709551616 → IntKind.wrap .u64 x = x := fun h1 h2 => wrap_u64 h1 h2
  have i1 : iand .u64 1 4294967295 = 1 := by decide
  have i2 : iand .u64 (n : Int) 4294967295 = (n : Int) := by
    have := iand_mask (k := .u64) (a := (n : Int)) (m := 32) (by omega) (by show (n : Int) < 18446744073709551616; omega) (by decide) (by decide)
    have e : ((2 ^ 32 - 1 : Nat) : Int) = 4294967295 := by decide
    rw [e] at this
    rw [this, show (2 : Int) ^ 32 = 4294967296 from by decide]; omega
  have s1 : ishr .u64 1 32 = 0 := by decide
  have s2 : ishr .u64 (n : Int) 32 = 0 := by
    have e2 := ishr_eq (k := .u64) (a := (n : Int)) (m := 32) (by decide)
    rw [show ((32 : Nat) : Int) = 32 from rfl, show (2 : Int) ^ 32 = 4294967296 from by decide] at e2
    rw [e2, show (n : Int) / 4294967296 = 0 by omega]
  have m1 : imul .u64 1 (n : Int) = (n : Int) := by
    unfold imul
    rw [Int.one_mul]; exact w (by omega) (by omega)
  have m2 : imul .u64 0 (n : Int) = 0 := by
    unfold imul
    rw [Int.zero_mul]; exact w (by decide) (by decide)
  have m3 : imul .u64 1 0 = 0 := by decide
  have m4 : imul .u64 0 0 = 0 := by decide
  have a0 : iadd .u64 0 0 = 0 := by decide
  rw [i1, i2, s1, s2, m1, m2, m3, m4]
  rw [s2, a0]
  have i3 : iand .u64 0 4294967295 = 0 := by decide
  have s3 : ishr .u64 0 32 = 0 := by decide
  rw [i3, a0, s3, a0, a0]
theorem repeat_eq {F n : Nat} (hF : 2000 ≤ F) (hn : n ≤ 1000) : M_slices_Repeat_int_int F [-1] (n : Int) = some (List.replicate n (-1)) := by
  unfold M_slices_Repeat_int_int
  rw [if_neg (by simp)]
  have e1 : iconv .u64 (([-1] : List Int).length : Int) = 1 := by decide
  have e2 : iconv .u64 (n : Int) = (n : Int) := wrap_u64 (by omega) (by omega)
  rw [e1, e2, mul64_small (by omega)]
  simp only [Option.bind_some]
  rw [if_neg (by simp; omega)]
  have e3 : iconv .i64 (n : Int) = (n : Int) := wrap_i64 (by omega) (by omega)
  rw [e3, mk_rep (by omega)]
  simp only [Option.bind_some, lett]
  rcases Nat.eq_zero_or_pos n with h0 | h0
  · subst h0
    exact rep_l (F := F) (n := 0) (by omega) F 0 _ (by simp [overlay]) (by omega) (by omega) (by omega) (.inr rfl)
  · have : ((min ([-1] : List Int).length (List.replicate n (0 : Int)).length : Nat) : Int) = ((1 : Nat) : Int) := by simp; omega
    rw [this]
    refine rep_l (F := F) (n := n) (by omega) F 1 _ (by rw [overlay_len (by omega)]; simp) (fun j hj => ?_) (by omega) (by omega) (.inl (by omega))
    have : j = 0 := by omega
    subst this
    unfold overlay
    rw [List.take_zero, List.nil_append, List.getElem?_append_left (by simp; omega), List.getElem?_take_of_lt (by simp; omega)]
    rfl
theorem pairs_eq {F : Nat} {g : List (List Int)} (hF : 2000 ≤ F) (hg : Gr g) : M_core_Pairs F g = some (oL g.length (prs g g.length), 0) := by
  have h1 := hg.1
  unfold M_core_Pairs
  rw [graphCheck_eq (by omega), gchk_ok.2 hg]
  simp only [Option.bind_some]
  rw [if_neg (by simp), repeat_eq hF (by omega)]
  simp only [Option.bind_some]
  rw [near_eq hF hg]
  simp only [Option.bind_some]
  rw [rep_oL]
  exact pairs_l hF hg F 0 (by omega) (by omega)
def g0c : List (List Int) := [[0, 1, 2], [2], [0], [2], []]
theorem g0c_gr : Gr g0c := gchk_ok.1 (by decide)
theorem g0c_core {c : Nat → Nat} (h : IsCore g0c c) : nl 5 c = [2, 2, 2, 1, 0] := by
  have k2 : KK g0c 2 (fun u => decide (u < 3)) := by unfold KK dg; decide
  have k1 : KK g0c 1 (fun u => decide (u < 4)) := by unfold KK dg; decide
  have l0 := h.max 2 _ k2 0 (by decide) (by decide)
  have l1 := h.max 2 _ k2 1 (by decide) (by decide)
  have l2 := h.max 2 _ k2 2 (by decide) (by decide)
  have l3 := h.max 1 _ k1 3 (by decide) (by decide)
  have up : ∀ v, v < 5 → c v ≤ dg g0c (fun _ => true) v := fun v hv => Nat.le_trans (h.own v hv) (dg_mono fun _ _ _ => rfl)
  have u0 : c 0 ≤ 2 := up 0 (by decide)
  have u1 : c 1 ≤ 2 := up 1 (by decide)
  have u3 : c 3 ≤ 1 := up 3 (by decide)
  have u4 : c 4 ≤ 0 := up 4 (by decide)
  have u2 : c 2 ≤ 2 := by
    refine Nat.le_of_not_lt fun hlt => ?_
    have h1 := h.own 2 (by decide)
    have h2 : dg g0c (fun u => decide (c 2 ≤ c u)) 2 ≤ dg g0c (fun u => decide (u = 2)) 2 := dg_mono fun u hu hc => by
      have hc := of_decide_eq_true hc
      refine decide_eq_true ?_
      have hu : u < 5 := hu
      rcases Nat.lt_or_ge u 2 with h3 | h3
      · have : u = 0 ∨ u = 1 := by omega
        rcases this with rfl | rfl <;> omega
      · rcases Nat.eq_or_lt_of_le h3 with h4 | h4
        · omega
        · have : u = 3 ∨ u = 4 := by omega
          rcases this with rfl | rfl <;> omega
    have h3 : dg g0c (fun u => decide (u = 2)) 2 = 0 := by decide
    omega
  have e0 : c 0 = 2 := by omega
  have e1 : c 1 = 2 := by omega
  have e2 : c 2 = 2 := by omega
  have e3 : c 3 = 1 := by omega
  have e4 : c 4 = 0 := by omega
  show [((c 0 : Nat) : Int), (c 1 : Nat), (c 2 : Nat), (c 3 : Nat), (c 4 : Nat)] = _
  rw [e0, e1, e2, e3, e4]; rfl
theorem cbg_eq {F : Nat} (hF : 200000 ≤ F) : M_L_coreBegun F = some true := by
  obtain ⟨c, hc, e⟩ := numbers_eq (F := F) (by omega) g0c_gr
  have e1 : M_core_Numbers F [[0, 1, 2], [2], [0], [2], []] = some ([2, 2, 2, 1, 0], 0) := by rw [← g0c_core hc]; exact e
  have e2 : M_core_Threes F [[0, 1, 2], [2], [0], [2], []] = some ([1, 1, 1, 0, 0], 1, 0) := by
    have h1 : cnt g0c.length (th g0c).flatten = [1, 1, 1, 0, 0] := by decide
    have h2 : (th g0c).length = 1 := by decide
    have := threes_eq (F := F) hF g0c_gr
    rw [h1, h2] at this
    exact this
  have e3 : M_core_Pairs F [[0, 1, 2], [2], [0], [2], []] = some ([1, 0, 3, 2, -1], 0) := by
    have h1 : oL g0c.length (prs g0c g0c.length) = [1, 0, 3, 2, -1] := by decide
    have := pairs_eq (F := F) (by omega) g0c_gr
    rw [h1] at this
    exact this
  unfold M_L_coreBegun
  rw [e1]
  simp only [Option.bind_some]
  rw [e2]
  simp only [Option.bind_some]
  rw [e3]
  simp only [Option.bind_some]
  rw [same_intsR (by simp; omega) (by decide)]
  simp only [Option.bind_some]
  rw [if_pos (by decide), same_intsR (by simp; omega) (by decide)]
  simp only [Option.bind_some]
  unfold M_L_coreBegun_j1
  rw [if_pos (by decide), same_intsR (by simp; omega) (by decide)]
  rfl
theorem E_bt {g : List (List Int)} (hg : Gr g) {p : Int × Int} : p ∈ E (bt g) ↔ p ∈ E g := by
  unfold E
  rw [exA_mem, exA_mem, bt_af hg, bd_mem, bd_mem, bw_mem, bw_mem]
  constructor
  · rintro ⟨h1, h2 | h2⟩
    · exact ⟨h1, h2⟩
    · exact ⟨h1, h2.symm⟩
  · rintro ⟨h1, h2⟩
    exact ⟨h1, .inl h2⟩
theorem Nb_bt {g : List (List Int)} (hg : Gr g) : Nb (bt g) = Nb g := by
  funext i k
  unfold Nb
  exact decide_eq_decide.2 (E_bt hg)
theorem dg_bt {g : List (List Int)} (hg : Gr g) (S : Nat → Bool) (v : Nat) : dg (bt g) S v = dg g S v := by
  unfold dg
  rw [bt_len, Nb_bt hg]
theorem core_bt {g : List (List Int)} (hg : Gr g) {c : Nat → Nat} (h : IsCore (bt g) c) : IsCore g c := by
  refine ⟨fun v hv => ?_, fun k S hS v hv hs => ?_⟩
  · rw [← dg_bt hg]; exact h.own v (by rw [bt_len]; exact hv)
  · refine h.max k S (fun u hu hu2 => ?_) v (by rw [bt_len]; exact hv) hs
    rw [dg_bt hg]
    rw [bt_len] at hu
    exact hS u hu hu2
theorem nr_bt {g : List (List Int)} (hg : Gr g) (hb : Gr (bt g)) : nr (bt g) = nr g := by
  have h1 := nr_isTab hb
  rw [bt_len] at h1
  exact isTab_uniq h1 (nr_isTab hg) fun _ => E_bt hg
theorem prs_bt {g : List (List Int)} (hg : Gr g) : ∀ a, prs (bt g) a = prs g a
  | 0 => rfl
  | a + 1 => by
    show pstep (bt g) a (prs (bt g) a) = pstep g a (prs g a)
    rw [prs_bt hg a]
    unfold pstep cand
    rw [bt_len, Nb_bt hg]
theorem coreBoth_true {F : Nat} {g : List (List Int)} (hF : 200000 ≤ F) : M_L_CoreBoth F g = some true := by
  unfold M_L_CoreBoth
  rw [both_eq (by omega), cbg_eq hF, gbg_eq (by omega)]
  simp only [Option.bind_some]
  rw [if_neg (by decide)]
  unfold M_L_CoreBoth_j2
  rw [if_neg (by decide)]
  by_cases h : gchk g = 0
  · have hg := gchk_ok.1 h
    have h1 := hg.1
    have hn : ¬ gchk g ≠ 0 := by simp [h]
    rw [if_neg hn]
    unfold bothM
    by_cases h5 : 600 < (bd g).length
    · rw [if_pos h5, if_pos (by simp)]
    · have hb := bt_gr hg (by omega)
      obtain ⟨c, hc, e⟩ := numbers_eq (F := F) (by omega) hg
      obtain ⟨c', hc', e'⟩ := numbers_eq (F := F) (by omega) hb
      have ec : nl (bt g).length c' = nl g.length c := by
        rw [bt_len]
        unfold nl
        exact List.map_congr_left fun v hv => by rw [core_uniq (core_bt hg hc') hc v (List.mem_range.1 hv)]
      have et : th (bt g) = th g := by unfold th; rw [nr_bt hg hb]
      rw [if_neg h5, if_neg (by simp), e, e', ec, threes_eq hF hg, threes_eq hF hb, pairs_eq (by omega) hg, pairs_eq (by omega) hb, et, bt_len, prs_bt hg]
      simp only [Option.bind_some]
      rw [if_pos (by simp), same_intsR (by show (nl g.length c).length < F; rw [nl_len]; omega) (by show (nl g.length c).length ≤ _; rw [nl_len]; omega)]
      simp only [Option.bind_some]
      unfold M_L_CoreBoth_j3
      rw [if_pos rfl, same_intsR (by show (cnt _ _).length < F; rw [cnt_len]; omega) (by show (cnt _ _).length ≤ _; rw [cnt_len]; omega)]
      simp only [Option.bind_some]
      unfold M_L_CoreBoth_j4
      rw [if_pos (by simp), same_intsR (by show (oL _ _).length < F; rw [oL_len]; omega) (by show (oL _ _).length ≤ _; rw [oL_len]; omega)]
      rfl
  · rw [if_pos h, if_pos (by simpa using h)]
theorem countP_one {p q : Nat → Bool} {w : Nat} {l : List Nat} (hl : l.Nodup) (h : ∀ x, x ∈ l → x ≠ w → p x = true → q x = true) : l.countP p ≤ l.countP q + 1 := by
  by_cases hw : w ∈ l
  · rw [countP_minus hl hw]
    have h1 : l.countP (fun u => p u && decide (u ≠ w)) ≤ l.countP q := List.countP_mono_left fun x hx hp => by
      simp only [Bool.and_eq_true, decide_eq_true_eq] at hp
      exact h x hx hp.2 hp.1
    split <;> omega
  · have : l.countP p ≤ l.countP q := List.countP_mono_left fun x hx hp => h x hx (fun he => hw (he ▸ hx)) hp
    omega
theorem more_nb {g T : List (List Int)} {a b : Int} (hp : (af 0 T).Perm (af 0 g ++ [(a, b)])) {i k : Nat} : Nb T i k = true ↔ Nb g i k = true ∨ (i ≠ k ∧ (((i : Int), (k : Int)) = (a, b) ∨ ((k : Int), (i : Int)) = (a, b))) := by
  have hm : ∀ p, p ∈ af 0 T ↔ p ∈ af 0 g ∨ p = (a, b) := fun p => by rw [hp.mem_iff, List.mem_append, List.mem_singleton]
  unfold Nb E
  rw [decide_eq_true_eq, decide_eq_true_eq, exA_mem, exA_mem, hm, hm]
  simp only
  constructor
  · rintro ⟨h1, (h2 | h2) | (h2 | h2)⟩
    · exact .inl ⟨h1, .inl h2⟩
    · exact .inr ⟨fun h => h1 (by rw [h]), .inl h2⟩
    · exact .inl ⟨h1, .inr h2⟩
    · exact .inr ⟨fun h => h1 (by rw [h]), .inr h2⟩
  · rintro (⟨h1, h2 | h2⟩ | ⟨h1, h2 | h2⟩)
    · exact ⟨h1, .inl (.inl h2)⟩
    · exact ⟨h1, .inr (.inl h2)⟩
    · exact ⟨by omega, .inl (.inr h2)⟩
    · exact ⟨by omega, .inr (.inr h2)⟩
theorem more_core {g T : List (List Int)} {a b : Int} (hp : (af 0 T).Perm (af 0 g ++ [(a, b)])) (hl : T.length = g.length) {c c' : Nat → Nat} (hc : IsCore g c) (hc' : IsCore T c') (v : Nat) (hv : v < g.length) : c v ≤ c' v ∧ c' v ≤ c v + 1 := by
  have up : ∀ S u, dg g S u ≤ dg T S u := fun S u => by
    unfold dg
    rw [hl]
    exact List.countP_mono_left fun x _ h => by
      simp only [Bool.and_eq_true] at h ⊢
      exact ⟨h.1, (more_nb hp).2 (.inl h.2)⟩
  have down : ∀ S u, dg T S u ≤ dg g S u + 1 := fun S u => by
    unfold dg
    rw [hl]
    refine countP_one (w := if (u : Int) = a then b.toNat else a.toNat) List.nodup_range fun x _ hxw h => ?_
    simp only [Bool.and_eq_true] at h ⊢
    refine ⟨h.1, ?_⟩
    rcases (more_nb hp).1 h.2 with h2 | ⟨h3, h2 | h2⟩
    · exact h2
    · exfalso
      simp only [Prod.mk.injEq] at h2
      rw [if_pos h2.1] at hxw
      omega
    · exfalso
      simp only [Prod.mk.injEq] at h2
      by_cases hua : (u : Int) = a
      · omega
      · rw [if_neg hua] at hxw
        omega
  constructor
  · have hk := core_KK hc (c v)
    refine hc'.max (c v) (fun u => decide (c v ≤ c u)) (fun u hu hs => ?_) v (by omega) (decide_eq_true (Nat.le_refl (c v)))
    exact Nat.le_trans (hk u (by omega) hs) (up _ _)
  · have hk := core_KK hc' (c' v)
    have := hc.max (c' v - 1) (fun u => decide (c' v ≤ c' u)) (fun u hu hs => by
      have h1 := hk u (by omega) hs
      have h2 := down (fun u => decide (c' v ≤ c' u)) u
      omega) v hv (decide_eq_true (Nat.le_refl (c' v)))
    omega
theorem more_th {g T : List (List Int)} {a b : Int} (hp : (af 0 T).Perm (af 0 g ++ [(a, b)])) (hl : T.length = g.length) (hg : Gr g) (hT : Gr T) : (th g).length ≤ (th T).length := by
  refine List.Nodup.length_le_of_subset (th_nodup hg) fun x hx => ?_
  obtain ⟨p, q, r, rfl, h1, h2, h3, n1, n2, n3⟩ := (mem_th hg).1 hx
  exact (mem_th hT).2 ⟨p, q, r, rfl, h1, h2, by omega, (more_nb hp).2 (.inl n1), (more_nb hp).2 (.inl n2), (more_nb hp).2 (.inl n3)⟩
theorem cm_loop {F n : Nat} {c c' : Nat → Nat} {e e' : Int} (hn : n ≤ 100) (h : ∀ v, v < n → c v ≤ c' v ∧ c' v ≤ c v + 1) (hcb : ∀ v, v < n → c v ≤ 100000) : ∀ (k i : Nat), n < k + i → i ≤ n → M_L_CoreMore_l16 F (nl n c, e) (nl n c', e') k (i : Int) = some true
  | 0, _, _, _ => by omega
  | k + 1, i, hk, hi => by
    show M_L_CoreMore_b16 F (nl n c, e) (nl n c', e') (M_L_CoreMore_l16 F (nl n c, e) (nl n c', e') k) (i : Int) = _
    unfold M_L_CoreMore_b16 M_L_CoreMore_j18
    by_cases hlt : i < n
    · have hrec := cm_loop (F := F) (e := e) (e' := e') hn h hcb k (i + 1) (by omega) (by omega)
      obtain ⟨h1, h2⟩ := h i hlt
      have h3 := hcb i hlt
      rw [if_pos (by simp [nl_len]; omega)]
      simp only
      rw [idx_nat, nl_get hlt]
      simp only [Option.bind_some]
      rw [idx_nat, nl_get hlt]
      simp only [Option.bind_some]
      rw [if_neg (by simp; omega), iadd1_n (show c i + 1 < _ by omega), if_neg (by simp; omega), iadd1_n (by omega)]
      exact hrec
    · rw [if_neg (by simp [nl_len]; omega)]
      rfl
theorem coreMore_true {F : Nat} {g : List (List Int)} {a b : Int} (hF : 200000 ≤ F) : M_L_CoreMore F g a b = some true := by
  unfold M_L_CoreMore
  by_cases h : gchk g = 0
  · have hg := gchk_ok.1 h
    have h1 := hg.1
    have hl := gr_len hg
    obtain ⟨c, hc, e⟩ := numbers_eq (F := F) (by omega) hg
    have h0 : ofE g.length [] (af 0 g) = 0 := ofE_ok.2 ⟨gr_in hg, gr_nodup hg, fun p _ => by simp⟩
    rw [e, threes_eq hF hg, arcs_eq (by omega), h, cbg_eq hF]
    simp only [Option.bind_some]
    rw [if_neg (show ¬ (0 : Int) ≠ 0 by simp), if_neg (by decide), gbg_eq (by omega)]
    simp only [Option.bind_some]
    unfold M_L_CoreMore_j2
    rw [if_neg (by decide), if_neg (by simp)]
    simp only
    rw [app_eq (by simp; omega)]
    simp only [Option.bind_some, List.nil_append]
    rw [app_eq (by simp; omega)]
    simp only [Option.bind_some]
    rw [of_eq (by omega)]
    simp only [Option.bind_some]
    unfold M_L_CoreMore_j3
    by_cases hok : (af 0 g ++ [(a, b)]).length ≤ 600 ∧ ofE g.length [] (af 0 g ++ [(a, b)]) = 0
    · obtain ⟨a1, a2, _⟩ := ofE_ok.1 hok.2
      rw [ofM_tab h1 hok.1 a1 a2]
      simp only
      have hT : IsTab g.length (af 0 g ++ [(a, b)]) (tab g.length (srtA (af 0 g ++ [(a, b)]))) := srt_isTab a2
      have hp := isTab_perm hT a1 a2
      have hgr : Gr (tab g.length (srtA (af 0 g ++ [(a, b)]))) := isTab_gr hT a1 h1 (by rw [hp.length_eq]; exact hok.1)
      obtain ⟨c', hc', e'⟩ := numbers_eq (F := F) (by omega) hgr
      have hlen := tab_len g.length (srtA (af 0 g ++ [(a, b)]))
      have hth := more_th hp hlen hg hgr
      rw [if_neg (by simp), e', threes_eq hF hgr]
      simp only [Option.bind_some]
      rw [if_neg (by simp [nl_len, hlen]; omega), hlen]
      exact cm_loop h1 (fun v hv => more_core hp hlen hc hc' v hv) (fun v hv => by have := hc.own v hv; have := dg_le g (fun u => decide (c v ≤ c u)) v; omega) F 0 (by omega) (by omega)
    · have hne : (ofM (g.length : Int) (af 0 g ++ [(a, b)])).2 ≠ 0 := by
        unfold ofM
        rw [if_neg (by omega)]
        by_cases h2 : 600 < (af 0 g ++ [(a, b)]).length
        · rw [if_pos h2]; simp
        · rw [if_neg h2, if_pos (fun h3 => hok ⟨by omega, h3⟩)]
          exact fun h3 => hok ⟨by omega, h3⟩
      rw [if_pos (by simpa using hne)]
  · rw [numbers_bad (by omega) h, threes_bad (by omega) h, arcs_eq (by omega), cbg_eq hF]
    simp only [Option.bind_some]
    rw [if_pos h, if_neg (by decide), gbg_eq (by omega)]
    simp only [Option.bind_some]
    unfold M_L_CoreMore_j2
    rw [if_neg (by decide), if_pos (by simp [h])]
    simp
end Go.Proofs.Ytdiabhkbchmpaaa
