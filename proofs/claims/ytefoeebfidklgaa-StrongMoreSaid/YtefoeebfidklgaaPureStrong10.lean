/- Plain facts of what the functions of this seat compute. -/
import Derived.Test.YtefoeebfidklgaaModels
import Derived.KernelRfl
import Derived.Lib.SlicesCompact
namespace Go.Proofs.Ytefoeebfidklgaa
open Go SX
/-- The byte at place k of a list of bits. -/
def byt (l : List Int) (k : Nat) : Int :=
  l.getD (8 * k) 0 * 128 + l.getD (8 * k + 1) 0 * 64 + l.getD (8 * k + 2) 0 * 32 + l.getD (8 * k + 3) 0 * 16 + l.getD (8 * k + 4) 0 * 8 + l.getD (8 * k + 5) 0 * 4 + l.getD (8 * k + 6) 0 * 2 + l.getD (8 * k + 7) 0
def pk (l : List Int) : List Int := (List.range ((l.length + 7) / 8)).map (byt l)
def Bit (l : List Int) : Prop := ∀ x ∈ l, x = 0 ∨ x = 1
theorem Bit.getD {l : List Int} (h : Bit l) (i : Nat) : l.getD i 0 = 0 ∨ l.getD i 0 = 1 := by
  by_cases hi : i < l.length
  · have := h l[i] (List.getElem_mem hi)
    simpa [List.getD, hi] using this
  · left
    simp [List.getD, List.getElem?_eq_none (Nat.le_of_not_lt hi)]
def bitAt (b : List Int) (i : Nat) : Int := b.getD (i / 8) 0 / 2 ^ (7 - i % 8) % 2
def bl (b : List Int) (n : Nat) : List Int := (List.range n).map (bitAt b)
/-- What 'Check' tells. -/
def chkOf (n : Int) (b : List Int) : Int :=
  if n < 0 ∨ 8192 < n then 3 else if (b.length : Int) ≠ (n + 7) / 8 then 1 else if n % 8 ≠ 0 ∧ b.getD (n.toNat / 8) 0 % 2 ^ (8 - n.toNat % 8) ≠ 0 then 1 else 0
theorem iadd_n {a b : Nat} (h : a + b < 9223372036854775808) : iadd .i64 (a : Int) (b : Int) = ((a + b : Nat) : Int) := by rw [iadd_i64 (by omega) (by omega)]; omega
theorem iadd1_n {a : Nat} (h : a + 1 < 9223372036854775808) : iadd .i64 (a : Int) 1 = ((a + 1 : Nat) : Int) := by rw [iadd_i64 (by omega) (by omega)]; omega
theorem isub1_n {a : Nat} (h : 1 ≤ a) (h2 : a < 9223372036854775808) : isub .i64 (a : Int) 1 = ((a - 1 : Nat) : Int) := by rw [isub_i64 (by omega) (by omega)]; omega
/-- The bits of a number, in so many places, the highest one first. -/
def nb (n : Nat) : Nat → List Int
  | 0 => []
  | w + 1 => ((n / 2 ^ w % 2 : Nat) : Int) :: nb n w
def putOf (m : Int) (b : List Int) (n w : Int) : Int :=
  if chkOf m b ≠ 0 then chkOf m b else if w < 0 ∨ 64 < w ∨ 2 ^ w.toNat ≤ n then 3 else if 8192 < m + w then 8 else 0
def pt (m : Int) (b : List Int) (n w : Int) : Int × List Int × Int :=
  if putOf m b n w ≠ 0 then (0, [], putOf m b n w) else (m + w, pk (bl b m.toNat ++ nb n.toNat w.toNat), 0)
theorem sub_n {α : Type} {l : List α} {i j : Nat} (h1 : i ≤ j) (h2 : j ≤ l.length) : sub l (i : Int) (j : Int) = some ((l.take j).drop i) := by
  unfold sub
  rw [if_pos ⟨by omega, by omega, by omega⟩, Int.toNat_natCast, Int.toNat_natCast]
def un (n : Nat) : List Int := List.replicate n 0 ++ [1]
/-- How many bits a number has. -/
def len (x : Nat) : Nat := if x = 0 then 0 else x.log2 + 1
def sh (m : Nat) : Nat := len (m - 1)
def dd (m : Nat) : Nat := 2 ^ sh m - m
def le (n m : Nat) : List Int := if n < dd m then nb n (sh m - 1) else nb (n + dd m) (sh m)
theorem srt_perm (l : List Int) : (srt l).Perm l := List.mergeSort_perm l _
theorem srt_pw (l : List Int) : (srt l).Pairwise (· ≤ ·) := by
  have h := List.pairwise_mergeSort (le := fun x y : Int => decide (x ≤ y)) (fun a b c h1 h2 => by simp only [decide_eq_true_eq] at *; omega) (fun a b => by simp only [Bool.or_eq_true, decide_eq_true_eq]; omega) l
  exact h.imp (fun h => by simpa using h)
theorem keeps_get {xs : List Int} {j : Nat} (h0 : 0 < j) (hj : j < xs.length) : Go.Lib.keeps xs.toArray j = decide (xs[j] ≠ xs[j - 1]) := by
  unfold Go.Lib.keeps
  have e1 : xs.toArray[j]! = xs[j] := by rw [getElem!_pos xs.toArray j (by simpa using hj)]; simp
  have e2 : xs.toArray[j - 1]! = xs[j - 1] := by rw [getElem!_pos xs.toArray (j - 1) (by simp; omega)]; simp
  rw [e1, e2]
  have : j ≠ 0 := by omega
  simp [this]
theorem same_ints_l (F : Nat) {xs : List Int} (hm : xs.length ≤ 1000000) : ∀ (k i : Nat), xs.length < k + i → i ≤ xs.length → M_R_SameInts_l3 F xs xs k (i : Int) = some true
  | 0, _, _, _ => by omega
  | k + 1, i, h, hi => by
    show M_R_SameInts_b3 F xs xs (M_R_SameInts_l3 F xs xs k) (i : Int) = _
    unfold M_R_SameInts_b3
    by_cases hlt : i < xs.length
    · rw [if_pos (by simp; omega), idx_nat, List.getElem?_eq_getElem hlt]
      simp only [Option.bind_some]
      rw [if_neg (by simp), iadd1_n (by omega)]
      exact same_ints_l F hm k (i + 1) (by omega) (by omega)
    · rw [if_neg (by simp; omega)]; rfl
theorem same_intsR {F : Nat} {xs : List Int} (hF : xs.length < F) (hm : xs.length ≤ 1000000) : M_R_SameInts F xs xs = some true := by
  unfold M_R_SameInts
  rw [if_neg (by simp)]
  exact same_ints_l F hm F 0 (by omega) (by omega)
def runFold {σ τ : Type} (yy : σ → (Int × Int) → Option (σ ⊕ τ)) : List (Int × Int) → σ → Option (σ ⊕ τ)
  | [], s => some (.inl s)
  | r :: R, s => (yy s r).bind (Sum.elim (fun s' => runFold yy R s') (fun t => some (.inr t)))
def rowE (n : Int) : Int → List Int → Int
  | _, [] => 0
  | last, x :: l => if x < 0 ∨ n ≤ x then 3 else if x ≤ last then 4 else rowE n x l
def gE (n : Int) : List (List Int) → Int
  | [] => 0
  | l :: g => if rowE n (-1) l ≠ 0 then rowE n (-1) l else gE n g
def gtot : List (List Int) → Nat
  | [] => 0
  | l :: g => l.length + gtot g
def gchk (g : List (List Int)) : Int := if 100 < g.length then 2 else if gE g.length g ≠ 0 then gE g.length g else if 600 < gtot g then 2 else 0
theorem rowE_ok : ∀ {n last : Int} {l : List Int}, rowE n last l = 0 ↔ (l.Pairwise (· < ·) ∧ ∀ x ∈ l, last < x) ∧ ∀ x ∈ l, 0 ≤ x ∧ x < n
  | n, last, [] => by simp [rowE]
  | n, last, x :: l => by
    unfold rowE
    by_cases h1 : x < 0 ∨ n ≤ x
    · rw [if_pos h1]
      constructor
      · intro h; simp at h
      · rintro ⟨_, h⟩; have := h x (by simp); omega
    · rw [if_neg h1]
      by_cases h2 : x ≤ last
      · rw [if_pos h2]
        constructor
        · intro h; simp at h
        · rintro ⟨⟨_, h⟩, _⟩; have := h x (by simp); omega
      · rw [if_neg h2, rowE_ok, List.pairwise_cons]
        constructor
        · rintro ⟨⟨a1, a2⟩, a3⟩
          refine ⟨⟨⟨a2, a1⟩, fun y hy => ?_⟩, fun y hy => ?_⟩
          · rcases List.mem_cons.1 hy with rfl | hy
            · omega
            · have := a2 y hy; omega
          · rcases List.mem_cons.1 hy with rfl | hy
            · omega
            · exact a3 y hy
        · rintro ⟨⟨⟨a1, a2⟩, a3⟩, a4⟩
          exact ⟨⟨a2, a1⟩, fun y hy => a4 y (by simp [hy])⟩
theorem row_len {n last : Int} : ∀ {l : List Int}, -1 ≤ last → last < n → rowE n last l = 0 → last + 1 + l.length ≤ n
  | [], h1, h2, _ => by simp; omega
  | x :: l, h1, h2, h => by
    unfold rowE at h
    split at h
    · simp at h
    · split at h
      · simp at h
      · have := row_len (l := l) (by omega) (by omega) h
        rw [List.length_cons]; omega
theorem gE_ok {n : Int} : ∀ {g : List (List Int)}, gE n g = 0 ↔ ∀ l ∈ g, rowE n (-1) l = 0
  | [] => by simp [gE]
  | l :: g => by
    unfold gE
    by_cases h : rowE n (-1) l = 0
    · rw [if_neg (by simp [h]), gE_ok]; simp [h]
    · rw [if_pos h]; simp [h]
/-- A graph that is right. -/
def Gr (g : List (List Int)) : Prop := g.length ≤ 100 ∧ (∀ l ∈ g, l.Pairwise (· < ·) ∧ ∀ x ∈ l, 0 ≤ x ∧ x < g.length) ∧ gtot g ≤ 600
theorem gchk_ok {g : List (List Int)} : gchk g = 0 ↔ Gr g := by
  unfold gchk Gr
  by_cases h1 : 100 < g.length
  · rw [if_pos h1]; simp; omega
  · rw [if_neg h1]
    by_cases h2 : gE g.length g = 0
    · rw [if_neg (by simp [h2])]
      have h3 := gE_ok.1 h2
      have h4 : ∀ l ∈ g, l.Pairwise (· < ·) ∧ ∀ x ∈ l, 0 ≤ x ∧ x < (g.length : Int) := fun l hl => by
        have := rowE_ok.1 (h3 l hl)
        exact ⟨this.1.1, this.2⟩
      by_cases h5 : 600 < gtot g
      · rw [if_pos h5]; simp; omega
      · rw [if_neg h5]
        exact ⟨fun _ => ⟨by omega, h4, by omega⟩, fun _ => rfl⟩
    · rw [if_pos h2]
      refine ⟨fun h => absurd h h2, fun h => absurd (gE_ok.2 fun l hl => rowE_ok.2 ⟨⟨(h.2.1 l hl).1, fun x hx => ?_⟩, (h.2.1 l hl).2⟩) h2⟩
      have := (h.2.1 l hl).2 x hx; omega
theorem gr_row {g : List (List Int)} (h : Gr g) {l : List Int} (hl : l ∈ g) : l.length ≤ 100 := by
  have h1 := (h.2.1 l hl).2
  have h2 : rowE g.length (-1) l = 0 := rowE_ok.2 ⟨⟨(h.2.1 l hl).1, fun x hx => by have := h1 x hx; omega⟩, h1⟩
  have := row_len (by omega) (by omega) h2
  have := h.1
  omega
theorem check_in {F : Nat} {rec38 : (Int × Int) → Option Int} {g : List (List Int)} {m i : Int} {l : List Int} (hg : g.length ≤ 100) : ∀ (k j : Nat) (last : Int), 102 < k + j → (j : Int) ≤ last + 1 → last < g.length → -1 ≤ last →
    M_graph_Check_l45 F rec38 g m i l k (last, (j : Int)) = if rowE g.length last (l.drop j) ≠ 0 then some (rowE g.length last (l.drop j)) else M_graph_Check_j44 F rec38 m i l
  | 0, j, last, h, h1, h2, h3 => by omega
  | k + 1, j, last, h, h1, h2, h3 => by
    show M_graph_Check_b45 F rec38 g m i l (M_graph_Check_l45 F rec38 g m i l k) last (j : Int) = _
    unfold M_graph_Check_b45
    by_cases hlt : j < l.length
    · rw [if_pos (by simp; omega), idx_nat, List.getElem?_eq_getElem hlt, List.drop_eq_getElem_cons hlt]
      simp only [Option.bind_some]
      unfold rowE
      by_cases c1 : l[j] < 0 ∨ (g.length : Int) ≤ l[j]
      · rw [if_pos (by simpa using c1), if_pos c1, if_pos (by decide)]
      · rw [if_neg (by simpa using c1), if_neg c1]
        by_cases c2 : l[j] ≤ last
        · rw [if_pos (by simpa using c2), if_pos c2, if_pos (by decide)]
        · rw [if_neg (by simpa using c2), if_neg c2, iadd1_n (by omega)]
          exact check_in hg k (j + 1) l[j] (by omega) (by omega) (by omega) (by omega)
    · rw [if_neg (by simp; omega), List.drop_eq_nil_of_le (by omega)]
      rw [if_neg (by simp [rowE])]
theorem check_out {F : Nat} (hF : 1000 ≤ F) {g : List (List Int)} (hg : g.length ≤ 100) : ∀ (k i : Nat) (m : Nat), g.length < k + i → i ≤ g.length → m ≤ 100 * i →
    M_graph_Check_l38 F g k ((m : Int), (i : Int)) = if gE g.length (g.drop i) ≠ 0 then some (gE g.length (g.drop i)) else if 600 < m + gtot (g.drop i) then some 2 else some 0
  | 0, _, _, _, _, _ => by omega
  | k + 1, i, m, h, hi, hm => by
    show M_graph_Check_b38 F g (M_graph_Check_l38 F g k) (m : Int) (i : Int) = _
    unfold M_graph_Check_b38
    by_cases hlt : i < g.length
    · rw [if_pos (by simp; omega), idx_nat, List.getElem?_eq_getElem hlt, List.drop_eq_getElem_cons hlt]
      simp only [Option.bind_some]
      have hin := check_in (F := F) (rec38 := M_graph_Check_l38 F g k) (m := (m : Int)) (i := (i : Int)) (l := g[i]) hg F 0 (-1) (by omega) (by omega) (by omega) (by omega)
      rw [List.drop_zero, show ((0 : Nat) : Int) = 0 from rfl] at hin
      rw [hin]
      unfold gE gtot
      by_cases hr : rowE g.length (-1) g[i] = 0
      · have hlen := row_len (by omega) (by omega) hr
        have e : (if rowE (g.length : Int) (-1) g[i] ≠ 0 then rowE (g.length : Int) (-1) g[i] else gE (g.length : Int) (g.drop (i + 1))) = gE (g.length : Int) (g.drop (i + 1)) := if_neg (by simp [hr])
        rw [if_neg (show ¬ rowE (g.length : Int) (-1) g[i] ≠ 0 by simp [hr]), e]
        unfold M_graph_Check_j44 M_graph_Check_j42
        rw [iadd_n (by omega), iadd1_n (by omega), check_out hF hg k (i + 1) (m + g[i].length) (by omega) (by omega) (by omega), Nat.add_assoc]
      · rw [if_pos (by simpa using hr)]
        have e : (if rowE (g.length : Int) (-1) g[i] ≠ 0 then rowE (g.length : Int) (-1) g[i] else gE (g.length : Int) (g.drop (i + 1))) = rowE (g.length : Int) (-1) g[i] := if_pos hr
        rw [e, if_pos hr]
    · rw [if_neg (by simp; omega), List.drop_eq_nil_of_le (by omega)]
      unfold M_graph_Check_j23
      rw [if_neg (show ¬ gE (g.length : Int) [] ≠ 0 by simp [gE])]
      by_cases h6 : 600 < m
      · rw [if_pos (by simp; omega), if_pos (by simpa [gtot] using h6)]
      · rw [if_neg (by simp; omega), if_neg (by simpa [gtot] using h6)]
theorem graphCheck_eq {F : Nat} (hF : 1000 ≤ F) {g : List (List Int)} : M_graph_Check F g = some (gchk g) := by
  unfold M_graph_Check gchk
  by_cases h : 100 < g.length
  · rw [if_pos (by simp; omega), if_pos h]
  · have := check_out hF (g := g) (by omega) F 0 0 (by omega) (by omega) (by omega)
    rw [List.drop_zero, Nat.zero_add, show ((0 : Nat) : Int) = 0 from rfl] at this
    rw [if_neg (by simp; omega), if_neg h, this]
    split
    · rfl
    · split <;> rfl
def af (i : Nat) : List (List Int) → List (Int × Int)
  | [] => []
  | l :: g => l.map (fun x => ((i : Int), x)) ++ af (i + 1) g
theorem runFold_app {σ τ : Type} {yy : σ → (Int × Int) → Option (σ ⊕ τ)} : ∀ (A B : List (Int × Int)) (s : σ), runFold yy (A ++ B) s = (runFold yy A s).bind (Sum.elim (fun s' => runFold yy B s') (fun t => some (.inr t)))
  | [], B, s => rfl
  | p :: A, B, s => by
    show (yy s p).bind _ = ((yy s p).bind _).bind _
    cases yy s p with
    | none => rfl
    | some r =>
      cases r with
      | inl s' => exact runFold_app A B s'
      | inr t => rfl
theorem all_in {σ τ : Type} {F : Nat} {yy : σ → (Int × Int) → Option (σ ⊕ τ)} {rec7 : (Int × σ) → Option (σ ⊕ τ)} {i : Int} {l : List Int} (hm : l.length ≤ 1000000) : ∀ (k j : Nat) (s : σ), l.length < k + j → j ≤ l.length →
    M_graph_All_1_l10 F yy rec7 i l k ((j : Int), s) = (runFold yy ((l.drop j).map fun x => (i, x)) s).bind (Sum.elim (fun s' => M_graph_All_1_j9 F yy rec7 i s') (fun t => some (.inr t)))
  | 0, _, _, _, _ => by omega
  | k + 1, j, s, h, hj => by
    show M_graph_All_1_b10 F yy rec7 i l (M_graph_All_1_l10 F yy rec7 i l k) (j : Int) s = _
    unfold M_graph_All_1_b10
    by_cases hlt : j < l.length
    · rw [if_pos (by simp; omega), idx_nat, List.getElem?_eq_getElem hlt, List.drop_eq_getElem_cons hlt, List.map_cons]
      simp only [Option.bind_some, runFold]
      cases yy s (i, l[j]) with
      | none => rfl
      | some r =>
        cases r with
        | inl s' =>
          simp only [Option.bind_some, Sum.elim_inl]
          rw [iadd1_n (by omega)]
          exact all_in hm k (j + 1) s' (by omega) (by omega)
        | inr t => rfl
    · rw [if_neg (by simp; omega), List.drop_eq_nil_of_le (by omega)]
      rfl
theorem all_out {σ τ : Type} {F : Nat} {yy : σ → (Int × Int) → Option (σ ⊕ τ)} {g : List (List Int)} (hm : g.length ≤ 1000000) (hr : ∀ l ∈ g, l.length ≤ 1000000 ∧ l.length < F) : ∀ (k i : Nat) (s : σ), g.length < k + i → i ≤ g.length →
    M_graph_All_1_l7 F yy g k ((i : Int), s) = runFold yy (af i (g.drop i)) s
  | 0, _, _, _, _ => by omega
  | k + 1, i, s, h, hi => by
    show M_graph_All_1_b7 F yy g (M_graph_All_1_l7 F yy g k) (i : Int) s = _
    unfold M_graph_All_1_b7
    by_cases hlt : i < g.length
    · have hrow := hr _ (List.getElem_mem hlt)
      rw [if_pos (by simp; omega), idx_nat, List.getElem?_eq_getElem hlt, List.drop_eq_getElem_cons hlt]
      simp only [Option.bind_some]
      have := all_in (F := F) (yy := yy) (rec7 := M_graph_All_1_l7 F yy g k) (i := (i : Int)) hrow.1 F 0 s (by omega) (by omega)
      rw [List.drop_zero, show ((0 : Nat) : Int) = 0 from rfl] at this
      rw [this]
      unfold af
      rw [runFold_app]
      congr 1
      funext r
      cases r with
      | inl s' =>
        simp only [Sum.elim_inl]
        unfold M_graph_All_1_j9
        rw [iadd1_n (by omega)]
        exact all_out hm hr k (i + 1) s' (by omega) (by omega)
      | inr t => rfl
    · rw [if_neg (by simp; omega), List.drop_eq_nil_of_le (by omega)]
      rfl
theorem all_eq {σ τ : Type} {F : Nat} {yy : σ → (Int × Int) → Option (σ ⊕ τ)} {g : List (List Int)} {s : σ} (hF : g.length < F) (hm : g.length ≤ 1000000) (hr : ∀ l ∈ g, l.length ≤ 1000000 ∧ l.length < F) : M_graph_All_1 F yy g s = runFold yy (af 0 g) s := by
  unfold M_graph_All_1
  have := all_out (yy := yy) hm hr F 0 s (by omega) (by omega)
  rw [List.drop_zero] at this
  exact this
theorem vals_eq {σ τ : Type} {F : Nat} {yy : σ → (Int × Int) → Option (σ ⊕ τ)} {l : List (Int × Int)} (hm : l.length ≤ 1000000) : ∀ (k i : Nat) (s : σ), l.length < k + i → i ≤ l.length →
    M_slices_Values_api_Arc_api_Arc_1_l1 F yy l k ((i : Int), s) = runFold yy (l.drop i) s
  | 0, _, _, _, _ => by omega
  | k + 1, i, s, h, hi => by
    show M_slices_Values_api_Arc_api_Arc_1_b1 F yy l (M_slices_Values_api_Arc_api_Arc_1_l1 F yy l k) (i : Int) s = _
    unfold M_slices_Values_api_Arc_api_Arc_1_b1
    by_cases hlt : i < l.length
    · rw [if_pos (by simp; omega), idx_nat, List.getElem?_eq_getElem hlt, List.drop_eq_getElem_cons hlt]
      simp only [Option.bind_some, runFold]
      cases yy s l[i] with
      | none => rfl
      | some r =>
        cases r with
        | inl s' =>
          simp only [Option.bind_some, Sum.elim_inl]
          rw [iadd1_n (by omega)]
          exact vals_eq hm k (i + 1) s' (by omega) (by omega)
        | inr t => rfl
    · rw [if_neg (by simp; omega), List.drop_eq_nil_of_le (by omega)]
      rfl
theorem fold_app {τ : Type} {lim : Nat} {f : Int × Int → Int × Int} {yy : List (Int × Int) → (Int × Int) → Option (List (Int × Int) ⊕ τ)} (hy : ∀ s p, yy s p = (app lim s [f p]).bind fun z => some (.inl z)) : ∀ (L s : List (Int × Int)), s.length + L.length ≤ lim → runFold yy L s = some (.inl (s ++ L.map f))
  | [], s, _ => by simp [runFold]
  | p :: L, s, h => by
    rw [List.length_cons] at h
    show (yy s p).bind _ = _
    rw [hy, app_eq (by simp; omega)]
    simp only [Option.bind_some, Sum.elim_inl]
    rw [fold_app hy L (s ++ [f p]) (by simp; omega)]
    simp
theorem af_len : ∀ (i : Nat) (g : List (List Int)), (af i g).length = gtot g
  | _, [] => rfl
  | i, l :: g => by unfold af gtot; rw [List.length_append, List.length_map, af_len (i + 1) g]
theorem collect_all {F : Nat} {g : List (List Int)} (hF : 1000 ≤ F) (h : Gr g) : M_slices_Collect_api_Arc_graph_All_1 F g = some (af 0 g) := by
  unfold M_slices_Collect_api_Arc_graph_All_1 M_slices_AppendSeq_api_Arc_api_Arc_graph_All_1
  have h1 := h.1
  have h2 := h.2.2
  rw [all_eq (by omega) (by omega) (fun l hl => by have := gr_row h hl; omega), fold_app (lim := 4398046511104) (f := fun p => p) ?hy (af 0 g) [] (by rw [af_len]; simp; omega)]
  · simp
  · exact fun s p => rfl
theorem collect_vals {F : Nat} {l : List (Int × Int)} (hF : l.length < F) (hm : l.length ≤ 1000000) : M_slices_Collect_api_Arc_slices_Values_api_Arc_api_Arc_1 F l = some l := by
  unfold M_slices_Collect_api_Arc_slices_Values_api_Arc_api_Arc_1 M_slices_AppendSeq_api_Arc_api_Arc_slices_Values_api_Arc_api_Arc_1 M_slices_Values_api_Arc_api_Arc_1
  have := fun yy => vals_eq (σ := List (Int × Int)) (τ := Empty) (F := F) (yy := yy) hm F 0 [] (by omega) (by omega)
  rw [show ((0 : Nat) : Int) = 0 from rfl] at this
  rw [this, List.drop_zero, fold_app (lim := 4398046511104) (f := fun p => p) ?hy l [] (by simp; omega)]
  · simp
  · exact fun s p => rfl
theorem turned_eq {F : Nat} {g : List (List Int)} (hF : 1000 ≤ F) (h : Gr g) : M_graph_turned F g = some ((af 0 g).map fun p => (p.2, p.1)) := by
  unfold M_graph_turned M_graph_All
  have h1 := h.1
  have h2 := h.2.2
  simp only [Option.bind_some]
  rw [all_eq (by omega) (by omega) (fun l hl => by have := gr_row h hl; omega), fold_app (lim := 4398046511104) (f := fun p => (p.2, p.1)) ?hy (af 0 g) [] (by rw [af_len]; simp; omega)]
  · simp
  · exact fun s p => rfl
def lexLt (p q : Int × Int) : Prop := p.1 < q.1 ∨ (p.1 = q.1 ∧ p.2 < q.2)
instance decLex (p q : Int × Int) : Decidable (lexLt p q) := by unfold lexLt; infer_instance
theorem lexLt_irr (a : Int × Int) : ¬ lexLt a a := by unfold lexLt; omega
theorem lexLt_tr (a b d : Int × Int) : lexLt a b → lexLt b d → lexLt a d := by unfold lexLt; omega
theorem lexLt_tot (a b : Int × Int) : lexLt a b ∨ a = b ∨ lexLt b a := by
  obtain ⟨a1, a2⟩ := a
  obtain ⟨b1, b2⟩ := b
  simp only [lexLt, Prod.mk.injEq]; omega
theorem compare_eq {F : Nat} {x y : Int} : M_cmp_Compare_int F x y = some (if x < y then -1 else if y < x then 1 else 0) := by
  unfold M_cmp_Compare_int M_cmp_isNaN_int
  simp only [bne_self_eq_false, Option.bind_some, Bool.false_eq_true, if_false, decide_eq_true_eq]
  split
  · rfl
  · split <;> rfl
theorem or_eq {F : Nat} (hF : 3 ≤ F) {x y : Int} : M_cmp_Or_int F [x, y] = some (if x ≠ 0 then x else y) := by
  obtain ⟨k, rfl⟩ := Nat.exists_eq_add_of_le hF
  rw [Nat.add_comm]
  unfold M_cmp_Or_int
  show M_cmp_Or_int_b3 (k + 3) [x, y] (M_cmp_Or_int_l3 (k + 3) [x, y] (k + 2)) 0 = _
  unfold M_cmp_Or_int_b3
  rw [if_pos (by simp)]
  show ((some x).bind _) = _
  simp only [Option.bind_some]
  by_cases hx : x = 0
  · rw [if_neg (by simp [hx]), if_neg (by simp [hx])]
    show M_cmp_Or_int_b3 (k + 3) [x, y] (M_cmp_Or_int_l3 (k + 3) [x, y] (k + 1)) 1 = _
    unfold M_cmp_Or_int_b3
    rw [if_pos (by simp)]
    show ((some y).bind _) = _
    simp only [Option.bind_some]
    by_cases hy : y = 0
    · rw [if_neg (by simp [hy]), hy]
      show M_cmp_Or_int_b3 (k + 3) [x, y] (M_cmp_Or_int_l3 (k + 3) [x, y] k) 2 = _
      unfold M_cmp_Or_int_b3
      rw [if_neg (by simp)]
      rfl
    · rw [if_pos (by simp [hy])]
  · rw [if_pos (by simp [hx]), if_pos hx]
theorem order_eq {F : Nat} (hF : 3 ≤ F) (a b : Int × Int) : ∃ z, M_graph_order F a.1 a.2 b.1 b.2 = some z ∧ (z < 0 ↔ lexLt a b) := by
  unfold M_graph_order
  rw [compare_eq, compare_eq]
  simp only [Option.bind_some]
  rw [or_eq hF]
  simp only [Option.bind_some]
  unfold lexLt
  by_cases h1 : a.1 < b.1
  · exact ⟨-1, by simp [h1], by simp [h1]⟩
  · by_cases h2 : b.1 < a.1
    · exact ⟨1, by simp [h1, h2], by omega⟩
    · refine ⟨if a.2 < b.2 then -1 else if b.2 < a.2 then 1 else 0, by simp [h1, h2], ?_⟩
      split
      · omega
      · split <;> omega
def srtA (l : List (Int × Int)) : List (Int × Int) := l.mergeSort fun a b => decide (¬ lexLt b a)
theorem srtA_perm (l : List (Int × Int)) : (srtA l).Perm l := List.mergeSort_perm l _
theorem srtA_pw (l : List (Int × Int)) : (srtA l).Pairwise fun a b => ¬ lexLt b a := by
  have h := List.pairwise_mergeSort (le := fun a b : Int × Int => decide (¬ lexLt b a)) (fun a b c h1 h2 => by simp only [decide_eq_true_eq] at *; unfold lexLt at *; omega) (fun a b => by simp only [Bool.or_eq_true, decide_eq_true_eq]; unfold lexLt; omega) l
  exact h.imp (fun h => by simpa using h)
theorem srtA_len (l : List (Int × Int)) : (srtA l).length = l.length := (srtA_perm l).length_eq
theorem srtA_eq {l m : List (Int × Int)} (hp : l.Perm m) (hm : m.Pairwise fun a b => ¬ lexLt b a) : srtA l = m :=
  List.Perm.eq_of_pairwise (le := fun a b : Int × Int => ¬ lexLt b a) (fun a b _ _ h1 h2 => by rcases lexLt_tot a b with h | h | h <;> simp_all) (srtA_pw l) hm ((srtA_perm l).trans hp)
theorem lex_nodup {l : List (Int × Int)} (h : l.Pairwise lexLt) : l.Nodup := List.Pairwise.imp (S := fun a b => a ≠ b) (fun {a b} h (he : a = b) => lexLt_irr a (by rw [← he] at h; exact h)) h
theorem srtA_strict {l : List (Int × Int)} (h : l.Nodup) : (srtA l).Pairwise lexLt := by
  have h1 : (srtA l).Nodup := (srtA_perm l).nodup_iff.2 h
  refine (List.Pairwise.and (srtA_pw l) h1).imp fun {a b} h => ?_
  rcases lexLt_tot a b with h2 | h2 | h2
  · exact h2
  · exact absurd h2 h.2
  · exact absurd h2 h.1
theorem sortFunc_eq {F : Nat} {l : List (Int × Int)} (hF : 3 ≤ F) (hl : l.length ≤ 1000000) : M_slices_SortFunc_api_Arc_api_Arc_graph_order F l = some (srtA l) :=
  sortF_eq (lt := lexLt) (fun a _ b _ => order_eq hF a b) lexLt_irr lexLt_tr lexLt_tot (by omega) (srtA_perm l) (srtA_pw l)
theorem sortedFunc_eq {F : Nat} {l : List (Int × Int)} (hF : 3 ≤ F) (hF2 : l.length < F) (hl : l.length ≤ 1000000) : M_slices_SortedFunc_api_Arc_slices_Values_api_Arc_api_Arc_1_graph_order F l = some (srtA l) := by
  unfold M_slices_SortedFunc_api_Arc_slices_Values_api_Arc_api_Arc_1_graph_order
  rw [collect_vals hF2 hl]
  simp only [Option.bind_some]
  rw [sortFunc_eq hF hl]
  simp [chk, srtA_len]
theorem pwx : ∀ {A B : List Int}, A.Pairwise (· < ·) → B.Pairwise (· < ·) → (∀ z, z ∈ A ↔ z ∈ B) → A = B := by
  intro A B hA hB h
  have nd : ∀ {C : List Int}, C.Pairwise (· < ·) → C.Nodup := fun hC => hC.imp fun h => by omega
  exact List.Perm.eq_of_pairwise (le := fun x y : Int => x < y) (fun a b _ _ h1 h2 => by omega) hA hB ((List.perm_ext_iff_of_nodup (nd hA) (nd hB)).2 h)
def rowOf (l : List (Int × Int)) (i : Int) : List Int := (l.filter fun p => decide (p.1 = i)).map (·.2)
def tab (n : Nat) (l : List (Int × Int)) : List (List Int) := (List.range n).map fun (i : Nat) => rowOf l (i : Int)
theorem tab_len (n : Nat) (l : List (Int × Int)) : (tab n l).length = n := by simp [tab]
theorem tab_get {n i : Nat} {l : List (Int × Int)} (h : i < n) : (tab n l)[i]? = some (rowOf l i) := by simp [tab, h]
theorem rowOf_len (l : List (Int × Int)) (i : Int) : (rowOf l i).length ≤ l.length := by
  unfold rowOf
  rw [List.length_map]
  exact List.length_filter_le _ _
theorem tab_snoc {n a : Nat} {l : List (Int × Int)} {b : Int} : tab n (l ++ [((a : Int), b)]) = (tab n l).set a (rowOf l a ++ [b]) := by
  apply List.ext_getElem (by simp [tab])
  intro i h1 h2
  rw [tab_len] at h1
  rw [List.getElem_set]
  simp only [tab, List.getElem_map, List.getElem_range]
  by_cases h : a = i
  · rw [if_pos h, ← h]; simp [rowOf]
  · rw [if_neg h]
    have : ¬ (a : Int) = (i : Int) := by omega
    simp [rowOf, this]
theorem tab_nil (n : Nat) : tab n [] = List.replicate n [] := by
  apply List.ext_getElem (by simp [tab])
  intro i h1 h2
  simp [tab, rowOf]
theorem mk_nil {n : Nat} {lim : Nat} (h : n ≤ lim) : mk lim ([] : List Int) (n : Int) = some (tab n []) := by
  unfold mk
  rw [if_pos ⟨by omega, by omega⟩, tab_nil]; simp
def InR (n : Nat) (l : List (Int × Int)) : Prop := ∀ p ∈ l, 0 ≤ p.1 ∧ p.1 < (n : Int) ∧ 0 ≤ p.2 ∧ p.2 < (n : Int)
theorem take_snoc {α : Type} {l : List α} {j : Nat} (h : j < l.length) : l.take (j + 1) = l.take j ++ [l[j]] := by
  rw [List.take_add_one, List.getElem?_eq_getElem h]; rfl
theorem built_l {F n : Nat} {l : List (Int × Int)} (hl : ∀ p ∈ l, 0 ≤ p.1 ∧ p.1 < (n : Int)) (hm : l.length ≤ 1000000) : ∀ (k j : Nat), l.length < k + j → j ≤ l.length →
    M_graph_Built_l3 F l k ((j : Int), tab n (l.take j)) = some (tab n l)
  | 0, _, _, _ => by omega
  | k + 1, j, h, hj => by
    show M_graph_Built_b3 F l (M_graph_Built_l3 F l k) (j : Int) (tab n (l.take j)) = _
    unfold M_graph_Built_b3
    by_cases hlt : j < l.length
    · obtain ⟨h1, h2⟩ := hl _ (List.getElem_mem hlt)
      have hrec := built_l (F := F) hl hm k (j + 1) (by omega) (by omega)
      obtain ⟨a, ha⟩ := Int.eq_ofNat_of_zero_le h1
      have e : l[j] = ((a : Int), l[j].2) := by rw [← ha]
      rw [take_snoc hlt, e, tab_snoc] at hrec
      have hrl := rowOf_len (l.take j) (a : Int)
      rw [List.length_take] at hrl
      rw [if_pos (by simp; omega), idx_nat, List.getElem?_eq_getElem hlt]
      simp only [Option.bind_some]
      rw [ha, idx_nat, tab_get (by omega)]
      simp only [Option.bind_some]
      rw [app_eq (by simp; omega)]
      simp only [Option.bind_some, lett]
      rw [iadd1_n (by omega), Int.toNat_natCast]
      exact hrec
    · rw [if_neg (by simp; omega), List.take_of_length_le (by omega)]
      rfl
theorem built_eq {F n : Nat} {l : List (Int × Int)} (hl : ∀ p ∈ l, 0 ≤ p.1 ∧ p.1 < (n : Int)) (hm : l.length ≤ 1000000) (hF : l.length < F) (hn : n ≤ 1000000) : M_graph_Built F (n : Int) l = some (tab n l) := by
  unfold M_graph_Built
  rw [mk_nil (by omega)]
  simp only [Option.bind_some]
  have := built_l (F := F) hl hm F 0 (by omega) (by omega)
  rw [List.take_zero] at this
  exact this
def IsTab (n : Nat) (l : List (Int × Int)) (T : List (List Int)) : Prop :=
  T.length = n ∧ ∀ (i : Nat) (r : List Int), T[i]? = some r → r.Pairwise (· < ·) ∧ ∀ x, x ∈ r ↔ ((i : Int), x) ∈ l
theorem isTab_uniq {n : Nat} {l l' : List (Int × Int)} {T T' : List (List Int)} (h : IsTab n l T) (h' : IsTab n l' T') (hm : ∀ p, p ∈ l ↔ p ∈ l') : T = T' := by
  apply List.ext_getElem (by rw [h.1, h'.1])
  intro i h1 h2
  have a := h.2 i _ (List.getElem?_eq_getElem h1)
  have b := h'.2 i _ (List.getElem?_eq_getElem h2)
  exact pwx a.1 b.1 fun z => by rw [a.2, b.2, hm]
theorem mem_rowOf {l : List (Int × Int)} {i x : Int} : x ∈ rowOf l i ↔ (i, x) ∈ l := by
  unfold rowOf
  rw [List.mem_map]
  constructor
  · rintro ⟨p, hp, rfl⟩
    obtain ⟨h1, h2⟩ := List.mem_filter.1 hp
    have : p.1 = i := by simpa using h2
    rw [← this]; exact h1
  · intro h
    exact ⟨(i, x), List.mem_filter.2 ⟨h, by simp⟩, rfl⟩
theorem rowOf_pw {l : List (Int × Int)} {i : Int} (h : l.Pairwise lexLt) : (rowOf l i).Pairwise (· < ·) := by
  unfold rowOf
  rw [List.pairwise_map]
  refine (h.filter _).imp_of_mem fun {a b} ha hb hab => ?_
  have h1 := (List.mem_filter.1 ha).2
  have h2 := (List.mem_filter.1 hb).2
  simp only [decide_eq_true_eq] at h1 h2
  unfold lexLt at hab; omega
theorem tab_isTab {n : Nat} {l : List (Int × Int)} (h : l.Pairwise lexLt) : IsTab n l (tab n l) := by
  refine ⟨tab_len n l, fun i r hr => ?_⟩
  have hi : i < n := by have := (List.getElem?_eq_some_iff.1 hr).1; rwa [tab_len] at this
  rw [tab_get hi] at hr
  cases hr
  exact ⟨rowOf_pw h, fun x => mem_rowOf⟩
theorem isTab_congr {n : Nat} {l l' : List (Int × Int)} {T : List (List Int)} (h : IsTab n l T) (hm : ∀ p, p ∈ l ↔ p ∈ l') : IsTab n l' T :=
  ⟨h.1, fun i r hr => ⟨(h.2 i r hr).1, fun x => by rw [(h.2 i r hr).2, hm]⟩⟩
theorem mem_af : ∀ {g : List (List Int)} {k : Nat} {p : Int × Int}, p ∈ af k g ↔ ∃ i r, g[i]? = some r ∧ p.1 = ((k + i : Nat) : Int) ∧ p.2 ∈ r
  | [], k, p => by simp [af]
  | l :: g, k, p => by
    unfold af
    rw [List.mem_append, mem_af (g := g), List.mem_map]
    constructor
    · rintro (⟨x, hx, rfl⟩ | ⟨i, r, h1, h2, h3⟩)
      · exact ⟨0, l, by simp, by simp, hx⟩
      · exact ⟨i + 1, r, by simpa using h1, by omega, h3⟩
    · rintro ⟨i, r, h1, h2, h3⟩
      cases i with
      | zero =>
        simp only [List.getElem?_cons_zero, Option.some.injEq] at h1
        subst h1
        exact .inl ⟨p.2, h3, by rw [Nat.add_zero] at h2; rw [← h2]⟩
      | succ i =>
        refine .inr ⟨i, r, by simpa using h1, by omega, h3⟩
theorem af_pw : ∀ {g : List (List Int)} {k : Nat}, (∀ r ∈ g, r.Pairwise (· < ·)) → (af k g).Pairwise lexLt
  | [], k, _ => by simp [af]
  | l :: g, k, h => by
    unfold af
    rw [List.pairwise_append]
    refine ⟨?_, af_pw fun r hr => h r (by simp [hr]), ?_⟩
    · rw [List.pairwise_map]
      exact (h l (by simp)).imp fun h => .inr ⟨rfl, h⟩
    · intro a ha b hb
      obtain ⟨x, _, rfl⟩ := List.mem_map.1 ha
      obtain ⟨i, r, _, h2, _⟩ := mem_af.1 hb
      left
      show (k : Int) < b.1
      omega
theorem af_isTab {g : List (List Int)} (h : ∀ r ∈ g, r.Pairwise (· < ·)) : IsTab g.length (af 0 g) g := by
  refine ⟨rfl, fun i r hr => ⟨h r (List.mem_of_getElem? hr), fun x => ?_⟩⟩
  rw [mem_af]
  constructor
  · intro hx; exact ⟨i, r, hr, by simp, hx⟩
  · rintro ⟨i', r', h1, h2, h3⟩
    have : i' = i := by simp at h2; omega
    subst this
    rw [hr] at h1
    cases h1
    exact h3
theorem isTab_pw {n : Nat} {l : List (Int × Int)} {T : List (List Int)} (h : IsTab n l T) : ∀ r ∈ T, r.Pairwise (· < ·) := fun r hr => by
  obtain ⟨i, hi⟩ := List.getElem?_of_mem hr
  exact (h.2 i r hi).1
theorem isTab_mem {n : Nat} {l : List (Int × Int)} {T : List (List Int)} (h : IsTab n l T) (hl : InR n l) (p : Int × Int) : p ∈ af 0 T ↔ p ∈ l := by
  rw [mem_af]
  constructor
  · rintro ⟨i, r, h1, h2, h3⟩
    have := ((h.2 i r h1).2 p.2).1 h3
    rw [Nat.zero_add] at h2
    rw [← h2] at this
    exact this
  · intro hp
    obtain ⟨h1, h2, _, _⟩ := hl p hp
    obtain ⟨a, ha⟩ := Int.eq_ofNat_of_zero_le h1
    have hlt : a < T.length := by rw [h.1]; omega
    refine ⟨a, T[a], List.getElem?_eq_getElem hlt, by omega, ?_⟩
    rw [(h.2 a _ (List.getElem?_eq_getElem hlt)).2, ← ha]
    exact hp
theorem isTab_perm {n : Nat} {l : List (Int × Int)} {T : List (List Int)} (h : IsTab n l T) (hl : InR n l) (hn : l.Nodup) : (af 0 T).Perm l :=
  (List.perm_ext_iff_of_nodup (lex_nodup (af_pw (isTab_pw h))) hn).2 (isTab_mem h hl)
theorem isTab_gr {n : Nat} {l : List (Int × Int)} {T : List (List Int)} (h : IsTab n l T) (hl : InR n l) (hn : n ≤ 100) (hm : (af 0 T).length ≤ 600) : Gr T := by
  refine ⟨by rw [h.1]; exact hn, fun r hr => ⟨isTab_pw h r hr, fun x hx => ?_⟩, by rw [← af_len 0]; exact hm⟩
  obtain ⟨i, hi⟩ := List.getElem?_of_mem hr
  have := hl _ (((h.2 i r hi).2 x).1 hx)
  rw [h.1]
  exact ⟨this.2.2.1, this.2.2.2⟩
theorem gr_in {g : List (List Int)} (h : Gr g) : InR g.length (af 0 g) := fun p hp => by
  obtain ⟨i, r, h1, h2, h3⟩ := mem_af.1 hp
  have h4 := (List.getElem?_eq_some_iff.1 h1).1
  have h5 := (h.2.1 r (List.mem_of_getElem? h1)).2 _ h3
  refine ⟨by omega, by omega, h5.1, h5.2⟩
theorem gr_pw {g : List (List Int)} (h : Gr g) : ∀ r ∈ g, r.Pairwise (· < ·) := fun r hr => (h.2.1 r hr).1
def ofE (n : Int) : List (Int × Int) → List (Int × Int) → Int
  | _, [] => 0
  | seen, p :: l => if p.1 < 0 ∨ n ≤ p.1 ∨ p.2 < 0 ∨ n ≤ p.2 then 3 else if p ∈ seen then 6 else ofE n (seen ++ [p]) l
theorem ofE_cons {n : Int} {seen : List (Int × Int)} {p : Int × Int} {l : List (Int × Int)} : ofE n seen (p :: l) = if p.1 < 0 ∨ n ≤ p.1 ∨ p.2 < 0 ∨ n ≤ p.2 then 3 else if p ∈ seen then 6 else ofE n (seen ++ [p]) l := rfl
theorem ofE_ok {n : Nat} : ∀ {l seen : List (Int × Int)}, ofE n seen l = 0 ↔ InR n l ∧ l.Nodup ∧ ∀ p ∈ l, p ∉ seen
  | [], seen => by simp [ofE, InR]
  | p :: l, seen => by
    unfold ofE
    by_cases h1 : p.1 < 0 ∨ (n : Int) ≤ p.1 ∨ p.2 < 0 ∨ (n : Int) ≤ p.2
    · rw [if_pos h1]
      refine ⟨fun h => by simp at h, fun h => ?_⟩
      have := h.1 p (by simp); omega
    · rw [if_neg h1]
      by_cases h2 : p ∈ seen
      · rw [if_pos h2]
        refine ⟨fun h => by simp at h, fun h => ?_⟩
        exact absurd h2 (h.2.2 p (by simp))
      · rw [if_neg h2, ofE_ok, List.nodup_cons]
        constructor
        · rintro ⟨a1, a2, a3⟩
          refine ⟨fun q hq => ?_, ⟨fun hp => a3 p hp (by simp), a2⟩, fun q hq => ?_⟩
          · rcases List.mem_cons.1 hq with rfl | hq
            · omega
            · exact a1 q hq
          · rcases List.mem_cons.1 hq with rfl | hq
            · exact h2
            · exact fun h => a3 q hq (by simp [h])
        · rintro ⟨a1, ⟨a2, a3⟩, a4⟩
          refine ⟨fun q hq => a1 q (by simp [hq]), a3, fun q hq h => ?_⟩
          rcases List.mem_append.1 h with h | h
          · exact a4 q (by simp [hq]) h
          · have : q = p := by simpa using h
            subst this; exact a2 hq
def ofM (n : Int) (l : List (Int × Int)) : List (List Int) × Int :=
  if n < 0 ∨ 100 < n then ([], 3) else if 600 < l.length then ([], 2) else if ofE n [] l ≠ 0 then ([], ofE n [] l) else (tab n.toNat (srtA l), 0)
theorem of_l {F n : Nat} {l : List (Int × Int)} (hF : 1000 ≤ F) (hn : n ≤ 100) (hl : l.length ≤ 600) : ∀ (k j : Nat), l.length < k + j → j ≤ l.length → (ofE n [] l = ofE n (l.take j) (l.drop j)) →
    M_graph_Of_l3 F (n : Int) l k ((j : Int), l.take j) = some (if ofE n [] l ≠ 0 then ([], ofE n [] l) else (tab n (srtA l), 0))
  | 0, _, _, _, _ => by omega
  | k + 1, j, h, hj, he => by
    show M_graph_Of_b3 F (n : Int) l (M_graph_Of_l3 F (n : Int) l k) (j : Int) (l.take j) = _
    unfold M_graph_Of_b3
    by_cases hlt : j < l.length
    · have hrec := of_l (F := F) hF hn hl k (j + 1) (by omega) (by omega)
      rw [if_pos (by simp; omega), idx_nat, List.getElem?_eq_getElem hlt]
      simp only [Option.bind_some]
      rw [List.drop_eq_getElem_cons hlt, ofE_cons] at he
      by_cases h1 : l[j].1 < 0 ∨ (n : Int) ≤ l[j].1 ∨ l[j].2 < 0 ∨ (n : Int) ≤ l[j].2
      · rw [if_pos h1] at he
        rw [if_pos (by simp only [Bool.or_eq_true, decide_eq_true_eq]; omega), if_pos (by rw [he]; decide), he]
      · rw [if_neg h1] at he
        rw [if_neg (by simp only [Bool.or_eq_true, decide_eq_true_eq]; omega)]
        by_cases h2 : l[j] ∈ l.take j
        · rw [if_pos h2] at he
          rw [if_pos (by simpa using h2), if_pos (by rw [he]; decide), he]
        · rw [if_neg h2, ← take_snoc hlt] at he
          rw [if_neg (by simpa using h2)]
          have : sins (l.take j) (l[j].1, l[j].2) = some (l.take (j + 1)) := by
            unfold sins
            rw [if_neg h2, take_snoc hlt]
          rw [this]
          simp only [Option.bind_some]
          rw [iadd1_n (by omega)]
          exact hrec he
    · rw [List.drop_eq_nil_of_le (by omega)] at he
      have he : ofE n [] l = 0 := he
      obtain ⟨a1, a2, _⟩ := ofE_ok.1 he
      rw [if_neg (by simp; omega), if_neg (by rw [he]; decide)]
      unfold M_graph_Of_j2 M_slices_Values_api_Arc_api_Arc
      simp only [Option.bind_some]
      rw [sortedFunc_eq (by omega) (by omega) (by omega)]
      simp only [Option.bind_some]
      rw [built_eq (fun p hp => by have := a1 p ((srtA_perm l).mem_iff.1 hp); omega) (by rw [srtA_len]; omega) (by rw [srtA_len]; omega) (by omega)]
      rfl
theorem of_eq {F : Nat} {n : Int} {l : List (Int × Int)} (hF : 1000 ≤ F) : M_graph_Of F n l = some (ofM n l) := by
  unfold M_graph_Of ofM
  by_cases h1 : n < 0 ∨ 100 < n
  · rw [if_pos (by simpa using h1), if_pos h1]
  · rw [if_neg (by simpa using h1), if_neg h1]
    by_cases h2 : 600 < l.length
    · rw [if_pos (by simp; omega), if_pos h2]
    · rw [if_neg (by simp; omega), if_neg h2]
      obtain ⟨m, rfl⟩ := Int.eq_ofNat_of_zero_le (show 0 ≤ n by omega)
      have := of_l (F := F) (n := m) (l := l) hF (by omega) (by omega) F 0 (by omega) (by omega) (by simp)
      rw [List.take_zero] at this
      exact this
theorem ofM_tab {n : Nat} {l : List (Int × Int)} (hn : n ≤ 100) (hl : l.length ≤ 600) (h1 : InR n l) (h2 : l.Nodup) : ofM n l = (tab n (srtA l), 0) := by
  have h3 : ofE n [] l = 0 := ofE_ok.2 ⟨h1, h2, fun p _ => by simp⟩
  unfold ofM
  rw [if_neg (by omega), if_neg (by omega), if_neg (by rw [h3]; decide), Int.toNat_natCast]
theorem srt_isTab {n : Nat} {l : List (Int × Int)} (h : l.Nodup) : IsTab n l (tab n (srtA l)) :=
  isTab_congr (tab_isTab (srtA_strict h)) fun _ => (srtA_perm l).mem_iff
theorem arcs_eq {F : Nat} {g : List (List Int)} (hF : 1000 ≤ F) : M_graph_Arcs F g = some (if gchk g ≠ 0 then ([], gchk g) else (af 0 g, 0)) := by
  unfold M_graph_Arcs M_graph_All
  rw [graphCheck_eq hF]
  simp only [Option.bind_some]
  by_cases h : gchk g = 0
  · rw [if_neg (by simp [h]), if_neg (by simp [h]), collect_all hF (gchk_ok.1 h)]
    rfl
  · rw [if_pos (by simpa using h), if_pos h]
def sw (l : List (Int × Int)) : List (Int × Int) := l.map fun p => (p.2, p.1)
theorem sw_len (l : List (Int × Int)) : (sw l).length = l.length := by simp [sw]
theorem sw_mem {l : List (Int × Int)} {p : Int × Int} : p ∈ sw l ↔ (p.2, p.1) ∈ l := by
  unfold sw
  rw [List.mem_map]
  constructor
  · rintro ⟨q, hq, rfl⟩; exact hq
  · intro h; exact ⟨_, h, rfl⟩
theorem sw_in {n : Nat} {l : List (Int × Int)} (h : InR n l) : InR n (sw l) := fun p hp => by
  have := h _ (sw_mem.1 hp)
  exact ⟨this.2.2.1, this.2.2.2, this.1, this.2.1⟩
theorem sw_nodup {l : List (Int × Int)} (h : l.Nodup) : (sw l).Nodup := by
  have h : l.Pairwise fun a b => a ≠ b := h
  show (sw l).Pairwise fun a b => a ≠ b
  unfold sw
  rw [List.pairwise_map]
  exact h.imp fun {a b} hab he => hab (by cases a; cases b; simp_all)
theorem gr_len {g : List (List Int)} (h : Gr g) : (af 0 g).length ≤ 600 := by rw [af_len]; exact h.2.2
theorem gr_nodup {g : List (List Int)} (h : Gr g) : (af 0 g).Nodup := lex_nodup (af_pw (gr_pw h))
/-- The turned graph. -/
def tn (g : List (List Int)) : List (List Int) := tab g.length (srtA (sw (af 0 g)))
theorem tn_isTab {g : List (List Int)} (h : Gr g) : IsTab g.length (sw (af 0 g)) (tn g) := srt_isTab (sw_nodup (gr_nodup h))
theorem tn_gr {g : List (List Int)} (h : Gr g) : Gr (tn g) := by
  have h1 := isTab_perm (tn_isTab h) (sw_in (gr_in h)) (sw_nodup (gr_nodup h))
  refine isTab_gr (tn_isTab h) (sw_in (gr_in h)) h.1 ?_
  rw [h1.length_eq, sw_len]; exact gr_len h
theorem tn_af {g : List (List Int)} (h : Gr g) : (af 0 (tn g)).Perm (sw (af 0 g)) := isTab_perm (tn_isTab h) (sw_in (gr_in h)) (sw_nodup (gr_nodup h))
theorem tn_len (g : List (List Int)) : (tn g).length = g.length := tab_len _ _
theorem gr_self {g T : List (List Int)} (h : Gr g) {l : List (Int × Int)} (hT : IsTab g.length l T) (hm : ∀ p, p ∈ l ↔ p ∈ af 0 g) : T = g :=
  isTab_uniq hT (af_isTab (gr_pw h)) hm
theorem tn_tn {g : List (List Int)} (h : Gr g) : tn (tn g) = g := by
  have h1 := tn_isTab (tn_gr h)
  rw [tn_len] at h1
  refine gr_self h h1 fun p => ?_
  rw [sw_mem, (tn_af h).mem_iff, sw_mem]
theorem turn_eq {F : Nat} {g : List (List Int)} (hF : 1000 ≤ F) : M_graph_Turn F g = some (if gchk g ≠ 0 then ([], gchk g) else (tn g, 0)) := by
  unfold M_graph_Turn
  rw [graphCheck_eq hF]
  simp only [Option.bind_some]
  by_cases h : gchk g = 0
  · have hg := gchk_ok.1 h
    have h1 := hg.1
    have h2 := gr_len hg
    rw [if_neg (by simp [h]), if_neg (by simp [h]), turned_eq hF hg]
    simp only [Option.bind_some]
    show (M_slices_Values_api_Arc_api_Arc F (sw (af 0 g))).bind _ = _
    unfold M_slices_Values_api_Arc_api_Arc
    simp only [Option.bind_some]
    show (M_slices_SortedFunc_api_Arc_slices_Values_api_Arc_api_Arc_1_graph_order F (sw (af 0 g))).bind _ = _
    rw [sortedFunc_eq (by omega) (by rw [sw_len]; omega) (by rw [sw_len]; omega)]
    simp only [Option.bind_some]
    rw [built_eq (fun p hp => by have := sw_in (gr_in hg) p ((srtA_perm _).mem_iff.1 hp); omega) (by rw [srtA_len, sw_len]; omega) (by rw [srtA_len, sw_len]; omega) (by omega)]
    rfl
  · rw [if_pos (by simpa using h), if_pos h]
theorem sw_snoc (l : List (Int × Int)) (p : Int × Int) : sw (l ++ [p]) = sw l ++ [(p.2, p.1)] := by simp [sw]
def ddA : Int × Int → List (Int × Int) → List (Int × Int)
  | _, [] => []
  | p, q :: l => if q = p then ddA p l else q :: ddA q l
def ddP : List (Int × Int) → List (Int × Int)
  | [] => []
  | p :: l => p :: ddA p l
theorem ddA_mem : ∀ {l : List (Int × Int)} {p x : Int × Int}, x ∈ p :: ddA p l ↔ x ∈ p :: l
  | [], p, x => by simp [ddA]
  | q :: l, p, x => by
    unfold ddA
    by_cases h : q = p
    · rw [if_pos h, ddA_mem, h]; simp
    · rw [if_neg h, List.mem_cons, ddA_mem, List.mem_cons (a := x) (b := p)]
theorem ddP_mem {l : List (Int × Int)} {x : Int × Int} : x ∈ ddP l ↔ x ∈ l := by
  cases l with
  | nil => simp [ddP]
  | cons p l => exact ddA_mem
theorem ddA_len : ∀ (l : List (Int × Int)) (p : Int × Int), (ddA p l).length ≤ l.length
  | [], p => by simp [ddA]
  | q :: l, p => by
    unfold ddA
    split
    · have := ddA_len l p; simp; omega
    · have := ddA_len l q; simp; omega
theorem ddP_len (l : List (Int × Int)) : (ddP l).length ≤ l.length := by
  cases l with
  | nil => simp [ddP]
  | cons p l => have := ddA_len l p; simp [ddP]; omega
theorem drop_set_lt {α : Type} {xs : List α} {a b : Nat} {v : α} (h : a < b) : (xs.set a v).drop b = xs.drop b := by
  apply List.ext_getElem (by simp)
  intro i h1 h2
  simp only [List.getElem_drop]
  rw [List.getElem_set, if_neg (by omega)]
theorem compact_in {F K : Nat} {l : List (Int × Int)} (hm : l.length ≤ 1000000) (hK : K < l.length) : ∀ (n k2 k : Nat) (x : List (Int × Int)), l.length < n + (K + k2) → 1 ≤ k2 → K + k2 ≤ l.length → x.length = l.length → k < K + k2 → x.drop (K + k2 - 1) = l.drop (K + k2 - 1) → x.take k ++ ddA (l.getD (K + k2 - 1) (0, 0)) (l.drop (K + k2)) = ddP l →
    M_slices_Compact_api_Arc_api_Arc_l116 F l (K : Int) n (x, (k : Int), (k2 : Int)) = some (ddP l)
  | 0, _, _, _, _, _, _, _, _, _, _ => by omega
  | n + 1, k2, k, x, h, h1, h2, hx, hk, hd, he => by
    have hat : ∀ j, K + k2 - 1 ≤ j → x[j]? = l[j]? := fun j hj => by
      have := congrArg (fun z => z[j - (K + k2 - 1)]?) hd
      simp only [List.getElem?_drop] at this
      rwa [show K + k2 - 1 + (j - (K + k2 - 1)) = j from by omega] at this
    show M_slices_Compact_api_Arc_api_Arc_b116 F l (K : Int) (M_slices_Compact_api_Arc_api_Arc_l116 F l (K : Int) n) x (k : Int) (k2 : Int) = _
    unfold M_slices_Compact_api_Arc_api_Arc_b116
    rw [Int.toNat_natCast]
    by_cases hlt : K + k2 < l.length
    · have hlt1 : K + k2 - 1 < l.length := by omega
      rw [if_pos (by simp; omega)]
      simp only [chk]
      rw [if_pos (by simp [hx]), idx_nat, List.getElem?_drop, hat _ (by omega), List.getElem?_eq_getElem hlt]
      simp only [Option.bind_some]
      rw [if_pos (by simp [hx]), isub1_n h1 (by omega), idx_nat, List.getElem?_drop, show K + (k2 - 1) = K + k2 - 1 from by omega, hat _ (by omega), List.getElem?_eq_getElem hlt1]
      simp only [Option.bind_some]
      rw [List.drop_eq_getElem_cons hlt, show l.getD (K + k2 - 1) (0, 0) = l[K + k2 - 1] from by simp [List.getD, List.getElem?_eq_getElem hlt1]] at he
      unfold ddA at he
      have hgd : l.getD (K + (k2 + 1) - 1) (0, 0) = l[K + k2] := by rw [show K + (k2 + 1) - 1 = K + k2 from by omega]; simp [List.getD, List.getElem?_eq_getElem hlt]
      have hrec := compact_in (F := F) hm hK n (k2 + 1)
      by_cases hc : l[K + k2] = l[K + k2 - 1]
      · rw [if_pos hc] at he
        rw [if_neg (by simp [hc])]
        unfold M_slices_Compact_api_Arc_api_Arc_j117
        rw [iadd1_n (by omega)]
        refine hrec k x (by omega) (by omega) (by omega) hx (by omega) ?_ ?_
        · have := congrArg (fun z => z.drop 1) hd
          simp only [List.drop_drop] at this
          rwa [show K + k2 - 1 + 1 = K + (k2 + 1) - 1 from by omega] at this
        · rw [hgd, hc]; exact he
      · rw [if_neg hc] at he
        rw [if_pos (by simp only [Bool.not_eq_true', Bool.and_eq_false_iff, beq_eq_false_iff_ne, ne_eq]; by_cases h5 : l[K + k2].1 = l[K + k2 - 1].1
                       · exact .inr fun h6 => hc (Prod.ext h5 h6)
                       · exact .inl h5), if_pos (by simp [hx]), idx_nat, List.getElem?_eq_getElem (by omega)]
        simp only [Option.bind_some, lett, Int.toNat_natCast]
        unfold M_slices_Compact_api_Arc_api_Arc_j117
        rw [iadd1_n (by omega), iadd1_n (by omega)]
        refine hrec (k + 1) _ (by omega) (by omega) (by omega) (by simp [hx]) (by omega) ?_ ?_
        · rw [drop_set_lt (by omega)]
          have := congrArg (fun z => z.drop 1) hd
          simp only [List.drop_drop] at this
          rwa [show K + k2 - 1 + 1 = K + (k2 + 1) - 1 from by omega] at this
        · have hkl : k < x.length := by omega
          rw [hgd, take_snoc (by simp; omega), List.take_set_of_le (by omega), List.getElem_set_self, List.append_assoc]
          exact he
    · rw [if_neg (by simp; omega)]
      unfold M_slices_Compact_api_Arc_api_Arc_j113
      rw [List.drop_eq_nil_of_le (by omega)] at he
      simp only [ddA, List.append_nil] at he
      simp only [chk, lett]
      rw [if_pos (by simp; omega), Int.toNat_natCast]
      have := sub_n (l := x.take k ++ List.replicate (x.length - k) ((0 : Int), (0 : Int))) (i := 0) (j := k) (by omega) (by simp; omega)
      rw [show ((0 : Nat) : Int) = 0 from rfl, List.drop_zero, List.take_append_of_le_length (by simp; omega), List.take_take, Nat.min_self] at this
      rw [this, he]
      rfl
theorem compact_out {F : Nat} {l : List (Int × Int)} (hF : l.length < F) (hm : l.length ≤ 1000000) : ∀ (n k : Nat), l.length < n + k → 1 ≤ k → k ≤ l.length → l.take k ++ ddA (l.getD (k - 1) (0, 0)) (l.drop k) = ddP l →
    M_slices_Compact_api_Arc_api_Arc_l98 F l n (k : Int) = some (ddP l)
  | 0, _, _, _, _, _ => by omega
  | n + 1, k, h, h1, h2, he => by
    show M_slices_Compact_api_Arc_api_Arc_b98 F l (M_slices_Compact_api_Arc_api_Arc_l98 F l n) (k : Int) = _
    unfold M_slices_Compact_api_Arc_api_Arc_b98
    by_cases hlt : k < l.length
    · have hlt1 : k - 1 < l.length := by omega
      have hgd0 : l.getD (k - 1) (0, 0) = l[k - 1] := by simp [List.getD, List.getElem?_eq_getElem hlt1]
      have hgd : l.getD (k + 1 - 1) (0, 0) = l[k] := by rw [show k + 1 - 1 = k from by omega]; simp [List.getD, List.getElem?_eq_getElem hlt]
      rw [List.drop_eq_getElem_cons hlt, hgd0] at he
      unfold ddA at he
      rw [if_pos (by simp; omega), idx_nat, List.getElem?_eq_getElem hlt]
      simp only [Option.bind_some]
      rw [isub1_n h1 (by omega), idx_nat, List.getElem?_eq_getElem hlt1]
      simp only [Option.bind_some]
      by_cases hc : l[k] = l[k - 1]
      · rw [if_pos hc] at he
        rw [if_pos (by simp [hc])]
        simp only [chk]
        rw [if_pos (by simp; omega)]
        refine compact_in (F := F) hm hlt F 1 k l (by omega) (by omega) (by omega) rfl (by omega) rfl ?_
        rw [hgd, hc]; exact he
      · rw [if_neg hc] at he
        rw [if_neg (by simp only [Bool.and_eq_true, beq_iff_eq]; exact fun h => hc (Prod.ext h.1 h.2))]
        unfold M_slices_Compact_api_Arc_api_Arc_j108
        rw [iadd1_n (by omega)]
        refine compact_out hF hm n (k + 1) (by omega) (by omega) (by omega) ?_
        rw [hgd, take_snoc hlt, List.append_assoc]; exact he
    · rw [if_neg (by simp; omega)]
      unfold M_slices_Compact_api_Arc_api_Arc_j59
      rw [List.drop_eq_nil_of_le (by omega), List.take_of_length_le (by omega)] at he
      simp only [ddA, List.append_nil] at he
      exact congrArg some he
theorem compactA_eq {F : Nat} {l : List (Int × Int)} (hF : l.length < F) (hm : l.length ≤ 1000000) : M_slices_Compact_api_Arc_api_Arc F l = some (ddP l) := by
  unfold M_slices_Compact_api_Arc_api_Arc
  by_cases h : l.length < 2
  · rw [if_pos (by simp; omega)]
    match l, h with
    | [], _ => rfl
    | [p], _ => rfl
  · rw [if_neg (by simp; omega)]
    refine compact_out hF hm F 1 (by omega) (by omega) (by omega) ?_
    cases l with
    | nil => simp at h
    | cons p l => rfl
/-- An arc leads from one node to another. -/
def Ld (g : List (List Int)) (u v : Nat) : Prop := ((u : Int), (v : Int)) ∈ af 0 g
theorem ld_row {g : List (List Int)} {u v : Nat} : Ld g u v ↔ ∃ r, g[u]? = some r ∧ (v : Int) ∈ r := by
  unfold Ld
  rw [mem_af]
  constructor
  · rintro ⟨i, r, h1, h2, h3⟩
    simp only [Nat.zero_add] at h2
    obtain rfl : u = i := by omega
    exact ⟨r, h1, h3⟩
  · rintro ⟨r, h1, h2⟩
    exact ⟨u, r, h1, by simp, h2⟩
theorem ld_in {g : List (List Int)} (hg : Gr g) {u v : Nat} (h : Ld g u v) : u < g.length ∧ v < g.length := by
  have := gr_in hg _ h
  simp only at this
  omega
theorem ld_tn {g : List (List Int)} (hg : Gr g) {u v : Nat} : Ld (tn g) u v ↔ Ld g v u := by
  unfold Ld
  rw [(tn_af hg).mem_iff]
  unfold sw
  rw [List.mem_map]
  constructor
  · rintro ⟨p, hp, he⟩
    simp only [Prod.mk.injEq] at he
    have : p = ((v : Int), (u : Int)) := Prod.ext he.2 he.1
    rw [this] at hp; exact hp
  · intro h
    exact ⟨_, h, rfl⟩
def Wk (g : List (List Int)) : Nat → Nat → Nat → Prop
  | 0, s, t => s = t
  | k + 1, s, t => ∃ u, Ld g s u ∧ Wk g k u t
theorem wk_app {g : List (List Int)} : ∀ {j k s u t : Nat}, Wk g j s u → Wk g k u t → Wk g (j + k) s t
  | 0, k, s, u, _, h1, h2 => by
    have h1 : s = u := h1
    subst h1
    rw [Nat.zero_add]; exact h2
  | j + 1, k, _, _, _, ⟨w, h0, h1⟩, h2 => by
    rw [show j + 1 + k = (j + k) + 1 by omega]
    exact ⟨w, h0, wk_app h1 h2⟩
theorem wk_one {g : List (List Int)} {s t : Nat} (h : Ld g s t) : Wk g 1 s t := ⟨t, h, rfl⟩
theorem wk_snoc {g : List (List Int)} {k s u t : Nat} (h1 : Wk g k s u) (h2 : Ld g u t) : Wk g (k + 1) s t := wk_app h1 (wk_one h2)
theorem wk_tn {g : List (List Int)} (hg : Gr g) : ∀ {k s t : Nat}, Wk g k s t → Wk (tn g) k t s
  | 0, s, t, h => (show s = t from h).symm
  | _ + 1, _, _, ⟨_, h0, h1⟩ => wk_snoc (wk_tn hg h1) ((ld_tn hg).2 h0)
theorem wk_sub {g h : List (List Int)} (hs : ∀ u v, Ld g u v → Ld h u v) : ∀ {k s t : Nat}, Wk g k s t → Wk h k s t
  | 0, _, _, e => e
  | _ + 1, _, _, ⟨u, h0, h1⟩ => ⟨u, hs _ _ h0, wk_sub hs h1⟩
theorem wk_in {g : List (List Int)} (hg : Gr g) {k s t : Nat} (hs : s < g.length) : Wk g k s t → t < g.length := by
  induction k generalizing s with
  | zero => intro h; have h : s = t := h; omega
  | succ k ih => rintro ⟨u, h0, h1⟩; exact ih (ld_in hg h0).2 h1
def gD (d : List Int) (t : Nat) : Int := d.getD t (-1)
theorem gD_get {d : List Int} {t : Nat} (h : t < d.length) : d[t]? = some (gD d t) := by simp [gD, List.getD, List.getElem?_eq_getElem h]
theorem gD_out {d : List Int} {t : Nat} (h : d.length ≤ t) : gD d t = -1 := by simp [gD, List.getD, List.getElem?_eq_none h]
theorem gD_set {d : List Int} {t u : Nat} {x : Int} (h : t < d.length) : gD (d.set t x) u = if u = t then x else gD d u := by
  unfold gD
  rw [List.getD_eq_getElem?_getD, List.getElem?_set, List.getD_eq_getElem?_getD]
  by_cases hu : u = t
  · subst hu; rw [if_pos rfl, if_pos h, if_pos rfl]; rfl
  · rw [if_neg (by omega), if_neg hu]
theorem gD_ext {d e : List Int} (hl : d.length = e.length) (h : ∀ t, t < d.length → gD d t = gD e t) : d = e := by
  apply List.ext_getElem? ; intro t
  by_cases ht : t < d.length
  · rw [gD_get ht, gD_get (by omega), h t ht]
  · rw [List.getElem?_eq_none (by omega), List.getElem?_eq_none (by omega)]
/-- What a list of how far each node is must be. -/
structure FarOk (g : List (List Int)) (s : Nat) (d : List Int) : Prop where
  len : d.length = g.length
  src : gD d s = 0
  low : ∀ t, -1 ≤ gD d t
  up : ∀ u t, Ld g u t → 0 ≤ gD d u → 0 ≤ gD d t ∧ gD d t ≤ gD d u + 1
  fr : ∀ t, t ≠ s → 0 ≤ gD d t → ∃ u, Ld g u t ∧ gD d u + 1 = gD d t ∧ 0 ≤ gD d u
theorem FarOk.wk {g : List (List Int)} {s : Nat} {d : List Int} (h : FarOk g s d) : ∀ {k u t : Nat}, Wk g k u t → 0 ≤ gD d u → 0 ≤ gD d t ∧ gD d t ≤ gD d u + k
  | 0, u, t, hw, h0 => by have hw : u = t := hw; subst hw; omega
  | k + 1, u, t, ⟨v, h1, h2⟩, h0 => by
    have h3 := h.up u v h1 h0
    have h4 := h.wk h2 h3.1
    omega
theorem FarOk.le {g : List (List Int)} {s : Nat} {d : List Int} (h : FarOk g s d) {k t : Nat} (hw : Wk g k s t) : 0 ≤ gD d t ∧ gD d t ≤ k := by
  have := h.wk hw (by rw [h.src]; exact Int.le_refl 0)
  rw [h.src] at this; omega
theorem FarOk.way {g : List (List Int)} {s : Nat} {d : List Int} (h : FarOk g s d) : ∀ (k t : Nat), gD d t = k → Wk g k s t
  | 0, t, hk => by
    by_cases ht : t = s
    · subst ht; rfl
    · obtain ⟨u, _, h2, h3⟩ := h.fr t ht (by omega)
      omega
  | k + 1, t, hk => by
    by_cases ht : t = s
    · subst ht; rw [h.src] at hk; omega
    · obtain ⟨u, h1, h2, h3⟩ := h.fr t ht (by omega)
      exact wk_snoc (h.way k u (by omega)) h1
theorem FarOk.way' {g : List (List Int)} {s : Nat} {d : List Int} (h : FarOk g s d) {t : Nat} (h0 : 0 ≤ gD d t) : Wk g (gD d t).toNat s t := h.way _ t (by omega)
theorem FarOk.uni {g : List (List Int)} {s : Nat} {d : List Int} {e : List Int} (h : FarOk g s d) (h' : FarOk g s e) : d = e := by
  refine gD_ext (by rw [h.len, h'.len]) fun t _ => ?_
  have l1 := h.low t
  have l2 := h'.low t
  by_cases h0 : 0 ≤ gD d t
  · have a := h'.le (h.way' h0)
    have b := h.le (h'.way' a.1)
    omega
  · by_cases h1 : 0 ≤ gD e t
    · have b := h.le (h'.way' h1)
      omega
    · omega
theorem nodup_le : ∀ {L M : List Nat}, L.Nodup → (∀ x ∈ L, x ∈ M) → L.length ≤ M.length
  | [], _, _, _ => Nat.zero_le _
  | x :: L, M, h, hs => by
    have hx := hs x (by simp)
    have h1 := List.nodup_cons.1 h
    have := nodup_le (L := L) (M := M.erase x) h1.2 fun y hy => (List.mem_erase_of_ne (fun e : y = x => h1.1 (e ▸ hy))).2 (hs y (by simp [hy]))
    rw [List.length_erase_of_mem hx] at this
    have := List.length_pos_of_mem hx
    simp only [List.length_cons]; omega
theorem FarOk.levels {g : List (List Int)} {s : Nat} {d : List Int} (h : FarOk g s d) : ∀ (k t : Nat), gD d t = k → ∀ j, j ≤ k → ∃ v, gD d v = (j : Int)
  | 0, t, hk, j, hj => ⟨t, by omega⟩
  | k + 1, t, hk, j, hj => by
    by_cases hjk : j = k + 1
    · exact ⟨t, by omega⟩
    · by_cases ht : t = s
      · subst ht; rw [h.src] at hk; omega
      · obtain ⟨u, h1, h2, h3⟩ := h.fr t ht (by omega)
        exact h.levels k u (by omega) j (by omega)
theorem FarOk.lt {g : List (List Int)} {s : Nat} {d : List Int} (h : FarOk g s d) (t : Nat) (ht : 0 < g.length) : gD d t < g.length := by
  by_cases h0 : 0 ≤ gD d t
  · obtain ⟨k, hk⟩ := Int.eq_ofNat_of_zero_le h0
    have := nodup_le (L := List.range (k + 1)) (M := d.map Int.toNat) List.nodup_range fun j hj => by
      obtain ⟨v, hv⟩ := h.levels k t hk j (by have := List.mem_range.1 hj; omega)
      have hvl : v < d.length := by
        by_cases hvl : v < d.length
        · exact hvl
        · rw [gD_out (by omega)] at hv; omega
      exact List.mem_map.2 ⟨gD d v, List.mem_of_getElem? (gD_get hvl), by rw [hv]; rfl⟩
    rw [List.length_range, List.length_map, h.len] at this
    omega
  · omega
/-- Turned round it is as far back. -/
theorem far_back {g : List (List Int)} {s t : Nat} {d e : List Int} (hg : Gr g) (h : FarOk g s d) (h' : FarOk (tn g) t e) : gD d t = gD e s := by
  have l1 := h.low t
  have l2 := h'.low s
  by_cases h0 : 0 ≤ gD d t
  · have a := h'.le (wk_tn hg (h.way' h0))
    have b := wk_tn (tn_gr hg) (h'.way' a.1)
    rw [tn_tn hg] at b
    have c := h.le b
    omega
  · by_cases h1 : 0 ≤ gD e s
    · have b := wk_tn (tn_gr hg) (h'.way' h1)
      rw [tn_tn hg] at b
      have c := h.le b
      omega
    · omega
theorem find_least {l : List Int} {p : Int → Bool} (hl : l.Pairwise (· < ·)) {v : Int} (h : l.find? p = some v) {w : Int} (hw : w ∈ l) (hp : p w = true) : v ≤ w := by
  induction l with
  | nil => simp at hw
  | cons x l ih =>
    rw [List.find?_cons] at h
    cases hx : p x with
    | true =>
      rw [hx] at h
      simp only [Option.some.injEq] at h
      subst h
      rcases List.mem_cons.1 hw with rfl | hw
      · exact Int.le_refl _
      · exact Int.le_of_lt ((List.pairwise_cons.1 hl).1 w hw)
    | false =>
      rw [hx] at h
      rcases List.mem_cons.1 hw with rfl | hw
      · rw [hp] at hx; simp at hx
      · exact ih (List.pairwise_cons.1 hl).2 h hw
def nearer (left : List Int) (u : Nat) (v : Int) : Bool := decide (gD left v.toNat + 1 = gD left u)
def nxt (g : List (List Int)) (left : List Int) (u : Nat) : Nat := (((g.getD u []).find? (nearer left u)).getD 0).toNat
theorem nxt_ok {g : List (List Int)} {left : List Int} {t u k : Nat} (hg : Gr g) (h : FarOk (tn g) t left) (hu : gD left u = ((k + 1 : Nat) : Int)) :
    (g.getD u []).find? (nearer left u) = some (nxt g left u : Int) ∧ Ld g u (nxt g left u) ∧ gD left (nxt g left u) = (k : Int) ∧ ∀ w, Ld g u w → gD left w = (k : Int) → nxt g left u ≤ w := by
  have hut : u ≠ t := by
    rintro rfl
    rw [h.src] at hu; omega
  obtain ⟨v, h1, h2, h3⟩ := h.fr u hut (by omega)
  rw [ld_tn hg, ld_row] at h1
  obtain ⟨r, hr, hv⟩ := h1
  have hrow : g.getD u [] = r := by simp [List.getD, hr]
  have hrg := hg.2.1 r (List.mem_of_getElem? hr)
  have hpv : nearer left u (v : Int) = true := by
    unfold nearer
    rw [Int.toNat_natCast, decide_eq_true_eq]; exact h2
  cases hf : r.find? (nearer left u) with
  | none =>
    have := List.find?_eq_none.1 hf _ hv
    exact absurd hpv this
  | some x =>
    have hx := List.mem_of_find?_eq_some hf
    have hx0 := hrg.2 x hx
    have hpx := List.find?_some hf
    obtain ⟨n, rfl⟩ := Int.eq_ofNat_of_zero_le hx0.1
    have hn : nxt g left u = n := by unfold nxt; rw [hrow, hf]; rfl
    rw [hn]
    refine ⟨by rw [hrow]; exact hf, ld_row.2 ⟨r, hr, hx⟩, ?_, fun w hw1 hw2 => ?_⟩
    · unfold nearer at hpx
      rw [Int.toNat_natCast, decide_eq_true_eq] at hpx
      omega
    · obtain ⟨r', hr', hw'⟩ := ld_row.1 hw1
      rw [hr] at hr'
      obtain rfl := Option.some.inj hr'
      have := find_least hrg.1 hf hw' (by unfold nearer; rw [Int.toNat_natCast, decide_eq_true_eq]; omega)
      omega
def wy (g : List (List Int)) (left : List Int) : Nat → Nat → List Nat
  | 0, u => [u]
  | k + 1, u => u :: wy g left k (nxt g left u)
theorem wy_len (g : List (List Int)) (left : List Int) : ∀ (k u : Nat), (wy g left k u).length = k + 1
  | 0, _ => rfl
  | k + 1, u => by rw [wy, List.length_cons, wy_len g left k]
theorem wy_0 (g : List (List Int)) (left : List Int) (k u : Nat) : (wy g left k u).getD 0 0 = u := by
  cases k <;> rfl
theorem wy_s (g : List (List Int)) (left : List Int) (k u i : Nat) : (wy g left (k + 1) u).getD (i + 1) 0 = (wy g left k (nxt g left u)).getD i 0 := rfl
theorem wy_far {g : List (List Int)} {left : List Int} {t : Nat} (hg : Gr g) (h : FarOk (tn g) t left) : ∀ (k u i : Nat), gD left u = (k : Int) → i ≤ k → gD left ((wy g left k u).getD i 0) = ((k - i : Nat) : Int)
  | k, u, 0, hu, _ => by rw [wy_0, hu, Nat.sub_zero]
  | 0, _, i + 1, _, hi => by omega
  | k + 1, u, i + 1, hu, hi => by
    rw [wy_s, wy_far hg h k _ i (nxt_ok hg h hu).2.2.1 (by omega)]
    congr 1; omega
theorem wy_ld {g : List (List Int)} {left : List Int} {t : Nat} (hg : Gr g) (h : FarOk (tn g) t left) : ∀ (k u i : Nat), gD left u = (k : Int) → i < k → Ld g ((wy g left k u).getD i 0) ((wy g left k u).getD (i + 1) 0)
  | 0, _, _, _, hi => by omega
  | k + 1, u, 0, hu, _ => by rw [wy_0, wy_s, wy_0]; exact (nxt_ok hg h hu).2.1
  | k + 1, u, i + 1, hu, hi => by rw [wy_s, wy_s]; exact wy_ld hg h k _ i (nxt_ok hg h hu).2.2.1 (by omega)
theorem far_zero {g : List (List Int)} {s : Nat} {d : List Int} (h : FarOk g s d) {t : Nat} (ht : gD d t = 0) : t = s := by
  by_cases hts : t = s
  · exact hts
  · obtain ⟨u, _, h2, h3⟩ := h.fr t hts (by omega)
    omega
theorem wy_last {g : List (List Int)} {left : List Int} {t : Nat} (hg : Gr g) (h : FarOk (tn g) t left) {k u : Nat} (hu : gD left u = (k : Int)) : (wy g left k u).getD k 0 = t := by
  refine far_zero h ?_
  rw [wy_far hg h k u k hu (Nat.le_refl _)]; simp
def Ud (g : List (List Int)) (u v : Nat) : Prop := Ld g u v ∨ Ld g v u
def Uw (g : List (List Int)) : Nat → Nat → Nat → Prop
  | 0, s, t => s = t
  | k + 1, s, t => ∃ u, Ud g s u ∧ Uw g k u t
theorem ud_symm {g : List (List Int)} {u v : Nat} (h : Ud g u v) : Ud g v u := h.symm
theorem uw_app {g : List (List Int)} : ∀ {j k s u t : Nat}, Uw g j s u → Uw g k u t → Uw g (j + k) s t
  | 0, k, s, u, _, h1, h2 => by
    have h1 : s = u := h1
    subst h1
    rw [Nat.zero_add]; exact h2
  | j + 1, k, _, _, _, ⟨w, h0, h1⟩, h2 => by
    rw [show j + 1 + k = (j + k) + 1 by omega]
    exact ⟨w, h0, uw_app h1 h2⟩
theorem uw_one {g : List (List Int)} {s t : Nat} (h : Ud g s t) : Uw g 1 s t := ⟨t, h, rfl⟩
theorem uw_symm {g : List (List Int)} : ∀ {k s t : Nat}, Uw g k s t → Uw g k t s
  | 0, s, t, h => (show s = t from h).symm
  | _ + 1, _, _, ⟨_, h0, h1⟩ => uw_app (uw_symm h1) (uw_one (ud_symm h0))
structure PartOk (g : List (List Int)) (p : List Int) : Prop where
  len : p.length = g.length
  le : ∀ t, t < g.length → 0 ≤ gD p t ∧ gD p t ≤ t
  arc : ∀ u v, Ld g u v → gD p u = gD p v
  con : ∀ t, t < g.length → ∃ k, Uw g k (gD p t).toNat t
theorem PartOk.same {g : List (List Int)} {p : List Int} (h : PartOk g p) : ∀ {k x y : Nat}, Uw g k x y → gD p x = gD p y
  | 0, x, y, e => by have e : x = y := e; rw [e]
  | k + 1, x, y, ⟨u, h0, h1⟩ => by
    rw [← h.same h1]
    rcases h0 with h0 | h0
    · exact h.arc _ _ h0
    · exact (h.arc _ _ h0).symm
theorem PartOk.least {g : List (List Int)} {p : List Int} (h : PartOk g p) {k x y : Nat} (hy : y < g.length) (hw : Uw g k x y) : gD p x ≤ y := by
  rw [h.same hw]; exact (h.le y hy).2
theorem PartOk.uni {g : List (List Int)} {p q : List Int} (h : PartOk g p) (h' : PartOk g q) : p = q := by
  have key : ∀ {p q : List Int}, PartOk g p → PartOk g q → ∀ t, t < g.length → gD p t ≤ gD q t := by
    intro p q h h' t ht
    obtain ⟨k, hk⟩ := h'.con t ht
    have a := h'.le t ht
    have := h.least (by omega) (uw_symm hk)
    omega
  refine gD_ext (by rw [h.len, h'.len]) fun t ht => ?_
  rw [h.len] at ht
  have a := key h h' t ht
  have b := key h' h t ht
  omega
theorem PartOk.iff {g : List (List Int)} {p : List Int} (h : PartOk g p) {s t : Nat} (hs : s < g.length) (ht : t < g.length) : gD p s = gD p t ↔ ∃ k, Uw g k s t := by
  constructor
  · intro e
    obtain ⟨a, ha⟩ := h.con s hs
    obtain ⟨b, hb⟩ := h.con t ht
    rw [e] at ha
    exact ⟨_, uw_app (uw_symm ha) hb⟩
  · rintro ⟨k, hk⟩
    exact h.same hk
def Rch (g : List (List Int)) (x y : Nat) : Prop := ∃ k, Wk g k x y
theorem rch_refl (g : List (List Int)) (x : Nat) : Rch g x x := ⟨0, rfl⟩
theorem rch_trans {g : List (List Int)} {x y z : Nat} : Rch g x y → Rch g y z → Rch g x z := fun ⟨_, h1⟩ ⟨_, h2⟩ => ⟨_, wk_app h1 h2⟩
theorem rch_one {g : List (List Int)} {x y : Nat} (h : Ld g x y) : Rch g x y := ⟨1, wk_one h⟩
def Sc (g : List (List Int)) (x y : Nat) : Prop := Rch g x y ∧ Rch g y x
theorem sc_symm {g : List (List Int)} {x y : Nat} (h : Sc g x y) : Sc g y x := ⟨h.2, h.1⟩
theorem sc_trans {g : List (List Int)} {x y z : Nat} (h : Sc g x y) (h' : Sc g y z) : Sc g x z := ⟨rch_trans h.1 h'.1, rch_trans h'.2 h.2⟩
theorem sc_refl (g : List (List Int)) (x : Nat) : Sc g x x := ⟨rch_refl g x, rch_refl g x⟩
/-- What holds between the steps: who is being visited (G), when each was come to, who is open, and the parts. -/
structure Wf (g : List (List Int)) (G : Nat → Prop) (cm : Nat → Nat) (op : List Nat) (pt : Nat → Int) (clk : Nat) : Prop where
  clk_le : ∀ x, cm x ≤ clk
  op_iff : ∀ x, x ∈ op ↔ (cm x ≠ 0 ∧ pt x < 0)
  op_pw : op.Pairwise fun a b => cm a < cm b
  gop : ∀ x, G x → x ∈ op
  blk : ∀ x, cm x ≠ 0 → ¬ G x → ∀ y, Ld g x y → cm y ≠ 0
  ass : ∀ x, 0 ≤ pt x → cm x ≠ 0 ∧ Sc g x (pt x).toNat ∧ ∀ y, Sc g x y → pt y = pt x ∧ pt x ≤ (y : Int)
  rch : ∀ x, x ∈ op → ∀ y, y ∈ op → cm x ≤ cm y → Rch g x y
  gry : ∀ y, y ∈ op → ∃ x, G x ∧ cm x ≤ cm y ∧ Rch g y x
  inN : ∀ x, cm x ≠ 0 → x < g.length
/-- What a visit brings. -/
structure Vp (g : List (List Int)) (G : Nat → Prop) (n : Nat) (cm : Nat → Nat) (op : List Nat) (pt : Nat → Int) (clk : Nat) (cm' : Nat → Nat) (op' : List Nat) (pt' : Nat → Int) (clk' l : Nat) : Prop where
  wf : Wf g G cm' op' pt' clk'
  old : ∀ x, cm x ≠ 0 → cm' x = cm x
  pold : ∀ x, cm x ≠ 0 → pt' x = pt x
  opx : ∃ new, op' = op ++ new ∧ ∀ x, x ∈ new → cm x = 0
  vis : cm' n ≠ 0
  clk_le : clk ≤ clk'
  newer : ∀ x, cm x = 0 → cm' x ≠ 0 → clk < cm' x
  low_le : l ≤ cm' n
  low : (n ∈ op' ∧ ∃ y, y ∈ op ∧ cm y = l ∧ Rch g n y) ∨ (n ∉ op' ∧ l = cm' n)
  low2 : ∀ x, x ∈ op' → cm x = 0 → ∀ y, y ∈ op → Ld g x y → l ≤ cm y
/-- What holds while a node's arcs are gone through: those in S were. -/
structure Lp (g : List (List Int)) (G : Nat → Prop) (n : Nat) (cm0 : Nat → Nat) (op0 : List Nat) (pt0 : Nat → Int) (clk0 : Nat) (S : Nat → Prop) (cm : Nat → Nat) (op : List Nat) (pt : Nat → Int) (clk l : Nat) : Prop where
  wf : Wf g (fun x => G x ∨ x = n) cm op pt clk
  g0 : ∀ x, G x → x ∈ op0
  old : ∀ x, cm0 x ≠ 0 → cm x = cm0 x
  pold : ∀ x, cm0 x ≠ 0 → pt x = pt0 x
  new0 : cm0 n = 0
  clk_le : clk0 ≤ clk
  newer : ∀ x, cm0 x = 0 → cm x ≠ 0 → clk0 < cm x
  opx : ∃ new, op = op0 ++ n :: new ∧ ∀ x, x ∈ new → cm0 x = 0
  op0v : ∀ x, x ∈ op0 → cm0 x ≠ 0
  gry0 : ∀ y, y ∈ op0 → ∃ x, G x ∧ cm0 x ≤ cm0 y ∧ Rch g y x
  low_le : l ≤ cm n
  low : ∃ y, y ∈ op ∧ cm y = l ∧ Rch g n y
  low2 : ∀ x, x ∈ op → cm0 x = 0 → x ≠ n → ∀ y, y ∈ op0 → Ld g x y → l ≤ cm y
  low3 : ∀ y, S y → cm y ≠ 0 ∧ (y ∈ op0 → l ≤ cm y)
def upd (f : Nat → Nat) (n v : Nat) : Nat → Nat := fun x => if x = n then v else f x
theorem Wf.enter {g : List (List Int)} {G : Nat → Prop} {cm : Nat → Nat} {op : List Nat} {pt : Nat → Int} {clk n : Nat} (h : Wf g G cm op pt clk) (hn : cm n = 0) (hN : n < g.length) (hG : ∀ x, G x → Rch g x n) :
    Lp g G n cm op pt clk (fun _ => False) (upd cm n (clk + 1)) (op ++ [n]) pt (clk + 1) (clk + 1) := by
  have hpn : pt n < 0 := by
    by_cases hc : 0 ≤ pt n
    · exact absurd hn (h.ass n hc).1
    · omega
  have hnop : n ∉ op := fun hm => ((h.op_iff n).1 hm).1 hn
  have hopne : ∀ x, x ∈ op → x ≠ n := fun x hx e => hnop (e ▸ hx)
  have un : upd cm n (clk + 1) n = clk + 1 := by unfold upd; rw [if_pos rfl]
  have uo : ∀ x, x ≠ n → upd cm n (clk + 1) x = cm x := fun x hx => by unfold upd; rw [if_neg hx]
  have hg0 : ∀ x, G x → x ∈ op := h.gop
  have ton : ∀ x, x ∈ op → Rch g x n := fun x hx => by
    obtain ⟨z, hz, _, hr⟩ := h.gry x hx
    exact rch_trans hr (hG z hz)
  refine { wf := ?_, g0 := hg0, old := fun x hx => uo x (fun e => hx (e ▸ hn)), pold := fun x _ => rfl, new0 := hn, clk_le := Nat.le_succ _, newer := fun x hx hx' => ?_, opx := ⟨[], rfl, fun x hx => by simp at hx⟩,
           op0v := fun x hx => ((h.op_iff x).1 hx).1, gry0 := h.gry, low_le := by rw [un]; exact Nat.le_refl _, low := ⟨n, by simp, un, rch_refl g n⟩, low2 := ?_, low3 := fun y hy => hy.elim }
  · refine { clk_le := fun x => ?_, op_iff := fun x => ?_, op_pw := ?_, gop := fun x hx => ?_, blk := fun x hx hg y hy => ?_, ass := fun x hx => ?_, rch := fun x hx y hy hxy => ?_, gry := fun y hy => ?_, inN := fun x hx => ?_ }
    · by_cases e : x = n
      · rw [e, un]; exact Nat.le_refl _
      · rw [uo x e]; exact Nat.le_succ_of_le (h.clk_le x)
    · rw [List.mem_append, List.mem_singleton]
      by_cases e : x = n
      · subst e; rw [un]; exact ⟨fun _ => ⟨by omega, hpn⟩, fun _ => .inr rfl⟩
      · rw [uo x e, ← h.op_iff x]; exact ⟨fun hh => hh.resolve_right e, .inl⟩
    · rw [List.pairwise_append]
      refine ⟨h.op_pw.imp_of_mem fun {a b} ha hb hab => by rw [uo a (hopne a ha), uo b (hopne b hb)]; exact hab, by simp, fun a ha b hb => ?_⟩
      rw [List.mem_singleton] at hb
      rw [hb, un, uo a (hopne a ha)]
      have := h.clk_le a; omega
    · rcases hx with hx | hx
      · exact List.mem_append.2 (.inl (h.gop x hx))
      · subst hx; simp
    · have hxn : x ≠ n := fun e => hg (.inr e)
      rw [uo x hxn] at hx
      by_cases e : y = n
      · rw [e, un]; omega
      · rw [uo y e]; exact h.blk x hx (fun hh => hg (.inl hh)) y hy
    · have := h.ass x hx
      refine ⟨?_, this.2⟩
      by_cases e : x = n
      · rw [e, un]; omega
      · rw [uo x e]; exact this.1
    · rw [List.mem_append, List.mem_singleton] at hx hy
      rcases hx with hx | hx
      · rcases hy with hy | hy
        · rw [uo x (hopne x hx), uo y (hopne y hy)] at hxy
          exact h.rch x hx y hy hxy
        · rw [hy]; exact ton x hx
      · rcases hy with hy | hy
        · rw [hx, un, uo y (hopne y hy)] at hxy
          have := h.clk_le y; omega
        · rw [hx, hy]; exact rch_refl g n
    · rw [List.mem_append, List.mem_singleton] at hy
      rcases hy with hy | hy
      · obtain ⟨z, hz, h1, h2⟩ := h.gry y hy
        refine ⟨z, .inl hz, ?_, h2⟩
        rw [uo z (hopne z (h.gop z hz)), uo y (hopne y hy)]; exact h1
      · exact ⟨n, .inr rfl, by rw [hy]; exact Nat.le_refl _, by rw [hy]; exact rch_refl g n⟩
    · by_cases e : x = n
      · rw [e]; exact hN
      · rw [uo x e] at hx; exact h.inN x hx
  · by_cases e : x = n
    · rw [e, un]; exact Nat.lt_succ_self _
    · rw [uo x e] at hx'; exact absurd hx hx'
  · intro x hx hx0 hxn
    rw [List.mem_append, List.mem_singleton] at hx
    rcases hx with hx | hx
    · exact absurd hx0 ((h.op_iff x).1 hx).1
    · exact absurd hx hxn
theorem Lp.nmem {g : List (List Int)} {G : Nat → Prop} {n : Nat} {cm0 : Nat → Nat} {op0 : List Nat} {pt0 : Nat → Int} {clk0 : Nat} {S : Nat → Prop} {cm : Nat → Nat} {op : List Nat} {pt : Nat → Int} {clk l : Nat} (h : Lp g G n cm0 op0 pt0 clk0 S cm op pt clk l) : n ∈ op := by
  obtain ⟨new, e, _⟩ := h.opx
  rw [e]; simp
theorem Lp.op0m {g : List (List Int)} {G : Nat → Prop} {n : Nat} {cm0 : Nat → Nat} {op0 : List Nat} {pt0 : Nat → Int} {clk0 : Nat} {S : Nat → Prop} {cm : Nat → Nat} {op : List Nat} {pt : Nat → Int} {clk l : Nat} (h : Lp g G n cm0 op0 pt0 clk0 S cm op pt clk l) {x : Nat} (hx : x ∈ op0) : x ∈ op := by
  obtain ⟨new, e, _⟩ := h.opx
  rw [e]; simp [hx]
theorem Lp.op0n {g : List (List Int)} {G : Nat → Prop} {n : Nat} {cm0 : Nat → Nat} {op0 : List Nat} {pt0 : Nat → Int} {clk0 : Nat} {S : Nat → Prop} {cm : Nat → Nat} {op : List Nat} {pt : Nat → Int} {clk l : Nat} (h : Lp g G n cm0 op0 pt0 clk0 S cm op pt clk l) {x : Nat} (hx : x ∈ op0) : cm x < cm n := by
  obtain ⟨new, e, _⟩ := h.opx
  have := h.wf.op_pw
  rw [e, List.pairwise_append] at this
  exact this.2.2 x hx n (by simp)
/-- An arc to a node that nobody came to: it is visited. -/
theorem Lp.white {g : List (List Int)} {G : Nat → Prop} {n : Nat} {cm0 : Nat → Nat} {op0 : List Nat} {pt0 : Nat → Int} {clk0 : Nat} {S : Nat → Prop} {cm : Nat → Nat} {op : List Nat} {pt : Nat → Int} {clk l : Nat} (h : Lp g G n cm0 op0 pt0 clk0 S cm op pt clk l) {to : Nat} (hl : Ld g n to) (hto : cm to = 0)
    {cm' : Nat → Nat} {op' : List Nat} {pt' : Nat → Int} {clk' l2 : Nat} (hv : Vp g (fun x => G x ∨ x = n) to cm op pt clk cm' op' pt' clk' l2) : Lp g G n cm0 op0 pt0 clk0 (fun x => S x ∨ x = to) cm' op' pt' clk' (min l l2) := by
  have hvis : ∀ x, x ∈ op → cm x ≠ 0 := fun x hx => ((h.wf.op_iff x).1 hx).1
  have hc0 : ∀ x, cm0 x ≠ 0 → cm x ≠ 0 := fun x hx => by rw [h.old x hx]; exact hx
  obtain ⟨new, e1, e2⟩ := h.opx
  obtain ⟨new2, e3, e4⟩ := hv.opx
  have hsub : ∀ x, x ∈ op → x ∈ op' := fun x hx => by rw [e3]; simp [hx]
  have hz : ∀ x, cm x = 0 → cm0 x = 0 := fun x hx => Classical.byContradiction fun hc => hc0 x hc hx
  have hn : cm' n = cm n := hv.old n (hvis n h.nmem)
  have hm : ∀ a b c : Nat, min a b ≤ c ↔ a ≤ c ∨ b ≤ c := fun a b c => by omega
  have hvv : ∀ x, cm x ≠ 0 → cm' x ≠ 0 := fun x hx => by rw [hv.old x hx]; exact hx
  refine { wf := hv.wf, g0 := h.g0, old := fun x hx => by rw [hv.old x (hc0 x hx)]; exact h.old x hx, pold := fun x hx => by rw [hv.pold x (hc0 x hx)]; exact h.pold x hx, new0 := h.new0,
           clk_le := Nat.le_trans h.clk_le hv.clk_le, newer := fun x hx hx' => ?_,
           opx := ⟨new ++ new2, by rw [e3, e1]; simp, fun x hx => ?_⟩, op0v := h.op0v, gry0 := h.gry0, low_le := ?_, low := ?_, low2 := fun x hx hx0 hxn y hy hxy => ?_, low3 := fun y hy => ?_ }
  · by_cases hc : cm x = 0
    · have := hv.newer x hc hx'
      have := h.clk_le; omega
    · rw [hv.old x hc]; exact h.newer x hx hc
  · rcases List.mem_append.1 hx with hx | hx
    · exact e2 x hx
    · exact hz x (e4 x hx)
  · rw [hn, hm]; exact .inl h.low_le
  · by_cases hc : l ≤ l2
    · obtain ⟨y, h1, h2, h3⟩ := h.low
      exact ⟨y, hsub y h1, by rw [hv.old y (hvis y h1), h2]; omega, h3⟩
    · rcases hv.low with ⟨_, y, h1, h2, h3⟩ | ⟨h1, h2⟩
      · exact ⟨y, hsub y h1, by rw [hv.old y (hvis y h1), h2]; omega, rch_trans (rch_one hl) h3⟩
      · exfalso
        have a := hv.newer to hto hv.vis
        have b := h.wf.clk_le n
        have c := h.low_le
        omega
  · rw [hv.old y (hvis y (h.op0m hy)), hm]
    by_cases hc : cm x = 0
    · exact .inr (hv.low2 x hx hc y (h.op0m hy) hxy)
    · refine .inl (h.low2 x ?_ hx0 hxn y hy hxy)
      rw [e3] at hx
      rcases List.mem_append.1 hx with hx | hx
      · exact hx
      · exact absurd (e4 x hx) hc
  · rw [hm]
    rcases hy with hy | hy
    · refine ⟨hvv y (h.low3 y hy).1, fun h0 => .inl ?_⟩
      rw [hv.old y (h.low3 y hy).1]; exact (h.low3 y hy).2 h0
    · subst hy
      exact ⟨hv.vis, fun h0 => absurd hto (hc0 y (h.op0v y h0))⟩
/-- An arc to a node that is open. -/
theorem Lp.open {g : List (List Int)} {G : Nat → Prop} {n : Nat} {cm0 : Nat → Nat} {op0 : List Nat} {pt0 : Nat → Int} {clk0 : Nat} {S : Nat → Prop} {cm : Nat → Nat} {op : List Nat} {pt : Nat → Int} {clk l : Nat} (h : Lp g G n cm0 op0 pt0 clk0 S cm op pt clk l) {to : Nat} (hl : Ld g n to) (hto : cm to ≠ 0) (hp : pt to < 0) :
    Lp g G n cm0 op0 pt0 clk0 (fun x => S x ∨ x = to) cm op pt clk (min l (cm to)) := by
  have hm : ∀ a b c : Nat, min a b ≤ c ↔ a ≤ c ∨ b ≤ c := fun a b c => by omega
  refine { h with low_le := ?_, low := ?_, low2 := fun x hx hx0 hxn y hy hxy => ?_, low3 := fun y hy => ?_ }
  · rw [hm]; exact .inl h.low_le
  · by_cases hc : l ≤ cm to
    · obtain ⟨y, h1, h2, h3⟩ := h.low
      exact ⟨y, h1, by omega, h3⟩
    · exact ⟨to, (h.wf.op_iff to).2 ⟨hto, hp⟩, by omega, rch_one hl⟩
  · rw [hm]; exact .inl (h.low2 x hx hx0 hxn y hy hxy)
  · rw [hm]
    rcases hy with hy | hy
    · exact ⟨(h.low3 y hy).1, fun h0 => .inl ((h.low3 y hy).2 h0)⟩
    · rw [hy]; exact ⟨hto, fun _ => .inr (Nat.le_refl _)⟩
/-- An arc to a node whose part is told. -/
theorem Lp.told {g : List (List Int)} {G : Nat → Prop} {n : Nat} {cm0 : Nat → Nat} {op0 : List Nat} {pt0 : Nat → Int} {clk0 : Nat} {S : Nat → Prop} {cm : Nat → Nat} {op : List Nat} {pt : Nat → Int} {clk l : Nat} (h : Lp g G n cm0 op0 pt0 clk0 S cm op pt clk l) {to : Nat} (hto : cm to ≠ 0) (hp : ¬ pt to < 0) :
    Lp g G n cm0 op0 pt0 clk0 (fun x => S x ∨ x = to) cm op pt clk l := by
  refine { h with low3 := fun y hy => ?_ }
  rcases hy with hy | hy
  · exact h.low3 y hy
  · subst hy
    exact ⟨hto, fun h0 => absurd ((h.wf.op_iff y).1 (h.op0m h0)).2 hp⟩
/-- A node that leads back stays open. -/
theorem Lp.stay {g : List (List Int)} {G : Nat → Prop} {n : Nat} {cm0 : Nat → Nat} {op0 : List Nat} {pt0 : Nat → Int} {clk0 : Nat} {S : Nat → Prop} {cm : Nat → Nat} {op : List Nat} {pt : Nat → Int} {clk l : Nat} (h : Lp g G n cm0 op0 pt0 clk0 S cm op pt clk l) (hS : ∀ y, Ld g n y → S y) (hl : l ≠ cm n) :
    Vp g G n cm0 op0 pt0 clk0 cm op pt clk l := by
  obtain ⟨new, e1, e2⟩ := h.opx
  have hlt : l < cm n := by have := h.low_le; omega
  have hvis : ∀ x, x ∈ op → cm x ≠ 0 := fun x hx => ((h.wf.op_iff x).1 hx).1
  -- who is come to at l lies ahead of the node
  have hback : ∃ y, y ∈ op0 ∧ cm y = l ∧ Rch g n y := by
    obtain ⟨y, h1, h2, h3⟩ := h.low
    refine ⟨y, ?_, h2, h3⟩
    rw [e1] at h1
    rcases List.mem_append.1 h1 with h1 | h1
    · exact h1
    · exfalso
      have hpw := h.wf.op_pw
      rw [e1, List.pairwise_append] at hpw
      rcases List.mem_cons.1 h1 with h1 | h1
      · rw [h1] at h2; omega
      · have := (List.pairwise_cons.1 hpw.2.1).1 y h1
        omega
  obtain ⟨y0, hy0, hy1, hy2⟩ := hback
  have hcm0 : ∀ x, x ∈ op0 → cm x = cm0 x := fun x hx => h.old x (h.op0v x hx)
  refine { wf := { h.wf with gop := fun x hx => h.wf.gop x (.inl hx), blk := fun x hx hg y hy => ?_, gry := fun y hy => ?_ }, old := h.old, pold := h.pold,
           opx := ⟨n :: new, e1, fun x hx => (List.mem_cons.1 hx).elim (fun e => e ▸ h.new0) (e2 x)⟩, vis := hvis n h.nmem, clk_le := h.clk_le, newer := h.newer, low_le := h.low_le, low := .inl ⟨h.nmem, y0, hy0, by rw [← hcm0 y0 hy0]; exact hy1, hy2⟩, low2 := fun x hx hx0 y hy hxy => ?_ }
  · by_cases e : x = n
    · subst e; exact (h.low3 y (hS y hy)).1
    · exact h.wf.blk x hx (fun hh => hh.elim hg e) y hy
  · obtain ⟨x, hx, h1, h2⟩ := h.wf.gry y hy
    rcases hx with hx | hx
    · exact ⟨x, hx, h1, h2⟩
    · subst hx
      obtain ⟨z, hz, h3, h4⟩ := h.gry0 y0 hy0
      refine ⟨z, hz, ?_, rch_trans h2 (rch_trans hy2 h4)⟩
      rw [hcm0 z (h.g0 z hz)]
      rw [hcm0 y0 hy0] at hy1
      omega
  · rw [← hcm0 y hy]
    by_cases e : x = n
    · subst e; exact (h.low3 y (hS y hxy)).2 hy
    · exact h.low2 x hx hx0 e y hy hxy
/-- A node that leads not back closes its part. -/
theorem Lp.close {g : List (List Int)} {G : Nat → Prop} {n : Nat} {cm0 : Nat → Nat} {op0 : List Nat} {pt0 : Nat → Int} {clk0 : Nat} {S : Nat → Prop} {cm : Nat → Nat} {op : List Nat} {pt : Nat → Int} {clk l : Nat} (h : Lp g G n cm0 op0 pt0 clk0 S cm op pt clk l) (hS : ∀ y, Ld g n y → S y) (hl : l = cm n)
    {C : List Nat} (hC : op = op0 ++ C) (hn : n ∈ C) (hC0 : ∀ x, x ∈ C → cm0 x = 0) (hCn : ∀ x, x ∈ C → cm n ≤ cm x) {least : Nat} (hm : least ∈ C) (hle : ∀ y, y ∈ C → least ≤ y) :
    Vp g G n cm0 op0 pt0 clk0 cm op0 (fun x => if x ∈ C then (least : Int) else pt x) clk l := by
  have hvis : ∀ x, x ∈ op → cm x ≠ 0 := fun x hx => ((h.wf.op_iff x).1 hx).1
  have hopen : ∀ x, x ∈ op → pt x < 0 := fun x hx => ((h.wf.op_iff x).1 hx).2
  have hop : ∀ x, x ∈ op ↔ x ∈ op0 ∨ x ∈ C := fun x => by rw [hC, List.mem_append]
  have hcm0 : ∀ x, x ∈ op0 → cm x = cm0 x := fun x hx => h.old x (h.op0v x hx)
  have hdis : ∀ x, x ∈ C → x ∉ op0 := fun x hx hx0 => h.op0v x hx0 (hC0 x hx)
  have hC1 : ∀ y, y ∈ C → Sc g n y := by
    intro y hy
    have hyo := (hop y).2 (.inr hy)
    refine ⟨h.wf.rch n h.nmem y hyo (hCn y hy), ?_⟩
    obtain ⟨z, hz, h1, h2⟩ := h.wf.gry y hyo
    rcases hz with hz | hz
    · have hz0 := h.g0 z hz
      exact rch_trans h2 (h.wf.rch z (h.op0m hz0) n h.nmem (Nat.le_of_lt (h.op0n hz0)))
    · rw [hz] at h2; exact h2
  have hC2 : ∀ k x y, Wk g k x y → x ∈ C → Rch g y n → y ∈ C := by
    intro k
    induction k with
    | zero => intro x y hw hx _; exact (show x = y from hw) ▸ hx
    | succ k ih =>
      rintro x y ⟨u, hxu, huy⟩ hx hyn
      refine ih u y huy ?_ hyn
      have hun : Rch g u n := rch_trans ⟨k, huy⟩ hyn
      have hxo := (hop x).2 (.inr hx)
      have huv : cm u ≠ 0 := by
        by_cases e : x = n
        · subst e; exact (h.low3 u (hS u hxu)).1
        · refine h.wf.blk x (hvis x hxo) (fun hh => ?_) u hxu
          rcases hh with hh | hh
          · exact hdis x hx (h.g0 x hh)
          · exact e hh
      have hup : pt u < 0 := by
        refine Classical.byContradiction fun hc => ?_
        have ha := h.wf.ass u (by omega)
        have := (ha.2.2 n ⟨hun, rch_trans (hC1 x hx).1 (rch_one hxu)⟩).1
        have := hopen n h.nmem
        omega
      rcases (hop u).1 ((h.wf.op_iff u).2 ⟨huv, hup⟩) with hu0 | hu0
      · exfalso
        have hlt := h.op0n hu0
        by_cases e : x = n
        · subst e
          have := (h.low3 u (hS u hxu)).2 hu0; omega
        · have := h.low2 x hxo (hC0 x hx) e u hu0 hxu; omega
      · exact hu0
  have hmax : ∀ x y, x ∈ C → Sc g x y → y ∈ C := fun x y hx hxy => by
    obtain ⟨k, hk⟩ := hxy.1
    exact hC2 k x y hk hx (rch_trans hxy.2 (hC1 x hx).2)
  refine { wf := { clk_le := h.wf.clk_le, op_iff := fun x => ?_, op_pw := ?_, gop := h.g0, blk := fun x hx hg y hy => ?_, ass := fun x hx => ?_, rch := fun x hx y hy => h.wf.rch x (h.op0m hx) y (h.op0m hy), gry := fun y hy => ?_, inN := h.wf.inN },
           old := h.old, pold := fun x hx => ?_, opx := ⟨[], by simp, fun x hx => by simp at hx⟩, vis := hvis n h.nmem, clk_le := h.clk_le, newer := h.newer, low_le := h.low_le, low := .inr ⟨hdis n hn, hl⟩, low2 := fun x hx hx0 => absurd hx0 (h.op0v x hx) }
  · show _ ↔ cm x ≠ 0 ∧ (if x ∈ C then (least : Int) else pt x) < 0
    by_cases hx : x ∈ C
    · rw [if_pos hx]
      exact ⟨fun hx0 => absurd hx0 (hdis x hx), fun hh => by omega⟩
    · rw [if_neg hx, ← h.wf.op_iff x, hop]
      exact ⟨.inl, fun hh => hh.resolve_right hx⟩
  · have := h.wf.op_pw
    rw [hC, List.pairwise_append] at this
    exact this.1
  · by_cases e : x = n
    · subst e; exact (h.low3 y (hS y hy)).1
    · exact h.wf.blk x hx (fun hh => hh.elim hg e) y hy
  · show cm x ≠ 0 ∧ Sc g x (if x ∈ C then (least : Int) else pt x).toNat ∧ ∀ y, Sc g x y → (if y ∈ C then (least : Int) else pt y) = (if x ∈ C then (least : Int) else pt x) ∧ (if x ∈ C then (least : Int) else pt x) ≤ (y : Int)
    have hx : 0 ≤ (if x ∈ C then (least : Int) else pt x) := hx
    by_cases hxC : x ∈ C
    · simp only [if_pos hxC, Int.toNat_natCast]
      refine ⟨hvis x ((hop x).2 (.inr hxC)), sc_trans (sc_symm (hC1 x hxC)) (hC1 least hm), fun y hy => ?_⟩
      have hyC := hmax x y hxC hy
      rw [if_pos hyC]
      exact ⟨rfl, by have := hle y hyC; omega⟩
    · rw [if_neg hxC] at hx
      simp only [if_neg hxC]
      have ha := h.wf.ass x hx
      refine ⟨ha.1, ha.2.1, fun y hy => ?_⟩
      have hyC : y ∉ C := fun hyC => by
        have h1 := (ha.2.2 y hy).1
        have h2 := hopen y ((hop y).2 (.inr hyC))
        omega
      rw [if_neg hyC]
      exact ha.2.2 y hy
  · obtain ⟨z, hz, h1, h2⟩ := h.gry0 y hy
    exact ⟨z, hz, by rw [hcm0 z (h.g0 z hz), hcm0 y hy]; exact h1, h2⟩
  · show (if x ∈ C then (least : Int) else pt x) = pt0 x
    rw [if_neg (fun hxC => hx (hC0 x hxC))]
    exact h.pold x hx
/-- At the end nobody is open. -/
theorem Wf.empty {g : List (List Int)} {cm : Nat → Nat} {op : List Nat} {pt : Nat → Int} {clk : Nat} (h : Wf g (fun _ => False) cm op pt clk) : op = [] := by
  cases op with
  | nil => rfl
  | cons x op =>
    obtain ⟨z, hz, _⟩ := h.gry x (by simp)
    exact hz.elim
/-- What a list of parts must be. -/
structure StrOk (g : List (List Int)) (p : List Int) : Prop where
  len : p.length = g.length
  le : ∀ t, t < g.length → 0 ≤ gD p t ∧ gD p t ≤ t
  sc : ∀ t, t < g.length → Sc g t (gD p t).toNat
  least : ∀ t u, t < g.length → Sc g t u → gD p t ≤ u
theorem StrOk.uni {g : List (List Int)} {p q : List Int} (h : StrOk g p) (h' : StrOk g q) : p = q := by
  refine gD_ext (by rw [h.len, h'.len]) fun t ht => ?_
  rw [h.len] at ht
  have a := h.least t _ ht (h'.sc t ht)
  have b := h'.least t _ ht (h.sc t ht)
  have c := h.le t ht
  have d := h'.le t ht
  omega
theorem StrOk.iff {g : List (List Int)} {p : List Int} (h : StrOk g p) {s t : Nat} (hs : s < g.length) (ht : t < g.length) : gD p s = gD p t ↔ Sc g s t := by
  constructor
  · intro e
    have a := h.sc s hs
    rw [e] at a
    exact sc_trans a (sc_symm (h.sc t ht))
  · intro e
    have a := h.least s _ hs (sc_trans e (h.sc t ht))
    have b := h.least t _ ht (sc_trans (sc_symm e) (h.sc s hs))
    have c := h.le s hs
    have d := h.le t ht
    omega
def startF (n s : Nat) : List Int := (List.replicate n (-1)).set s 0
theorem startF_gD {n s : Nat} (hs : s < n) (t : Nat) : gD (startF n s) t = if t = s then 0 else -1 := by
  unfold startF
  rw [gD_set (by simpa using hs)]
  split
  · rfl
  · unfold gD
    rw [List.getD_eq_getElem?_getD, List.getElem?_replicate]
    split <;> rfl
structure Lb (g : List (List Int)) (A : List (Int × Int)) (out : List Int) (f : Nat → Nat) : Prop where
  len : out.length = g.length
  par : ∀ i, i < g.length → ∃ m : Nat, gD out i = (m : Int) ∧ m ≤ i ∧ f m = f i ∧ (m = i → f i = i)
  le : ∀ i, i < g.length → f i ≤ i
  idem : ∀ i, i < g.length → f (f i) = f i
  arcs : ∀ p ∈ A, f p.1.toNat = f p.2.toNat
  con : ∀ i, i < g.length → ∃ k, Uw g k (f i) i
def ids (n : Nat) : List Int := (List.range n).map fun (i : Nat) => (i : Int)
theorem ids_gD {n t : Nat} (h : t < n) : gD (ids n) t = (t : Int) := by simp [gD, ids, List.getD, h]
theorem Lb.start (g : List (List Int)) : Lb g [] (ids g.length) id where
  len := by simp [ids]
  par := fun i hi => ⟨i, ids_gD hi, Nat.le_refl _, rfl, fun _ => rfl⟩
  le := fun i _ => Nat.le_refl _
  idem := fun i _ => rfl
  arcs := fun p hp => by simp at hp
  con := fun i _ => ⟨0, rfl⟩
def joined (f : Nat → Nat) (x y : Nat) (z : Nat) : Nat := if f z = max x y then min x y else f z
theorem Lb.union {g : List (List Int)} {A : List (Int × Int)} {out : List Int} {f : Nat → Nat} (h : Lb g A out f) {u v : Nat} (hu : u < g.length) (hv : v < g.length) (huv : Ud g u v) :
    Lb g (A ++ [((u : Int), (v : Int))]) (out.set (max (f u) (f v)) ((min (f u) (f v) : Nat) : Int)) (joined f (f u) (f v)) := by
  have lu := h.le u hu
  have lv := h.le v hv
  have iu := h.idem u hu
  have iv := h.idem v hv
  have hM : max (f u) (f v) < out.length := by rw [h.len]; omega
  have fM : f (max (f u) (f v)) = max (f u) (f v) := by
    by_cases hc : f u ≤ f v
    · rw [Nat.max_eq_right hc]; exact iv
    · rw [Nat.max_eq_left (by omega)]; exact iu
  have fm : f (min (f u) (f v)) = min (f u) (f v) := by
    by_cases hc : f u ≤ f v
    · rw [Nat.min_eq_left hc]; exact iu
    · rw [Nat.min_eq_right (by omega)]; exact iv
  generalize hMM : max (f u) (f v) = M at *
  generalize hmm : min (f u) (f v) = μ at *
  have hle : μ ≤ M := by omega
  have jl : ∀ z, joined f (f u) (f v) z = if f z = M then μ else f z := fun z => by unfold joined; rw [hMM, hmm]
  refine ⟨by rw [List.length_set]; exact h.len, fun i hi => ?_, fun i hi => ?_, fun i hi => ?_, fun p hp => ?_, fun i hi => ?_⟩
  · rw [gD_set hM]
    by_cases hiM : i = M
    · refine ⟨μ, by rw [if_pos hiM], by omega, ?_, fun e => ?_⟩
      · rw [jl, jl, hiM, fM, if_pos rfl, fm]
        by_cases he : μ = M
        · rw [if_pos he]
        · rw [if_neg he]
      · rw [jl, hiM, fM, if_pos rfl]; omega
    · obtain ⟨m, h1, h2, h3, h4⟩ := h.par i hi
      refine ⟨m, by rw [if_neg hiM]; exact h1, h2, by rw [jl, jl, h3], fun e => ?_⟩
      rw [jl, h4 e, if_neg hiM]
  · rw [jl]
    have := h.le i hi
    split <;> omega
  · rw [jl i]
    split
    · rw [jl, fm]
      split <;> rfl
    · rename_i hne
      rw [jl, h.idem i hi, if_neg hne]
  · rcases List.mem_append.1 hp with hp | hp
    · rw [jl, jl, h.arcs p hp]
    · simp only [List.mem_singleton] at hp
      subst hp
      simp only [Int.toNat_natCast]
      rw [jl, jl]
      by_cases h1 : f u = M <;> by_cases h2 : f v = M
      · rw [if_pos h1, if_pos h2]
      · rw [if_pos h1, if_neg h2]; omega
      · rw [if_neg h1, if_pos h2]; omega
      · omega
  · obtain ⟨k, hk⟩ := h.con i hi
    rw [jl]
    by_cases hc : f i = M
    · rw [if_pos hc]
      obtain ⟨a, ha⟩ := h.con u hu
      obtain ⟨b, hb⟩ := h.con v hv
      have hw : ∃ j, Uw g j μ M := by
        by_cases hlt : f u ≤ f v
        · have e1 : μ = f u := by omega
          have e2 : M = f v := by omega
          exact ⟨_, by rw [e1, e2]; exact uw_app (uw_app ha (uw_one huv)) (uw_symm hb)⟩
        · have e1 : μ = f v := by omega
          have e2 : M = f u := by omega
          exact ⟨_, by rw [e1, e2]; exact uw_app (uw_app hb (uw_one (ud_symm huv))) (uw_symm ha)⟩
      obtain ⟨j, hj⟩ := hw
      rw [hc] at hk
      exact ⟨_, uw_app hj hk⟩
    · rw [if_neg hc]; exact ⟨k, hk⟩
/-- What a node is put to is what stands for it. -/
theorem Lb.put {g : List (List Int)} {A : List (Int × Int)} {out : List Int} {f : Nat → Nat} (h : Lb g A out f) {i : Nat} (hi : i < g.length) : Lb g A (out.set i (f i : Int)) f where
  len := by rw [List.length_set]; exact h.len
  par := fun j hj => by
    rw [gD_set (by rw [h.len]; exact hi)]
    by_cases e : j = i
    · subst e
      exact ⟨f j, by rw [if_pos rfl], h.le j hj, h.idem j hj, fun e => e⟩
    · rw [if_neg e]; exact h.par j hj
  le := h.le
  idem := h.idem
  arcs := h.arcs
  con := h.con
theorem Lb.done {g : List (List Int)} {out : List Int} {f : Nat → Nat} (h : Lb g (af 0 g) out f) (hg : Gr g) : PartOk g ((List.range g.length).map fun (i : Nat) => (f i : Int)) := by
  have hgD : ∀ {t}, t < g.length → gD ((List.range g.length).map fun (i : Nat) => (f i : Int)) t = (f t : Int) := fun ht => by simp [gD, List.getD, ht]
  refine ⟨by simp, fun t ht => ?_, fun u v huv => ?_, fun t ht => ?_⟩
  · rw [hgD ht]; have := h.le t ht; omega
  · have hin := ld_in hg huv
    rw [hgD hin.1, hgD hin.2]
    have := h.arcs _ huv
    simp only [Int.toNat_natCast] at this
    rw [this]
  · rw [hgD ht, Int.toNat_natCast]; exact h.con t ht
theorem mul_one64 {F n : Nat} (h : n ≤ 100) : M_math_bits_Mul F 1 (n : Int) = some (0, (n : Int)) := by
  have key : ∀ n : Fin 101, M_math_bits_Mul 0 1 ((n.val : Nat) : Int) = some (0, ((n.val : Nat) : Int)) := by decide +kernel
  exact key ⟨n, by omega⟩
theorem rep_l {F n : Nat} {x : Int} (hn : n ≤ 1000) : ∀ (k m : Nat), n < k + m → 1 ≤ m → m ≤ n → M_slices_Repeat_int_int_l3 F k (List.replicate m x ++ List.replicate (n - m) 0, (m : Int)) = some (List.replicate n x)
  | 0, m, h, _, hm => by omega
  | k + 1, m, h, h1, hm => by
    show M_slices_Repeat_int_int_b3 F (M_slices_Repeat_int_int_l3 F k) (List.replicate m x ++ List.replicate (n - m) 0) (m : Int) = _
    unfold M_slices_Repeat_int_int_b3
    have hl : (List.replicate m x ++ List.replicate (n - m) (0 : Int)).length = n := by simp; omega
    by_cases hlt : m < n
    · have e2 : sub (List.replicate m x ++ List.replicate (n - m) (0 : Int)) 0 (m : Int) = some (List.replicate m x) := by
        have := sub_n (l := List.replicate m x ++ List.replicate (n - m) (0 : Int)) (i := 0) (j := m) (by omega) (by omega)
        rw [show ((0 : Nat) : Int) = 0 from rfl] at this
        rw [this, List.drop_zero, List.take_left' (by simp)]
      have e1 : sub (List.replicate m x ++ List.replicate (n - m) (0 : Int)) (m : Int) (n : Int) = some ((List.replicate m x ++ List.replicate (n - m) (0 : Int)).drop m) := by
        rw [sub_n (by omega) (by omega), List.take_of_length_le (by omega)]
      rw [if_pos (by simp; omega), hl, e1]
      simp only [Option.bind_some]
      rw [e2]
      simp only [Option.bind_some]
      have hd : ((List.replicate m x ++ List.replicate (n - m) (0 : Int)).drop m).length = n - m := by simp
      unfold lett
      rw [hd, Int.toNat_natCast, List.length_replicate, iadd_n (by omega)]
      have e3 : overlay m (List.replicate m x ++ List.replicate (n - m) (0 : Int)) (List.replicate m x) = List.replicate (m + min m (n - m)) x ++ List.replicate (n - (m + min m (n - m))) 0 := by
        unfold overlay
        rw [hl, List.take_left' (by simp), List.take_replicate, List.length_replicate, Nat.min_comm, List.drop_append, List.drop_replicate]
        simp only [List.drop_replicate, List.length_replicate]
        rw [show m - (m + m) = 0 by omega, List.replicate_zero, List.nil_append, ← List.replicate_append_replicate]
        have e9 : n - m - (m + m - m) = n - (m + min m (n - m)) := by omega
        rw [e9]
      rw [e3]
      exact rep_l hn k (m + min m (n - m)) (by omega) (by omega) (by omega)
    · rw [if_neg (by simp; omega)]
      unfold M_slices_Repeat_int_int_j2
      obtain rfl : m = n := by omega
      simp
theorem rep_eq {F n : Nat} {x : Int} (hF : 1000 ≤ F) (hn : n ≤ 100) : M_slices_Repeat_int_int F [x] (n : Int) = some (List.replicate n x) := by
  unfold M_slices_Repeat_int_int
  have c1 : iconv .u64 (([x] : List Int).length : Int) = 1 := by show iconv .u64 1 = 1; decide
  have c2 : iconv .u64 (n : Int) = (n : Int) := by
    have key : ∀ n : Fin 101, iconv .u64 ((n.val : Nat) : Int) = ((n.val : Nat) : Int) := by decide +kernel
    exact key ⟨n, by omega⟩
  have c3 : iconv .i64 (n : Int) = (n : Int) := by
    have key : ∀ n : Fin 101, iconv .i64 ((n.val : Nat) : Int) = ((n.val : Nat) : Int) := by decide +kernel
    exact key ⟨n, by omega⟩
  rw [if_neg (by simp), c1, c2, mul_one64 hn]
  simp only [Option.bind_some]
  rw [if_neg (by simp; omega), c3]
  have hmk : mk 17592186044416 (0 : Int) (n : Int) = some (List.replicate n 0) := by
    unfold mk
    rw [if_pos (by omega), Int.toNat_natCast]
  rw [hmk]
  simp only [Option.bind_some]
  unfold lett
  by_cases h0 : n = 0
  · subst h0
    obtain ⟨k, rfl⟩ := Nat.exists_eq_succ_of_ne_zero (show F ≠ 0 by omega)
    show M_slices_Repeat_int_int_b3 _ _ _ _ = _
    unfold M_slices_Repeat_int_int_b3
    rw [if_neg (by simp [overlay])]
    rfl
  · have e : overlay 0 (List.replicate n (0 : Int)) [x] = List.replicate 1 x ++ List.replicate (n - 1) 0 := by
      unfold overlay
      obtain ⟨m, rfl⟩ := Nat.exists_eq_succ_of_ne_zero h0
      simp
    have e2 : ((min ([x] : List Int).length (List.replicate n (0 : Int)).length : Nat) : Int) = ((1 : Nat) : Int) := by simp; omega
    rw [e, e2]
    exact rep_l (by omega) F 1 (by omega) (by omega) (by omega)
def iz (q : List Nat) : List Int := q.map fun (u : Nat) => (u : Int)
theorem iz_len (q : List Nat) : (iz q).length = q.length := by simp [iz]
theorem iz_get {q : List Nat} {i : Nat} (h : i < q.length) : (iz q)[i]? = some ((q.getD i 0 : Nat) : Int) := by
  simp [iz, List.getD, List.getElem?_eq_getElem h]
def unv (out : List Int) : Nat := out.countP fun x => decide (x < 0)
theorem unv_set {out : List Int} {t : Nat} {x : Int} (ht : t < out.length) (h0 : gD out t < 0) (hx : 0 ≤ x) : unv (out.set t x) + 1 = unv out := by
  unfold unv
  have hge : out[t] < 0 := by
    have := gD_get ht
    rw [List.getElem?_eq_getElem ht] at this
    rw [Option.some.inj this]; exact h0
  have hpos : 0 < out.countP fun x => decide (x < 0) := List.countP_pos_iff.2 ⟨out[t], List.getElem_mem ht, by simpa using hge⟩
  rw [List.countP_set ht, if_pos (by simpa using hge), if_neg (by simp; omega)]
  omega
structure BF (g : List (List Int)) (s : Nat) (out : List Int) (q : List Nat) : Prop where
  len : out.length = g.length
  src : gD out s = 0
  low : ∀ t, -1 ≤ gD out t
  qin : ∀ u, u ∈ q → u < g.length ∧ 0 ≤ gD out u
  qpw : q.Pairwise fun a b => gD out a ≤ gD out b
  top : ∀ u, u ∈ q → ∀ t, gD out t ≤ gD out u + 1
  don : ∀ u, 0 ≤ gD out u → u ∉ q → ∀ t, Ld g u t → 0 ≤ gD out t ∧ gD out t ≤ gD out u + 1
  fr : ∀ t, t ≠ s → 0 ≤ gD out t → ∃ u, Ld g u t ∧ gD out u + 1 = gD out t ∧ 0 ≤ gD out u
  hi : ∀ t, gD out t + 1 + (unv out : Int) ≤ (g.length : Int)
theorem BF.done {g : List (List Int)} {s : Nat} {out : List Int} (h : BF g s out []) : FarOk g s out :=
  ⟨h.len, h.src, h.low, fun u t hl h0 => h.don u h0 (by simp) t hl, h.fr⟩
theorem BF.pop {g : List (List Int)} {s a : Nat} {out : List Int} {q : List Nat} (h : BF g s out (a :: q)) (ha : ∀ t, Ld g a t → 0 ≤ gD out t ∧ gD out t ≤ gD out a + 1) : BF g s out q where
  len := h.len
  src := h.src
  low := h.low
  qin := fun u hu => h.qin u (by simp [hu])
  qpw := (List.pairwise_cons.1 h.qpw).2
  top := fun u hu => h.top u (by simp [hu])
  don := fun u h0 hu => by
    by_cases e : u = a
    · subst e; exact ha
    · exact h.don u h0 (by simp [e, hu])
  fr := h.fr
  hi := h.hi
theorem BF.push {g : List (List Int)} {s a t : Nat} {out : List Int} {q : List Nat} (hg : Gr g) (h : BF g s out (a :: q)) (ht : gD out t < 0) (hl : Ld g a t) : BF g s (out.set t (gD out a + 1)) (a :: q ++ [t]) := by
  have htl : t < out.length := by rw [h.len]; exact (ld_in hg hl).2
  have ha0 := (h.qin a (by simp)).2
  have hv : ∀ x, gD (out.set t (gD out a + 1)) x = if x = t then gD out a + 1 else gD out x := fun x => gD_set htl
  have hne : ∀ x, 0 ≤ gD out x → x ≠ t := fun x hx e => by rw [e] at hx; omega
  have hold : ∀ x, 0 ≤ gD out x → gD (out.set t (gD out a + 1)) x = gD out x := fun x hx => by rw [hv, if_neg (hne x hx)]
  have hat : gD (out.set t (gD out a + 1)) t = gD out a + 1 := by rw [hv, if_pos rfl]
  have hmin : ∀ u, u ∈ a :: q → gD out a ≤ gD out u := fun u hu => by
    rcases List.mem_cons.1 hu with rfl | hu
    · exact Int.le_refl _
    · exact (List.pairwise_cons.1 h.qpw).1 u hu
  refine ⟨by rw [List.length_set]; exact h.len, by rw [hold s (by rw [h.src]; exact Int.le_refl 0)]; exact h.src, fun x => ?_, fun u hu => ?_, ?_, fun u hu x => ?_, fun u h0 hu x hx => ?_, fun x hxs h0 => ?_, fun x => ?_⟩
  · rw [hv]; have := h.low x; split <;> omega
  · rcases List.mem_append.1 hu with hu | hu
    · rw [hold u (h.qin u hu).2]; exact h.qin u hu
    · rw [List.mem_singleton] at hu
      rw [hu, hat]
      exact ⟨(ld_in hg hl).2, by omega⟩
  · rw [List.pairwise_append]
    refine ⟨h.qpw.imp_of_mem fun {x y} hx hy hxy => by rw [hold x (h.qin x hx).2, hold y (h.qin y hy).2]; exact hxy, by simp, fun x hx y hy => ?_⟩
    rw [List.mem_singleton] at hy
    rw [hy, hat, hold x (h.qin x hx).2]
    exact h.top a (by simp) x
  · rcases List.mem_append.1 hu with hu | hu
    · rw [hold u (h.qin u hu).2, hv]
      have := hmin u hu
      split
      · omega
      · exact h.top u hu x
    · rw [List.mem_singleton] at hu
      rw [hu, hat, hv]
      have := h.top a (by simp) x
      split <;> omega
  · have hut : u ≠ t := fun e => hu (by simp [e])
    have hu' : u ∉ a :: q := fun hm => hu (List.mem_append.2 (.inl hm))
    rw [hv, if_neg hut] at h0
    have := h.don u h0 hu' x hx
    rw [hold x this.1, hold u h0]; exact this
  · by_cases e : x = t
    · exact ⟨a, by rw [e]; exact hl, by rw [e, hat, hold a ha0], by rw [hold a ha0]; exact ha0⟩
    · rw [hv, if_neg e] at h0 ⊢
      obtain ⟨u, h1, h2, h3⟩ := h.fr x hxs h0
      exact ⟨u, h1, by rw [hold u h3]; exact h2, by rw [hold u h3]; exact h3⟩
  · have := unv_set (x := gD out a + 1) htl ht (by omega)
    have h1 := h.hi x
    have h2 := h.hi a
    rw [hv]
    split <;> omega
theorem far_in {F : Nat} {g : List (List Int)} {s a : Nat} {r : List Int} {rec48 : (List Int × List Int) → Option (List Int)} (hg : Gr g) (hr : g[a]? = some r) : ∀ (k j : Nat) (out : List Int) (q : List Nat), r.length < k + j → j ≤ r.length → BF g s out (a :: q) → q.length + unv out ≤ 1000 →
    (∀ t : Nat, (t : Int) ∈ r.take j → 0 ≤ gD out t ∧ gD out t ≤ gD out a + 1) →
    ∃ out' q', M_walk_far_l56 F rec48 (a : Int) r k (out, iz (a :: q), (j : Int)) = M_walk_far_j53 F rec48 out' (iz (a :: q')) ∧ BF g s out' (a :: q') ∧ (∀ t : Nat, (t : Int) ∈ r → 0 ≤ gD out' t ∧ gD out' t ≤ gD out' a + 1) ∧ q'.length + unv out' = q.length + unv out
  | 0, j, _, _, h, hj, _, _, _ => by omega
  | k + 1, j, out, q, h, hj, hb, hm, hp => by
    have hrl := gr_row hg (List.mem_of_getElem? hr)
    by_cases hlt : j < r.length
    · have hx0 := (hg.2.1 r (List.mem_of_getElem? hr)).2 r[j] (List.getElem_mem hlt)
      obtain ⟨t, ht⟩ := Int.eq_ofNat_of_zero_le hx0.1
      have htg : t < g.length := by omega
      have htl : t < out.length := by rw [hb.len]; exact htg
      have hal : a < out.length := by rw [hb.len]; exact (hb.qin a (by simp)).1
      have hld : Ld g a t := ld_row.2 ⟨r, hr, by rw [← ht]; exact List.getElem_mem hlt⟩
      have ha0 := (hb.qin a (by simp)).2
      have hsn : r.take (j + 1) = r.take j ++ [(t : Int)] := by rw [take_snoc hlt, ht]
      have hstep : M_walk_far_l56 F rec48 (a : Int) r (k + 1) (out, iz (a :: q), (j : Int)) = M_walk_far_b56 F rec48 (a : Int) r (M_walk_far_l56 F rec48 (a : Int) r k) out (iz (a :: q)) (j : Int) := rfl
      rw [hstep]
      unfold M_walk_far_b56
      rw [if_pos (by simpa using hlt), idx_nat, List.getElem?_eq_getElem hlt, ht]
      simp only [Option.bind_some]
      rw [idx_nat, gD_get htl]
      simp only [Option.bind_some]
      by_cases hneg : gD out t < 0
      · rw [if_pos (by simpa using hneg), idx_nat, gD_get hal]
        simp only [Option.bind_some]
        have hglen : g.length ≤ 100 := hg.1
        have htop := hb.top a (by simp) a
        have hbig := hb.hi a
        rw [app_eq (by rw [iz_len]; simp; omega)]
        unfold lett
        simp only [Option.bind_some]
        unfold M_walk_far_j57
        rw [iadd1_n (by omega), iadd_i64 (by omega) (by omega), Int.toNat_natCast]
        have hb' := hb.push hg hneg hld
        have hz : iz (a :: q) ++ [(t : Int)] = iz (a :: (q ++ [t])) := by simp [iz]
        have hu := unv_set (x := gD out a + 1) htl hneg (by omega)
        have hat : gD (out.set t (gD out a + 1)) a = gD out a := by rw [gD_set htl, if_neg (fun e => by rw [← e] at hneg; omega)]
        rw [hz]
        obtain ⟨out', q', e1, e2, e3, e4⟩ := far_in (rec48 := rec48) hg hr k (j + 1) (out.set t (gD out a + 1)) (q ++ [t]) (by omega) (by omega) hb' (by simp; omega) (fun x hx => by
          rw [hsn] at hx
          rw [hat, gD_set htl]
          rcases List.mem_append.1 hx with hx | hx
          · have := hp x hx
            split
            · omega
            · exact this
          · simp only [List.mem_singleton] at hx
            rw [if_pos (by omega)]; omega)
        refine ⟨out', q', e1, e2, e3, ?_⟩
        rw [e4]; simp; omega
      · rw [if_neg (by simpa using hneg)]
        unfold M_walk_far_j57
        rw [iadd1_n (by omega)]
        exact far_in hg hr k (j + 1) out q (by omega) (by omega) hb hm (fun x hx => by
          rw [hsn] at hx
          rcases List.mem_append.1 hx with hx | hx
          · exact hp x hx
          · simp only [List.mem_singleton] at hx
            obtain rfl : x = t := by omega
            exact ⟨by omega, hb.top a (by simp) x⟩)
    · have hstep : M_walk_far_l56 F rec48 (a : Int) r (k + 1) (out, iz (a :: q), (j : Int)) = M_walk_far_b56 F rec48 (a : Int) r (M_walk_far_l56 F rec48 (a : Int) r k) out (iz (a :: q)) (j : Int) := rfl
      refine ⟨out, q, ?_, hb, fun t ht => hp t (by rw [List.take_of_length_le (by omega)]; exact ht), rfl⟩
      rw [hstep]
      unfold M_walk_far_b56
      rw [if_neg (by simpa using hlt)]
theorem far_out {F : Nat} {g : List (List Int)} {s : Nat} (hF : 1000 ≤ F) (hg : Gr g) : ∀ (k : Nat) (out : List Int) (q : List Nat), q.length + unv out < k → q.length + unv out ≤ 1000 → BF g s out q → ∃ d, M_walk_far_l48 F g k (out, iz q) = some d ∧ FarOk g s d
  | 0, _, _, h, _, _ => by omega
  | k + 1, out, q, h, hm, hb => by
    have hstep : M_walk_far_l48 F g (k + 1) (out, iz q) = M_walk_far_b48 F g (M_walk_far_l48 F g k) out (iz q) := rfl
    rw [hstep]
    unfold M_walk_far_b48
    cases q with
    | nil =>
      rw [if_neg (by simp [iz])]
      exact ⟨out, rfl, hb.done⟩
    | cons a q =>
      have hal := (hb.qin a (by simp)).1
      have hra : g[a]? = some g[a] := List.getElem?_eq_getElem hal
      have hrl := gr_row hg (List.getElem_mem hal)
      rw [if_pos (by simp [iz])]
      have e0 : idx (iz (a :: q)) 0 = some (a : Int) := rfl
      rw [e0]
      simp only [Option.bind_some]
      rw [idx_nat, hra]
      simp only [Option.bind_some]
      obtain ⟨out', q', e1, e2, e3, e4⟩ := far_in (F := F) (rec48 := M_walk_far_l48 F g k) hg hra F 0 out q (by omega) (by omega) hb (by simp only [List.length_cons] at hm; omega) (fun t ht => by simp at ht)
      rw [show ((0 : Nat) : Int) = 0 from rfl] at e1
      rw [e1]
      unfold M_walk_far_j53
      have es : sub (iz (a :: q')) 1 ((iz (a :: q')).length : Int) = some (iz q') := by
        have := sub_n (l := iz (a :: q')) (i := 1) (j := (iz (a :: q')).length) (by simp [iz]) (Nat.le_refl _)
        rw [show ((1 : Nat) : Int) = 1 from rfl] at this
        rw [this, List.take_length]; rfl
      rw [es]
      simp only [Option.bind_some]
      have hpop := e2.pop (fun t ht => by
        obtain ⟨r, hr, hm⟩ := ld_row.1 ht
        rw [hra] at hr
        obtain rfl := Option.some.inj hr
        exact e3 t hm)
      simp only [List.length_cons] at h hm
      exact far_out hF hg k out' q' (by omega) (by omega) hpop
theorem unv_rep (n : Nat) : unv (List.replicate n (-1)) = n := by
  unfold unv
  rw [List.countP_replicate]; simp
theorem far_ex {F : Nat} {g : List (List Int)} {s : Nat} (hF : 1000 ≤ F) (hg : Gr g) (hs : s < g.length) : ∃ d, M_walk_far F g (s : Int) = some d ∧ FarOk g s d := by
  have hgl := hg.1
  have hsr : s < (List.replicate g.length (-1 : Int)).length := by simpa using hs
  unfold M_walk_far
  rw [rep_eq hF hgl]
  simp only [Option.bind_some]
  rw [idx_nat, List.getElem?_eq_getElem hsr]
  simp only [Option.bind_some]
  unfold lett
  rw [Int.toNat_natCast]
  have hst : (List.replicate g.length (-1 : Int)).set s 0 = startF g.length s := rfl
  have hu : unv (startF g.length s) + 1 = g.length := by
    have h9 : gD (List.replicate g.length (-1 : Int)) s < 0 := by
      unfold gD
      rw [List.getD_eq_getElem?_getD, List.getElem?_replicate]
      split <;> simp
    have := unv_set (out := List.replicate g.length (-1)) (x := 0) hsr h9 (Int.le_refl 0)
    rw [unv_rep] at this
    exact this
  rw [hst]
  have hone : ([(s : Int)] : List Int) = iz [s] := rfl
  rw [hone]
  refine far_out hF hg F _ [s] (by simp; omega) (by simp; omega) ⟨by simp [startF], by rw [startF_gD hs, if_pos rfl], fun t => by rw [startF_gD hs]; split <;> omega, fun u hu => ?_, by simp, fun u hu t => ?_, fun u h0 hu t ht => ?_, fun t hts h0 => ?_, fun t => ?_⟩
  · simp only [List.mem_singleton] at hu
    subst hu
    exact ⟨hs, by rw [startF_gD hs, if_pos rfl]; exact Int.le_refl 0⟩
  · simp only [List.mem_singleton] at hu
    subst hu
    rw [startF_gD hs, startF_gD hs, if_pos rfl]
    split <;> omega
  · rw [startF_gD hs] at h0
    split at h0
    · rename_i e; exact absurd (by simp [e]) hu
    · omega
  · rw [startF_gD hs, if_neg hts] at h0; omega
  · rw [startF_gD hs]
    split <;> omega
/-- How far each node is from a node. -/
def farL (g : List (List Int)) (s : Nat) : List Int := (M_walk_far 1000 g (s : Int)).getD []
theorem farL_ok {g : List (List Int)} {s : Nat} (hg : Gr g) (hs : s < g.length) : FarOk g s (farL g s) := by
  obtain ⟨d, h1, h2⟩ := far_ex (F := 1000) (Nat.le_refl _) hg hs
  unfold farL
  rw [h1]; exact h2
theorem far_eq {F : Nat} {g : List (List Int)} {s : Nat} (hF : 1000 ≤ F) (hg : Gr g) (hs : s < g.length) : M_walk_far F g (s : Int) = some (farL g s) := by
  obtain ⟨d, h1, h2⟩ := far_ex hF hg hs
  rw [h1, h2.uni (farL_ok hg hs)]
def wout (g : List (List Int)) (ns : List Int) : Bool := ns.any fun n => decide (n < 0) || decide ((g.length : Int) ≤ n)
def wchk (g : List (List Int)) (ns : List Int) : Int := if gchk g ≠ 0 then gchk g else if wout g ns then 3 else 0
theorem windex_l {F : Nat} {g : List (List Int)} {l : List Int} (hm : l.length ≤ 1000000) : ∀ (k i : Nat), l.length < k + i → i ≤ l.length → ∃ z, M_slices_IndexFunc_int_int_walk_check_1_l3 F l g k (i : Int) = some z ∧ decide (0 ≤ z) = wout g (l.drop i)
  | 0, _, _, _ => by omega
  | k + 1, i, h, hi => by
    show ∃ z, M_slices_IndexFunc_int_int_walk_check_1_b3 F l g (M_slices_IndexFunc_int_int_walk_check_1_l3 F l g k) (i : Int) = some z ∧ _
    unfold M_slices_IndexFunc_int_int_walk_check_1_b3
    by_cases hlt : i < l.length
    · rw [if_pos (by simp; omega), idx_nat, List.getElem?_eq_getElem hlt, List.drop_eq_getElem_cons hlt]
      simp only [Option.bind_some]
      unfold M_walk_check_1
      simp only [Option.bind_some]
      unfold wout
      rw [List.any_cons]
      by_cases hc : (decide (l[i] < 0) || decide ((g.length : Int) ≤ l[i])) = true
      · rw [if_pos hc, hc]
        exact ⟨_, rfl, by simp⟩
      · rw [if_neg hc, iadd1_n (by omega)]
        rw [Bool.not_eq_true] at hc
        rw [hc, Bool.false_or]
        exact windex_l hm k (i + 1) (by omega) (by omega)
    · rw [if_neg (by simp; omega), List.drop_eq_nil_of_le (by omega)]
      exact ⟨-1, rfl, rfl⟩
theorem wcheck_eq {F : Nat} {g : List (List Int)} {ns : List Int} (hF : 1000 ≤ F) (hn : ns.length ≤ 100) : M_walk_check F g ns = some (wchk g ns) := by
  unfold M_walk_check wchk
  rw [graphCheck_eq hF]
  simp only [Option.bind_some]
  by_cases h : gchk g = 0
  · rw [if_neg (by simp [h]), if_neg (by simp [h])]
    unfold M_slices_ContainsFunc_int_int_walk_check_1 M_slices_IndexFunc_int_int_walk_check_1
    obtain ⟨z, e1, e2⟩ := windex_l (F := F) (g := g) (l := ns) (by omega) F 0 (by omega) (by omega)
    have e1' : M_slices_IndexFunc_int_int_walk_check_1_l3 F ns g F 0 = some z := e1
    rw [List.drop_zero] at e2
    rw [e1']
    simp only [Option.bind_some]
    rw [e2]
    split <;> rfl
  · rw [if_pos (by simpa using h), if_pos h]
theorem wchk1 {g : List (List Int)} {s : Int} (h : wchk g [s] = 0) : Gr g ∧ ∃ n : Nat, s = (n : Int) ∧ n < g.length := by
  unfold wchk at h
  by_cases h1 : gchk g = 0
  · rw [if_neg (by simp [h1])] at h
    by_cases h2 : wout g [s] = true
    · rw [if_pos h2] at h; simp at h
    · simp [wout] at h2
      obtain ⟨n, hn⟩ := Int.eq_ofNat_of_zero_le (show 0 ≤ s by omega)
      exact ⟨gchk_ok.1 h1, n, hn, by omega⟩
  · rw [if_pos h1] at h; exact absurd h h1
theorem wchk2 {g : List (List Int)} {s t : Int} (h : wchk g [s, t] = 0) : Gr g ∧ (∃ n : Nat, s = (n : Int) ∧ n < g.length) ∧ ∃ n : Nat, t = (n : Int) ∧ n < g.length := by
  unfold wchk at h
  by_cases h1 : gchk g = 0
  · rw [if_neg (by simp [h1])] at h
    by_cases h2 : wout g [s, t] = true
    · rw [if_pos h2] at h; simp at h
    · simp [wout] at h2
      obtain ⟨n, hn⟩ := Int.eq_ofNat_of_zero_le (show 0 ≤ s by omega)
      obtain ⟨m, hm⟩ := Int.eq_ofNat_of_zero_le (show 0 ≤ t by omega)
      exact ⟨gchk_ok.1 h1, ⟨n, hn, by omega⟩, m, hm, by omega⟩
  · rw [if_pos h1] at h; exact absurd h h1
theorem wchk_in2 {g : List (List Int)} {s t : Nat} (hg : Gr g) (hs : s < g.length) (ht : t < g.length) : wchk g [(s : Int), (t : Int)] = 0 := by
  unfold wchk
  rw [if_neg (by simp [gchk_ok.2 hg]), if_neg]
  simp [wout]; omega
def farM (g : List (List Int)) (s : Int) : List Int × Int := if wchk g [s] ≠ 0 then ([], wchk g [s]) else (farL g s.toNat, 0)
theorem Far_eq {F : Nat} {g : List (List Int)} {s : Int} (hF : 1000 ≤ F) : M_walk_Far F g s = some (farM g s) := by
  unfold M_walk_Far farM
  rw [wcheck_eq hF (by simp)]
  simp only [Option.bind_some]
  by_cases h : wchk g [s] = 0
  · obtain ⟨hg, n, rfl, hn⟩ := wchk1 h
    rw [if_neg (by simp [h]), if_neg (by simp [h]), far_eq hF hg hn, Int.toNat_natCast]
    rfl
  · rw [if_pos (by simpa using h), if_pos h]
theorem way_index {F : Nat} {r left : List Int} {u v : Nat} (hm : r.length ≤ 1000000) (hr : ∀ x ∈ r, 0 ≤ x ∧ x < left.length) (hu : u < left.length) (hlo : ∀ t, -1 ≤ gD left t ∧ gD left t ≤ 1000000) : ∀ (k i : Nat), r.length < k + i → i ≤ r.length → (r.drop i).find? (nearer left u) = some (v : Int) →
    ∃ z : Nat, M_slices_IndexFunc_int_int_walk_Way_1_l3 F r left (u : Int) k (i : Int) = some (z : Int) ∧ r[z]? = some (v : Int)
  | 0, _, _, _, _ => by omega
  | k + 1, i, h, hi, hf => by
    show ∃ z : Nat, M_slices_IndexFunc_int_int_walk_Way_1_b3 F r left (u : Int) (M_slices_IndexFunc_int_int_walk_Way_1_l3 F r left (u : Int) k) (i : Int) = some (z : Int) ∧ _
    unfold M_slices_IndexFunc_int_int_walk_Way_1_b3
    by_cases hlt : i < r.length
    · have hx := hr r[i] (List.getElem_mem hlt)
      obtain ⟨x, hx1⟩ := Int.eq_ofNat_of_zero_le hx.1
      have hxl : x < left.length := by omega
      have hlu := hlo u
      rw [if_pos (by simpa using hlt), idx_nat, List.getElem?_eq_getElem hlt]
      simp only [Option.bind_some]
      unfold M_walk_Way_1
      rw [hx1, idx_nat, gD_get hxl]
      simp only [Option.bind_some]
      rw [idx_nat, gD_get hu]
      simp only [Option.bind_some]
      rw [isub_i64 (by omega) (by omega)]
      rw [List.drop_eq_getElem_cons hlt, List.find?_cons, hx1] at hf
      have hnear : nearer left u (x : Int) = (gD left x == gD left u - 1) := by
        unfold nearer
        rw [Int.toNat_natCast, Bool.eq_iff_iff, decide_eq_true_eq, beq_iff_eq]; omega
      rw [hnear] at hf
      cases hc : (gD left x == gD left u - 1) with
      | true =>
        rw [hc] at hf
        simp only [Option.some.injEq] at hf
        exact ⟨i, by simp, by rw [List.getElem?_eq_getElem hlt, hx1, hf]⟩
      | false =>
        rw [hc] at hf
        simp only [Bool.false_eq_true, if_false]
        rw [iadd1_n (by omega)]
        exact way_index hm hr hu hlo k (i + 1) (by omega) (by omega) hf
    · rw [List.drop_eq_nil_of_le (by omega)] at hf
      simp at hf
theorem far_b {g : List (List Int)} {s : Nat} {d : List Int} (hg : Gr g) (h : FarOk g s d) (t : Nat) : -1 ≤ gD d t ∧ gD d t ≤ 1000000 := by
  have h1 := hg.1
  refine ⟨h.low t, ?_⟩
  by_cases h0 : 0 < g.length
  · have := h.lt t h0; omega
  · rw [gD_out (by rw [h.len]; omega)]; omega
theorem way_l {F : Nat} {g : List (List Int)} {left : List Int} {t : Nat} (hF : 1000 ≤ F) (hg : Gr g) (h : FarOk (tn g) t left) : ∀ (m k u : Nat) (acc : List Int), m < k → gD left u = (m : Int) → acc.length + m ≤ 1000 →
    M_walk_Way_l3 F g (t : Int) left k (acc, (u : Int)) = some (acc ++ iz ((wy g left m u).drop 1), 0)
  | 0, k, u, acc, hk, hu, ha => by
    obtain ⟨k, rfl⟩ := Nat.exists_eq_succ_of_ne_zero (show k ≠ 0 by omega)
    show M_walk_Way_b3 F g (t : Int) left (M_walk_Way_l3 F g (t : Int) left k) acc (u : Int) = _
    unfold M_walk_Way_b3
    have hut := far_zero h hu
    rw [if_neg (by simp [hut])]
    unfold M_walk_Way_j2
    rw [wy]
    simp [iz]
  | m + 1, k, u, acc, hk, hu, ha => by
    obtain ⟨k, rfl⟩ := Nat.exists_eq_succ_of_ne_zero (show k ≠ 0 by omega)
    show M_walk_Way_b3 F g (t : Int) left (M_walk_Way_l3 F g (t : Int) left k) acc (u : Int) = _
    unfold M_walk_Way_b3
    have hut : u ≠ t := by
      rintro rfl
      rw [h.src] at hu; omega
    obtain ⟨n1, n2, n3, n4⟩ := nxt_ok hg h hu
    have hin := ld_in hg n2
    have hrow : g.getD u [] = g[u] := by simp [List.getD, List.getElem?_eq_getElem hin.1]
    have hrg := hg.2.1 g[u] (List.getElem_mem hin.1)
    have hrl := gr_row hg (List.getElem_mem hin.1)
    have hll : left.length = g.length := by rw [h.len, tn_len]
    rw [hrow] at n1
    rw [if_pos (by simp; omega), idx_nat, List.getElem?_eq_getElem hin.1]
    simp only [Option.bind_some]
    unfold M_slices_IndexFunc_int_int_walk_Way_1
    obtain ⟨z, e1, e2⟩ := way_index (F := F) (r := g[u]) (left := left) (u := u) (v := nxt g left u) (by omega) (by rw [hll]; exact hrg.2) (by rw [hll]; exact hin.1) (far_b (tn_gr hg) h) F 0 (by omega) (by omega) (by rw [List.drop_zero]; exact n1)
    rw [show ((0 : Nat) : Int) = 0 from rfl] at e1
    rw [e1]
    simp only [Option.bind_some]
    rw [idx_nat, e2]
    simp only [Option.bind_some]
    rw [app_eq (by simp; omega)]
    simp only [Option.bind_some]
    rw [way_l hF hg h m k (nxt g left u) (acc ++ [(nxt g left u : Int)]) (by omega) n3 (by simp; omega), wy]
    have : ∀ (m : Nat), (nxt g left u : Int) :: iz ((wy g left m (nxt g left u)).drop 1) = iz (wy g left m (nxt g left u)) := fun m => by cases m <;> rfl
    rw [List.append_assoc, List.singleton_append, this]
    rfl
def wayM (g : List (List Int)) (s t : Int) : List Int × Int :=
  if wchk g [s, t] ≠ 0 then ([], wchk g [s, t]) else if gD (farL (tn g) t.toNat) s.toNat < 0 then ([], 5) else (iz (wy g (farL (tn g) t.toNat) (gD (farL (tn g) t.toNat) s.toNat).toNat s.toNat), 0)
theorem Way_eq {F : Nat} {g : List (List Int)} {s t : Int} (hF : 2000 ≤ F) : M_walk_Way F g s t = some (wayM g s t) := by
  unfold M_walk_Way wayM
  rw [wcheck_eq (by omega) (by simp)]
  simp only [Option.bind_some]
  by_cases h : wchk g [s, t] = 0
  · obtain ⟨hg, ⟨n, rfl, hn⟩, m, rfl, hm⟩ := wchk2 h
    rw [if_neg (by simp [h]), if_neg (by simp [h]), turn_eq (by omega), if_neg (by simp [gchk_ok.2 hg])]
    simp only [Option.bind_some]
    have hml : m < (tn g).length := by rw [tn_len]; exact hm
    have hf := farL_ok (tn_gr hg) hml
    have hnl : n < (farL (tn g) m).length := by rw [hf.len, tn_len]; exact hn
    rw [far_eq (by omega) (tn_gr hg) hml]
    simp only [Option.bind_some]
    rw [idx_nat, gD_get hnl, Int.toNat_natCast, Int.toNat_natCast]
    simp only [Option.bind_some]
    have hb := far_b (tn_gr hg) hf n
    have hlt := hf.lt n (by omega)
    rw [tn_len] at hlt
    have h100 := hg.1
    by_cases hneg : gD (farL (tn g) m) n < 0
    · rw [if_pos (by simpa using hneg), if_pos hneg]
    · rw [if_neg (by simpa using hneg), if_neg hneg]
      obtain ⟨k, hk⟩ := Int.eq_ofNat_of_zero_le (show 0 ≤ gD (farL (tn g) m) n by omega)
      rw [way_l (by omega) hg hf k F n [(n : Int)] (by omega) hk (by simp; omega), hk, Int.toNat_natCast]
      have : ∀ (k : Nat), (n : Int) :: iz ((wy g (farL (tn g) m) k n).drop 1) = iz (wy g (farL (tn g) m) k n) := fun k => by cases k <;> rfl
      rw [List.singleton_append, this]
  · rw [if_pos (by simpa using h), if_pos h]
theorem root_eq {F : Nat} {g : List (List Int)} {A : List (Int × Int)} {out : List Int} {f : Nat → Nat} (h : Lb g A out f) : ∀ (k n : Nat), n < k → n < g.length → M_walk_Parts_1_l3 F out k (n : Int) = some (f n : Int)
  | 0, _, hk, _ => by omega
  | k + 1, n, hk, hn => by
    show M_walk_Parts_1_b3 F out (M_walk_Parts_1_l3 F out k) (n : Int) = _
    unfold M_walk_Parts_1_b3
    obtain ⟨m, h1, h2, h3, h4⟩ := h.par n hn
    rw [idx_nat, gD_get (by rw [h.len]; exact hn)]
    simp only [Option.bind_some]
    by_cases e : m = n
    · rw [if_neg (by simp [h1, e])]
      unfold M_walk_Parts_1_j2
      rw [h4 e]
    · rw [if_pos (by simp [h1]; omega), h1, root_eq h k m (by omega) (by omega), h3]
def unite (f : Nat → Nat) : List (Int × Int) → (Nat → Nat)
  | [] => f
  | p :: A => unite (joined f (f p.1.toNat) (f p.2.toNat)) A
theorem imax_n (a b : Nat) : imax (a : Int) (b : Int) = ((max a b : Nat) : Int) := by unfold imax; split <;> omega
theorem imin_n (a b : Nat) : imin (a : Int) (b : Int) = ((min a b : Nat) : Int) := by unfold imin; split <;> omega
theorem unite_fold {F : Nat} {g : List (List Int)} (hF : 1000 ≤ F) (hg : Gr g) : ∀ (A done : List (Int × Int)) (out : List Int) (f : Nat → Nat), (∀ p ∈ A, p ∈ af 0 g) → Lb g done out f →
    ∃ out', runFold (τ := Empty) (fun (x116 : List Int) ((x130, x131) : (Int × Int)) => M_walk_Parts_r4 F x116 x130 x131) A out = some (.inl out') ∧ Lb g (done ++ A) out' (unite f A)
  | [], done, out, f, _, h => ⟨out, rfl, by rw [List.append_nil]; exact h⟩
  | p :: A, done, out, f, hA, h => by
    have h100 := hg.1
    have hin := gr_in hg p (hA p (by simp))
    obtain ⟨u, hu⟩ := Int.eq_ofNat_of_zero_le hin.1
    obtain ⟨v, hv⟩ := Int.eq_ofNat_of_zero_le hin.2.2.1
    have hp : p = ((u : Int), (v : Int)) := Prod.ext hu hv
    have hun : u < g.length := by omega
    have hvn : v < g.length := by omega
    have hld : Ld g u v := by unfold Ld; rw [← hp]; exact hA p (by simp)
    have hU := h.union hun hvn (.inl hld)
    have lu := h.le u hun
    have lv := h.le v hvn
    have hM : max (f u) (f v) < out.length := by rw [h.len]; omega
    have hstep : M_walk_Parts_r4 F out (u : Int) (v : Int) = some (.inl (out.set (max (f u) (f v)) ((min (f u) (f v) : Nat) : Int))) := by
      unfold M_walk_Parts_r4 M_walk_Parts_1
      rw [root_eq h F u (by omega) hun, root_eq h F v (by omega) hvn]
      simp only [Option.bind_some]
      rw [imax_n, imin_n, idx_nat, gD_get hM]
      simp only [Option.bind_some]
      unfold lett
      rw [Int.toNat_natCast]
    obtain ⟨out', e1, e2⟩ := unite_fold hF hg A (done ++ [p]) _ (joined f (f p.1.toNat) (f p.2.toNat)) (fun q hq => hA q (by simp [hq])) (by rw [hp]; exact hU)
    refine ⟨out', ?_, ?_⟩
    · rw [← e1, hp]
      show (M_walk_Parts_r4 F out (u : Int) (v : Int)).bind _ = _
      rw [hstep]
      rfl
    · rw [List.append_assoc, List.singleton_append] at e2
      exact e2
theorem parts_put {F : Nat} {g : List (List Int)} {x116 : List Int} {f : Nat → Nat} (hF : 1000 ≤ F) (hg : Gr g) (hx : x116.length = g.length) : ∀ (k i : Nat) (out : List Int), g.length < k + i → i ≤ g.length → Lb g (af 0 g) out f → (∀ j, j < i → gD out j = (f j : Int)) →
    M_walk_Parts_l7 F x116 k ((i : Int), out) = some ((List.range g.length).map (fun (i : Nat) => (f i : Int)), 0)
  | 0, _, _, _, _, _, _ => by omega
  | k + 1, i, out, h, hi, hL, hj => by
    have h100 := hg.1
    show M_walk_Parts_b7 F x116 (M_walk_Parts_l7 F x116 k) (i : Int) out = _
    unfold M_walk_Parts_b7
    by_cases hlt : i < g.length
    · have hil : i < out.length := by rw [hL.len]; exact hlt
      rw [if_pos (by simp [hx]; omega), idx_nat, gD_get hil]
      simp only [Option.bind_some]
      unfold M_walk_Parts_1
      rw [root_eq hL F i (by omega) hlt]
      simp only [Option.bind_some]
      unfold lett
      rw [iadd1_n (by omega), Int.toNat_natCast]
      refine parts_put hF hg hx k (i + 1) _ (by omega) (by omega) (hL.put hlt) fun j hj2 => ?_
      rw [gD_set hil]
      by_cases e : j = i
      · rw [if_pos e, e]
      · rw [if_neg e]; exact hj j (by omega)
    · rw [if_neg (by simp [hx]; omega)]
      unfold M_walk_Parts_j6
      congr 2
      refine gD_ext (by simp [hL.len]) fun t ht => ?_
      rw [hL.len] at ht
      rw [hj t (by omega)]
      simp [gD, List.getD, ht]
theorem ids_take {n i : Nat} (h : i ≤ n) (xs : List Int) (hx : xs = (ids n).take i ++ List.replicate (n - i) 0) : xs.length = n := by
  rw [hx]; simp [ids]; omega
theorem ids_set {n i : Nat} (h : i < n) : ((ids n).take i ++ List.replicate (n - i) (0 : Int)).set i (i : Int) = (ids n).take (i + 1) ++ List.replicate (n - (i + 1)) 0 := by
  have hl : ((ids n).take i).length = i := by simp [ids]; omega
  rw [List.set_append_right _ _ (by omega), hl, Nat.sub_self, show n - i = (n - (i + 1)) + 1 by omega, List.replicate_succ, List.set_cons_zero]
  have : (ids n).take (i + 1) = (ids n).take i ++ [(i : Int)] := by
    rw [take_snoc (by simp [ids]; exact h)]
    simp [ids]
  rw [this, List.append_assoc, List.singleton_append]
theorem parts_ids {F : Nat} {g : List (List Int)} {x8 : List Int} (hg : Gr g) (hx : x8.length = g.length) : ∀ (k i : Nat), g.length < k + i → i ≤ g.length →
    M_walk_Parts_l8 F g x8 k ((i : Int), (ids g.length).take i ++ List.replicate (g.length - i) 0) = M_walk_Parts_j2 F g (ids g.length)
  | 0, _, _, _ => by omega
  | k + 1, i, h, hi => by
    have h100 := hg.1
    show M_walk_Parts_b8 F g x8 (M_walk_Parts_l8 F g x8 k) (i : Int) ((ids g.length).take i ++ List.replicate (g.length - i) 0) = _
    unfold M_walk_Parts_b8
    by_cases hlt : i < g.length
    · have hl := ids_take (n := g.length) (i := i) (by omega) _ rfl
      rw [if_pos (by simp [hx]; omega), idx_nat, List.getElem?_eq_getElem (by omega)]
      simp only [Option.bind_some]
      unfold lett
      rw [Int.toNat_natCast, ids_set hlt, iadd1_n (by omega)]
      exact parts_ids hg hx k (i + 1) (by omega) (by omega)
    · rw [if_neg (by simp [hx]; omega)]
      obtain rfl : i = g.length := by omega
      rw [List.take_of_length_le (by simp [ids]), Nat.sub_self, List.replicate_zero, List.append_nil]
theorem parts_ex {F : Nat} {g : List (List Int)} (hF : 1000 ≤ F) (hg : Gr g) : ∃ p, M_walk_Parts F g = some (p, 0) ∧ PartOk g p := by
  have h100 := hg.1
  unfold M_walk_Parts
  rw [wcheck_eq hF (by simp)]
  have hw : wchk g [] = 0 := by
    unfold wchk
    rw [if_neg (by simp [gchk_ok.2 hg]), if_neg (by simp [wout])]
  have hmk : mk 17592186044416 (0 : Int) (g.length : Int) = some (List.replicate g.length 0) := by
    unfold mk
    rw [if_pos (by omega), Int.toNat_natCast]
  simp only [Option.bind_some]
  rw [if_neg (by simp [hw]), hmk]
  simp only [Option.bind_some]
  have h0 := parts_ids (F := F) (x8 := List.replicate g.length 0) hg (by simp) F 0 (by omega) (by omega)
  rw [List.take_zero, List.nil_append, Nat.sub_zero] at h0
  rw [show ((0 : Nat) : Int) = 0 from rfl] at h0
  rw [h0]
  unfold M_walk_Parts_j2 M_graph_All
  simp only [Option.bind_some]
  obtain ⟨out', e1, e2⟩ := unite_fold hF hg (af 0 g) [] (ids g.length) id (fun p hp => hp) (Lb.start g)
  rw [all_eq (by omega) (by omega) (fun l hl => by have := gr_row hg hl; omega), e1]
  simp only [Option.bind_some, Sum.elim_inl]
  rw [List.nil_append] at e2
  have := parts_put (F := F) hF hg e2.len F 0 out' (by omega) (by omega) e2 (fun j hj => by omega)
  rw [show ((0 : Nat) : Int) = 0 from rfl] at this
  exact ⟨_, this, e2.done hg⟩
def partL (g : List (List Int)) : List Int := ((M_walk_Parts 1000 g).getD ([], 0)).1
theorem partL_ok {g : List (List Int)} (hg : Gr g) : PartOk g (partL g) := by
  obtain ⟨p, h1, h2⟩ := parts_ex (F := 1000) (Nat.le_refl _) hg
  unfold partL
  rw [h1]; exact h2
def partM (g : List (List Int)) : List Int × Int := if gchk g ≠ 0 then ([], gchk g) else (partL g, 0)
theorem Parts_eq {F : Nat} {g : List (List Int)} (hF : 1000 ≤ F) : M_walk_Parts F g = some (partM g) := by
  unfold partM
  by_cases h : gchk g = 0
  · have hg := gchk_ok.1 h
    rw [if_neg (by simp [h])]
    obtain ⟨p, h1, h2⟩ := parts_ex hF hg
    rw [h1, h2.uni (partL_ok hg)]
  · rw [if_pos h]
    unfold M_walk_Parts
    rw [wcheck_eq hF (by simp)]
    have hw : wchk g [] = gchk g := by unfold wchk; rw [if_pos h]
    simp only [Option.bind_some]
    rw [hw, if_pos (by simpa using h)]
def mx (l : List Int) (m : Int) : Int := l.foldl imax m
theorem imax_assoc (a b c : Int) : imax (imax a b) c = imax a (imax b c) := by
  unfold imax
  repeat' split
  all_goals omega
theorem mx_imax : ∀ (l : List Int) (a b : Int), imax a (mx l b) = mx l (imax a b)
  | [], _, _ => rfl
  | x :: l, a, b => by
    show imax a (mx l (imax b x)) = mx l (imax (imax a b) x)
    rw [mx_imax l, imax_assoc]
theorem max_l {F : Nat} {l : List Int} (hm : l.length ≤ 1000000) : ∀ (k i : Nat) (m : Int), l.length < k + i → i ≤ l.length → M_slices_Max_int_int_l3 F l k (m, (i : Int)) = some (mx (l.drop i) m)
  | 0, _, _, _, _ => by omega
  | k + 1, i, m, h, hi => by
    show M_slices_Max_int_int_b3 F l (M_slices_Max_int_int_l3 F l k) m (i : Int) = _
    unfold M_slices_Max_int_int_b3
    by_cases hlt : i < l.length
    · rw [if_pos (by simpa using hlt), idx_nat, List.getElem?_eq_getElem hlt]
      simp only [Option.bind_some]
      rw [iadd1_n (by omega), max_l hm k (i + 1) (imax m l[i]) (by omega) (by omega), List.drop_eq_getElem_cons hlt]
      rfl
    · rw [if_neg (by simpa using hlt), List.drop_eq_nil_of_le (by omega)]
      rfl
theorem max_eq {F : Nat} {l : List Int} {a : Int} (hF : l.length < F) (hm : l.length ≤ 1000000) (h0 : 0 < l.length) : (M_slices_Max_int_int F l).map (imax a) = some (mx l a) := by
  unfold M_slices_Max_int_int
  rw [if_neg (by simp; omega)]
  cases l with
  | nil => simp at h0
  | cons x l =>
    have := max_l (F := F) (l := x :: l) hm F 1 x (by omega) (by simp)
    have e0 : idx (x :: l) 0 = some x := rfl
    rw [e0]
    simp only [Option.bind_some]
    rw [show ((1 : Nat) : Int) = 1 from rfl] at this
    rw [this]
    show some (imax a (mx l x)) = _
    rw [mx_imax]; rfl
def mostG (g : List (List Int)) (i : Nat) (m : Int) : Int := ((List.range g.length).drop i).foldl (fun m s => mx (farL g s) m) m
theorem mostG_step {g : List (List Int)} {i : Nat} {m : Int} (h : i < g.length) : mostG g i m = mostG g (i + 1) (mx (farL g i) m) := by
  unfold mostG
  rw [List.drop_eq_getElem_cons (by simpa using h), List.foldl_cons, List.getElem_range]
theorem mostG_end {g : List (List Int)} {m : Int} : mostG g g.length m = m := by
  unfold mostG
  rw [List.drop_eq_nil_of_le (by simp)]; rfl
theorem most_l {F : Nat} {g : List (List Int)} (hF : 1000 ≤ F) (hg : Gr g) : ∀ (k i : Nat) (m : Int), g.length < k + i → i ≤ g.length → M_walk_Most_l3 F g k (m, (i : Int)) = some (mostG g i m, 0)
  | 0, _, _, _, _ => by omega
  | k + 1, i, m, h, hi => by
    have h100 := hg.1
    show M_walk_Most_b3 F g (M_walk_Most_l3 F g k) m (i : Int) = _
    unfold M_walk_Most_b3
    by_cases hlt : i < g.length
    · have hf := farL_ok hg hlt
      have hfl := hf.len
      rw [if_pos (by simpa using hlt), far_eq hF hg hlt]
      simp only [Option.bind_some]
      have hmx := max_eq (F := F) (a := m) (l := farL g i) (by omega) (by omega) (by omega)
      obtain ⟨z, hz, hz2⟩ := Option.map_eq_some_iff.1 hmx
      rw [hz]
      simp only [Option.bind_some]
      rw [hz2, iadd1_n (by omega), most_l hF hg k (i + 1) _ (by omega) (by omega), ← mostG_step hlt]
    · rw [if_neg (by simpa using hlt)]
      obtain rfl : i = g.length := by omega
      rw [mostG_end]; rfl
def mostM (g : List (List Int)) : Int × Int := if gchk g ≠ 0 then (0, gchk g) else (mostG g 0 0, 0)
theorem Most_eq {F : Nat} {g : List (List Int)} (hF : 1000 ≤ F) : M_walk_Most F g = some (mostM g) := by
  unfold M_walk_Most mostM
  rw [wcheck_eq hF (by simp)]
  simp only [Option.bind_some]
  by_cases h : gchk g = 0
  · have hg := gchk_ok.1 h
    have h100 := hg.1
    have hw : wchk g [] = 0 := by
      unfold wchk
      rw [if_neg (by simp [h]), if_neg (by simp [wout])]
    rw [if_neg (by simp [hw]), if_neg (by simp [h])]
    exact most_l hF hg F 0 0 (by omega) (by omega)
  · have hw : wchk g [] = gchk g := by unfold wchk; rw [if_pos h]
    rw [hw, if_pos h, if_pos (by simpa using h)]
def ti (n : Nat) (f : Nat → Int) : List Int := (List.range n).map f
def tl (n : Nat) (f : Nat → Nat) : List Int := ti n fun i => (f i : Int)
theorem ti_len (n : Nat) (f : Nat → Int) : (ti n f).length = n := by simp [ti]
theorem ti_get {n : Nat} {f : Nat → Int} {i : Nat} (h : i < n) : (ti n f)[i]? = some (f i) := by simp [ti, h]
theorem tl_get {n : Nat} {f : Nat → Nat} {i : Nat} (h : i < n) : (tl n f)[i]? = some (f i : Int) := ti_get h
theorem ti_gD {n : Nat} {f : Nat → Int} {i : Nat} (h : i < n) : gD (ti n f) i = f i := by simp [gD, List.getD, ti_get h]
theorem ti_set {n : Nat} {f : Nat → Int} {i : Nat} {v : Int} : (ti n f).set i v = ti n fun x => if x = i then v else f x := by
  apply List.ext_getElem?
  intro j
  rw [List.getElem?_set, ti_len]
  by_cases hj : j < n
  · rw [ti_get hj, ti_get hj]
    by_cases e : i = j
    · rw [if_pos e, if_pos (by omega), if_pos e.symm]
    · rw [if_neg e, if_neg (fun h => e h.symm)]
  · rw [List.getElem?_eq_none (by rw [ti_len]; omega), List.getElem?_eq_none (by rw [ti_len]; omega)]
    split
    · rw [if_neg (by omega)]
    · rfl
theorem ti_congr {n : Nat} {f h : Nat → Int} (e : ∀ x, x < n → f x = h x) : ti n f = ti n h := by
  unfold ti
  exact List.map_congr_left fun x hx => e x (List.mem_range.1 hx)
theorem tl_set {n : Nat} {f : Nat → Nat} {i v : Nat} : (tl n f).set i (v : Int) = tl n (upd f i v) := by
  unfold tl
  rw [ti_set]
  refine ti_congr fun x _ => ?_
  unfold upd
  split <;> rfl
theorem ti_rep (n : Nat) (v : Int) : List.replicate n v = ti n fun _ => v := by
  apply List.ext_getElem?
  intro j
  rw [List.getElem?_replicate]
  by_cases hj : j < n
  · rw [if_pos hj, ti_get hj]
  · rw [if_neg hj, List.getElem?_eq_none (by rw [ti_len]; omega)]
/-- How many nobody came to. -/
def wh (n : Nat) (cm : Nat → Nat) : Nat := ((List.range n).filter fun x => decide (cm x = 0)).length
theorem wh_mono {n : Nat} {cm cm' : Nat → Nat} (h : ∀ x, cm x ≠ 0 → cm' x ≠ 0) : wh n cm' ≤ wh n cm := by
  unfold wh
  refine nodup_le (List.nodup_range.filter _ : List.Pairwise _ _) fun x hx => ?_
  have hx := List.mem_filter.1 hx
  refine List.mem_filter.2 ⟨hx.1, ?_⟩
  simp only [decide_eq_true_eq] at hx ⊢
  exact Classical.byContradiction fun hc => h x hc hx.2
theorem wh_upd {n i v : Nat} {cm : Nat → Nat} (hi : i < n) (h0 : cm i = 0) (hv : v ≠ 0) : wh n (upd cm i v) + 1 ≤ wh n cm := by
  unfold wh
  have := nodup_le (L := i :: (List.range n).filter fun x => decide (upd cm i v x = 0)) (M := (List.range n).filter fun x => decide (cm x = 0)) (by
    refine List.nodup_cons.2 ⟨fun hm => ?_, (List.nodup_range.filter _ : List.Pairwise _ _)⟩
    have := (List.mem_filter.1 hm).2
    simp only [decide_eq_true_eq] at this
    unfold upd at this
    rw [if_pos rfl] at this
    exact hv this) (fun x hx => by
    rcases List.mem_cons.1 hx with rfl | hx
    · exact List.mem_filter.2 ⟨List.mem_range.2 hi, by simpa using h0⟩
    · have hx := List.mem_filter.1 hx
      refine List.mem_filter.2 ⟨hx.1, ?_⟩
      simp only [decide_eq_true_eq] at hx ⊢
      have h2 := hx.2
      unfold upd at h2
      split at h2
      · exact absurd h2 hv
      · exact h2)
  simpa using this
theorem Wf.op_len {g : List (List Int)} {G : Nat → Prop} {cm : Nat → Nat} {op : List Nat} {pt : Nat → Int} {clk : Nat} (h : Wf g G cm op pt clk) : op.length ≤ g.length := by
  have hnd : op.Nodup := h.op_pw.imp fun {a b} hab e => by rw [e] at hab; omega
  have := nodup_le (M := List.range g.length) hnd fun x hx => List.mem_range.2 (h.inN x ((h.op_iff x).1 hx).1)
  simpa using this
def mn (l : List Int) (m : Int) : Int := l.foldl imin m
theorem min_l {F : Nat} {l : List Int} (hm : l.length ≤ 1000000) : ∀ (k i : Nat) (m : Int), l.length < k + i → i ≤ l.length → M_slices_Min_int_int_l3 F l k (m, (i : Int)) = some (mn (l.drop i) m)
  | 0, _, _, _, _ => by omega
  | k + 1, i, m, h, hi => by
    show M_slices_Min_int_int_b3 F l (M_slices_Min_int_int_l3 F l k) m (i : Int) = _
    unfold M_slices_Min_int_int_b3
    by_cases hlt : i < l.length
    · rw [if_pos (by simpa using hlt), idx_nat, List.getElem?_eq_getElem hlt]
      simp only [Option.bind_some]
      rw [iadd1_n (by omega), min_l hm k (i + 1) (imin m l[i]) (by omega) (by omega), List.drop_eq_getElem_cons hlt]
      rfl
    · rw [if_neg (by simpa using hlt), List.drop_eq_nil_of_le (by omega)]
      rfl
theorem mn_is : ∀ (L : List Nat) (m : Nat), ∃ x : Nat, mn (iz L) (m : Int) = (x : Int) ∧ (x = m ∨ x ∈ L) ∧ x ≤ m ∧ ∀ y, y ∈ L → x ≤ y
  | [], m => ⟨m, rfl, .inl rfl, Nat.le_refl _, fun y hy => by simp at hy⟩
  | a :: L, m => by
    obtain ⟨x, h1, h2, h3, h4⟩ := mn_is L (min m a)
    refine ⟨x, ?_, ?_, by omega, fun y hy => ?_⟩
    · show mn (iz L) (imin (m : Int) (a : Int)) = _
      rw [imin_n]; exact h1
    · rcases h2 with h2 | h2
      · by_cases hc : m ≤ a
        · left; omega
        · right; exact List.mem_cons.2 (.inl (by omega))
      · exact .inr (List.mem_cons.2 (.inr h2))
    · rcases List.mem_cons.1 hy with rfl | hy
      · omega
      · exact h4 y hy
theorem min_eq {F : Nat} {C : List Nat} (hF : C.length < F) (hm : C.length ≤ 1000) (h0 : C ≠ []) : ∃ x : Nat, M_slices_Min_int_int F (iz C) = some (x : Int) ∧ x ∈ C ∧ ∀ y, y ∈ C → x ≤ y := by
  cases C with
  | nil => exact absurd rfl h0
  | cons a C =>
    obtain ⟨x, h1, h2, h3, h4⟩ := mn_is C a
    refine ⟨x, ?_, ?_, fun y hy => ?_⟩
    · unfold M_slices_Min_int_int
      rw [if_neg (by simp [iz]; omega)]
      have e0 : idx (iz (a :: C)) 0 = some (a : Int) := rfl
      rw [e0]
      simp only [Option.bind_some]
      have := min_l (F := F) (l := iz (a :: C)) (by rw [iz_len]; omega) F 1 (a : Int) (by rw [iz_len]; omega) (by simp [iz])
      rw [show ((1 : Nat) : Int) = 1 from rfl] at this
      rw [this]
      have e : (iz (a :: C)).drop 1 = iz C := rfl
      rw [e, h1]
    · rcases h2 with h2 | h2
      · rw [h2]; simp
      · exact List.mem_cons.2 (.inr h2)
    · rcases List.mem_cons.1 hy with rfl | hy
      · exact h3
      · exact h4 y hy
theorem index_l {F : Nat} {l : List Int} {v : Int} {p : Nat} (hm : l.length ≤ 1000000) (hp : l[p]? = some v) (hno : ∀ j, j < p → l[j]? ≠ some v) : ∀ (k i : Nat), l.length < k + i → i ≤ p → M_slices_Index_int_int_l3 F l v k (i : Int) = some (p : Int)
  | 0, i, h, hi => by
    have := (List.getElem?_eq_some_iff.1 hp).1
    omega
  | k + 1, i, h, hi => by
    have hpl := (List.getElem?_eq_some_iff.1 hp).1
    show M_slices_Index_int_int_b3 F l v (M_slices_Index_int_int_l3 F l v k) (i : Int) = _
    unfold M_slices_Index_int_int_b3
    rw [if_pos (by simp; omega), idx_nat, List.getElem?_eq_getElem (by omega)]
    simp only [Option.bind_some]
    by_cases e : i = p
    · subst e
      have := (List.getElem?_eq_some_iff.1 hp).2
      rw [if_pos (by simp [this])]
    · have := hno i (by omega)
      rw [List.getElem?_eq_getElem (by omega)] at this
      rw [if_neg (by simp; exact fun h => this (by rw [h])), iadd1_n (by omega)]
      exact index_l hm hp hno k (i + 1) (by omega) (by omega)
theorem close_l {F n : Nat} {cmL lwL op : List Int} {C : List Nat} {i : Nat} {pt : Nat → Int} {clk least : Int} (hop : op.drop i = iz C) (hi : i ≤ op.length) (hm : op.length ≤ 1000) (hC : ∀ x, x ∈ C → x < n) : ∀ (k j : Nat), C.length < k + j → j ≤ C.length →
    M_strong_finder_close_l3 F cmL lwL op clk (i : Int) least k ((j : Int), ti n fun x => if x ∈ C.take j then least else pt x) = some (cmL, lwL, op.take i, ti n (fun x => if x ∈ C then least else pt x), clk)
  | 0, _, _, _ => by omega
  | k + 1, j, h, hj => by
    have hCl : C.length = op.length - i := by
      have := congrArg List.length hop
      rw [List.length_drop, iz_len] at this
      omega
    show M_strong_finder_close_b3 F cmL lwL op clk (i : Int) least (M_strong_finder_close_l3 F cmL lwL op clk (i : Int) least k) (j : Int) (ti n fun x => if x ∈ C.take j then least else pt x) = _
    unfold M_strong_finder_close_b3
    rw [Int.toNat_natCast]
    by_cases hlt : j < C.length
    · have hcj := hC C[j] (List.getElem_mem hlt)
      rw [if_pos (by simp; omega), hop, idx_nat, iz_get hlt]
      simp only [Option.bind_some]
      have hgd : C.getD j 0 = C[j] := by simp [List.getD, List.getElem?_eq_getElem hlt]
      rw [hgd, idx_nat, ti_get hcj]
      simp only [Option.bind_some]
      unfold lett
      rw [Int.toNat_natCast, ti_set, iadd1_n (by omega)]
      have e : (ti n fun x => if x = C[j] then least else if x ∈ C.take j then least else pt x) = ti n fun x => if x ∈ C.take (j + 1) then least else pt x := by
        refine ti_congr fun x _ => ?_
        rw [take_snoc hlt]
        by_cases e1 : x = C[j]
        · rw [if_pos e1, if_pos (List.mem_append.2 (.inr (by rw [e1]; exact List.mem_singleton.2 rfl)))]
        · rw [if_neg e1]
          by_cases e2 : x ∈ C.take j
          · rw [if_pos e2, if_pos (List.mem_append.2 (.inl e2))]
          · rw [if_neg e2, if_neg (by rw [List.mem_append, List.mem_singleton]; exact fun h => h.elim e2 e1)]
      rw [e]
      exact close_l hop hi hm hC k (j + 1) (by omega) (by omega)
    · rw [if_neg (by simp; omega)]
      unfold M_strong_finder_close_j2
      have es : sub op 0 (i : Int) = some (op.take i) := by
        have := sub_n (l := op) (i := 0) (j := i) (by omega) hi
        rw [show ((0 : Nat) : Int) = 0 from rfl, List.drop_zero] at this
        exact this
      rw [es, List.take_of_length_le (show C.length ≤ j by omega)]
      rfl
theorem close_eq {F N n : Nat} {g : List (List Int)} {cmL lwL : List Int} {op0 C : List Nat} {pt : Nat → Int} {clk : Int} (hF : 2000 ≤ F) (hn : C.head? = some n) (hn0 : n ∉ op0) (hm : (op0 ++ C).length ≤ 1000) (hC : ∀ x, x ∈ C → x < N) :
    ∃ least : Nat, M_strong_finder_close F g cmL lwL (iz (op0 ++ C)) (ti N pt) clk (n : Int) = some (cmL, lwL, iz op0, ti N (fun x => if x ∈ C then (least : Int) else pt x), clk) ∧ least ∈ C ∧ ∀ y, y ∈ C → least ≤ y := by
  obtain ⟨C', rfl⟩ : ∃ C', C = n :: C' := by
    cases C with
    | nil => simp at hn
    | cons a C' => simp only [List.head?_cons, Option.some.injEq] at hn; exact ⟨C', by rw [hn]⟩
  have happ : iz (op0 ++ n :: C') = iz op0 ++ iz (n :: C') := by simp [iz]
  have hdrop : (iz (op0 ++ n :: C')).drop op0.length = iz (n :: C') := by rw [happ, List.drop_left' (iz_len _)]
  rw [List.length_append] at hm
  simp only [List.length_cons] at hm
  obtain ⟨least, e1, e2, e3⟩ := min_eq (F := F) (C := n :: C') (by simp only [List.length_cons]; omega) (by simp only [List.length_cons]; omega) (by simp)
  refine ⟨least, ?_, e2, e3⟩
  have hil : (iz (op0 ++ n :: C')).length = op0.length + (C'.length + 1) := by rw [iz_len, List.length_append, List.length_cons]
  have hix := index_l (F := F) (l := iz (op0 ++ n :: C')) (v := (n : Int)) (p := op0.length) (by omega) (by rw [happ, List.getElem?_append_right (by rw [iz_len]; exact Nat.le_refl _), iz_len, Nat.sub_self]; rfl) (fun j hj => by
    rw [happ, List.getElem?_append_left (by rw [iz_len]; exact hj), iz_get hj]
    intro he
    have he := Option.some.inj he
    have : op0.getD j 0 = n := by omega
    exact hn0 (this ▸ by simp [List.getD, List.getElem?_eq_getElem hj])) F 0 (by omega) (by omega)
  rw [show ((0 : Nat) : Int) = 0 from rfl] at hix
  unfold M_strong_finder_close M_slices_Index_int_int
  rw [hix]
  simp only [Option.bind_some]
  unfold chk
  rw [if_pos (by simp [hil]; omega), Int.toNat_natCast, hdrop, e1]
  simp only [Option.bind_some]
  have := close_l (F := F) (n := N) (cmL := cmL) (lwL := lwL) (op := iz (op0 ++ n :: C')) (C := n :: C') (i := op0.length) (pt := pt) (clk := clk) (least := (least : Int)) hdrop (by omega) (by omega) hC F 0 (by simp only [List.length_cons]; omega) (by omega)
  rw [show ((0 : Nat) : Int) = 0 from rfl] at this
  have e9 : (ti N fun x => if x ∈ (n :: C').take 0 then (least : Int) else pt x) = ti N pt := ti_congr fun x _ => by simp
  rw [e9] at this
  rw [this, happ, List.take_left' (iz_len _)]
/-- What a visit of a node gives. -/
def VOk (g : List (List Int)) (V : (List (List Int)) → (List Int) → (List Int) → (List Int) → (List Int) → Int → Int → Option (List Int × List Int × List Int × List Int × Int)) (d : Nat) : Prop :=
  ∀ (G : Nat → Prop) (cm lw : Nat → Nat) (op : List Nat) (pt : Nat → Int) (clk n : Nat), Wf g G cm op pt clk → cm n = 0 → n < g.length → (∀ x, G x → Rch g x n) → wh g.length cm ≤ d → clk + wh g.length cm ≤ 1000 →
    ∃ (cm' lw' : Nat → Nat) (op' : List Nat) (pt' : Nat → Int) (clk' : Nat), V g (tl g.length cm) (tl g.length lw) (iz op) (ti g.length pt) (clk : Int) (n : Int) = some (tl g.length cm', tl g.length lw', iz op', ti g.length pt', (clk' : Int)) ∧
      Vp g G n cm op pt clk cm' op' pt' clk' (lw' n) ∧ (∀ x, cm x ≠ 0 → lw' x = lw x) ∧ clk' + wh g.length cm' ≤ clk + wh g.length cm
theorem visit_l {F n d clk0 : Nat} {g : List (List Int)} {G : Nat → Prop} {cm0 lw0 : Nat → Nat} {op0 : List Nat} {pt0 : Nat → Int} {r : List Int} {V : (List (List Int)) → (List Int) → (List Int) → (List Int) → (List Int) → Int → Int → Option (List Int × List Int × List Int × List Int × Int)} (hF : 2000 ≤ F) (hg : Gr g) (hV : VOk g V d) (hr : g[n]? = some r) (hGn : ∀ x, G x → Rch g x n) : ∀ (k j : Nat) (cm lw : Nat → Nat) (op : List Nat) (pt : Nat → Int) (clk : Nat), r.length < k + j → j ≤ r.length →
    Lp g G n cm0 op0 pt0 clk0 (fun y => (y : Int) ∈ r.take j) cm op pt clk (lw n) → wh g.length cm ≤ d → clk + wh g.length cm ≤ 1000 → (∀ x, cm0 x ≠ 0 → lw x = lw0 x) →
    ∃ (cm' lw' : Nat → Nat) (op' : List Nat) (pt' : Nat → Int) (clk' : Nat), M_strong_finder_visit_l8 F V g (n : Int) r k ((j : Int), tl g.length cm, tl g.length lw, iz op, ti g.length pt, (clk : Int)) = some (tl g.length cm', tl g.length lw', iz op', ti g.length pt', (clk' : Int)) ∧
      Vp g G n cm0 op0 pt0 clk0 cm' op' pt' clk' (lw' n) ∧ (∀ x, cm0 x ≠ 0 → lw' x = lw0 x) ∧ clk' + wh g.length cm' ≤ clk + wh g.length cm
  | 0, _, _, _, _, _, _, _, _, _, _, _, _ => by omega
  | k + 1, j, cm, lw, op, pt, clk, h, hj, hL, hd, hc, hlw => by
    have h100 := hg.1
    have hrm := List.mem_of_getElem? hr
    have hrl := gr_row hg hrm
    have hrx := (hg.2.1 r hrm).2
    have hnN : n < g.length := (List.getElem?_eq_some_iff.1 hr).1
    have hop := hL.wf.op_len
    have hstep : M_strong_finder_visit_l8 F V g (n : Int) r (k + 1) ((j : Int), tl g.length cm, tl g.length lw, iz op, ti g.length pt, (clk : Int)) = M_strong_finder_visit_b8 F V g (n : Int) r (M_strong_finder_visit_l8 F V g (n : Int) r k) (j : Int) (tl g.length cm) (tl g.length lw) (iz op) (ti g.length pt) (clk : Int) := rfl
    rw [hstep]
    unfold M_strong_finder_visit_b8
    by_cases hlt : j < r.length
    · have hx := hrx r[j] (List.getElem_mem hlt)
      obtain ⟨x, hx1⟩ := Int.eq_ofNat_of_zero_le hx.1
      have hxN : x < g.length := by omega
      have hld : Ld g n x := ld_row.2 ⟨r, hr, by rw [← hx1]; exact List.getElem_mem hlt⟩
      have hS : ∀ {S : Nat → Prop} {cm : Nat → Nat} {op : List Nat} {pt : Nat → Int} {clk l : Nat}, S = (fun (y : Nat) => (y : Int) ∈ r.take j) → Lp g G n cm0 op0 pt0 clk0 (fun y => S y ∨ y = x) cm op pt clk l → Lp g G n cm0 op0 pt0 clk0 (fun y => (y : Int) ∈ r.take (j + 1)) cm op pt clk l := by
        intro S cm op pt clk l e hh
        refine { hh with low3 := fun y hy => hh.low3 y ?_ }
        rw [take_snoc hlt, List.mem_append, List.mem_singleton, hx1] at hy
        rw [e]
        rcases hy with hy | hy
        · exact .inl hy
        · exact .inr (by omega)
      rw [if_pos (by simpa using hlt), idx_nat, List.getElem?_eq_getElem hlt, hx1]
      simp only [Option.bind_some]
      rw [idx_nat, tl_get hxN]
      simp only [Option.bind_some]
      by_cases h0 : cm x = 0
      · -- nobody came to it
        have hR : ∀ y, (G y ∨ y = n) → Rch g y x := fun y hy => by
          rcases hy with hy | hy
          · exact rch_trans (hGn y hy) (rch_one hld)
          · rw [hy]; exact rch_one hld
        obtain ⟨cm', lw', op', pt', clk', e1, e2, e3, e4⟩ := hV (fun y => G y ∨ y = n) cm lw op pt clk x hL.wf h0 hxN hR hd hc
        rw [if_pos (by simp [h0]), e1]
        simp only [Option.bind_some]
        rw [idx_nat, tl_get hnN]
        simp only [Option.bind_some]
        rw [idx_nat, tl_get hxN]
        simp only [Option.bind_some]
        unfold lett
        rw [imin_n, Int.toNat_natCast, tl_set]
        unfold M_strong_finder_visit_j9
        rw [iadd1_n (by omega)]
        have hncm : cm n ≠ 0 := ((hL.wf.op_iff n).1 hL.nmem).1
        have hln : lw' n = lw n := e3 n hncm
        have hL2 := hS rfl (hL.white hld h0 e2)
        have hwm : wh g.length cm' ≤ wh g.length cm := wh_mono fun y hy => by rw [e2.old y hy]; exact hy
        have hun : upd lw' n (min (lw' n) (lw' x)) n = min (lw n) (lw' x) := by unfold upd; rw [if_pos rfl, hln]
        obtain ⟨cm2, lw2, op2, pt2, clk2, f1, f2, f3, f4⟩ := visit_l (lw0 := lw0) hF hg hV hr hGn k (j + 1) cm' (upd lw' n (min (lw' n) (lw' x))) op' pt' clk' (by omega) (by omega) (by rw [hun]; exact hL2) (by omega) (by omega) (fun y hy => by
          have hyn : y ≠ n := fun e => hy (e ▸ hL.new0)
          unfold upd
          rw [if_neg hyn, e3 y (by rw [hL.old y hy]; exact hy)]
          exact hlw y hy)
        exact ⟨cm2, lw2, op2, pt2, clk2, f1, f2, f3, by omega⟩
      · rw [if_neg (by simp; omega), idx_nat, ti_get hxN]
        simp only [Option.bind_some]
        by_cases hp : pt x < 0
        · rw [if_pos (by simpa using hp), idx_nat, tl_get hnN]
          simp only [Option.bind_some]
          unfold lett
          rw [imin_n, Int.toNat_natCast, tl_set]
          unfold M_strong_finder_visit_j9
          rw [iadd1_n (by omega)]
          have hun : upd lw n (min (lw n) (cm x)) n = min (lw n) (cm x) := by unfold upd; rw [if_pos rfl]
          exact visit_l (lw0 := lw0) hF hg hV hr hGn k (j + 1) cm (upd lw n (min (lw n) (cm x))) op pt clk (by omega) (by omega) (by rw [hun]; exact hS rfl (hL.open hld h0 hp)) hd hc (fun y hy => by
            have hyn : y ≠ n := fun e => hy (e ▸ hL.new0)
            unfold upd
            rw [if_neg hyn]
            exact hlw y hy)
        · rw [if_neg (by simpa using hp)]
          unfold M_strong_finder_visit_j9
          rw [iadd1_n (by omega)]
          exact visit_l (lw0 := lw0) hF hg hV hr hGn k (j + 1) cm lw op pt clk (by omega) (by omega) (hS rfl (hL.told h0 hp)) hd hc hlw
    · have hall : ∀ y, Ld g n y → (y : Int) ∈ r.take j := fun y hy => by
        obtain ⟨r', hr', hy'⟩ := ld_row.1 hy
        rw [hr] at hr'
        obtain rfl := Option.some.inj hr'
        rw [List.take_of_length_le (by omega)]; exact hy'
      rw [if_neg (by simpa using hlt)]
      unfold M_strong_finder_visit_j5
      rw [idx_nat, tl_get hnN]
      simp only [Option.bind_some]
      rw [idx_nat, tl_get hnN]
      simp only [Option.bind_some]
      by_cases hl : lw n = cm n
      · obtain ⟨new, o1, o2⟩ := hL.opx
        have hC0 : ∀ x, x ∈ n :: new → cm0 x = 0 := fun x hx => (List.mem_cons.1 hx).elim (fun e => e ▸ hL.new0) (o2 x)
        have hCo : ∀ x, x ∈ n :: new → x ∈ op := fun x hx => by rw [o1]; exact List.mem_append.2 (.inr hx)
        have hCn : ∀ x, x ∈ n :: new → cm n ≤ cm x := fun x hx => by
          rcases List.mem_cons.1 hx with e | hx
          · rw [e]; exact Nat.le_refl _
          · have := hL.wf.op_pw
            rw [o1, List.pairwise_append] at this
            exact Nat.le_of_lt ((List.pairwise_cons.1 this.2.1).1 x hx)
        obtain ⟨least, c1, c2, c3⟩ := close_eq (F := F) (N := g.length) (n := n) (g := g) (cmL := tl g.length cm) (lwL := tl g.length lw) (op0 := op0) (C := n :: new) (pt := pt) (clk := (clk : Int)) hF rfl (fun hm => hL.op0v n hm hL.new0) (by rw [← o1]; omega) (fun x hx => hL.wf.inN x ((hL.wf.op_iff x).1 (hCo x hx)).1)
        rw [if_pos (by simp [hl]), o1, c1]
        simp only [Option.bind_some]
        refine ⟨cm, lw, op0, _, clk, rfl, ?_, hlw, Nat.le_refl _⟩
        exact hL.close hall hl o1 (by simp) hC0 hCn c2 c3
      · rw [if_neg (by simp; omega)]
        exact ⟨cm, lw, op, pt, clk, rfl, hL.stay hall hl, hlw, Nat.le_refl _⟩
theorem visit_ok {g : List (List Int)} (hg : Gr g) : ∀ (d F : Nat), 2001 + d ≤ F → VOk g (M_strong_finder_visit F) d
  | d, 0, hF => by omega
  | d, F + 1, hF => by
    intro G cm lw op pt clk n hwf hn hN hG hd hc
    have h100 := hg.1
    have hop := hwf.op_len
    have hr : g[n]? = some g[n] := List.getElem?_eq_getElem hN
    have hrl := gr_row hg (List.getElem_mem hN)
    have hwu := wh_upd (cm := cm) (v := clk + 1) hN hn (by omega)
    obtain ⟨d', rfl⟩ := Nat.exists_eq_succ_of_ne_zero (show d ≠ 0 by omega)
    have hV := visit_ok hg d' F (by omega)
    have hun : upd lw n (clk + 1) n = clk + 1 := by unfold upd; rw [if_pos rfl]
    have hent := hwf.enter hn hN hG
    have hL : Lp g G n cm op pt clk (fun y => (y : Int) ∈ (g[n]).take 0) (upd cm n (clk + 1)) (op ++ [n]) pt (clk + 1) (upd lw n (clk + 1) n) := by
      rw [hun]
      exact { hent with low3 := fun y hy => by simp at hy }
    obtain ⟨cm', lw', op', pt', clk', e1, e2, e3, e4⟩ := visit_l (F := F) (lw0 := lw) (by omega) hg hV hr hG F 0 (upd cm n (clk + 1)) (upd lw n (clk + 1)) (op ++ [n]) pt (clk + 1) (by omega) (by omega) hL (by omega) (by omega) (fun x hx => by
      unfold upd
      rw [if_neg (fun e : x = n => hx (by rw [e]; exact hn))])
    refine ⟨cm', lw', op', pt', clk', ?_, e2, e3, by omega⟩
    rw [← e1]
    show ((idx (tl g.length cm) (n : Int)).bind fun _x33 => ((idx (tl g.length lw) (n : Int)).bind fun _x37 => (lett ((tl g.length cm).set ((n : Int)).toNat (iadd .i64 (clk : Int) 1)) fun x41 => (lett ((tl g.length lw).set ((n : Int)).toNat (iadd .i64 (clk : Int) 1)) fun x44 => ((app 8796093022208 (iz op) ([(n : Int)] : List Int)).bind fun x49 => ((idx g (n : Int)).bind fun x455 => M_strong_finder_visit_l8 F (M_strong_finder_visit F) g (n : Int) x455 F (0, x41, x44, x49, ti g.length pt, iadd .i64 (clk : Int) 1))))))) = _
    rw [idx_nat, tl_get hN]
    simp only [Option.bind_some]
    rw [idx_nat, tl_get hN]
    simp only [Option.bind_some]
    rw [app_eq (by rw [iz_len]; simp; omega), idx_nat, hr]
    simp only [Option.bind_some]
    unfold lett
    have hz : iz op ++ [(n : Int)] = iz (op ++ [n]) := by simp [iz]
    rw [iadd1_n (by omega), Int.toNat_natCast, tl_set, tl_set, hz]
    rfl
theorem sparts_l {F : Nat} {g : List (List Int)} (hF : 4000 ≤ F) (hg : Gr g) : ∀ (k s : Nat) (cm lw : Nat → Nat) (pt : Nat → Int) (clk : Nat), g.length < k + s → s ≤ g.length → Wf g (fun _ => False) cm [] pt clk → clk + wh g.length cm ≤ 1000 → (∀ x, x < s → cm x ≠ 0) →
    ∃ p, M_strong_parts_l9 F g k ((s : Int), tl g.length cm, tl g.length lw, ([] : List Int), ti g.length pt, (clk : Int)) = some p ∧ StrOk g p
  | 0, _, _, _, _, _, _, _, _, _, _ => by omega
  | k + 1, s, cm, lw, pt, clk, h, hs, hwf, hc, hv => by
    have h100 := hg.1
    have hstep : M_strong_parts_l9 F g (k + 1) ((s : Int), tl g.length cm, tl g.length lw, ([] : List Int), ti g.length pt, (clk : Int)) = M_strong_parts_b9 F g (M_strong_parts_l9 F g k) (s : Int) (tl g.length cm) (tl g.length lw) [] (ti g.length pt) (clk : Int) := rfl
    rw [hstep]
    unfold M_strong_parts_b9
    by_cases hlt : s < g.length
    · rw [if_pos (by simpa using hlt), idx_nat, tl_get hlt]
      simp only [Option.bind_some]
      by_cases h0 : cm s = 0
      · have hwl : wh g.length cm ≤ g.length := by
          unfold wh
          have := List.length_filter_le (fun x => decide (cm x = 0)) (List.range g.length)
          simpa using this
        obtain ⟨cm', lw', op', pt', clk', e1, e2, e3, e4⟩ := visit_ok hg g.length F (by omega) (fun _ => False) cm lw [] pt clk s hwf h0 hlt (fun x hx => hx.elim) hwl hc
        have hop := e2.wf.empty
        subst hop
        have e1' : M_strong_finder_visit F g (tl g.length cm) (tl g.length lw) [] (ti g.length pt) (clk : Int) (s : Int) = some (tl g.length cm', tl g.length lw', iz [], ti g.length pt', (clk' : Int)) := e1
        rw [if_pos (by simp [h0]), e1']
        simp only [Option.bind_some]
        unfold M_strong_parts_j10
        rw [iadd1_n (by omega)]
        refine sparts_l hF hg k (s + 1) cm' lw' pt' clk' (by omega) (by omega) e2.wf (by omega) fun x hx => ?_
        by_cases e : x = s
        · rw [e]; exact e2.vis
        · have := hv x (by omega)
          rw [e2.old x this]; exact this
      · rw [if_neg (by simp; omega)]
        unfold M_strong_parts_j10
        rw [iadd1_n (by omega)]
        refine sparts_l hF hg k (s + 1) cm lw pt clk (by omega) (by omega) hwf hc fun x hx => ?_
        by_cases e : x = s
        · rw [e]; exact h0
        · exact hv x (by omega)
    · rw [if_neg (by simpa using hlt)]
      refine ⟨_, rfl, ?_⟩
      have hpos : ∀ t, t < g.length → 0 ≤ pt t := fun t ht => by
        have := hwf.op_iff t
        have hne := hv t (by omega)
        refine Classical.byContradiction fun hcn => ?_
        have := this.2 ⟨hne, by omega⟩
        simp at this
      refine ⟨ti_len _ _, fun t ht => ?_, fun t ht => ?_, fun t u ht htu => ?_⟩
      · rw [ti_gD ht]
        exact ⟨hpos t ht, ((hwf.ass t (hpos t ht)).2.2 t (sc_refl g t)).2⟩
      · rw [ti_gD ht]
        exact (hwf.ass t (hpos t ht)).2.1
      · rw [ti_gD ht]
        exact ((hwf.ass t (hpos t ht)).2.2 u htu).2
theorem sparts_ex {F : Nat} {g : List (List Int)} (hF : 4000 ≤ F) (hg : Gr g) : ∃ p, M_strong_parts F g = some p ∧ StrOk g p := by
  have h100 := hg.1
  unfold M_strong_parts
  have hmk : mk 17592186044416 (0 : Int) (g.length : Int) = some (List.replicate g.length 0) := by
    unfold mk
    rw [if_pos (by omega), Int.toNat_natCast]
  rw [hmk, rep_eq (by omega) hg.1]
  simp only [Option.bind_some]
  unfold M_strong_parts_j1
  have hwf : Wf g (fun _ => False) (fun _ => 0) [] (fun _ => -1) 0 := by
    refine { clk_le := fun x => Nat.le_refl _, op_iff := fun x => by simp, op_pw := List.Pairwise.nil, gop := fun x hx => hx.elim, blk := fun x hx => absurd rfl hx, ass := fun x hx => by omega, rch := fun x hx => by simp at hx, gry := fun x hx => by simp at hx, inN := fun x hx => absurd rfl hx }
  have hwl : wh g.length (fun _ => 0) ≤ g.length := by
    unfold wh
    have := List.length_filter_le (fun x => decide ((fun _ => 0 : Nat → Nat) x = 0)) (List.range g.length)
    simpa using this
  obtain ⟨p, e1, e2⟩ := sparts_l (F := F) hF hg F 0 (fun _ => 0) (fun _ => 0) (fun _ => -1) 0 (by omega) (by omega) hwf (by omega) (fun x hx => by omega)
  refine ⟨p, ?_, e2⟩
  rw [← e1, ti_rep, ti_rep]
  rfl
def spartL (g : List (List Int)) : List Int := (M_strong_parts 4000 g).getD []
theorem spartL_ok {g : List (List Int)} (hg : Gr g) : StrOk g (spartL g) := by
  obtain ⟨p, h1, h2⟩ := sparts_ex (F := 4000) (Nat.le_refl _) hg
  unfold spartL
  rw [h1]; exact h2
theorem sparts_eq {F : Nat} {g : List (List Int)} (hF : 4000 ≤ F) (hg : Gr g) : M_strong_parts F g = some (spartL g) := by
  obtain ⟨p, h1, h2⟩ := sparts_ex hF hg
  rw [h1, h2.uni (spartL_ok hg)]
def spartM (g : List (List Int)) : List Int × Int := if gchk g ≠ 0 then ([], gchk g) else (spartL g, 0)
theorem sParts_eq {F : Nat} {g : List (List Int)} (hF : 4000 ≤ F) : M_strong_Parts F g = some (spartM g) := by
  unfold M_strong_Parts spartM
  rw [graphCheck_eq (by omega)]
  simp only [Option.bind_some]
  by_cases h : gchk g = 0
  · rw [if_neg (by simp [h]), if_neg (by simp [h]), sparts_eq hF (gchk_ok.1 h)]
    rfl
  · rw [if_pos (by simpa using h), if_pos h]
def bw (g : List (List Int)) : List (Int × Int) := af 0 g ++ sw (af 0 g)
def bd (g : List (List Int)) : List (Int × Int) := ddP (srtA (bw g))
def bt (g : List (List Int)) : List (List Int) := tab g.length (bd g)
theorem bd_mem {g : List (List Int)} {p : Int × Int} : p ∈ bd g ↔ p ∈ bw g := by
  unfold bd
  rw [ddP_mem, (srtA_perm _).mem_iff]
theorem bw_in {g : List (List Int)} (h : Gr g) : InR g.length (bw g) := fun p hp => by
  rcases List.mem_append.1 hp with hp | hp
  · exact gr_in h p hp
  · exact sw_in (gr_in h) p hp
theorem bd_in {g : List (List Int)} (h : Gr g) : InR g.length (bd g) := fun p hp => bw_in h p (bd_mem.1 hp)
theorem bw_len {g : List (List Int)} (h : Gr g) : (bw g).length ≤ 1200 := by
  have := gr_len h
  unfold bw
  rw [List.length_append, sw_len]; omega
theorem bd_len {g : List (List Int)} (h : Gr g) : (bd g).length ≤ 1200 := by
  have h1 := ddP_len (srtA (bw g))
  rw [srtA_len] at h1
  have := bw_len h
  unfold bd; omega
def bothM (g : List (List Int)) : List (List Int) × Int := if 600 < (bd g).length then ([], 2) else (bt g, 0)
theorem both_eq {F : Nat} {g : List (List Int)} (hF : 2000 ≤ F) : M_graph_Both F g = some (if gchk g ≠ 0 then ([], gchk g) else bothM g) := by
  unfold M_graph_Both M_graph_All
  rw [graphCheck_eq (by omega)]
  simp only [Option.bind_some]
  by_cases h : gchk g = 0
  · have hg := gchk_ok.1 h
    have h1 := hg.1
    have h2 := gr_len hg
    have h3 := bw_len hg
    have h4 := bd_len hg
    rw [if_neg (by simp [h]), if_neg (by simp [h]), collect_all (by omega) hg]
    simp only [Option.bind_some]
    rw [turned_eq (by omega) hg]
    simp only [Option.bind_some]
    show (app _ (af 0 g) (sw (af 0 g))).bind _ = _
    rw [app_eq (by rw [sw_len]; omega)]
    simp only [Option.bind_some]
    show (M_slices_SortFunc_api_Arc_api_Arc_graph_order F (bw g)).bind _ = _
    rw [sortFunc_eq (by omega) (by omega)]
    simp only [Option.bind_some, chk]
    rw [if_pos (by rw [srtA_len]; simp [bw]), compactA_eq (by rw [srtA_len]; omega) (by rw [srtA_len]; omega)]
    simp only [Option.bind_some]
    show (if decide (600 < ((bd g).length : Int)) then _ else (M_graph_Built F (g.length : Int) (bd g)).bind _) = _
    unfold bothM
    by_cases h5 : 600 < (bd g).length
    · rw [if_pos (by simp; omega), if_pos h5]
    · rw [if_neg (by simp; omega), if_neg h5, built_eq (fun p hp => by have := bd_in hg p hp; omega) (by omega) (by omega) (by omega)]
      rfl
  · rw [if_pos (by simpa using h), if_pos h]
def lens (g : List (List Int)) : List Int := g.map fun r => (r.length : Int)
def deg (n : Nat) (l : List (Int × Int)) : List Int := lens (tab n l)
theorem deg_get {n i : Nat} {l : List (Int × Int)} (h : i < n) : (deg n l)[i]? = some ((rowOf l i).length : Int) := by
  unfold deg lens
  rw [List.getElem?_map, tab_get h]; rfl
theorem deg_snoc {n a : Nat} {l : List (Int × Int)} {b : Int} : deg n (l ++ [((a : Int), b)]) = (deg n l).set a (((rowOf l a).length + 1 : Nat) : Int) := by
  unfold deg lens
  rw [tab_snoc, List.map_set, List.length_append, List.length_singleton]
theorem deg_perm {n : Nat} {l l' : List (Int × Int)} (h : l.Perm l') : deg n l = deg n l' := by
  unfold deg lens tab
  rw [List.map_map, List.map_map]
  refine List.map_congr_left fun i _ => ?_
  show ((rowOf l i).length : Int) = ((rowOf l' i).length : Int)
  unfold rowOf
  rw [List.length_map, List.length_map, (h.filter _).length_eq]
theorem deg_isTab {n : Nat} {l : List (Int × Int)} {T : List (List Int)} (h : IsTab n l T) (hn : l.Nodup) : deg n l = lens T := by
  rw [isTab_uniq h (srt_isTab hn) fun p => Iff.rfl, ← deg_perm (srtA_perm l)]
  rfl
theorem degrees_fold {F n : Nat} {yy : (List Int × List Int) → (Int × Int) → Option ((List Int × List Int) ⊕ Empty)} (hy : ∀ s p, yy s p = M_graph_Degrees_r3 F s.1 s.2 p.1 p.2) : ∀ (A acc : List (Int × Int)), InR n A → acc.length + A.length ≤ 1000000 →
    runFold yy A (deg n (sw acc), deg n acc) = some (.inl (deg n (sw (acc ++ A)), deg n (acc ++ A)))
  | [], acc, _, _ => by rw [List.append_nil]; rfl
  | p :: A, acc, h, hm => by
    rw [List.length_cons] at hm
    obtain ⟨h1, h2, h3, h4⟩ := h p (by simp)
    have hrec := degrees_fold hy A (acc ++ [p]) (fun q hq => h q (by simp [hq])) (by simp; omega)
    rw [List.append_assoc] at hrec
    show (yy _ p).bind _ = _
    rw [hy]
    unfold M_graph_Degrees_r3
    obtain ⟨a, ha⟩ := Int.eq_ofNat_of_zero_le h1
    obtain ⟨b, hb⟩ := Int.eq_ofNat_of_zero_le h3
    have e : p = ((a : Int), (b : Int)) := Prod.ext ha hb
    have hl1 := rowOf_len acc (a : Int)
    have hl2 := rowOf_len (sw acc) (b : Int)
    rw [sw_len] at hl2
    subst e
    simp only at *
    rw [idx_nat, deg_get (by omega)]
    simp only [Option.bind_some, lett]
    rw [idx_nat, deg_get (by omega)]
    simp only [Option.bind_some]
    rw [iadd1_n (by omega), iadd1_n (by omega), Int.toNat_natCast, Int.toNat_natCast, ← deg_snoc (b := (a : Int)), ← deg_snoc (b := (b : Int))]
    rw [sw_snoc] at hrec
    simp only [Sum.elim_inl]
    exact hrec
theorem lens_tab_nil (n : Nat) : deg n [] = List.replicate n 0 := by
  unfold deg lens
  rw [tab_nil, List.map_replicate]; rfl
def degM (g : List (List Int)) : List Int × List Int × Int := if gchk g ≠ 0 then ([], [], gchk g) else (lens g, lens (tn g), 0)
theorem degrees_eq {F : Nat} {g : List (List Int)} (hF : 1000 ≤ F) : M_graph_Degrees F g = some (degM g) := by
  unfold M_graph_Degrees degM
  rw [graphCheck_eq hF]
  simp only [Option.bind_some]
  by_cases h : gchk g = 0
  · have hg := gchk_ok.1 h
    have h1 := hg.1
    have h2 := gr_len hg
    rw [if_neg (by simp [h]), if_neg (by simp [h])]
    have hmk : mk 17592186044416 (0 : Int) (g.length : Int) = some (deg g.length []) := by
      unfold mk
      rw [if_pos ⟨by omega, by omega⟩, lens_tab_nil, Int.toNat_natCast]
    rw [hmk]
    simp only [Option.bind_some]
    unfold M_graph_Degrees_j1 M_graph_All
    simp only [Option.bind_some]
    rw [all_eq (by omega) (by omega) (fun l hl => by have := gr_row hg hl; omega)]
    have := degrees_fold (F := F) (n := g.length) (yy := fun x x_1 => M_graph_Degrees_r3 F x.1 x.2 x_1.1 x_1.2) (fun _ _ => rfl) (af 0 g) [] (gr_in hg) (by simp; omega)
    rw [List.nil_append] at this
    refine (congrArg (fun z => Option.bind z _) this).trans ?_
    simp only [Option.bind_some, Sum.elim_inl]
    rw [deg_isTab (af_isTab (gr_pw hg)) (gr_nodup hg), deg_isTab (tn_isTab hg) (sw_nodup (gr_nodup hg))]
  · rw [if_pos (by simpa using h), if_pos h]
theorem same_arcs_l {F : Nat} {xs : List (Int × Int)} (hm : xs.length ≤ 1000000) : ∀ (k i : Nat), xs.length < k + i → i ≤ xs.length → M_R_SameArcs_l3 F xs xs k (i : Int) = some true
  | 0, _, _, _ => by omega
  | k + 1, i, h, hi => by
    show M_R_SameArcs_b3 F xs xs (M_R_SameArcs_l3 F xs xs k) (i : Int) = _
    unfold M_R_SameArcs_b3
    by_cases hlt : i < xs.length
    · rw [if_pos (by simp; omega), idx_nat, List.getElem?_eq_getElem hlt]
      simp only [Option.bind_some]
      rw [if_neg (by simp), iadd1_n (by omega)]
      exact same_arcs_l hm k (i + 1) (by omega) (by omega)
    · rw [if_neg (by simp; omega)]
      rfl
theorem same_arcs {F : Nat} {xs : List (Int × Int)} (hF : xs.length < F) (hm : xs.length ≤ 1000000) : M_R_SameArcs F xs xs = some true := by
  unfold M_R_SameArcs
  rw [if_neg (by simp)]
  exact same_arcs_l hm F 0 (by omega) (by omega)
theorem same_lists_l {F : Nat} {xs : List (List Int)} (hm : xs.length ≤ 1000000) (hr : ∀ r ∈ xs, r.length ≤ 1000000 ∧ r.length < F) : ∀ (k i : Nat), xs.length < k + i → i ≤ xs.length → M_R_SameLists_l3 F xs xs k (i : Int) = some true
  | 0, _, _, _ => by omega
  | k + 1, i, h, hi => by
    show M_R_SameLists_b3 F xs xs (M_R_SameLists_l3 F xs xs k) (i : Int) = _
    unfold M_R_SameLists_b3
    by_cases hlt : i < xs.length
    · have := hr _ (List.getElem_mem hlt)
      rw [if_pos (by simp; omega), idx_nat, List.getElem?_eq_getElem hlt]
      simp only [Option.bind_some]
      rw [same_intsR this.2 this.1]
      simp only [Option.bind_some]
      rw [if_neg (by simp), iadd1_n (by omega)]
      exact same_lists_l hm hr k (i + 1) (by omega) (by omega)
    · rw [if_neg (by simp; omega)]
      rfl
theorem same_lists {F : Nat} {xs : List (List Int)} (hF : xs.length < F) (hm : xs.length ≤ 1000000) (hr : ∀ r ∈ xs, r.length ≤ 1000000 ∧ r.length < F) : M_R_SameLists F xs xs = some true := by
  unfold M_R_SameLists
  rw [if_neg (by simp)]
  exact same_lists_l hm hr F 0 (by omega) (by omega)
theorem gbg_eq {F : Nat} (hF : 2000 ≤ F) : M_L_graphBegun F = some true := by
  have s1 : srtA [(2, 0), (0, 1), (0, 0)] = [(0, 0), (0, 1), (2, 0)] := srtA_eq (by decide) (by decide)
  have o1 : ofM 3 [(2, 0), (0, 1), (0, 0)] = ([[0, 1], [], [0]], 0) := by
    rw [show (3 : Int) = ((3 : Nat) : Int) from rfl, ofM_tab (by decide) (by decide) (by unfold InR; decide) (by decide), s1]; rfl
  have c1 : gchk [[0, 1], [], [0]] = 0 := by decide
  have hg := gchk_ok.1 c1
  have a1 : af 0 [[0, 1], [], [0]] = [(0, 0), (0, 1), (2, 0)] := rfl
  have t1 : tn [[0, 1], [], [0]] = [[0, 2], [0], []] := by
    unfold tn
    rw [a1, show sw [(0, 0), (0, 1), (2, 0)] = [(0, 0), (1, 0), (0, 2)] from rfl, srtA_eq (m := [(0, 0), (0, 2), (1, 0)]) (by decide) (by decide)]; rfl
  have b0 : bd [[0, 1], [], [0]] = [(0, 0), (0, 1), (0, 2), (1, 0), (2, 0)] := by
    unfold bd bw
    rw [a1, show sw [(0, 0), (0, 1), (2, 0)] = [(0, 0), (1, 0), (0, 2)] from rfl, srtA_eq (m := [(0, 0), (0, 0), (0, 1), (0, 2), (1, 0), (2, 0)]) (by decide) (by decide)]; rfl
  have b1 : bothM [[0, 1], [], [0]] = ([[0, 1, 2], [0], [0]], 0) := by
    unfold bothM bt
    rw [b0]; rfl
  have d1 : degM [[0, 1], [], [0]] = ([2, 0, 1], [2, 1, 0], 0) := by
    unfold degM
    rw [c1, t1]; rfl
  have o2 : ofM 1 [(0, 0), (0, 0)] = ([], 6) := by decide
  unfold M_L_graphBegun
  rw [of_eq (by omega), o1]
  simp only [Option.bind_some]
  rw [arcs_eq (by omega), c1, if_neg (by decide), a1]
  simp only [Option.bind_some]
  rw [turn_eq (by omega), c1, if_neg (by decide), t1]
  simp only [Option.bind_some]
  rw [both_eq hF, c1, if_neg (by decide), b1]
  simp only [Option.bind_some]
  rw [degrees_eq (by omega), d1]
  simp only [Option.bind_some]
  rw [of_eq (by omega), o2]
  simp only [Option.bind_some]
  have sl : ∀ g : List (List Int), g.length ≤ 3 → (∀ r ∈ g, r.length ≤ 3) → M_R_SameLists F g g = some true := fun g h1 h2 => same_lists (by omega) (by omega) (fun r hr => by have := h2 r hr; omega)
  rw [sl _ (by decide) (by decide)]
  simp only [Option.bind_some]
  rw [if_pos (by decide), same_arcs (by simp; omega) (by decide)]
  simp only [Option.bind_some]
  unfold M_L_graphBegun_j1
  rw [if_pos (by decide), sl _ (by decide) (by decide)]
  simp only [Option.bind_some]
  unfold M_L_graphBegun_j2
  rw [if_pos (by decide), sl _ (by decide) (by decide)]
  simp only [Option.bind_some]
  unfold M_L_graphBegun_j3
  rw [if_pos (by decide), same_intsR (by simp; omega) (by decide)]
  simp only [Option.bind_some]
  unfold M_L_graphBegun_j4
  rw [if_pos (by decide), same_intsR (by simp; omega) (by decide)]
  simp only [Option.bind_some]
  unfold M_L_graphBegun_j5
  rw [if_pos (by decide), graphCheck_eq (by omega)]
  simp only [Option.bind_some]
  rfl
theorem cup_step {xs : List Int} (h : xs.Pairwise (· ≤ ·)) : ∀ m, m ≤ xs.length → (Go.Lib.compactUpTo xs.toArray m).Pairwise (· < ·) ∧ ∀ z, z ∈ Go.Lib.compactUpTo xs.toArray m ↔ z ∈ xs.take m
  | 0, _ => by simp [Go.Lib.compactUpTo]
  | m + 1, hm => by
    obtain ⟨a1, a2⟩ := cup_step h m (by omega)
    have hlt : m < xs.length := by omega
    have hg : xs.toArray[m]! = xs[m] := by rw [getElem!_pos xs.toArray m (by simpa using hlt)]; simp
    rw [Go.Lib.compactUpTo_succ, hg, take_snoc hlt]
    have hle : ∀ z ∈ xs.take m, z ≤ xs[m] := fun z hz => by
      obtain ⟨i, hi, rfl⟩ := List.mem_iff_getElem.1 hz
      rw [List.length_take] at hi
      rw [List.getElem_take]
      exact List.pairwise_iff_getElem.1 h i m (by omega) hlt (by omega)
    by_cases hk : Go.Lib.keeps xs.toArray m = true
    · rw [if_pos hk]
      refine ⟨List.pairwise_append.2 ⟨a1, by simp, fun a ha b hb => ?_⟩, fun z => by rw [List.mem_append, List.mem_append, a2]⟩
      rw [List.mem_singleton] at hb
      subst hb
      have ha' := (a2 a).1 ha
      have h1 := hle a ha'
      rcases Nat.eq_zero_or_pos m with h0 | h0
      · subst h0; simp at ha'
      · rw [keeps_get h0 hlt] at hk
        have hne : xs[m] ≠ xs[m - 1] := by simpa using hk
        obtain ⟨i, hi, rfl⟩ := List.mem_iff_getElem.1 ha'
        rw [List.length_take] at hi
        rw [List.getElem_take] at h1 ⊢
        have h2 : xs[i] ≤ xs[m - 1] := by
          by_cases hi2 : i = m - 1
          · subst hi2; exact Int.le_refl _
          · exact List.pairwise_iff_getElem.1 h i (m - 1) (by omega) (by omega) (by omega)
        have h3 : xs[m - 1] ≤ xs[m] := List.pairwise_iff_getElem.1 h (m - 1) m (by omega) hlt (by omega)
        omega
    · rw [if_neg hk, List.append_nil]
      refine ⟨a1, fun z => ?_⟩
      rw [a2, List.mem_append]
      rcases Nat.eq_zero_or_pos m with h0 | h0
      · subst h0; simp [Go.Lib.keeps] at hk
      · rw [keeps_get h0 hlt] at hk
        have he : xs[m] = xs[m - 1] := by simpa using hk
        constructor
        · exact .inl
        · rintro (h1 | h1)
          · exact h1
          · rw [List.mem_singleton] at h1
            rw [h1, he]
            have : m - 1 < (xs.take m).length := by rw [List.length_take]; omega
            have e : (xs.take m)[m - 1] = xs[m - 1] := List.getElem_take
            rw [← e]; exact List.getElem_mem this
theorem compact_pw {xs : List Int} (h : xs.Pairwise (· ≤ ·)) : (Go.Lib.compact xs).Pairwise (· < ·) ∧ ∀ z, z ∈ Go.Lib.compact xs ↔ z ∈ xs := by
  obtain ⟨a1, a2⟩ := cup_step h xs.length (Nat.le_refl _)
  refine ⟨a1, fun z => ?_⟩
  have := a2 z
  rwa [List.take_length] at this
def P (g : List (List Int)) (x : Nat) : Nat := (gD (spartL g) x).toNat
def isR (g : List (List Int)) (x : Nat) : Bool := decide (P g x = x)
def rps (g : List (List Int)) : List Nat := (List.range g.length).filter (isR g)
def ofN (g : List (List Int)) (x : Nat) : Nat := ((List.range (P g x)).filter (isR g)).length
theorem P_eq {g : List (List Int)} (hg : Gr g) {x : Nat} (hx : x < g.length) : gD (spartL g) x = (P g x : Int) := by
  have := (spartL_ok hg).le x hx
  unfold P; omega
theorem P_le {g : List (List Int)} (hg : Gr g) {x : Nat} (hx : x < g.length) : P g x ≤ x := by
  have := (spartL_ok hg).le x hx
  unfold P; omega
theorem P_sc {g : List (List Int)} (hg : Gr g) {x : Nat} (hx : x < g.length) : Sc g x (P g x) := (spartL_ok hg).sc x hx
theorem P_iff {g : List (List Int)} (hg : Gr g) {x y : Nat} (hx : x < g.length) (hy : y < g.length) : P g x = P g y ↔ Sc g x y := by
  rw [← (spartL_ok hg).iff hx hy, P_eq hg hx, P_eq hg hy]; omega
theorem P_P {g : List (List Int)} (hg : Gr g) {x : Nat} (hx : x < g.length) : P g (P g x) = P g x := by
  have h1 := P_le hg hx
  exact ((P_iff hg hx (by omega)).2 (P_sc hg hx)).symm
theorem P_R {g : List (List Int)} (hg : Gr g) {x : Nat} (hx : x < g.length) : isR g (P g x) = true := by
  unfold isR
  rw [decide_eq_true_eq]; exact P_P hg hx
theorem rps_at {q : Nat → Bool} {n r : Nat} (hr : r < n) (hq : q r = true) : ((List.range n).filter q)[((List.range r).filter q).length]? = some r := by
  have e : List.range n = List.range r ++ r :: (List.range (n - r - 1)).map (r + 1 + ·) := by
    have h1 := List.range_add (n := r) (m := n - r)
    rw [show r + (n - r) = n by omega] at h1
    have h2 := List.range_succ_eq_map (n := n - r - 1)
    rw [show n - r - 1 + 1 = n - r by omega] at h2
    rw [h1, h2, List.map_cons, List.map_map, Nat.add_zero]
    congr 2
    refine List.map_congr_left fun x _ => ?_
    show r + (x + 1) = r + 1 + x
    omega
  rw [e, List.filter_append, List.filter_cons, if_pos hq, List.getElem?_append_right (Nat.le_refl _), Nat.sub_self]
  rfl
theorem ofN_at {g : List (List Int)} (hg : Gr g) {x : Nat} (hx : x < g.length) : (rps g)[ofN g x]? = some (P g x) :=
  rps_at (by have := P_le hg hx; omega) (P_R hg hx)
theorem rps_pw (g : List (List Int)) : (rps g).Pairwise (· < ·) := List.pairwise_lt_range.filter _
theorem rps_len (g : List (List Int)) : (rps g).length ≤ g.length := by
  unfold rps
  have := List.length_filter_le (isR g) (List.range g.length)
  simpa using this
theorem ofN_lt {g : List (List Int)} (hg : Gr g) {x : Nat} (hx : x < g.length) : ofN g x < (rps g).length := (List.getElem?_eq_some_iff.1 (ofN_at hg hx)).1
theorem iz_pw {L : List Nat} (h : L.Pairwise (· < ·)) : (iz L).Pairwise (· < ·) := by
  unfold iz
  rw [List.pairwise_map]
  exact h.imp fun {a b} hab => by show (a : Int) < (b : Int); omega
theorem compact_rps {g : List (List Int)} (hg : Gr g) : Go.Lib.compact (srt (spartL g)) = iz (rps g) := by
  obtain ⟨h1, h2⟩ := compact_pw (srt_pw (spartL g))
  have hok := spartL_ok hg
  refine pwx h1 (iz_pw (rps_pw g)) fun z => ?_
  rw [h2, (srt_perm (spartL g)).mem_iff]
  unfold iz rps
  rw [List.mem_map]
  constructor
  · intro hz
    obtain ⟨t, ht, e⟩ := List.getElem_of_mem hz
    rw [hok.len] at ht
    have e2 : gD (spartL g) t = z := by
      have := gD_get (d := spartL g) (t := t) (by rw [hok.len]; exact ht)
      rw [List.getElem?_eq_getElem (by rw [hok.len]; exact ht)] at this
      rw [← Option.some.inj this, e]
    refine ⟨P g t, List.mem_filter.2 ⟨List.mem_range.2 (by have := P_le hg ht; omega), P_R hg ht⟩, ?_⟩
    rw [← P_eq hg ht, e2]
  · rintro ⟨r, hr, rfl⟩
    obtain ⟨a, b⟩ := List.mem_filter.1 hr
    have hrn := List.mem_range.1 a
    unfold isR at b
    rw [decide_eq_true_eq] at b
    have : gD (spartL g) r = (r : Int) := by rw [P_eq hg hrn, b]
    rw [← this]
    exact List.mem_of_getElem? (gD_get (by rw [hok.len]; exact hrn))
theorem mid_small {a b : Nat} (h : a + b ≤ 200) : iconv .i64 (ishr .u64 (iconv .u64 (iadd .i64 (a : Int) (b : Int))) 1) = (((a + b) / 2 : Nat) : Int) := by
  have key : ∀ n : Fin 201, iconv .i64 (ishr .u64 (iconv .u64 ((n.val : Nat) : Int)) 1) = ((n.val / 2 : Nat) : Int) := by decide +kernel
  rw [iadd_n (by omega)]
  exact key ⟨a + b, by omega⟩
theorem sless_eq {F : Nat} {x y : Int} : M_cmp_Less_int F x y = some (decide (x < y)) := by
  simp [M_cmp_Less_int, M_cmp_isNaN_int, M_cmp_Less_int_j1]
theorem sbs_j2 {F : Nat} {l : List Int} {v : Int} {c : Nat} (hc : l[c]? = some v) : M_slices_BinarySearch_int_int_j2 F l v (c : Int) = some ((c : Int), true) := by
  unfold M_slices_BinarySearch_int_int_j2
  have := (List.getElem?_eq_some_iff.1 hc).1
  rw [if_pos (by simpa using this), idx_nat, hc]
  simp only [Option.bind_some]
  rw [if_pos (by simp)]
  rfl
theorem sbs_l {F q : Nat} {l : List Int} {v : Int} (hlm : l.length ≤ 100) (hu : l.Pairwise (· < ·)) (hq : l[q]? = some v) : ∀ (k i j : Nat), j - i < k → i ≤ q → q ≤ j → j ≤ l.length → M_slices_BinarySearch_int_int_l10 F l v k ((i : Int), (j : Int)) = some ((q : Int), true)
  | 0, _, _, _, _, _, _ => by omega
  | k + 1, i, j, hk, hi, hqj, hj => by
    obtain ⟨hql, hqv⟩ := List.getElem?_eq_some_iff.1 hq
    have hpw := List.pairwise_iff_getElem.1 hu
    show M_slices_BinarySearch_int_int_b10 F l v (M_slices_BinarySearch_int_int_l10 F l v k) (i : Int) (j : Int) = _
    unfold M_slices_BinarySearch_int_int_b10
    by_cases hlt : i < j
    · have hmid : (i + j) / 2 < l.length := by omega
      rw [if_pos (by simpa using hlt), mid_small (by omega)]
      simp only [lett]
      rw [idx_nat, List.getElem?_eq_getElem hmid]
      simp only [Option.bind_some]
      rw [sless_eq]
      simp only [Option.bind_some]
      by_cases hv : l[(i + j) / 2] < v
      · rw [if_pos (by simpa using hv), iadd1_n (by omega)]
        refine sbs_l hlm hu hq k _ _ (by omega) ?_ hqj hj
        refine Classical.byContradiction fun hc => ?_
        by_cases e : q = (i + j) / 2
        · subst e; omega
        · have := hpw q ((i + j) / 2) hql hmid (by omega); omega
      · rw [if_neg (by simpa using hv)]
        refine sbs_l hlm hu hq k _ _ (by omega) hi ?_ (by omega)
        refine Classical.byContradiction fun hc => ?_
        have := hpw ((i + j) / 2) q hmid hql (by omega); omega
    · obtain rfl : i = q := by omega
      rw [if_neg (by simp; omega)]
      exact sbs_j2 hq
theorem sbs_eq {F q : Nat} {l : List Int} {v : Int} (hF : 1000 ≤ F) (hlm : l.length ≤ 100) (hu : l.Pairwise (· < ·)) (hq : l[q]? = some v) : M_slices_BinarySearch_int_int F l v = some ((q : Int), true) := by
  unfold M_slices_BinarySearch_int_int
  exact sbs_l hlm hu hq F 0 l.length (by omega) (by omega) (Nat.le_of_lt (List.getElem?_eq_some_iff.1 hq).1) (Nat.le_refl _)
theorem svals_l {F : Nat} {l : List Int} (hm : l.length ≤ 1000000) : ∀ (k i : Nat) (acc : List Int), l.length < k + i → i ≤ l.length → acc.length + (l.length - i) ≤ 1000000 →
    M_slices_Values_int_int_1_l1 (τ := Empty) F (fun (x38 : List Int) (x45 : Int) => M_slices_AppendSeq_int_int_slices_Values_int_int_1_r2 F x38 x45) l k ((i : Int), acc) = some (.inl (acc ++ l.drop i))
  | 0, _, _, _, _, _ => by omega
  | k + 1, i, acc, h, hi, ha => by
    show M_slices_Values_int_int_1_b1 (τ := Empty) F (fun (x38 : List Int) (x45 : Int) => M_slices_AppendSeq_int_int_slices_Values_int_int_1_r2 F x38 x45) l (M_slices_Values_int_int_1_l1 (τ := Empty) F (fun (x38 : List Int) (x45 : Int) => M_slices_AppendSeq_int_int_slices_Values_int_int_1_r2 F x38 x45) l k) (i : Int) acc = _
    unfold M_slices_Values_int_int_1_b1
    by_cases hlt : i < l.length
    · rw [if_pos (by simpa using hlt), idx_nat, List.getElem?_eq_getElem hlt]
      simp only [Option.bind_some]
      unfold M_slices_AppendSeq_int_int_slices_Values_int_int_1_r2
      rw [app_eq (by simp; omega)]
      simp only [Option.bind_some, Sum.elim_inl]
      rw [iadd1_n (by omega), List.drop_eq_getElem_cons hlt]
      have := svals_l (F := F) hm k (i + 1) (acc ++ [l[i]]) (by omega) (by omega) (by simp; omega)
      rw [List.append_assoc, List.singleton_append] at this
      exact this
    · rw [if_neg (by simpa using hlt), List.drop_eq_nil_of_le (by omega), List.append_nil]
theorem sorted_eqS {F : Nat} {l : List Int} (hF : l.length < F) (hm : l.length ≤ 1000) : M_slices_Sorted_int_slices_Values_int_int_1 F l = some (srt l) := by
  unfold M_slices_Sorted_int_slices_Values_int_int_1 M_slices_Collect_int_slices_Values_int_int_1 M_slices_AppendSeq_int_int_slices_Values_int_int_1 M_slices_Values_int_int_1
  have := svals_l (F := F) (l := l) (by omega) F 0 [] (by omega) (by omega) (by simp; omega)
  rw [show ((0 : Nat) : Int) = 0 from rfl, List.nil_append, List.drop_zero] at this
  rw [this]
  simp only [Option.bind_some, Sum.elim_inl]
  unfold M_slices_Sort_int_int
  rw [if_pos (by omega)]
  simp only [Option.bind_some]
  unfold chk
  rw [if_pos (by simp [srt_len])]
def sq (g : List (List Int)) (p : Int × Int) : Int × Int := ((ofN g p.1.toNat : Int), (ofN g p.2.toNat : Int))
def stepS (g : List (List Int)) (L : List (Int × Int)) (p : Int × Int) : List (Int × Int) := if sq g p ∈ L ∨ (sq g p).1 = (sq g p).2 then L else L ++ [sq g p]
def SL (g : List (List Int)) : List (Int × Int) := (af 0 g).foldl (stepS g) []
def shr (g : List (List Int)) : List (List Int) := tab (rps g).length (srtA (SL g))
theorem stepS_fold {g : List (List Int)} : ∀ (A L : List (Int × Int)), L.Nodup → (A.foldl (stepS g) L).Nodup ∧ (A.foldl (stepS g) L).length ≤ L.length + A.length ∧ ∀ q, q ∈ A.foldl (stepS g) L ↔ q ∈ L ∨ ∃ p ∈ A, sq g p = q ∧ q.1 ≠ q.2
  | [], L, h => ⟨h, by simp, fun q => by simp⟩
  | p :: A, L, h => by
    rw [List.foldl_cons]
    have hs : (stepS g L p).Nodup ∧ (stepS g L p).length ≤ L.length + 1 ∧ ∀ q, q ∈ stepS g L p ↔ q ∈ L ∨ (sq g p = q ∧ q.1 ≠ q.2) := by
      unfold stepS
      by_cases hc : sq g p ∈ L ∨ (sq g p).1 = (sq g p).2
      · rw [if_pos hc]
        refine ⟨h, by omega, fun q => ⟨.inl, fun hq => ?_⟩⟩
        rcases hq with hq | ⟨e, hne⟩
        · exact hq
        · rcases hc with hc | hc
          · rw [← e]; exact hc
          · rw [e] at hc; exact absurd hc hne
      · rw [if_neg hc]
        refine ⟨?_, by simp, fun q => ?_⟩
        · rw [List.nodup_append]
          refine ⟨h, by simp, fun a ha b hb e => ?_⟩
          simp only [List.mem_singleton] at hb
          rw [e, hb] at ha
          exact hc (.inl ha)
        · rw [List.mem_append, List.mem_singleton]
          constructor
          · rintro (h1 | h1)
            · exact .inl h1
            · exact .inr ⟨h1.symm, fun e => hc (.inr (by rw [← h1]; exact e))⟩
          · rintro (h1 | h1)
            · exact .inl h1
            · exact .inr h1.1.symm
    obtain ⟨a1, a2, a3⟩ := hs
    obtain ⟨b1, b2, b3⟩ := stepS_fold A (stepS g L p) a1
    refine ⟨b1, by simp only [List.length_cons]; omega, fun q => ?_⟩
    rw [b3, a3]
    constructor
    · rintro ((h1 | h1) | ⟨r, h1, h2⟩)
      · exact .inl h1
      · exact .inr ⟨p, by simp, h1⟩
      · exact .inr ⟨r, by simp [h1], h2⟩
    · rintro (h1 | ⟨r, h1, h2⟩)
      · exact .inl (.inl h1)
      · rcases List.mem_cons.1 h1 with e | h1
        · exact .inl (.inr (e ▸ h2))
        · exact .inr ⟨r, h1, h2⟩
theorem SL_nodup (g : List (List Int)) : (SL g).Nodup := (stepS_fold (g := g) (af 0 g) [] List.nodup_nil).1
theorem SL_mem {g : List (List Int)} {q : Int × Int} : q ∈ SL g ↔ ∃ p ∈ af 0 g, sq g p = q ∧ q.1 ≠ q.2 := by
  have := (stepS_fold (g := g) (af 0 g) [] List.nodup_nil).2.2 q
  unfold SL
  rw [this]
  simp
theorem SL_len {g : List (List Int)} (hg : Gr g) : (SL g).length ≤ 600 := by
  have := (stepS_fold (g := g) (af 0 g) [] List.nodup_nil).2.1
  have h2 := gr_len hg
  unfold SL
  simp at this
  omega
theorem SL_in {g : List (List Int)} (hg : Gr g) : InR (rps g).length (SL g) := fun q hq => by
  obtain ⟨p, hp, e, _⟩ := SL_mem.1 hq
  have hin := gr_in hg p hp
  have h1 := ofN_lt hg (x := p.1.toNat) (by omega)
  have h2 := ofN_lt hg (x := p.2.toNat) (by omega)
  rw [← e]
  show 0 ≤ (ofN g p.1.toNat : Int) ∧ (ofN g p.1.toNat : Int) < _ ∧ 0 ≤ (ofN g p.2.toNat : Int) ∧ (ofN g p.2.toNat : Int) < _
  omega
theorem shr_len (g : List (List Int)) : (shr g).length = (rps g).length := tab_len _ _
theorem shr_isTab (g : List (List Int)) : IsTab (rps g).length (SL g) (shr g) := srt_isTab (SL_nodup g)
theorem shr_fold {F : Nat} {g : List (List Int)} (hg : Gr g) : ∀ (A L : List (Int × Int)), (∀ p ∈ A, p ∈ af 0 g) → L.length + A.length ≤ 10000 →
    runFold (τ := Empty) (fun ((x230, x231) : (List (Int × Int) × List (Int × Int))) ((x262, x263) : (Int × Int)) => M_strong_Shrink_r4 F (tl g.length (ofN g)) x230 x231 x262 x263) A (L, L) = some (.inl (A.foldl (stepS g) L, A.foldl (stepS g) L))
  | [], _, _, _ => rfl
  | p :: A, L, hA, hm => by
    have hin := gr_in hg p (hA p (by simp))
    obtain ⟨u, hu⟩ := Int.eq_ofNat_of_zero_le hin.1
    obtain ⟨v, hv⟩ := Int.eq_ofNat_of_zero_le hin.2.2.1
    have hp : p = ((u : Int), (v : Int)) := Prod.ext hu hv
    have hq : sq g p = ((ofN g u : Int), (ofN g v : Int)) := by rw [hp]; rfl
    have hlen : (stepS g L p).length ≤ L.length + 1 := by
      unfold stepS; split <;> simp
    simp only [List.length_cons] at hm
    have hstep : M_strong_Shrink_r4 F (tl g.length (ofN g)) L L (u : Int) (v : Int) = some (.inl (stepS g L p, stepS g L p)) := by
      unfold M_strong_Shrink_r4
      rw [idx_nat, tl_get (by omega)]
      simp only [Option.bind_some]
      rw [idx_nat, tl_get (by omega)]
      simp only [Option.bind_some]
      unfold stepS
      rw [hq]
      by_cases hc : ((ofN g u : Int), (ofN g v : Int)) ∈ L ∨ (ofN g u : Int) = (ofN g v : Int)
      · rw [if_pos hc, if_neg (by
          rcases hc with hc | hc
          · simp [hc]
          · simp [hc])]
      · rw [if_neg hc, if_pos (by
          have h1 : ¬ ((ofN g u : Int), (ofN g v : Int)) ∈ L := fun h => hc (.inl h)
          have h2 : ¬ (ofN g u : Int) = (ofN g v : Int) := fun h => hc (.inr h)
          rw [decide_eq_false h1]
          simp
          exact fun h => h2 (by rw [h]))]
        have hs : sins L ((ofN g u : Int), (ofN g v : Int)) = some (L ++ [((ofN g u : Int), (ofN g v : Int))]) := by
          unfold sins
          rw [if_neg (fun h => hc (.inl h))]
        rw [hs]
        simp only [Option.bind_some]
        rw [app_eq (by simp; omega)]
        rfl
    have := shr_fold (F := F) hg A (stepS g L p) (fun q hq => hA q (by simp [hq])) (by omega)
    rw [List.foldl_cons, ← this, hp]
    show (M_strong_Shrink_r4 F (tl g.length (ofN g)) L L (u : Int) (v : Int)).bind _ = _
    rw [hstep, ← hp]
    rfl
theorem shr_of {F : Nat} {g : List (List Int)} {x9 : List Int} (hF : 4000 ≤ F) (hg : Gr g) (h9 : x9.length = g.length) : ∀ (k i : Nat), g.length < k + i → i ≤ g.length →
    M_strong_Shrink_l5 F g x9 (iz (rps g)) k (ti g.length (fun x => if x < i then (ofN g x : Int) else gD (spartL g) x), (i : Int)) = M_strong_Shrink_j2 F g (iz (rps g)) (tl g.length (ofN g))
  | 0, _, _, _ => by omega
  | k + 1, i, h, hi => by
    have h100 := hg.1
    show M_strong_Shrink_b5 F g x9 (iz (rps g)) (M_strong_Shrink_l5 F g x9 (iz (rps g)) k) (ti g.length (fun x => if x < i then (ofN g x : Int) else gD (spartL g) x)) (i : Int) = _
    unfold M_strong_Shrink_b5
    by_cases hlt : i < g.length
    · have hat : (iz (rps g))[ofN g i]? = some (P g i : Int) := by
        unfold iz
        rw [List.getElem?_map, ofN_at hg hlt]; rfl
      have hrl := rps_len g
      rw [if_pos (by simp [h9]; omega), idx_nat, ti_get hlt]
      simp only [Option.bind_some]
      rw [if_neg (Nat.lt_irrefl i), P_eq hg hlt, sbs_eq (by omega) (by rw [iz_len]; omega) (iz_pw (rps_pw g)) hat]
      simp only [Option.bind_some]
      unfold lett
      rw [Int.toNat_natCast, ti_set, iadd1_n (by omega)]
      have e : (ti g.length fun x => if x = i then (ofN g i : Int) else if x < i then (ofN g x : Int) else gD (spartL g) x) = ti g.length fun x => if x < i + 1 then (ofN g x : Int) else gD (spartL g) x := by
        refine ti_congr fun x _ => ?_
        by_cases e1 : x = i
        · rw [if_pos e1, if_pos (by omega), e1]
        · rw [if_neg e1]
          by_cases e2 : x < i
          · rw [if_pos e2, if_pos (by omega)]
          · rw [if_neg e2, if_neg (by omega)]
      show M_strong_Shrink_l5 F g x9 (iz (rps g)) k (ti g.length (fun x => if x = i then (ofN g i : Int) else if x < i then (ofN g x : Int) else gD (spartL g) x), ((i + 1 : Nat) : Int)) = _
      rw [e]
      exact shr_of hF hg h9 k (i + 1) (by omega) (by omega)
    · rw [if_neg (by simp [h9]; omega)]
      congr 1
      refine ti_congr fun x hx => ?_
      rw [if_pos (by omega)]
def shrM (g : List (List Int)) : List (List Int) × List Int × Int := if gchk g ≠ 0 then ([], [], gchk g) else (shr g, tl g.length (ofN g), 0)
theorem Shrink_eq {F : Nat} {g : List (List Int)} (hF : 4000 ≤ F) : M_strong_Shrink F g = some (shrM g) := by
  unfold M_strong_Shrink shrM
  rw [graphCheck_eq (by omega)]
  simp only [Option.bind_some]
  by_cases h : gchk g = 0
  · have hg := gchk_ok.1 h
    have h100 := hg.1
    have hok := spartL_ok hg
    have hl := hok.len
    have hrl := rps_len g
    rw [if_neg (by simp [h]), if_neg (by simp [h]), sparts_eq hF hg]
    simp only [Option.bind_some]
    unfold M_slices_Values_int_int
    simp only [Option.bind_some]
    rw [sorted_eqS (by omega) (by omega)]
    simp only [Option.bind_some]
    unfold M_slices_Compact_int_int
    rw [compact_rps hg, if_pos (by rw [iz_len, srt_len]; omega)]
    simp only [Option.bind_some]
    have h0 := shr_of (F := F) hF hg hl F 0 (by omega) (by omega)
    have e0 : (ti g.length fun x => if x < 0 then (ofN g x : Int) else gD (spartL g) x) = spartL g := by
      refine gD_ext (by rw [ti_len, hl]) fun t ht => ?_
      rw [ti_len] at ht
      rw [ti_gD ht, if_neg (by omega)]
    rw [e0, show ((0 : Nat) : Int) = 0 from rfl] at h0
    rw [h0]
    unfold M_strong_Shrink_j2 M_graph_All
    simp only [Option.bind_some]
    have hgl := gr_len hg
    rw [all_eq (by omega) (by omega) (fun l hl => by have := gr_row hg hl; omega), shr_fold hg (af 0 g) [] (fun p hp => hp) (by simp; omega)]
    simp only [Option.bind_some, Sum.elim_inl]
    have hof := ofM_tab (n := (rps g).length) (l := SL g) (by omega) (SL_len hg) (SL_in hg) (SL_nodup g)
    have hof2 : M_graph_Of F ((iz (rps g)).length : Int) ((af 0 g).foldl (stepS g) []) = some (shr g, 0) := by
      rw [iz_len, of_eq (by omega)]
      exact congrArg some hof
    rw [hof2]
    rfl
  · rw [if_pos (by simpa using h), if_pos h]
def ldB (g : List (List Int)) (k i : Nat) : Bool := decide (((k : Int), (i : Int)) ∈ af 0 g)
theorem ldB_iff {g : List (List Int)} {k i : Nat} : ldB g k i = true ↔ Ld g k i := by unfold ldB Ld; exact decide_eq_true_iff
def free (g : List (List Int)) (out : List Nat) (i : Nat) : Bool := decide (i ∉ out) && (List.range g.length).all fun k => decide (k ∈ out) || !ldB g k i
theorem free_iff {g : List (List Int)} {out : List Nat} {i : Nat} : free g out i = true ↔ i ∉ out ∧ ∀ k, k < g.length → Ld g k i → k ∈ out := by
  unfold free
  simp only [Bool.and_eq_true, decide_eq_true_eq, List.all_eq_true, List.mem_range, Bool.or_eq_true, Bool.not_eq_true']
  refine and_congr Iff.rfl ⟨fun h k hk hl => ?_, fun h k hk => ?_⟩
  · rcases h k hk with h1 | h1
    · exact h1
    · rw [ldB_iff.2 hl] at h1; simp at h1
  · by_cases hl : Ld g k i
    · exact .inl (h k hk hl)
    · refine .inr ?_
      rw [← Bool.not_eq_true, ldB_iff]; exact hl
def nxO (g : List (List Int)) (out : List Nat) : Option Nat := (List.range g.length).find? (free g out)
def ordM (g : List (List Int)) : Nat → List Nat → Option (List Nat)
  | 0, out => some out
  | m + 1, out => match nxO g out with
    | none => none
    | some i => ordM g m (out ++ [i])
def ordL (g : List (List Int)) : Option (List Nat) := ordM g g.length []
/-- What holds of the nodes that are put in order. -/
structure OI (g : List (List Int)) (out : List Nat) : Prop where
  nd : out.Nodup
  lt : ∀ i, i ∈ out → i < g.length
  pre : ∀ i, i ∈ out → ∀ k, Ld g k i → k ∈ out
theorem OI.len {g : List (List Int)} {out : List Nat} (h : OI g out) : out.length ≤ g.length := by
  have := nodup_le (M := List.range g.length) h.nd fun x hx => List.mem_range.2 (h.lt x hx)
  simpa using this
theorem nxO_some {g : List (List Int)} {out : List Nat} {i : Nat} (h : nxO g out = some i) : i < g.length ∧ free g out i = true ∧ ∀ j, j < i → free g out j = false := by
  unfold nxO at h
  refine ⟨List.mem_range.1 (List.mem_of_find?_eq_some h), List.find?_some h, fun j hj => ?_⟩
  rw [List.find?_range_eq_some] at h
  have := h.2.2 j hj
  simpa using this
theorem nxO_none {g : List (List Int)} {out : List Nat} (h : nxO g out = none) {i : Nat} (hi : i < g.length) : free g out i = false := by
  have := List.find?_eq_none.1 h i (List.mem_range.2 hi)
  simpa using this
theorem OI.snoc {g : List (List Int)} (hg : Gr g) {out : List Nat} {i : Nat} (h : OI g out) (hi : i < g.length) (hf : free g out i = true) : OI g (out ++ [i]) := by
  obtain ⟨h1, h2⟩ := free_iff.1 hf
  refine ⟨List.nodup_append.2 ⟨h.nd, by simp, fun a ha b hb e => ?_⟩, fun x hx => ?_, fun x hx k hk => ?_⟩
  · simp only [List.mem_singleton] at hb
    exact h1 (by rw [← hb, ← e]; exact ha)
  · rcases List.mem_append.1 hx with hx | hx
    · exact h.lt x hx
    · simp only [List.mem_singleton] at hx
      rw [hx]; exact hi
  · rw [List.mem_append]
    rcases List.mem_append.1 hx with hx | hx
    · exact .inl (h.pre x hx k hk)
    · simp only [List.mem_singleton] at hx
      rw [hx] at hk
      exact .inl (h2 k (ld_in hg hk).1 hk)
def cntP (g : List (List Int)) (out : List Nat) (i : Nat) : Nat := ((List.range g.length).filter fun k => decide (k ∉ out) && ldB g k i).length
theorem cntP_zero {g : List (List Int)} {out : List Nat} {i : Nat} (hi : i ∉ out) : cntP g out i = 0 ↔ free g out i = true := by
  rw [free_iff]
  unfold cntP
  rw [List.length_eq_zero_iff, List.filter_eq_nil_iff]
  simp only [List.mem_range, Bool.and_eq_true, decide_eq_true_eq, ldB_iff, not_and]
  constructor
  · intro h
    exact ⟨hi, fun k hk hl => Classical.byContradiction fun hc => h k hk hc hl⟩
  · rintro ⟨_, h⟩ k hk hn hl
    exact hn (h k hk hl)
theorem filter_one {p : Nat → Bool} {n0 : Nat} : ∀ (L : List Nat), L.Nodup → (L.filter p).length = (L.filter fun k => p k && decide (k ≠ n0)).length + if n0 ∈ L ∧ p n0 = true then 1 else 0
  | [], _ => by simp
  | a :: L, h => by
    obtain ⟨h1, h2⟩ := List.nodup_cons.1 h
    have ih := filter_one (p := p) (n0 := n0) L h2
    rw [List.filter_cons, List.filter_cons]
    by_cases ha : a = n0
    · subst ha
      rw [if_neg (show ¬ (a ∈ L ∧ p a = true) from fun hh => h1 hh.1)] at ih
      by_cases hp : p a = true
      · rw [if_pos hp, if_neg (by simp), if_pos ⟨by simp, hp⟩, List.length_cons, ih]
      · rw [if_neg hp, if_neg (by simp), if_neg (fun hh => hp hh.2), ih]
    · have hmem : (n0 ∈ a :: L ∧ p n0 = true) ↔ (n0 ∈ L ∧ p n0 = true) := by
        rw [List.mem_cons]
        constructor
        · rintro ⟨h3 | h3, h4⟩
          · exact absurd h3.symm ha
          · exact ⟨h3, h4⟩
        · rintro ⟨h3, h4⟩; exact ⟨.inr h3, h4⟩
      by_cases hp : p a = true
      · rw [if_pos hp, if_pos (by simp [hp, ha]), List.length_cons, List.length_cons, ih]
        by_cases hc : n0 ∈ L ∧ p n0 = true
        · rw [if_pos hc, if_pos (hmem.2 hc)]
        · rw [if_neg hc, if_neg (fun hh => hc (hmem.1 hh))]
      · rw [if_neg hp, if_neg (by simp [hp]), ih]
        by_cases hc : n0 ∈ L ∧ p n0 = true
        · rw [if_pos hc, if_pos (hmem.2 hc)]
        · rw [if_neg hc, if_neg (fun hh => hc (hmem.1 hh))]
theorem cntP_snoc {g : List (List Int)} {out : List Nat} {n0 i : Nat} (hn : n0 < g.length) (h0 : n0 ∉ out) : cntP g out i = cntP g (out ++ [n0]) i + if ldB g n0 i = true then 1 else 0 := by
  unfold cntP
  rw [filter_one (n0 := n0) _ List.nodup_range]
  congr 1
  · congr 1
    refine List.filter_congr fun k _ => ?_
    rw [Bool.eq_iff_iff]
    simp only [Bool.and_eq_true, decide_eq_true_eq, List.mem_append, List.mem_singleton, not_or]
    constructor
    · rintro ⟨⟨a, b⟩, c⟩; exact ⟨⟨a, c⟩, b⟩
    · rintro ⟨⟨a, c⟩, b⟩; exact ⟨⟨a, b⟩, c⟩
  · by_cases hl : ldB g n0 i = true
    · rw [if_pos hl, if_pos ⟨List.mem_range.2 hn, by simp [h0, hl]⟩]
    · rw [if_neg hl, if_neg]
      rintro ⟨_, hh⟩
      simp only [Bool.and_eq_true] at hh
      exact hl hh.2
/-- How many arcs are still ahead of a node. -/
def ahd (g : List (List Int)) (out : List Nat) (i : Nat) : Int := if i ∈ out then -1 else (cntP g out i : Int)
theorem ahead0 {g : List (List Int)} (hg : Gr g) : lens (tn g) = ti g.length (ahd g []) := by
  refine gD_ext (by rw [ti_len]; simp [lens, tn_len]) fun t ht => ?_
  have htn : t < g.length := by simp [lens, tn_len] at ht; exact ht
  have htl : t < (tn g).length := by rw [tn_len]; exact htn
  rw [ti_gD htn]
  have hr : (tn g)[t]? = some (tn g)[t] := List.getElem?_eq_getElem htl
  have e1 : gD (lens (tn g)) t = ((tn g)[t].length : Int) := by simp [gD, List.getD, lens, hr]
  have e2 : (tn g)[t] = iz ((List.range g.length).filter fun k => ldB g k t) := by
    refine pwx ((tn_gr hg).2.1 _ (List.getElem_mem htl)).1 (iz_pw (List.pairwise_lt_range.filter _)) fun z => ?_
    unfold iz
    rw [List.mem_map]
    constructor
    · intro hz
      have hz0 := ((tn_gr hg).2.1 _ (List.getElem_mem htl)).2 z hz
      obtain ⟨k, rfl⟩ := Int.eq_ofNat_of_zero_le hz0.1
      rw [tn_len] at hz0
      refine ⟨k, List.mem_filter.2 ⟨List.mem_range.2 (by omega), ?_⟩, rfl⟩
      rw [ldB_iff, ← ld_tn hg]
      exact ld_row.2 ⟨_, hr, hz⟩
    · rintro ⟨k, hk, rfl⟩
      have := (List.mem_filter.1 hk).2
      rw [ldB_iff, ← ld_tn hg] at this
      obtain ⟨r, hr2, hm⟩ := ld_row.1 this
      rw [hr] at hr2
      rw [Option.some.inj hr2]; exact hm
  rw [e1, e2, iz_len]
  unfold ahd cntP
  rw [if_neg (by simp)]
  simp
theorem ord_in {F n0 : Nat} {g : List (List Int)} {out : List Nat} {r : List Int} {o : List Int} {rec18 : (List Int × List Int) → Option (List Int × Int)} (hg : Gr g) (hr : g[n0]? = some r) (hno : ∀ i, i ∈ out ++ [n0] → ¬ Ld g n0 i) : ∀ (k j : Nat), r.length < k + j → j ≤ r.length →
    M_strong_Order_l21 F rec18 o (n0 : Int) r k (ti g.length (fun i => if i ∈ out ++ [n0] then -1 else (cntP g out i : Int) - if (i : Int) ∈ r.take j then 1 else 0), (j : Int)) = M_strong_Order_j20 F rec18 o (n0 : Int) (ti g.length fun i => if i ∈ out ++ [n0] then -1 else (cntP g out i : Int) - if (i : Int) ∈ r then 1 else 0)
  | 0, _, _, _ => by omega
  | k + 1, j, h, hj => by
    have h100 := hg.1
    have hrm := List.mem_of_getElem? hr
    have hrl := gr_row hg hrm
    have hrg := hg.2.1 r hrm
    show M_strong_Order_b21 F rec18 o (n0 : Int) r (M_strong_Order_l21 F rec18 o (n0 : Int) r k) (ti g.length (fun i => if i ∈ out ++ [n0] then -1 else (cntP g out i : Int) - if (i : Int) ∈ r.take j then 1 else 0)) (j : Int) = _
    unfold M_strong_Order_b21
    by_cases hlt : j < r.length
    · have hx := hrg.2 r[j] (List.getElem_mem hlt)
      obtain ⟨x, hx1⟩ := Int.eq_ofNat_of_zero_le hx.1
      have hxN : x < g.length := by omega
      have hld : Ld g n0 x := ld_row.2 ⟨r, hr, by rw [← hx1]; exact List.getElem_mem hlt⟩
      have hxo : x ∉ out ++ [n0] := fun hm => hno x hm hld
      have hnew : ¬ (x : Int) ∈ r.take j := by
        intro hm
        obtain ⟨q, hq, e⟩ := List.getElem_of_mem hm
        rw [List.length_take] at hq
        rw [List.getElem_take] at e
        have := List.pairwise_iff_getElem.1 hrg.1 q j (by omega) hlt (by omega)
        omega
      have hcb : cntP g out x ≤ g.length := by
        unfold cntP
        have := List.length_filter_le (fun k => decide (k ∉ out) && ldB g k x) (List.range g.length)
        simpa using this
      rw [if_pos (by simpa using hlt), idx_nat, List.getElem?_eq_getElem hlt, hx1]
      simp only [Option.bind_some]
      rw [idx_nat, ti_get hxN]
      simp only [Option.bind_some]
      unfold lett
      rw [if_neg hxo, if_neg hnew, Int.toNat_natCast, isub_i64 (by omega) (by omega), iadd1_n (by omega), ti_set]
      have e : (ti g.length fun i => if i = x then (cntP g out x : Int) - 0 - 1 else if i ∈ out ++ [n0] then -1 else (cntP g out i : Int) - if (i : Int) ∈ r.take j then 1 else 0) = ti g.length fun i => if i ∈ out ++ [n0] then -1 else (cntP g out i : Int) - if (i : Int) ∈ r.take (j + 1) then 1 else 0 := by
        refine ti_congr fun i _ => ?_
        have hm : ((i : Int) ∈ r.take (j + 1)) ↔ ((i : Int) ∈ r.take j ∨ i = x) := by
          rw [take_snoc hlt, List.mem_append, List.mem_singleton, hx1]
          constructor
          · rintro (h | h)
            · exact .inl h
            · exact .inr (by omega)
          · rintro (h | h)
            · exact .inl h
            · exact .inr (by omega)
        by_cases e1 : i = x
        · subst e1
          rw [if_pos rfl, if_neg hxo, if_pos (hm.2 (.inr rfl))]; omega
        · rw [if_neg e1]
          by_cases e2 : i ∈ out ++ [n0]
          · rw [if_pos e2, if_pos e2]
          · rw [if_neg e2, if_neg e2]
            by_cases e3 : (i : Int) ∈ r.take j
            · rw [if_pos e3, if_pos (hm.2 (.inl e3))]
            · rw [if_neg e3, if_neg (fun hh => (hm.1 hh).elim e3 e1)]
      show M_strong_Order_l21 F rec18 o (n0 : Int) r k (ti g.length (fun i => if i = x then (cntP g out x : Int) - 0 - 1 else if i ∈ out ++ [n0] then -1 else (cntP g out i : Int) - if (i : Int) ∈ r.take j then 1 else 0), ((j + 1 : Nat) : Int)) = _
      rw [e]
      exact ord_in hg hr hno k (j + 1) (by omega) (by omega)
    · rw [if_neg (by simpa using hlt), List.take_of_length_le (show r.length ≤ j by omega)]
theorem index_none {F : Nat} {l : List Int} {v : Int} (hm : l.length ≤ 1000000) (hno : ∀ j : Nat, l[j]? ≠ some v) : ∀ (k i : Nat), l.length < k + i → i ≤ l.length → M_slices_Index_int_int_l3 F l v k (i : Int) = some (-1)
  | 0, _, _, _ => by omega
  | k + 1, i, h, hi => by
    show M_slices_Index_int_int_b3 F l v (M_slices_Index_int_int_l3 F l v k) (i : Int) = _
    unfold M_slices_Index_int_int_b3
    by_cases hlt : i < l.length
    · have := hno i
      rw [List.getElem?_eq_getElem hlt] at this
      rw [if_pos (by simpa using hlt), idx_nat, List.getElem?_eq_getElem hlt]
      simp only [Option.bind_some]
      rw [if_neg (by simp; exact fun h => this (by rw [h])), iadd1_n (by omega)]
      exact index_none hm hno k (i + 1) (by omega) (by omega)
    · rw [if_neg (by simpa using hlt)]
      rfl
def ordR (x : Option (List Nat)) : List Int × Int := match x with | none => ([], 4) | some o => (iz o, 0)
theorem ord_out {F : Nat} {g : List (List Int)} (hF : 4000 ≤ F) (hg : Gr g) : ∀ (m k : Nat) (out : List Nat), m < k → out.length + m = g.length → OI g out → M_strong_Order_l18 F g k (ti g.length (ahd g out), iz out) = some (ordR (ordM g m out))
  | m, 0, _, h, _, _ => by omega
  | m, k + 1, out, h, hm, ho => by
    have h100 := hg.1
    show M_strong_Order_b18 F g (M_strong_Order_l18 F g k) (ti g.length (ahd g out)) (iz out) = _
    unfold M_strong_Order_b18
    rw [iz_len, ti_len]
    cases m with
    | zero =>
      rw [if_neg (by simp; omega)]
      rfl
    | succ m =>
      rw [if_pos (by simp; omega)]
      unfold M_slices_Index_int_int
      have hz : ∀ i, i < g.length → ((ti g.length (ahd g out))[i]? = some 0 ↔ free g out i = true) := by
        intro i hi
        rw [ti_get hi]
        unfold ahd
        by_cases hc : i ∈ out
        · rw [if_pos hc]
          constructor
          · intro h; simp at h
          · intro h; exact absurd hc (free_iff.1 h).1
        · rw [if_neg hc, ← cntP_zero hc]
          constructor
          · intro h; have := Option.some.inj h; omega
          · intro h; rw [h]; rfl
      cases hn : nxO g out with
      | none =>
        have := index_none (F := F) (l := ti g.length (ahd g out)) (v := 0) (by rw [ti_len]; omega) (fun j => by
          by_cases hj : j < g.length
          · intro he
            have := (hz j hj).1 he
            rw [nxO_none hn hj] at this
            simp at this
          · rw [List.getElem?_eq_none (by rw [ti_len]; omega)]; simp) F 0 (by rw [ti_len]; omega) (by omega)
        rw [show ((0 : Nat) : Int) = 0 from rfl] at this
        rw [this]
        simp only [Option.bind_some]
        rw [if_pos (by decide)]
        simp only [ordM, hn]
        rfl
      | some i =>
        obtain ⟨hi, hf, hl⟩ := nxO_some hn
        have := index_l (F := F) (l := ti g.length (ahd g out)) (v := 0) (p := i) (by rw [ti_len]; omega) ((hz i hi).2 hf) (fun j hj he => by
          have := (hz j (by omega)).1 he
          rw [hl j hj] at this
          simp at this) F 0 (by rw [ti_len]; omega) (by omega)
        rw [show ((0 : Nat) : Int) = 0 from rfl] at this
        rw [this]
        simp only [Option.bind_some]
        obtain ⟨f1, f2⟩ := free_iff.1 hf
        have hr : g[i]? = some g[i] := List.getElem?_eq_getElem hi
        have hrl := gr_row hg (List.getElem_mem hi)
        have hno : ∀ x, x ∈ out ++ [i] → ¬ Ld g i x := fun x hx hld => by
          rcases List.mem_append.1 hx with hx | hx
          · exact f1 (ho.pre x hx i hld)
          · simp only [List.mem_singleton] at hx
            rw [hx] at hld
            exact f1 (f2 i hi hld)
        rw [if_neg (by simp), idx_nat, ti_get hi]
        simp only [Option.bind_some]
        unfold lett
        rw [Int.toNat_natCast, idx_nat, hr]
        simp only [Option.bind_some]
        have hstart : (ti g.length (ahd g out)).set i (-1) = ti g.length fun x => if x ∈ out ++ [i] then -1 else (cntP g out x : Int) - if (x : Int) ∈ (g[i]).take 0 then 1 else 0 := by
          rw [ti_set]
          refine ti_congr fun x _ => ?_
          unfold ahd
          by_cases e1 : x = i
          · rw [if_pos e1, if_pos (by simp [e1])]
          · rw [if_neg e1]
            by_cases e2 : x ∈ out
            · rw [if_pos e2, if_pos (by simp [e2])]
            · rw [if_neg e2, if_neg (by simp [e1, e2])]
              simp
        have hin := ord_in (F := F) (out := out) (o := iz out) (rec18 := M_strong_Order_l18 F g k) hg hr hno F 0 (by omega) (by omega)
        rw [show ((0 : Nat) : Int) = 0 from rfl, ← hstart] at hin
        rw [hin]
        unfold M_strong_Order_j20
        rw [app_eq (by rw [iz_len]; simp; omega)]
        simp only [Option.bind_some]
        have hend : (ti g.length fun x => if x ∈ out ++ [i] then -1 else (cntP g out x : Int) - if (x : Int) ∈ g[i] then 1 else 0) = ti g.length (ahd g (out ++ [i])) := by
          refine ti_congr fun x _ => ?_
          unfold ahd
          by_cases e1 : x ∈ out ++ [i]
          · rw [if_pos e1, if_pos e1]
          · rw [if_neg e1, if_neg e1, cntP_snoc hi f1]
            have hm2 : ((x : Int) ∈ g[i]) ↔ Ld g i x := by
              constructor
              · intro h; exact ld_row.2 ⟨_, hr, h⟩
              · intro h
                obtain ⟨r, hr2, h2⟩ := ld_row.1 h
                rw [hr] at hr2
                rw [Option.some.inj hr2]; exact h2
            by_cases e2 : Ld g i x
            · rw [if_pos (ldB_iff.2 e2), if_pos (hm2.2 e2)]; omega
            · rw [if_neg (fun h => e2 (ldB_iff.1 h)), if_neg (fun h => e2 (hm2.1 h))]; omega
        have hz2 : iz out ++ [(i : Int)] = iz (out ++ [i]) := by simp [iz]
        rw [hend, hz2, ord_out hF hg m k (out ++ [i]) (by omega) (by simp; omega) (ho.snoc hg hi hf)]
        simp only [ordM, hn]
theorem Order_eq {F : Nat} {g : List (List Int)} (hF : 4000 ≤ F) : M_strong_Order F g = some (if gchk g ≠ 0 then ([], gchk g) else ordR (ordL g)) := by
  unfold M_strong_Order
  rw [degrees_eq (by omega)]
  simp only [Option.bind_some]
  unfold degM
  by_cases h : gchk g = 0
  · have hg := gchk_ok.1 h
    have h100 := hg.1
    have hn : ¬ gchk g ≠ 0 := by simp [h]
    rw [if_neg hn, if_neg hn, if_neg (by simp)]
    simp only
    rw [ahead0 hg]
    exact ord_out hF hg g.length F [] (by omega) (by simp) ⟨List.nodup_nil, fun i hi => by simp at hi, fun i hi => by simp at hi⟩
  · rw [if_pos h, if_pos h, if_pos (by simpa using h)]
def sg6 : List (List Int) := [[1, 2, 3, 5], [1, 2, 3, 5], [0, 1, 2, 3, 5], [], [4], [1, 2, 3]]
theorem sg6_gr : Gr sg6 := gchk_ok.1 (by decide)
def fchk (g : List (List Int)) (s : Nat) (d : List Int) : Bool :=
  decide (d.length = g.length) && (decide (gD d s = 0) && (d.all (fun x => decide (-1 ≤ x)) && ((af 0 g).all (fun p => decide (gD d p.1.toNat < 0) || (decide (0 ≤ gD d p.2.toNat) && decide (gD d p.2.toNat ≤ gD d p.1.toNat + 1))) &&
    (List.range g.length).all (fun t => decide (t = s) || (decide (gD d t < 0) || (af 0 g).any (fun p => decide (p.2 = (t : Int)) && (decide (gD d p.1.toNat + 1 = gD d t) && decide (0 ≤ gD d p.1.toNat))))))))
theorem fchk_ok {g : List (List Int)} {s : Nat} {d : List Int} (hg : Gr g) (h : fchk g s d = true) : FarOk g s d := by
  unfold fchk at h
  simp only [Bool.and_eq_true, decide_eq_true_eq, List.all_eq_true, Bool.or_eq_true, List.any_eq_true, List.mem_range] at h
  obtain ⟨h1, h2, h3, h4, h5⟩ := h
  refine ⟨h1, h2, fun t => ?_, fun u t hut h0 => ?_, fun t hts h0 => ?_⟩
  · by_cases ht : t < d.length
    · exact h3 _ (List.mem_of_getElem? (gD_get ht))
    · rw [gD_out (by omega)]; omega
  · have := h4 _ hut
    simp only [Int.toNat_natCast] at this
    rcases this with h | h
    · omega
    · exact h
  · have ht : t < g.length := by
      by_cases ht : t < d.length
      · omega
      · rw [gD_out (by omega)] at h0; omega
    rcases h5 t ht with h | h | ⟨p, hp, e1, e2, e3⟩
    · exact absurd h hts
    · omega
    · have hin := gr_in hg p hp
      refine ⟨p.1.toNat, ?_, e2, e3⟩
      unfold Ld
      rw [Int.toNat_of_nonneg hin.1, ← e1]; exact hp
def sg6_d : List (List Int) := [[0, 1, 1, 1, -1, 1], [2, 0, 1, 1, -1, 1], [1, 1, 0, 1, -1, 1], [-1, -1, -1, 0, -1, -1], [-1, -1, -1, -1, 0, -1], [2, 1, 1, 1, -1, 0]]
theorem sg6_far {i : Nat} (h : i < 6) : farL sg6 i = sg6_d.getD i [] := by
  have key : ∀ i : Fin 6, fchk sg6 i.val (sg6_d.getD i.val []) = true := by decide
  exact (farL_ok sg6_gr h).uni (fchk_ok sg6_gr (key ⟨i, h⟩))
theorem sg6_left {u : Nat} (h : u < 6) {t : Nat} (ht : t < 6) : gD (farL (tn sg6) t) u = gD (sg6_d.getD u []) t := by
  have hl : t < (tn sg6).length := by rw [tn_len]; exact ht
  rw [← sg6_far h]
  exact (far_back sg6_gr (farL_ok sg6_gr h) (farL_ok (tn_gr sg6_gr) hl)).symm
theorem sg6_left3 : farL (tn sg6) 3 = [1, 1, 1, 0, -1, 1] := by
  have hl : (3 : Nat) < (tn sg6).length := by rw [tn_len]; decide
  have hf := farL_ok (tn_gr sg6_gr) hl
  refine gD_ext (by rw [hf.len, tn_len]; rfl) fun t ht => ?_
  rw [hf.len, tn_len] at ht
  have ht : t < 6 := ht
  rw [sg6_left ht (by decide)]
  have key : ∀ t : Fin 6, gD (sg6_d.getD t.val []) 3 = gD [1, 1, 1, 0, -1, 1] t.val := by decide
  exact key ⟨t, ht⟩
theorem sg6_parts : partL sg6 = [0, 0, 0, 0, 4, 0] := by
  refine (partL_ok sg6_gr).uni ⟨rfl, fun t ht => ?_, fun u v huv => ?_, fun t ht => ?_⟩
  · have key : ∀ t : Fin 6, 0 ≤ gD [0, 0, 0, 0, 4, 0] t.val ∧ gD [0, 0, 0, 0, 4, 0] t.val ≤ (t.val : Int) := by decide
    exact key ⟨t, ht⟩
  · have key : ∀ p ∈ af 0 sg6, gD [0, 0, 0, 0, 4, 0] p.1.toNat = gD [0, 0, 0, 0, 4, 0] p.2.toNat := by decide
    have := key _ huv
    simpa using this
  · have key : ∀ t : Fin 6, (gD [0, 0, 0, 0, 4, 0] t.val).toNat = t.val ∨ (((gD [0, 0, 0, 0, 4, 0] t.val).toNat : Int), (t.val : Int)) ∈ af 0 sg6 := by decide
    rcases key ⟨t, ht⟩ with h | h
    · exact ⟨0, h⟩
    · exact ⟨1, uw_one (.inl h)⟩
theorem most_next {g : List (List Int)} {i : Nat} {m x : Int} {d : List Int} (h : i < g.length) (hd : farL g i = d) (hx : mx d m = x) : mostG g i m = mostG g (i + 1) x := by
  rw [mostG_step h, hd, hx]
theorem sg6_most : mostG sg6 0 0 = 2 :=
  (most_next (by decide) (sg6_far (i := 0) (by decide)) (by decide : mx (sg6_d.getD 0 []) 0 = 1)).trans <|
  (most_next (by decide) (sg6_far (i := 1) (by decide)) (by decide : mx (sg6_d.getD 1 []) 1 = 2)).trans <|
  (most_next (by decide) (sg6_far (i := 2) (by decide)) (by decide : mx (sg6_d.getD 2 []) 2 = 2)).trans <|
  (most_next (by decide) (sg6_far (i := 3) (by decide)) (by decide : mx (sg6_d.getD 3 []) 2 = 2)).trans <|
  (most_next (by decide) (sg6_far (i := 4) (by decide)) (by decide : mx (sg6_d.getD 4 []) 2 = 2)).trans <|
  (most_next (by decide) (sg6_far (i := 5) (by decide)) (by decide : mx (sg6_d.getD 5 []) 2 = 2)).trans mostG_end
theorem wbg_eq {F : Nat} (hF : 20000 ≤ F) : M_L_walkBegun F = some true := by
  have e1 : farM sg6 4 = ([-1, -1, -1, -1, 0, -1], 0) := by
    unfold farM
    rw [if_neg (by decide)]
    show (farL sg6 4, (0 : Int)) = _
    rw [sg6_far (by decide)]
    rfl
  have e2 : wayM sg6 2 3 = ([2, 3], 0) := by
    unfold wayM
    rw [if_neg (by decide)]
    show (if gD (farL (tn sg6) 3) 2 < 0 then _ else (iz (wy sg6 (farL (tn sg6) 3) (gD (farL (tn sg6) 3) 2).toNat 2), (0 : Int))) = _
    rw [sg6_left3]
    decide
  have e3 : partM sg6 = ([0, 0, 0, 0, 4, 0], 0) := by
    unfold partM
    rw [if_neg (by decide), sg6_parts]
  have e4 : mostM sg6 = (2, 0) := by
    unfold mostM
    rw [if_neg (by decide), sg6_most]
  have e5 : wayM sg6 3 0 = ([], 5) := by
    unfold wayM
    rw [if_neg (by decide)]
    have : gD (farL (tn sg6) (0 : Int).toNat) (3 : Int).toNat < 0 := by
      show gD (farL (tn sg6) 0) 3 < 0
      rw [sg6_left (by decide) (by decide)]
      decide
    rw [if_pos this]
  unfold M_L_walkBegun M_L_someGraph
  simp only [Option.bind_some]
  show ((M_walk_Far F sg6 4).bind fun x4 => ((M_walk_Way F sg6 2 3).bind fun x10 => ((M_walk_Parts F sg6).bind fun x16 => ((M_walk_Most F sg6).bind fun x22 => ((M_walk_Way F sg6 3 0).bind fun x26 => ((M_R_SameInts F x4.1 ([-1, -1, -1, -1, 0, -1] : List Int)).bind fun x31 => (if (x31 && ((x4.2 : Int) == 0)) then ((M_R_SameInts F x10.1 ([2, 3] : List Int)).bind fun x53 => M_L_walkBegun_j1 F x10 x16 x22 x26 x53) else M_L_walkBegun_j1 F x10 x16 x22 x26 false))))))) = _
  rw [Far_eq (by omega), e1, Way_eq (by omega), e2, Parts_eq (by omega), e3, Most_eq (by omega), e4, Way_eq (by omega), e5]
  simp only [Option.bind_some]
  rw [same_intsR (by simp; omega) (by decide)]
  simp only [Option.bind_some]
  rw [if_pos (by decide), same_intsR (by simp; omega) (by decide)]
  simp only [Option.bind_some]
  unfold M_L_walkBegun_j1
  rw [if_pos (by decide), same_intsR (by simp; omega) (by decide)]
  simp only [Option.bind_some]
  unfold M_L_walkBegun_j2
  decide
theorem sc_iff {g : List (List Int)} (hg : Gr g) {i j : Nat} (hi : i < g.length) (hj : j < g.length) : (0 ≤ gD (farL g i) j ∧ 0 ≤ gD (farL g j) i) ↔ Sc g i j := by
  have hfi := farL_ok hg hi
  have hfj := farL_ok hg hj
  constructor
  · rintro ⟨a, b⟩
    exact ⟨⟨_, hfi.way' a⟩, ⟨_, hfj.way' b⟩⟩
  · rintro ⟨⟨_, a⟩, ⟨_, b⟩⟩
    exact ⟨(hfi.le a).1, (hfj.le b).1⟩
def sg6_p : List Int := [0, 0, 0, 3, 4, 0]
theorem sg6_sc {i j : Nat} (hi : i < 6) (hj : j < 6) : Sc sg6 i j ↔ gD sg6_p i = gD sg6_p j := by
  rw [← sc_iff sg6_gr hi hj, sg6_far hi, sg6_far hj]
  have key : ∀ i j : Fin 6, (0 ≤ gD (sg6_d.getD i.val []) j.val ∧ 0 ≤ gD (sg6_d.getD j.val []) i.val) ↔ gD sg6_p i.val = gD sg6_p j.val := by decide
  exact key ⟨i, hi⟩ ⟨j, hj⟩
theorem sc_in {g : List (List Int)} (hg : Gr g) {x y : Nat} (hx : x < g.length) (h : Sc g x y) : y < g.length := by
  obtain ⟨k, hk⟩ := h.1
  exact wk_in hg hx hk
theorem sg6_sp : spartL sg6 = sg6_p := by
  have h1 : ∀ t : Fin 6, 0 ≤ gD sg6_p t.val ∧ gD sg6_p t.val ≤ (t.val : Int) ∧ (gD sg6_p t.val).toNat < 6 ∧ gD sg6_p t.val = gD sg6_p (gD sg6_p t.val).toNat := by decide
  have h2 : ∀ t u : Fin 6, gD sg6_p t.val = gD sg6_p u.val → gD sg6_p t.val ≤ (u.val : Int) := by decide
  refine (spartL_ok sg6_gr).uni ⟨rfl, fun t ht => ?_, fun t ht => ?_, fun t u ht htu => ?_⟩
  · have := h1 ⟨t, ht⟩; exact ⟨this.1, this.2.1⟩
  · have := h1 ⟨t, ht⟩
    exact (sg6_sc ht this.2.2.1).2 this.2.2.2
  · have hu : u < 6 := sc_in sg6_gr ht htu
    exact h2 ⟨t, ht⟩ ⟨u, hu⟩ ((sg6_sc ht hu).1 htu)
def sg6_o : List Nat := [0, 0, 0, 1, 2, 0]
theorem sg6_of {x : Nat} (h : x < 6) : ofN sg6 x = sg6_o.getD x 0 := by
  unfold ofN isR P
  rw [sg6_sp]
  have key : ∀ x : Fin 6, ((List.range (gD sg6_p x.val).toNat).filter fun x => decide ((gD sg6_p x).toNat = x)).length = sg6_o.getD x.val 0 := by decide
  exact key ⟨x, h⟩
theorem sg6_rps : (rps sg6).length = 3 := by
  unfold rps isR P
  rw [sg6_sp]
  decide
theorem sg6_shr : shr sg6 = [[1], [], []] := by
  have hT : IsTab 3 [((0 : Int), (1 : Int))] [[1], [], []] := by
    have := tab_isTab (n := 3) (l := [((0 : Int), (1 : Int))]) (by simp)
    have e : tab 3 [((0 : Int), (1 : Int))] = [[1], [], []] := by decide
    rw [e] at this; exact this
  have h1 := shr_isTab sg6
  rw [sg6_rps] at h1
  refine isTab_uniq h1 hT fun q => ?_
  have hsq : ∀ p ∈ af 0 sg6, sq sg6 p = ((sg6_o.getD p.1.toNat 0 : Int), (sg6_o.getD p.2.toNat 0 : Int)) := fun p hp => by
    have hin := gr_in sg6_gr p hp
    have hl : sg6.length = 6 := rfl
    unfold sq
    rw [sg6_of (by omega), sg6_of (by omega)]
  rw [SL_mem]
  constructor
  · rintro ⟨p, hp, e, hne⟩
    rw [hsq p hp] at e
    have key : ∀ p ∈ af 0 sg6, ((sg6_o.getD p.1.toNat 0 : Int), (sg6_o.getD p.2.toNat 0 : Int)) = (0, 1) ∨ (sg6_o.getD p.1.toNat 0 : Int) = (sg6_o.getD p.2.toNat 0 : Int) := by decide
    rcases key p hp with h | h
    · rw [← e, h]; simp
    · rw [← e] at hne; exact absurd h hne
  · intro hq
    simp only [List.mem_singleton] at hq
    subst hq
    have hp : ((0 : Int), (3 : Int)) ∈ af 0 sg6 := by decide
    exact ⟨_, hp, by rw [hsq _ hp]; decide, by decide⟩
theorem sbg_eq {F : Nat} (hF : 20000 ≤ F) : M_L_strongBegun F = some true := by
  have e1 : spartM sg6 = ([0, 0, 0, 3, 4, 0], 0) := by
    unfold spartM
    rw [if_neg (by decide), sg6_sp]; rfl
  have e2 : (if gchk ([([] : List Int), [0], [0, 1]]) ≠ 0 then (([] : List Int), gchk [([] : List Int), [0], [0, 1]]) else ordR (ordL [[], [0], [0, 1]])) = ([2, 1, 0], 0) := by
    rw [if_neg (by decide)]
    have : ordL [[], [0], [0, 1]] = some [2, 1, 0] := by decide
    rw [this]; rfl
  have e3 : shrM sg6 = ([[1], [], []], [0, 0, 0, 1, 2, 0], 0) := by
    unfold shrM
    rw [if_neg (by decide), sg6_shr]
    have : tl sg6.length (ofN sg6) = [0, 0, 0, 1, 2, 0] := by
      refine gD_ext (by rw [show (tl sg6.length (ofN sg6)).length = sg6.length from ti_len _ _]; rfl) fun t ht => ?_
      rw [show (tl sg6.length (ofN sg6)).length = 6 from ti_len _ _] at ht
      have hg : gD (tl sg6.length (ofN sg6)) t = (ofN sg6 t : Int) := ti_gD ht
      rw [hg, sg6_of ht]
      have key : ∀ t : Fin 6, ((sg6_o.getD t.val 0 : Nat) : Int) = gD [0, 0, 0, 1, 2, 0] t.val := by decide
      exact key ⟨t, ht⟩
    rw [this]
  have e4 : (if gchk sg6 ≠ 0 then (([] : List Int), gchk sg6) else ordR (ordL sg6)) = ([], 4) := by
    rw [if_neg (by decide)]
    have : ordL sg6 = none := by
      have h : nxO sg6 [] = none := by decide
      show ordM sg6 6 [] = none
      simp only [ordM, h]
    rw [this]; rfl
  have hs : ∀ xs : List Int, xs.length ≤ 10 → M_R_SameInts F xs xs = some true := fun xs hx => same_intsR (by omega) (by omega)
  unfold M_L_strongBegun M_L_someGraph
  simp only [Option.bind_some]
  show ((M_strong_Parts F sg6).bind fun x4 => ((M_strong_Order F ([([] : List Int), ([0] : List Int), ([0, 1] : List Int)] : List (List Int))).bind fun x13 => ((M_strong_Shrink F sg6).bind fun x19 => ((M_strong_Order F sg6).bind fun x28 => ((M_R_SameInts F x4.1 ([0, 0, 0, 3, 4, 0] : List Int)).bind fun x33 => (if (x33 && ((x4.2 : Int) == 0)) then ((M_R_SameInts F x13.1 ([2, 1, 0] : List Int)).bind fun x65 => M_L_strongBegun_j1 F x13 x19 x28 x65) else M_L_strongBegun_j1 F x13 x19 x28 false)))))) = _
  rw [sParts_eq (by omega), e1, Order_eq (by omega), e2, Shrink_eq (by omega), e3, Order_eq (by omega), e4]
  simp only [Option.bind_some]
  rw [hs _ (by decide)]
  simp only [Option.bind_some]
  rw [if_pos (by decide), hs _ (by decide)]
  simp only [Option.bind_some]
  unfold M_L_strongBegun_j1
  rw [if_pos (by decide), same_lists (by simp; omega) (by decide) (fun r hr => by
    have : r.length ≤ 1 := by
      have key : ∀ r ∈ ([[1], [], []] : List (List Int)), r.length ≤ 1 := by decide
      exact key r hr
    omega)]
  simp only [Option.bind_some]
  unfold M_L_strongBegun_j2
  rw [if_pos rfl, hs _ (by decide)]
  simp only [Option.bind_some]
  unfold M_L_strongBegun_j3
  decide
def Acy (g : List (List Int)) : Prop := ∀ i, i < g.length → P g i = i ∧ ¬ Ld g i i
theorem Acy.sc {g : List (List Int)} (hg : Gr g) (h : Acy g) {x y : Nat} (hx : x < g.length) (hs : Sc g x y) : x = y := by
  have hy := sc_in hg hx hs
  have := (P_iff hg hx hy).2 hs
  rw [(h x hx).1, (h y hy).1] at this
  exact this
/-- An order of the nodes in which each arc leads on. -/
structure Tp (g : List (List Int)) (o : List Int) : Prop where
  len : o.length = g.length
  nd : o.Nodup
  rg : ∀ x ∈ o, 0 ≤ x ∧ x < g.length
  up : ∀ i j a b : Nat, Ld g i j → o[a]? = some (i : Int) → o[b]? = some (j : Int) → a < b
theorem nodup_full {L : List Nat} {n : Nat} (h : L.Nodup) (hl : L.length = n) (hlt : ∀ x ∈ L, x < n) : ∀ x, x < n → x ∈ L := fun x hx => Classical.byContradiction fun hc => by
  have := nodup_le (L := x :: L) (M := List.range n) (List.nodup_cons.2 ⟨hc, h⟩) fun y hy => by
    rw [List.mem_cons] at hy
    rcases hy with rfl | hy
    · exact List.mem_range.2 hx
    · exact List.mem_range.2 (hlt y hy)
  simp at this; omega
theorem Tp.nat {g : List (List Int)} {o : List Int} (h : Tp g o) : ∃ q : List Nat, o = iz q ∧ q.Nodup ∧ q.length = g.length ∧ ∀ x ∈ q, x < g.length := by
  refine ⟨o.map Int.toNat, ?_, ?_, by simp [h.len], fun x hx => ?_⟩
  · unfold iz
    rw [List.map_map]
    conv => lhs; rw [← List.map_id o]
    refine List.map_congr_left fun x hx => ?_
    have := h.rg x hx
    show x = ((x.toNat : Nat) : Int)
    omega
  · refine List.pairwise_map.2 (List.Pairwise.imp_of_mem (fun hx hy hne e => ?_) h.nd)
    have := h.rg _ hx; have := h.rg _ hy
    omega
  · obtain ⟨y, hy, rfl⟩ := List.mem_map.1 hx
    have := h.rg y hy
    omega
theorem nd_inj {α : Type} {L : List α} (h : L.Nodup) {i j : Nat} {x : α} (hi : L[i]? = some x) (hj : L[j]? = some x) : i = j := by
  obtain ⟨a, ea⟩ := List.getElem?_eq_some_iff.1 hi
  obtain ⟨b, eb⟩ := List.getElem?_eq_some_iff.1 hj
  rcases Nat.lt_trichotomy i j with c | c | c
  · exact absurd (ea.trans eb.symm) (List.pairwise_iff_getElem.1 h i j a b c)
  · exact c
  · exact absurd (eb.trans ea.symm) (List.pairwise_iff_getElem.1 h j i b a c)
theorem iz_some {q : List Nat} {a i : Nat} : (iz q)[a]? = some (i : Int) ↔ q[a]? = some i := by
  unfold iz
  rw [List.getElem?_map, Option.map_eq_some_iff]
  constructor
  · rintro ⟨x, h1, h2⟩
    rw [h1]; congr 1; exact Int.ofNat.inj h2
  · intro h
    exact ⟨i, h, rfl⟩
theorem Tp.pos {g : List (List Int)} {o : List Int} (h : Tp g o) {i : Nat} (hi : i < g.length) : ∃ a, o[a]? = some (i : Int) ∧ a < g.length := by
  obtain ⟨q, rfl, h1, h2, h3⟩ := h.nat
  obtain ⟨a, ha, e⟩ := List.getElem_of_mem (nodup_full h1 h2 h3 i hi)
  exact ⟨a, iz_some.2 (by rw [List.getElem?_eq_getElem ha, e]), by omega⟩
theorem Tp.wk {g : List (List Int)} (hg : Gr g) {o : List Int} (h : Tp g o) : ∀ {k i j a b : Nat}, Wk g k i j → o[a]? = some (i : Int) → o[b]? = some (j : Int) → a + k ≤ b
  | 0, i, j, a, b, hw, ha, hb => by
    obtain rfl : i = j := hw
    have := nd_inj h.nd ha hb
    omega
  | k + 1, i, j, a, b, hw, ha, hb => by
    obtain ⟨u, h1, h2⟩ := hw
    obtain ⟨c, hc, _⟩ := h.pos (ld_in hg h1).2
    have := h.up i u a c h1 ha hc
    have := Tp.wk hg h h2 hc hb
    omega
theorem ofE_app {n : Int} : ∀ {A B seen : List (Int × Int)}, ofE n seen A = 0 → ofE n seen (A ++ B) = ofE n (seen ++ A) B
  | [], B, seen, _ => by simp
  | p :: A, B, seen, h => by
    rw [ofE_cons] at h
    rw [List.cons_append, ofE_cons]
    by_cases h1 : p.1 < 0 ∨ n ≤ p.1 ∨ p.2 < 0 ∨ n ≤ p.2
    · rw [if_pos h1] at h; exact absurd h (by decide)
    · rw [if_neg h1] at h ⊢
      by_cases h2 : p ∈ seen
      · rw [if_pos h2] at h; exact absurd h (by decide)
      · rw [if_neg h2] at h ⊢
        rw [ofE_app h, List.append_assoc]; rfl
theorem of_more {g : List (List Int)} {a b : Nat} (hg : Gr g) (ha : a < g.length) (hb : b < g.length) :
    ofM (g.length : Int) (af 0 g ++ [((a : Int), (b : Int))]) = ([], 2) ∨ ofM (g.length : Int) (af 0 g ++ [((a : Int), (b : Int))]) = ([], 6) ∨
    ∃ G, ofM (g.length : Int) (af 0 g ++ [((a : Int), (b : Int))]) = (G, 0) ∧ Gr G ∧ G.length = g.length ∧ (af 0 G).Perm (af 0 g ++ [((a : Int), (b : Int))]) := by
  have h1 := hg.1
  have hl := gr_len hg
  have h0 : ofE g.length [] (af 0 g) = 0 := ofE_ok.2 ⟨gr_in hg, gr_nodup hg, fun p _ => by simp⟩
  by_cases h2 : 600 < (af 0 g ++ [((a : Int), (b : Int))]).length
  · left
    unfold ofM
    rw [if_neg (by omega), if_pos h2]
  · right
    have h3 := ofE_app (B := [((a : Int), (b : Int))]) h0
    rw [List.nil_append, ofE_cons, if_neg (by simp; omega)] at h3
    by_cases c2 : ((a : Int), (b : Int)) ∈ af 0 g
    · left
      rw [if_pos c2] at h3
      unfold ofM
      rw [if_neg (by omega), if_neg h2, h3, if_pos (by decide)]
    · right
      rw [if_neg c2] at h3
      have h3 : ofE g.length [] (af 0 g ++ [((a : Int), (b : Int))]) = 0 := h3
      obtain ⟨a1, a2, _⟩ := ofE_ok.1 h3
      have hT : IsTab g.length (af 0 g ++ [((a : Int), (b : Int))]) (tab g.length (srtA (af 0 g ++ [((a : Int), (b : Int))]))) := srt_isTab a2
      have hp := isTab_perm hT a1 a2
      have hgr : Gr (tab g.length (srtA (af 0 g ++ [((a : Int), (b : Int))]))) := isTab_gr hT a1 h1 (by rw [hp.length_eq]; omega)
      exact ⟨_, ofM_tab h1 (by omega) a1 a2, hgr, tab_len _ _, hp⟩
theorem wy_from {g : List (List Int)} {left : List Int} {t k u : Nat} (hg : Gr g) (h : FarOk (tn g) t left) (hu : gD left u = (k : Int)) : ∀ i, i ≤ k → Rch g u ((wy g left k u).getD i 0)
  | 0, _ => by rw [wy_0]; exact rch_refl g u
  | i + 1, hi => rch_trans (wy_from hg h hu i (by omega)) (rch_one (wy_ld hg h k u i hu (by omega)))
theorem wy_to {g : List (List Int)} {left : List Int} {t k u : Nat} (hg : Gr g) (h : FarOk (tn g) t left) (hu : gD left u = (k : Int)) : ∀ d, d ≤ k → Rch g ((wy g left k u).getD (k - d) 0) t
  | 0, _ => by rw [Nat.sub_zero, wy_last hg h hu]; exact rch_refl g t
  | d + 1, hd => by
    refine rch_trans (rch_one ?_) (wy_to hg h hu d (by omega))
    have := wy_ld hg h k u (k - (d + 1)) hu (by omega)
    rw [show k - (d + 1) + 1 = k - d by omega] at this
    exact this
theorem rch_sub {g h : List (List Int)} (hs : ∀ u v, Ld g u v → Ld h u v) {x y : Nat} (hr : Rch g x y) : Rch h x y := hr.elim fun k hk => ⟨k, wk_sub hs hk⟩
theorem rps_mono {g G : List (List Int)} (hg : Gr g) (hG : Gr G) (hl : G.length = g.length) (hs : ∀ u v, Ld g u v → Ld G u v) : (rps G).length ≤ (rps g).length := by
  refine nodup_le (List.nodup_range.filter _) fun x hx => ?_
  obtain ⟨h1, h2⟩ := List.mem_filter.1 hx
  have hx' := List.mem_range.1 h1
  have hxg : x < g.length := by omega
  unfold isR at h2
  rw [decide_eq_true_eq] at h2
  refine List.mem_filter.2 ⟨List.mem_range.2 hxg, ?_⟩
  unfold isR
  rw [decide_eq_true_eq]
  have hs1 := P_sc hg hxg
  have hle := P_le hg hxg
  have := (spartL_ok hG).least x (P g x) hx' ⟨rch_sub hs hs1.1, rch_sub hs hs1.2⟩
  rw [P_eq hG hx', h2] at this
  omega
theorem smo_way {F a b : Nat} {w : List Nat} {p : List Int} {e : Int} (hm : w.length ≤ 1000) (ha : a < p.length) (hw : ∀ x, x ∈ w → x < p.length ∧ gD p x = gD p a) : ∀ (k i : Nat), w.length < k + i → i ≤ w.length → M_L_StrongMore_l10 F (a : Int) (iz w, 0) (p, e) k (i : Int) = some true
  | 0, _, _, _ => by omega
  | k + 1, i, h, hi => by
    show M_L_StrongMore_b10 F (a : Int) (iz w, 0) (p, e) (M_L_StrongMore_l10 F (a : Int) (iz w, 0) (p, e) k) (i : Int) = _
    unfold M_L_StrongMore_b10
    by_cases hlt : i < w.length
    · have hx := List.getElem?_eq_getElem hlt
      obtain ⟨h1, h2⟩ := hw _ (List.getElem_mem hlt)
      rw [if_pos (by simp [iz_len]; omega)]
      simp only
      rw [idx_nat, iz_some.2 hx]
      simp only [Option.bind_some]
      rw [idx_nat, gD_get h1]
      simp only [Option.bind_some]
      rw [idx_nat, gD_get ha]
      simp only [Option.bind_some]
      rw [if_neg (by simp [h2]), iadd1_n (by omega)]
      exact smo_way (b := b) hm ha hw k (i + 1) (by omega) (by omega)
    · rw [if_neg (by simp [iz_len]; omega)]
      rfl
theorem smo_err {F a : Nat} {p : List Int} {d e : Int} (hF : 0 < F) (hd : d ≠ 0) {w : List Int} : M_L_StrongMore_l10 F (a : Int) (w, d) (p, e) F 0 = some true := by
  obtain ⟨k, rfl⟩ : ∃ k, F = k + 1 := ⟨F - 1, by omega⟩
  show M_L_StrongMore_b10 (k + 1) (a : Int) (w, d) (p, e) _ 0 = _
  unfold M_L_StrongMore_b10
  rw [if_neg (by simp [hd])]
  rfl
theorem smo_l {F : Nat} {u : Int} {q p : List Int} {x41 : List Int × Int} {c e : Int} (hm : q.length ≤ 1000) (hpq : p.length = q.length) (hq : ∀ i, i < q.length → 0 ≤ gD q i ∧ gD q i ≤ i ∧ gD p i = gD p (gD q i).toNat) (hend : M_L_StrongMore_l10 F u x41 (p, e) F 0 = some true) : ∀ (k i : Nat), q.length < k + i → i ≤ q.length → M_L_StrongMore_l11 F u (q, c) x41 (p, e) k (i : Int) = some true
  | 0, _, _, _ => by omega
  | k + 1, i, h, hi => by
    show M_L_StrongMore_b11 F u (q, c) x41 (p, e) (M_L_StrongMore_l11 F u (q, c) x41 (p, e) k) (i : Int) = _
    unfold M_L_StrongMore_b11
    by_cases hlt : i < q.length
    · obtain ⟨h0, h1, h2⟩ := hq i hlt
      rw [if_pos (by simpa using hlt)]
      simp only
      rw [idx_nat, gD_get (by omega)]
      simp only [Option.bind_some]
      rw [idx_nat, gD_get hlt]
      simp only [Option.bind_some]
      obtain ⟨m, hmm⟩ := Int.eq_ofNat_of_zero_le h0
      rw [hmm, Int.toNat_natCast] at h2
      rw [hmm, idx_nat, gD_get (by omega)]
      simp only [Option.bind_some]
      rw [if_neg (by simp [h2]), iadd1_n (by omega)]
      exact smo_l hm hpq hq hend k (i + 1) (by omega) (by omega)
    · rw [if_neg (by simpa using hlt)]
      exact hend
theorem strongMore_true {F : Nat} {g : List (List Int)} {u v : Int} (hF : 20000 ≤ F) : M_L_StrongMore F g u v = some true := by
  unfold M_L_StrongMore
  rw [sParts_eq (by omega), Shrink_eq (by omega), arcs_eq (by omega), sbg_eq hF]
  simp only [Option.bind_some]
  rw [if_neg (by decide), gbg_eq (by omega)]
  simp only [Option.bind_some]
  unfold M_L_StrongMore_j3
  rw [if_neg (by decide), wbg_eq hF]
  simp only [Option.bind_some]
  unfold M_L_StrongMore_j4
  rw [if_neg (by decide)]
  by_cases h : gchk g = 0
  · have hg := gchk_ok.1 h
    have h100 := hg.1
    have hl := gr_len hg
    have hn : ¬ gchk g ≠ 0 := by simp [h]
    have e1 : spartM g = (spartL g, 0) := by unfold spartM; rw [if_neg hn]
    have e2 : shrM g = (shr g, tl g.length (ofN g), 0) := by unfold shrM; rw [if_neg hn]
    rw [e1, e2, if_neg hn, if_neg (by simp), Way_eq (by omega)]
    simp only [Option.bind_some]
    rw [app_eq (by simp; omega)]
    simp only [Option.bind_some, List.nil_append]
    rw [app_eq (by simp; omega)]
    simp only [Option.bind_some]
    rw [of_eq (by omega)]
    simp only [Option.bind_some]
    unfold M_L_StrongMore_j5
    by_cases hin : 0 ≤ u ∧ u < g.length ∧ 0 ≤ v ∧ v < g.length
    · obtain ⟨a, rfl⟩ := Int.eq_ofNat_of_zero_le hin.1
      obtain ⟨b, rfl⟩ := Int.eq_ofNat_of_zero_le hin.2.2.1
      have ha : a < g.length := by omega
      have hb : b < g.length := by omega
      rcases of_more hg hb ha with e | e | ⟨G, e, hG, hGl, hp⟩
      · rw [e, if_pos (by simp)]
      · rw [e, if_pos (by simp)]
      · have hsub : ∀ u v, Ld g u v → Ld G u v := fun u v h => by
          unfold Ld
          rw [hp.mem_iff]
          exact List.mem_append.2 (.inl h)
        have hnew : Ld G b a := by
          unfold Ld
          rw [hp.mem_iff]
          exact List.mem_append.2 (.inr (by simp))
        have f1 : spartM G = (spartL G, 0) := by unfold spartM; rw [if_neg (by simp [gchk_ok.2 hG])]
        have f2 : shrM G = (shr G, tl G.length (ofN G), 0) := by unfold shrM; rw [if_neg (by simp [gchk_ok.2 hG])]
        have hlen : ¬ (rps g).length < (rps G).length := by have := rps_mono hg hG hGl hsub; omega
        have hok := spartL_ok hg
        have hokG := spartL_ok hG
        rw [e, if_neg (by simp), sParts_eq (by omega), Shrink_eq (by omega), f1, f2]
        simp only [Option.bind_some]
        rw [if_neg (by simp [shr_len]; omega)]
        refine smo_l (by rw [hok.len]; omega) (by rw [hokG.len, hok.len, hGl]) (fun i hi => ?_) ?_ F 0 (by rw [hok.len]; omega) (by omega)
        · rw [hok.len] at hi
          have h1 := hok.le i hi
          have h2 := hok.sc i hi
          exact ⟨h1.1, h1.2, (hokG.iff (by omega) (by omega)).2 ⟨rch_sub hsub h2.1, rch_sub hsub h2.2⟩⟩
        · have hbt : b < (tn g).length := by rw [tn_len]; exact hb
          have hleft := farL_ok (tn_gr hg) hbt
          have ew : wayM g (a : Int) (b : Int) = if gD (farL (tn g) b) a < 0 then ([], 5) else (iz (wy g (farL (tn g) b) (gD (farL (tn g) b) a).toNat a), 0) := by
            unfold wayM; rw [if_neg (by simp [wchk_in2 hg ha hb])]; simp only [Int.toNat_natCast]
          rw [ew]
          by_cases hneg : gD (farL (tn g) b) a < 0
          · rw [if_pos hneg]
            exact smo_err (by omega) (by decide)
          · rw [if_neg hneg]
            obtain ⟨k, hk⟩ := Int.eq_ofNat_of_zero_le (show 0 ≤ gD (farL (tn g) b) a by omega)
            have hlt := hleft.lt a (by rw [tn_len]; omega)
            rw [tn_len] at hlt
            have hwl : (wy g (farL (tn g) b) k a).length = k + 1 := wy_len _ _ _ _
            rw [hk, Int.toNat_natCast]
            refine smo_way (b := b) (by omega) (by rw [hokG.len]; omega) (fun x hx => ?_) F 0 (by omega) (by omega)
            obtain ⟨i, hi, ex⟩ := List.getElem_of_mem hx
            have ex' : (wy g (farL (tn g) b) k a).getD i 0 = x := by simp [List.getD, List.getElem?_eq_getElem hi, ex]
            have r1 := wy_from hg hleft hk i (by omega)
            have r2 := wy_to hg hleft hk (k - i) (by omega)
            rw [show k - (k - i) = i by omega] at r2
            rw [ex'] at r1 r2
            have hxg : x < g.length := by obtain ⟨m, hm⟩ := r1; exact wk_in hg ha hm
            exact ⟨by rw [hokG.len]; omega, (hokG.iff (by omega) (by omega)).2 ⟨rch_trans (rch_sub hsub r2) (rch_one hnew), rch_sub hsub r1⟩⟩
    · have : (ofM (g.length : Int) (af 0 g ++ [(v, u)])).2 ≠ 0 := by
        unfold ofM
        rw [if_neg (by omega)]
        by_cases c : 600 < (af 0 g ++ [(v, u)]).length
        · rw [if_pos c]; simp
        · rw [if_neg c]
          have : ofE g.length [] (af 0 g ++ [(v, u)]) ≠ 0 := fun h0 => by
            have := (ofE_ok.1 h0).1 (v, u) (by simp)
            simp only at this
            exact hin ⟨this.2.2.1, this.2.2.2, this.1, this.2.1⟩
          rw [if_pos this]; exact this
      rw [if_pos (by simpa using this)]
  · have e1 : spartM g = ([], gchk g) := by unfold spartM; rw [if_pos h]
    rw [e1, if_pos (by simp [h])]
end Go.Proofs.Ytefoeebfidklgaa
