/- Plain facts of what the functions of this seat compute. -/
import Derived.Test.YtghkjonlhphcjaaModels
import Derived.KernelRfl
import Derived.Lib.SlicesCompact
namespace Go.Proofs.Ytghkjonlhphcjaa
open Go SX
def Bit (l : List Int) : Prop := ∀ x ∈ l, x = 0 ∨ x = 1
theorem Bit.getD {l : List Int} (h : Bit l) (i : Nat) : l.getD i 0 = 0 ∨ l.getD i 0 = 1 := by
  by_cases hi : i < l.length
  · have := h l[i] (List.getElem_mem hi)
    simpa [List.getD, hi] using this
  · left
    simp [List.getD, List.getElem?_eq_none (Nat.le_of_not_lt hi)]
theorem iadd_n {a b : Nat} (h : a + b < 9223372036854775808) : iadd .i64 (a : Int) (b : Int) = ((a + b : Nat) : Int) := by rw [iadd_i64 (by omega) (by omega)]; omega
theorem iadd1_n {a : Nat} (h : a + 1 < 9223372036854775808) : iadd .i64 (a : Int) 1 = ((a + 1 : Nat) : Int) := by rw [iadd_i64 (by omega) (by omega)]; omega
theorem isub1_n {a : Nat} (h : 1 ≤ a) (h2 : a < 9223372036854775808) : isub .i64 (a : Int) 1 = ((a - 1 : Nat) : Int) := by rw [isub_i64 (by omega) (by omega)]; omega
/-- The bits of a number, in so many places, the highest one first. -/
def nb (n : Nat) : Nat → List Int
  | 0 => []
  | w + 1 => ((n / 2 ^ w % 2 : Nat) : Int) :: nb n w
theorem sub_n {α : Type} {l : List α} {i j : Nat} (h1 : i ≤ j) (h2 : j ≤ l.length) : sub l (i : Int) (j : Int) = some ((l.take j).drop i) := by
  unfold sub
  rw [if_pos ⟨by omega, by omega, by omega⟩, Int.toNat_natCast, Int.toNat_natCast]
/-- How many bits a number has. -/
def len (x : Nat) : Nat := if x = 0 then 0 else x.log2 + 1
def sh (m : Nat) : Nat := len (m - 1)
def dd (m : Nat) : Nat := 2 ^ sh m - m
def le (n m : Nat) : List Int := if n < dd m then nb n (sh m - 1) else nb (n + dd m) (sh m)
theorem same_ints_l (F : Nat) {xs : List Int} (hm : xs.length ≤ 1000000) : ∀ (k i : Nat), xs.length < k + i → i ≤ xs.length → M_R_SameInts_l3 F xs xs k (i : Int) = some true
  | 0, _, _, _ => by omega
  | k + 1, i, h, hi => by
    show M_R_SameInts_b3 F xs xs (M_R_SameInts_l3 F xs xs k) (i : Int) = _
    unfold M_R_SameInts_b3
    by_cases hlt : i < xs.length
    · rw [if_pos (by simp; omega), idx_nat, List.getElem?_eq_getElem hlt]
      simp only [Option.bind_some]
      rw [if_neg (by simp), iadd1_n (by omega)]
      exact same_ints_l F hm k (i + 1) (by omega) (by omega)
    · rw [if_neg (by simp; omega)]; rfl
theorem same_intsR {F : Nat} {xs : List Int} (hF : xs.length < F) (hm : xs.length ≤ 1000000) : M_R_SameInts F xs xs = some true := by
  unfold M_R_SameInts
  rw [if_neg (by simp)]
  exact same_ints_l F hm F 0 (by omega) (by omega)
def runFold {σ τ : Type} (yy : σ → (Int × Int) → Option (σ ⊕ τ)) : List (Int × Int) → σ → Option (σ ⊕ τ)
  | [], s => some (.inl s)
  | r :: R, s => (yy s r).bind (Sum.elim (fun s' => runFold yy R s') (fun t => some (.inr t)))
def rowE (n : Int) : Int → List Int → Int
  | _, [] => 0
  | last, x :: l => if x < 0 ∨ n ≤ x then 3 else if x ≤ last then 4 else rowE n x l
def gE (n : Int) : List (List Int) → Int
  | [] => 0
  | l :: g => if rowE n (-1) l ≠ 0 then rowE n (-1) l else gE n g
def gtot : List (List Int) → Nat
  | [] => 0
  | l :: g => l.length + gtot g
def gchk (g : List (List Int)) : Int := if 100 < g.length then 2 else if gE g.length g ≠ 0 then gE g.length g else if 600 < gtot g then 2 else 0
theorem rowE_ok : ∀ {n last : Int} {l : List Int}, rowE n last l = 0 ↔ (l.Pairwise (· < ·) ∧ ∀ x ∈ l, last < x) ∧ ∀ x ∈ l, 0 ≤ x ∧ x < n
  | n, last, [] => by simp [rowE]
  | n, last, x :: l => by
    unfold rowE
    by_cases h1 : x < 0 ∨ n ≤ x
    · rw [if_pos h1]
      constructor
      · intro h; simp at h
      · rintro ⟨_, h⟩; have := h x (by simp); omega
    · rw [if_neg h1]
      by_cases h2 : x ≤ last
      · rw [if_pos h2]
        constructor
        · intro h; simp at h
        · rintro ⟨⟨_, h⟩, _⟩; have := h x (by simp); omega
      · rw [if_neg h2, rowE_ok, List.pairwise_cons]
        constructor
        · rintro ⟨⟨a1, a2⟩, a3⟩
          refine ⟨⟨⟨a2, a1⟩, fun y hy => ?_⟩, fun y hy => ?_⟩
          · rcases List.mem_cons.1 hy with rfl | hy
            · omega
            · have := a2 y hy; omega
          · rcases List.mem_cons.1 hy with rfl | hy
            · omega
            · exact a3 y hy
        · rintro ⟨⟨⟨a1, a2⟩, a3⟩, a4⟩
          exact ⟨⟨a2, a1⟩, fun y hy => a4 y (by simp [hy])⟩
theorem row_len {n last : Int} : ∀ {l : List Int}, -1 ≤ last → last < n → rowE n last l = 0 → last + 1 + l.length ≤ n
  | [], h1, h2, _ => by simp; omega
  | x :: l, h1, h2, h => by
    unfold rowE at h
    split at h
    · simp at h
    · split at h
      · simp at h
      · have := row_len (l := l) (by omega) (by omega) h
        rw [List.length_cons]; omega
theorem gE_ok {n : Int} : ∀ {g : List (List Int)}, gE n g = 0 ↔ ∀ l ∈ g, rowE n (-1) l = 0
  | [] => by simp [gE]
  | l :: g => by
    unfold gE
    by_cases h : rowE n (-1) l = 0
    · rw [if_neg (by simp [h]), gE_ok]; simp [h]
    · rw [if_pos h]; simp [h]
/-- A graph that is right. -/
def Gr (g : List (List Int)) : Prop := g.length ≤ 100 ∧ (∀ l ∈ g, l.Pairwise (· < ·) ∧ ∀ x ∈ l, 0 ≤ x ∧ x < g.length) ∧ gtot g ≤ 600
theorem gchk_ok {g : List (List Int)} : gchk g = 0 ↔ Gr g := by
  unfold gchk Gr
  by_cases h1 : 100 < g.length
  · rw [if_pos h1]; simp; omega
  · rw [if_neg h1]
    by_cases h2 : gE g.length g = 0
    · rw [if_neg (by simp [h2])]
      have h3 := gE_ok.1 h2
      have h4 : ∀ l ∈ g, l.Pairwise (· < ·) ∧ ∀ x ∈ l, 0 ≤ x ∧ x < (g.length : Int) := fun l hl => by
        have := rowE_ok.1 (h3 l hl)
        exact ⟨this.1.1, this.2⟩
      by_cases h5 : 600 < gtot g
      · rw [if_pos h5]; simp; omega
      · rw [if_neg h5]
        exact ⟨fun _ => ⟨by omega, h4, by omega⟩, fun _ => rfl⟩
    · rw [if_pos h2]
      refine ⟨fun h => absurd h h2, fun h => absurd (gE_ok.2 fun l hl => rowE_ok.2 ⟨⟨(h.2.1 l hl).1, fun x hx => ?_⟩, (h.2.1 l hl).2⟩) h2⟩
      have := (h.2.1 l hl).2 x hx; omega
theorem gr_row {g : List (List Int)} (h : Gr g) {l : List Int} (hl : l ∈ g) : l.length ≤ 100 := by
  have h1 := (h.2.1 l hl).2
  have h2 : rowE g.length (-1) l = 0 := rowE_ok.2 ⟨⟨(h.2.1 l hl).1, fun x hx => by have := h1 x hx; omega⟩, h1⟩
  have := row_len (by omega) (by omega) h2
  have := h.1
  omega
theorem check_in {F : Nat} {rec38 : (Int × Int) → Option Int} {g : List (List Int)} {m i : Int} {l : List Int} (hg : g.length ≤ 100) : ∀ (k j : Nat) (last : Int), 102 < k + j → (j : Int) ≤ last + 1 → last < g.length → -1 ≤ last →
    M_graph_Check_l45 F rec38 g m i l k (last, (j : Int)) = if rowE g.length last (l.drop j) ≠ 0 then some (rowE g.length last (l.drop j)) else M_graph_Check_j44 F rec38 m i l
  | 0, j, last, h, h1, h2, h3 => by omega
  | k + 1, j, last, h, h1, h2, h3 => by
    show M_graph_Check_b45 F rec38 g m i l (M_graph_Check_l45 F rec38 g m i l k) last (j : Int) = _
    unfold M_graph_Check_b45
    by_cases hlt : j < l.length
    · rw [if_pos (by simp; omega), idx_nat, List.getElem?_eq_getElem hlt, List.drop_eq_getElem_cons hlt]
      simp only [Option.bind_some]
      unfold rowE
      by_cases c1 : l[j] < 0 ∨ (g.length : Int) ≤ l[j]
      · rw [if_pos (by simpa using c1), if_pos c1, if_pos (by decide)]
      · rw [if_neg (by simpa using c1), if_neg c1]
        by_cases c2 : l[j] ≤ last
        · rw [if_pos (by simpa using c2), if_pos c2, if_pos (by decide)]
        · rw [if_neg (by simpa using c2), if_neg c2, iadd1_n (by omega)]
          exact check_in hg k (j + 1) l[j] (by omega) (by omega) (by omega) (by omega)
    · rw [if_neg (by simp; omega), List.drop_eq_nil_of_le (by omega)]
      rw [if_neg (by simp [rowE])]
theorem check_out {F : Nat} (hF : 1000 ≤ F) {g : List (List Int)} (hg : g.length ≤ 100) : ∀ (k i : Nat) (m : Nat), g.length < k + i → i ≤ g.length → m ≤ 100 * i →
    M_graph_Check_l38 F g k ((m : Int), (i : Int)) = if gE g.length (g.drop i) ≠ 0 then some (gE g.length (g.drop i)) else if 600 < m + gtot (g.drop i) then some 2 else some 0
  | 0, _, _, _, _, _ => by omega
  | k + 1, i, m, h, hi, hm => by
    show M_graph_Check_b38 F g (M_graph_Check_l38 F g k) (m : Int) (i : Int) = _
    unfold M_graph_Check_b38
    by_cases hlt : i < g.length
    · rw [if_pos (by simp; omega), idx_nat, List.getElem?_eq_getElem hlt, List.drop_eq_getElem_cons hlt]
      simp only [Option.bind_some]
      have hin := check_in (F := F) (rec38 := M_graph_Check_l38 F g k) (m := (m : Int)) (i := (i : Int)) (l := g[i]) hg F 0 (-1) (by omega) (by omega) (by omega) (by omega)
      rw [List.drop_zero, show ((0 : Nat) : Int) = 0 from rfl] at hin
      rw [hin]
      unfold gE gtot
      by_cases hr : rowE g.length (-1) g[i] = 0
      · have hlen := row_len (by omega) (by omega) hr
        have e : (if rowE (g.length : Int) (-1) g[i] ≠ 0 then rowE (g.length : Int) (-1) g[i] else gE (g.length : Int) (g.drop (i + 1))) = gE (g.length : Int) (g.drop (i + 1)) := if_neg (by simp [hr])
        rw [if_neg (show ¬ rowE (g.length : Int) (-1) g[i] ≠ 0 by simp [hr]), e]
        unfold M_graph_Check_j44 M_graph_Check_j42
        rw [iadd_n (by omega), iadd1_n (by omega), check_out hF hg k (i + 1) (m + g[i].length) (by omega) (by omega) (by omega), Nat.add_assoc]
      · rw [if_pos (by simpa using hr)]
        have e : (if rowE (g.length : Int) (-1) g[i] ≠ 0 then rowE (g.length : Int) (-1) g[i] else gE (g.length : Int) (g.drop (i + 1))) = rowE (g.length : Int) (-1) g[i] := if_pos hr
        rw [e, if_pos hr]
    · rw [if_neg (by simp; omega), List.drop_eq_nil_of_le (by omega)]
      unfold M_graph_Check_j23
      rw [if_neg (show ¬ gE (g.length : Int) [] ≠ 0 by simp [gE])]
      by_cases h6 : 600 < m
      · rw [if_pos (by simp; omega), if_pos (by simpa [gtot] using h6)]
      · rw [if_neg (by simp; omega), if_neg (by simpa [gtot] using h6)]
theorem graphCheck_eq {F : Nat} (hF : 1000 ≤ F) {g : List (List Int)} : M_graph_Check F g = some (gchk g) := by
  unfold M_graph_Check gchk
  by_cases h : 100 < g.length
  · rw [if_pos (by simp; omega), if_pos h]
  · have := check_out hF (g := g) (by omega) F 0 0 (by omega) (by omega) (by omega)
    rw [List.drop_zero, Nat.zero_add, show ((0 : Nat) : Int) = 0 from rfl] at this
    rw [if_neg (by simp; omega), if_neg h, this]
    split
    · rfl
    · split <;> rfl
def af (i : Nat) : List (List Int) → List (Int × Int)
  | [] => []
  | l :: g => l.map (fun x => ((i : Int), x)) ++ af (i + 1) g
theorem runFold_app {σ τ : Type} {yy : σ → (Int × Int) → Option (σ ⊕ τ)} : ∀ (A B : List (Int × Int)) (s : σ), runFold yy (A ++ B) s = (runFold yy A s).bind (Sum.elim (fun s' => runFold yy B s') (fun t => some (.inr t)))
  | [], B, s => rfl
  | p :: A, B, s => by
    show (yy s p).bind _ = ((yy s p).bind _).bind _
    cases yy s p with
    | none => rfl
    | some r =>
      cases r with
      | inl s' => exact runFold_app A B s'
      | inr t => rfl
theorem all_in {σ τ : Type} {F : Nat} {yy : σ → (Int × Int) → Option (σ ⊕ τ)} {rec7 : (Int × σ) → Option (σ ⊕ τ)} {i : Int} {l : List Int} (hm : l.length ≤ 1000000) : ∀ (k j : Nat) (s : σ), l.length < k + j → j ≤ l.length →
    M_graph_All_1_l10 F yy rec7 i l k ((j : Int), s) = (runFold yy ((l.drop j).map fun x => (i, x)) s).bind (Sum.elim (fun s' => M_graph_All_1_j9 F yy rec7 i s') (fun t => some (.inr t)))
  | 0, _, _, _, _ => by omega
  | k + 1, j, s, h, hj => by
    show M_graph_All_1_b10 F yy rec7 i l (M_graph_All_1_l10 F yy rec7 i l k) (j : Int) s = _
    unfold M_graph_All_1_b10
    by_cases hlt : j < l.length
    · rw [if_pos (by simp; omega), idx_nat, List.getElem?_eq_getElem hlt, List.drop_eq_getElem_cons hlt, List.map_cons]
      simp only [Option.bind_some, runFold]
      cases yy s (i, l[j]) with
      | none => rfl
      | some r =>
        cases r with
        | inl s' =>
          simp only [Option.bind_some, Sum.elim_inl]
          rw [iadd1_n (by omega)]
          exact all_in hm k (j + 1) s' (by omega) (by omega)
        | inr t => rfl
    · rw [if_neg (by simp; omega), List.drop_eq_nil_of_le (by omega)]
      rfl
theorem all_out {σ τ : Type} {F : Nat} {yy : σ → (Int × Int) → Option (σ ⊕ τ)} {g : List (List Int)} (hm : g.length ≤ 1000000) (hr : ∀ l ∈ g, l.length ≤ 1000000 ∧ l.length < F) : ∀ (k i : Nat) (s : σ), g.length < k + i → i ≤ g.length →
    M_graph_All_1_l7 F yy g k ((i : Int), s) = runFold yy (af i (g.drop i)) s
  | 0, _, _, _, _ => by omega
  | k + 1, i, s, h, hi => by
    show M_graph_All_1_b7 F yy g (M_graph_All_1_l7 F yy g k) (i : Int) s = _
    unfold M_graph_All_1_b7
    by_cases hlt : i < g.length
    · have hrow := hr _ (List.getElem_mem hlt)
      rw [if_pos (by simp; omega), idx_nat, List.getElem?_eq_getElem hlt, List.drop_eq_getElem_cons hlt]
      simp only [Option.bind_some]
      have := all_in (F := F) (yy := yy) (rec7 := M_graph_All_1_l7 F yy g k) (i := (i : Int)) hrow.1 F 0 s (by omega) (by omega)
      rw [List.drop_zero, show ((0 : Nat) : Int) = 0 from rfl] at this
      rw [this]
      unfold af
      rw [runFold_app]
      congr 1
      funext r
      cases r with
      | inl s' =>
        simp only [Sum.elim_inl]
        unfold M_graph_All_1_j9
        rw [iadd1_n (by omega)]
        exact all_out hm hr k (i + 1) s' (by omega) (by omega)
      | inr t => rfl
    · rw [if_neg (by simp; omega), List.drop_eq_nil_of_le (by omega)]
      rfl
theorem all_eq {σ τ : Type} {F : Nat} {yy : σ → (Int × Int) → Option (σ ⊕ τ)} {g : List (List Int)} {s : σ} (hF : g.length < F) (hm : g.length ≤ 1000000) (hr : ∀ l ∈ g, l.length ≤ 1000000 ∧ l.length < F) : M_graph_All_1 F yy g s = runFold yy (af 0 g) s := by
  unfold M_graph_All_1
  have := all_out (yy := yy) hm hr F 0 s (by omega) (by omega)
  rw [List.drop_zero] at this
  exact this
theorem vals_eq {σ τ : Type} {F : Nat} {yy : σ → (Int × Int) → Option (σ ⊕ τ)} {l : List (Int × Int)} (hm : l.length ≤ 1000000) : ∀ (k i : Nat) (s : σ), l.length < k + i → i ≤ l.length →
    M_slices_Values_api_Arc_api_Arc_1_l1 F yy l k ((i : Int), s) = runFold yy (l.drop i) s
  | 0, _, _, _, _ => by omega
  | k + 1, i, s, h, hi => by
    show M_slices_Values_api_Arc_api_Arc_1_b1 F yy l (M_slices_Values_api_Arc_api_Arc_1_l1 F yy l k) (i : Int) s = _
    unfold M_slices_Values_api_Arc_api_Arc_1_b1
    by_cases hlt : i < l.length
    · rw [if_pos (by simp; omega), idx_nat, List.getElem?_eq_getElem hlt, List.drop_eq_getElem_cons hlt]
      simp only [Option.bind_some, runFold]
      cases yy s l[i] with
      | none => rfl
      | some r =>
        cases r with
        | inl s' =>
          simp only [Option.bind_some, Sum.elim_inl]
          rw [iadd1_n (by omega)]
          exact vals_eq hm k (i + 1) s' (by omega) (by omega)
        | inr t => rfl
    · rw [if_neg (by simp; omega), List.drop_eq_nil_of_le (by omega)]
      rfl
theorem fold_app {τ : Type} {lim : Nat} {f : Int × Int → Int × Int} {yy : List (Int × Int) → (Int × Int) → Option (List (Int × Int) ⊕ τ)} (hy : ∀ s p, yy s p = (app lim s [f p]).bind fun z => some (.inl z)) : ∀ (L s : List (Int × Int)), s.length + L.length ≤ lim → runFold yy L s = some (.inl (s ++ L.map f))
  | [], s, _ => by simp [runFold]
  | p :: L, s, h => by
    rw [List.length_cons] at h
    show (yy s p).bind _ = _
    rw [hy, app_eq (by simp; omega)]
    simp only [Option.bind_some, Sum.elim_inl]
    rw [fold_app hy L (s ++ [f p]) (by simp; omega)]
    simp
theorem af_len : ∀ (i : Nat) (g : List (List Int)), (af i g).length = gtot g
  | _, [] => rfl
  | i, l :: g => by unfold af gtot; rw [List.length_append, List.length_map, af_len (i + 1) g]
theorem collect_all {F : Nat} {g : List (List Int)} (hF : 1000 ≤ F) (h : Gr g) : M_slices_Collect_api_Arc_graph_All_1 F g = some (af 0 g) := by
  unfold M_slices_Collect_api_Arc_graph_All_1 M_slices_AppendSeq_api_Arc_api_Arc_graph_All_1
  have h1 := h.1
  have h2 := h.2.2
  rw [all_eq (by omega) (by omega) (fun l hl => by have := gr_row h hl; omega), fold_app (lim := 4398046511104) (f := fun p => p) ?hy (af 0 g) [] (by rw [af_len]; simp; omega)]
  · simp
  · exact fun s p => rfl
theorem collect_vals {F : Nat} {l : List (Int × Int)} (hF : l.length < F) (hm : l.length ≤ 1000000) : M_slices_Collect_api_Arc_slices_Values_api_Arc_api_Arc_1 F l = some l := by
  unfold M_slices_Collect_api_Arc_slices_Values_api_Arc_api_Arc_1 M_slices_AppendSeq_api_Arc_api_Arc_slices_Values_api_Arc_api_Arc_1 M_slices_Values_api_Arc_api_Arc_1
  have := fun yy => vals_eq (σ := List (Int × Int)) (τ := Empty) (F := F) (yy := yy) hm F 0 [] (by omega) (by omega)
  rw [show ((0 : Nat) : Int) = 0 from rfl] at this
  rw [this, List.drop_zero, fold_app (lim := 4398046511104) (f := fun p => p) ?hy l [] (by simp; omega)]
  · simp
  · exact fun s p => rfl
theorem turned_eq {F : Nat} {g : List (List Int)} (hF : 1000 ≤ F) (h : Gr g) : M_graph_turned F g = some ((af 0 g).map fun p => (p.2, p.1)) := by
  unfold M_graph_turned M_graph_All
  have h1 := h.1
  have h2 := h.2.2
  simp only [Option.bind_some]
  rw [all_eq (by omega) (by omega) (fun l hl => by have := gr_row h hl; omega), fold_app (lim := 4398046511104) (f := fun p => (p.2, p.1)) ?hy (af 0 g) [] (by rw [af_len]; simp; omega)]
  · simp
  · exact fun s p => rfl
def lexLt (p q : Int × Int) : Prop := p.1 < q.1 ∨ (p.1 = q.1 ∧ p.2 < q.2)
instance decLex (p q : Int × Int) : Decidable (lexLt p q) := by unfold lexLt; infer_instance
theorem lexLt_irr (a : Int × Int) : ¬ lexLt a a := by unfold lexLt; omega
theorem lexLt_tr (a b d : Int × Int) : lexLt a b → lexLt b d → lexLt a d := by unfold lexLt; omega
theorem lexLt_tot (a b : Int × Int) : lexLt a b ∨ a = b ∨ lexLt b a := by
  obtain ⟨a1, a2⟩ := a
  obtain ⟨b1, b2⟩ := b
  simp only [lexLt, Prod.mk.injEq]; omega
theorem compare_eq {F : Nat} {x y : Int} : M_cmp_Compare_int F x y = some (if x < y then -1 else if y < x then 1 else 0) := by
  unfold M_cmp_Compare_int M_cmp_isNaN_int
  simp only [bne_self_eq_false, Option.bind_some, Bool.false_eq_true, if_false, decide_eq_true_eq]
  split
  · rfl
  · split <;> rfl
theorem or_eq {F : Nat} (hF : 3 ≤ F) {x y : Int} : M_cmp_Or_int F [x, y] = some (if x ≠ 0 then x else y) := by
  obtain ⟨k, rfl⟩ := Nat.exists_eq_add_of_le hF
  rw [Nat.add_comm]
  unfold M_cmp_Or_int
  show M_cmp_Or_int_b3 (k + 3) [x, y] (M_cmp_Or_int_l3 (k + 3) [x, y] (k + 2)) 0 = _
  unfold M_cmp_Or_int_b3
  rw [if_pos (by simp)]
  show ((some x).bind _) = _
  simp only [Option.bind_some]
  by_cases hx : x = 0
  · rw [if_neg (by simp [hx]), if_neg (by simp [hx])]
    show M_cmp_Or_int_b3 (k + 3) [x, y] (M_cmp_Or_int_l3 (k + 3) [x, y] (k + 1)) 1 = _
    unfold M_cmp_Or_int_b3
    rw [if_pos (by simp)]
    show ((some y).bind _) = _
    simp only [Option.bind_some]
    by_cases hy : y = 0
    · rw [if_neg (by simp [hy]), hy]
      show M_cmp_Or_int_b3 (k + 3) [x, y] (M_cmp_Or_int_l3 (k + 3) [x, y] k) 2 = _
      unfold M_cmp_Or_int_b3
      rw [if_neg (by simp)]
      rfl
    · rw [if_pos (by simp [hy])]
  · rw [if_pos (by simp [hx]), if_pos hx]
theorem order_eq {F : Nat} (hF : 3 ≤ F) (a b : Int × Int) : ∃ z, M_graph_order F a.1 a.2 b.1 b.2 = some z ∧ (z < 0 ↔ lexLt a b) := by
  unfold M_graph_order
  rw [compare_eq, compare_eq]
  simp only [Option.bind_some]
  rw [or_eq hF]
  simp only [Option.bind_some]
  unfold lexLt
  by_cases h1 : a.1 < b.1
  · exact ⟨-1, by simp [h1], by simp [h1]⟩
  · by_cases h2 : b.1 < a.1
    · exact ⟨1, by simp [h1, h2], by omega⟩
    · refine ⟨if a.2 < b.2 then -1 else if b.2 < a.2 then 1 else 0, by simp [h1, h2], ?_⟩
      split
      · omega
      · split <;> omega
def srtA (l : List (Int × Int)) : List (Int × Int) := l.mergeSort fun a b => decide (¬ lexLt b a)
theorem srtA_perm (l : List (Int × Int)) : (srtA l).Perm l := List.mergeSort_perm l _
theorem srtA_pw (l : List (Int × Int)) : (srtA l).Pairwise fun a b => ¬ lexLt b a := by
  have h := List.pairwise_mergeSort (le := fun a b : Int × Int => decide (¬ lexLt b a)) (fun a b c h1 h2 => by simp only [decide_eq_true_eq] at *; unfold lexLt at *; omega) (fun a b => by simp only [Bool.or_eq_true, decide_eq_true_eq]; unfold lexLt; omega) l
  exact h.imp (fun h => by simpa using h)
theorem srtA_len (l : List (Int × Int)) : (srtA l).length = l.length := (srtA_perm l).length_eq
theorem srtA_eq {l m : List (Int × Int)} (hp : l.Perm m) (hm : m.Pairwise fun a b => ¬ lexLt b a) : srtA l = m :=
  List.Perm.eq_of_pairwise (le := fun a b : Int × Int => ¬ lexLt b a) (fun a b _ _ h1 h2 => by rcases lexLt_tot a b with h | h | h <;> simp_all) (srtA_pw l) hm ((srtA_perm l).trans hp)
theorem lex_nodup {l : List (Int × Int)} (h : l.Pairwise lexLt) : l.Nodup := List.Pairwise.imp (S := fun a b => a ≠ b) (fun {a b} h (he : a = b) => lexLt_irr a (by rw [← he] at h; exact h)) h
theorem srtA_strict {l : List (Int × Int)} (h : l.Nodup) : (srtA l).Pairwise lexLt := by
  have h1 : (srtA l).Nodup := (srtA_perm l).nodup_iff.2 h
  refine (List.Pairwise.and (srtA_pw l) h1).imp fun {a b} h => ?_
  rcases lexLt_tot a b with h2 | h2 | h2
  · exact h2
  · exact absurd h2 h.2
  · exact absurd h2 h.1
theorem sortFunc_eq {F : Nat} {l : List (Int × Int)} (hF : 3 ≤ F) (hl : l.length ≤ 1000000) : M_slices_SortFunc_api_Arc_api_Arc_graph_order F l = some (srtA l) :=
  sortF_eq (lt := lexLt) (fun a _ b _ => order_eq hF a b) lexLt_irr lexLt_tr lexLt_tot (by omega) (srtA_perm l) (srtA_pw l)
theorem sortedFunc_eq {F : Nat} {l : List (Int × Int)} (hF : 3 ≤ F) (hF2 : l.length < F) (hl : l.length ≤ 1000000) : M_slices_SortedFunc_api_Arc_slices_Values_api_Arc_api_Arc_1_graph_order F l = some (srtA l) := by
  unfold M_slices_SortedFunc_api_Arc_slices_Values_api_Arc_api_Arc_1_graph_order
  rw [collect_vals hF2 hl]
  simp only [Option.bind_some]
  rw [sortFunc_eq hF hl]
  simp [chk, srtA_len]
theorem pwx : ∀ {A B : List Int}, A.Pairwise (· < ·) → B.Pairwise (· < ·) → (∀ z, z ∈ A ↔ z ∈ B) → A = B := by
  intro A B hA hB h
  have nd : ∀ {C : List Int}, C.Pairwise (· < ·) → C.Nodup := fun hC => hC.imp fun h => by omega
  exact List.Perm.eq_of_pairwise (le := fun x y : Int => x < y) (fun a b _ _ h1 h2 => by omega) hA hB ((List.perm_ext_iff_of_nodup (nd hA) (nd hB)).2 h)
def rowOf (l : List (Int × Int)) (i : Int) : List Int := (l.filter fun p => decide (p.1 = i)).map (·.2)
def tab (n : Nat) (l : List (Int × Int)) : List (List Int) := (List.range n).map fun (i : Nat) => rowOf l (i : Int)
theorem tab_len (n : Nat) (l : List (Int × Int)) : (tab n l).length = n := by simp [tab]
theorem tab_get {n i : Nat} {l : List (Int × Int)} (h : i < n) : (tab n l)[i]? = some (rowOf l i) := by simp [tab, h]
theorem rowOf_len (l : List (Int × Int)) (i : Int) : (rowOf l i).length ≤ l.length := by
  unfold rowOf
  rw [List.length_map]
  exact List.length_filter_le _ _
theorem tab_snoc {n a : Nat} {l : List (Int × Int)} {b : Int} : tab n (l ++ [((a : Int), b)]) = (tab n l).set a (rowOf l a ++ [b]) := by
  apply List.ext_getElem (by simp [tab])
  intro i h1 h2
  rw [tab_len] at h1
  rw [List.getElem_set]
  simp only [tab, List.getElem_map, List.getElem_range]
  by_cases h : a = i
  · rw [if_pos h, ← h]; simp [rowOf]
  · rw [if_neg h]
    have : ¬ (a : Int) = (i : Int) := by omega
    simp [rowOf, this]
theorem tab_nil (n : Nat) : tab n [] = List.replicate n [] := by
  apply List.ext_getElem (by simp [tab])
  intro i h1 h2
  simp [tab, rowOf]
theorem mk_nil {n : Nat} {lim : Nat} (h : n ≤ lim) : mk lim ([] : List Int) (n : Int) = some (tab n []) := by
  unfold mk
  rw [if_pos ⟨by omega, by omega⟩, tab_nil]; simp
def InR (n : Nat) (l : List (Int × Int)) : Prop := ∀ p ∈ l, 0 ≤ p.1 ∧ p.1 < (n : Int) ∧ 0 ≤ p.2 ∧ p.2 < (n : Int)
theorem take_snoc {α : Type} {l : List α} {j : Nat} (h : j < l.length) : l.take (j + 1) = l.take j ++ [l[j]] := by
  rw [List.take_add_one, List.getElem?_eq_getElem h]; rfl
theorem built_l {F n : Nat} {l : List (Int × Int)} (hl : ∀ p ∈ l, 0 ≤ p.1 ∧ p.1 < (n : Int)) (hm : l.length ≤ 1000000) : ∀ (k j : Nat), l.length < k + j → j ≤ l.length →
    M_graph_Built_l3 F l k ((j : Int), tab n (l.take j)) = some (tab n l)
  | 0, _, _, _ => by omega
  | k + 1, j, h, hj => by
    show M_graph_Built_b3 F l (M_graph_Built_l3 F l k) (j : Int) (tab n (l.take j)) = _
    unfold M_graph_Built_b3
    by_cases hlt : j < l.length
    · obtain ⟨h1, h2⟩ := hl _ (List.getElem_mem hlt)
      have hrec := built_l (F := F) hl hm k (j + 1) (by omega) (by omega)
      obtain ⟨a, ha⟩ := Int.eq_ofNat_of_zero_le h1
      have e : l[j] = ((a : Int), l[j].2) := by rw [← ha]
      rw [take_snoc hlt, e, tab_snoc] at hrec
      have hrl := rowOf_len (l.take j) (a : Int)
      rw [List.length_take] at hrl
      rw [if_pos (by simp; omega), idx_nat, List.getElem?_eq_getElem hlt]
      simp only [Option.bind_some]
      rw [ha, idx_nat, tab_get (by omega)]
      simp only [Option.bind_some]
      rw [app_eq (by simp; omega)]
      simp only [Option.bind_some, lett]
      rw [iadd1_n (by omega), Int.toNat_natCast]
      exact hrec
    · rw [if_neg (by simp; omega), List.take_of_length_le (by omega)]
      rfl
theorem built_eq {F n : Nat} {l : List (Int × Int)} (hl : ∀ p ∈ l, 0 ≤ p.1 ∧ p.1 < (n : Int)) (hm : l.length ≤ 1000000) (hF : l.length < F) (hn : n ≤ 1000000) : M_graph_Built F (n : Int) l = some (tab n l) := by
  unfold M_graph_Built
  rw [mk_nil (by omega)]
  simp only [Option.bind_some]
  have := built_l (F := F) hl hm F 0 (by omega) (by omega)
  rw [List.take_zero] at this
  exact this
def IsTab (n : Nat) (l : List (Int × Int)) (T : List (List Int)) : Prop :=
  T.length = n ∧ ∀ (i : Nat) (r : List Int), T[i]? = some r → r.Pairwise (· < ·) ∧ ∀ x, x ∈ r ↔ ((i : Int), x) ∈ l
theorem isTab_uniq {n : Nat} {l l' : List (Int × Int)} {T T' : List (List Int)} (h : IsTab n l T) (h' : IsTab n l' T') (hm : ∀ p, p ∈ l ↔ p ∈ l') : T = T' := by
  apply List.ext_getElem (by rw [h.1, h'.1])
  intro i h1 h2
  have a := h.2 i _ (List.getElem?_eq_getElem h1)
  have b := h'.2 i _ (List.getElem?_eq_getElem h2)
  exact pwx a.1 b.1 fun z => by rw [a.2, b.2, hm]
theorem mem_rowOf {l : List (Int × Int)} {i x : Int} : x ∈ rowOf l i ↔ (i, x) ∈ l := by
  unfold rowOf
  rw [List.mem_map]
  constructor
  · rintro ⟨p, hp, rfl⟩
    obtain ⟨h1, h2⟩ := List.mem_filter.1 hp
    have : p.1 = i := by simpa using h2
    rw [← this]; exact h1
  · intro h
    exact ⟨(i, x), List.mem_filter.2 ⟨h, by simp⟩, rfl⟩
theorem rowOf_pw {l : List (Int × Int)} {i : Int} (h : l.Pairwise lexLt) : (rowOf l i).Pairwise (· < ·) := by
  unfold rowOf
  rw [List.pairwise_map]
  refine (h.filter _).imp_of_mem fun {a b} ha hb hab => ?_
  have h1 := (List.mem_filter.1 ha).2
  have h2 := (List.mem_filter.1 hb).2
  simp only [decide_eq_true_eq] at h1 h2
  unfold lexLt at hab; omega
theorem tab_isTab {n : Nat} {l : List (Int × Int)} (h : l.Pairwise lexLt) : IsTab n l (tab n l) := by
  refine ⟨tab_len n l, fun i r hr => ?_⟩
  have hi : i < n := by have := (List.getElem?_eq_some_iff.1 hr).1; rwa [tab_len] at this
  rw [tab_get hi] at hr
  cases hr
  exact ⟨rowOf_pw h, fun x => mem_rowOf⟩
theorem isTab_congr {n : Nat} {l l' : List (Int × Int)} {T : List (List Int)} (h : IsTab n l T) (hm : ∀ p, p ∈ l ↔ p ∈ l') : IsTab n l' T :=
  ⟨h.1, fun i r hr => ⟨(h.2 i r hr).1, fun x => by rw [(h.2 i r hr).2, hm]⟩⟩
theorem mem_af : ∀ {g : List (List Int)} {k : Nat} {p : Int × Int}, p ∈ af k g ↔ ∃ i r, g[i]? = some r ∧ p.1 = ((k + i : Nat) : Int) ∧ p.2 ∈ r
  | [], k, p => by simp [af]
  | l :: g, k, p => by
    unfold af
    rw [List.mem_append, mem_af (g := g), List.mem_map]
    constructor
    · rintro (⟨x, hx, rfl⟩ | ⟨i, r, h1, h2, h3⟩)
      · exact ⟨0, l, by simp, by simp, hx⟩
      · exact ⟨i + 1, r, by simpa using h1, by omega, h3⟩
    · rintro ⟨i, r, h1, h2, h3⟩
      cases i with
      | zero =>
        simp only [List.getElem?_cons_zero, Option.some.injEq] at h1
        subst h1
        exact .inl ⟨p.2, h3, by rw [Nat.add_zero] at h2; rw [← h2]⟩
      | succ i =>
        refine .inr ⟨i, r, by simpa using h1, by omega, h3⟩
theorem af_pw : ∀ {g : List (List Int)} {k : Nat}, (∀ r ∈ g, r.Pairwise (· < ·)) → (af k g).Pairwise lexLt
  | [], k, _ => by simp [af]
  | l :: g, k, h => by
    unfold af
    rw [List.pairwise_append]
    refine ⟨?_, af_pw fun r hr => h r (by simp [hr]), ?_⟩
    · rw [List.pairwise_map]
      exact (h l (by simp)).imp fun h => .inr ⟨rfl, h⟩
    · intro a ha b hb
      obtain ⟨x, _, rfl⟩ := List.mem_map.1 ha
      obtain ⟨i, r, _, h2, _⟩ := mem_af.1 hb
      left
      show (k : Int) < b.1
      omega
theorem af_isTab {g : List (List Int)} (h : ∀ r ∈ g, r.Pairwise (· < ·)) : IsTab g.length (af 0 g) g := by
  refine ⟨rfl, fun i r hr => ⟨h r (List.mem_of_getElem? hr), fun x => ?_⟩⟩
  rw [mem_af]
  constructor
  · intro hx; exact ⟨i, r, hr, by simp, hx⟩
  · rintro ⟨i', r', h1, h2, h3⟩
    have : i' = i := by simp at h2; omega
    subst this
    rw [hr] at h1
    cases h1
    exact h3
theorem isTab_pw {n : Nat} {l : List (Int × Int)} {T : List (List Int)} (h : IsTab n l T) : ∀ r ∈ T, r.Pairwise (· < ·) := fun r hr => by
  obtain ⟨i, hi⟩ := List.getElem?_of_mem hr
  exact (h.2 i r hi).1
theorem isTab_mem {n : Nat} {l : List (Int × Int)} {T : List (List Int)} (h : IsTab n l T) (hl : InR n l) (p : Int × Int) : p ∈ af 0 T ↔ p ∈ l := by
  rw [mem_af]
  constructor
  · rintro ⟨i, r, h1, h2, h3⟩
    have := ((h.2 i r h1).2 p.2).1 h3
    rw [Nat.zero_add] at h2
    rw [← h2] at this
    exact this
  · intro hp
    obtain ⟨h1, h2, _, _⟩ := hl p hp
    obtain ⟨a, ha⟩ := Int.eq_ofNat_of_zero_le h1
    have hlt : a < T.length := by rw [h.1]; omega
    refine ⟨a, T[a], List.getElem?_eq_getElem hlt, by omega, ?_⟩
    rw [(h.2 a _ (List.getElem?_eq_getElem hlt)).2, ← ha]
    exact hp
theorem isTab_perm {n : Nat} {l : List (Int × Int)} {T : List (List Int)} (h : IsTab n l T) (hl : InR n l) (hn : l.Nodup) : (af 0 T).Perm l :=
  (List.perm_ext_iff_of_nodup (lex_nodup (af_pw (isTab_pw h))) hn).2 (isTab_mem h hl)
theorem isTab_gr {n : Nat} {l : List (Int × Int)} {T : List (List Int)} (h : IsTab n l T) (hl : InR n l) (hn : n ≤ 100) (hm : (af 0 T).length ≤ 600) : Gr T := by
  refine ⟨by rw [h.1]; exact hn, fun r hr => ⟨isTab_pw h r hr, fun x hx => ?_⟩, by rw [← af_len 0]; exact hm⟩
  obtain ⟨i, hi⟩ := List.getElem?_of_mem hr
  have := hl _ (((h.2 i r hi).2 x).1 hx)
  rw [h.1]
  exact ⟨this.2.2.1, this.2.2.2⟩
theorem gr_in {g : List (List Int)} (h : Gr g) : InR g.length (af 0 g) := fun p hp => by
  obtain ⟨i, r, h1, h2, h3⟩ := mem_af.1 hp
  have h4 := (List.getElem?_eq_some_iff.1 h1).1
  have h5 := (h.2.1 r (List.mem_of_getElem? h1)).2 _ h3
  refine ⟨by omega, by omega, h5.1, h5.2⟩
theorem gr_pw {g : List (List Int)} (h : Gr g) : ∀ r ∈ g, r.Pairwise (· < ·) := fun r hr => (h.2.1 r hr).1
def ofE (n : Int) : List (Int × Int) → List (Int × Int) → Int
  | _, [] => 0
  | seen, p :: l => if p.1 < 0 ∨ n ≤ p.1 ∨ p.2 < 0 ∨ n ≤ p.2 then 3 else if p ∈ seen then 6 else ofE n (seen ++ [p]) l
theorem ofE_cons {n : Int} {seen : List (Int × Int)} {p : Int × Int} {l : List (Int × Int)} : ofE n seen (p :: l) = if p.1 < 0 ∨ n ≤ p.1 ∨ p.2 < 0 ∨ n ≤ p.2 then 3 else if p ∈ seen then 6 else ofE n (seen ++ [p]) l := rfl
theorem ofE_ok {n : Nat} : ∀ {l seen : List (Int × Int)}, ofE n seen l = 0 ↔ InR n l ∧ l.Nodup ∧ ∀ p ∈ l, p ∉ seen
  | [], seen => by simp [ofE, InR]
  | p :: l, seen => by
    unfold ofE
    by_cases h1 : p.1 < 0 ∨ (n : Int) ≤ p.1 ∨ p.2 < 0 ∨ (n : Int) ≤ p.2
    · rw [if_pos h1]
      refine ⟨fun h => by simp at h, fun h => ?_⟩
      have := h.1 p (by simp); omega
    · rw [if_neg h1]
      by_cases h2 : p ∈ seen
      · rw [if_pos h2]
        refine ⟨fun h => by simp at h, fun h => ?_⟩
        exact absurd h2 (h.2.2 p (by simp))
      · rw [if_neg h2, ofE_ok, List.nodup_cons]
        constructor
        · rintro ⟨a1, a2, a3⟩
          refine ⟨fun q hq => ?_, ⟨fun hp => a3 p hp (by simp), a2⟩, fun q hq => ?_⟩
          · rcases List.mem_cons.1 hq with rfl | hq
            · omega
            · exact a1 q hq
          · rcases List.mem_cons.1 hq with rfl | hq
            · exact h2
            · exact fun h => a3 q hq (by simp [h])
        · rintro ⟨a1, ⟨a2, a3⟩, a4⟩
          refine ⟨fun q hq => a1 q (by simp [hq]), a3, fun q hq h => ?_⟩
          rcases List.mem_append.1 h with h | h
          · exact a4 q (by simp [hq]) h
          · have : q = p := by simpa using h
            subst this; exact a2 hq
def ofM (n : Int) (l : List (Int × Int)) : List (List Int) × Int :=
  if n < 0 ∨ 100 < n then ([], 3) else if 600 < l.length then ([], 2) else if ofE n [] l ≠ 0 then ([], ofE n [] l) else (tab n.toNat (srtA l), 0)
theorem of_l {F n : Nat} {l : List (Int × Int)} (hF : 1000 ≤ F) (hn : n ≤ 100) (hl : l.length ≤ 600) : ∀ (k j : Nat), l.length < k + j → j ≤ l.length → (ofE n [] l = ofE n (l.take j) (l.drop j)) →
    M_graph_Of_l3 F (n : Int) l k ((j : Int), l.take j) = some (if ofE n [] l ≠ 0 then ([], ofE n [] l) else (tab n (srtA l), 0))
  | 0, _, _, _, _ => by omega
  | k + 1, j, h, hj, he => by
    show M_graph_Of_b3 F (n : Int) l (M_graph_Of_l3 F (n : Int) l k) (j : Int) (l.take j) = _
    unfold M_graph_Of_b3
    by_cases hlt : j < l.length
    · have hrec := of_l (F := F) hF hn hl k (j + 1) (by omega) (by omega)
      rw [if_pos (by simp; omega), idx_nat, List.getElem?_eq_getElem hlt]
      simp only [Option.bind_some]
      rw [List.drop_eq_getElem_cons hlt, ofE_cons] at he
      by_cases h1 : l[j].1 < 0 ∨ (n : Int) ≤ l[j].1 ∨ l[j].2 < 0 ∨ (n : Int) ≤ l[j].2
      · rw [if_pos h1] at he
        rw [if_pos (by simp only [Bool.or_eq_true, decide_eq_true_eq]; omega), if_pos (by rw [he]; decide), he]
      · rw [if_neg h1] at he
        rw [if_neg (by simp only [Bool.or_eq_true, decide_eq_true_eq]; omega)]
        by_cases h2 : l[j] ∈ l.take j
        · rw [if_pos h2] at he
          rw [if_pos (by simpa using h2), if_pos (by rw [he]; decide), he]
        · rw [if_neg h2, ← take_snoc hlt] at he
          rw [if_neg (by simpa using h2)]
          have : sins (l.take j) (l[j].1, l[j].2) = some (l.take (j + 1)) := by
            unfold sins
            rw [if_neg h2, take_snoc hlt]
          rw [this]
          simp only [Option.bind_some]
          rw [iadd1_n (by omega)]
          exact hrec he
    · rw [List.drop_eq_nil_of_le (by omega)] at he
      have he : ofE n [] l = 0 := he
      obtain ⟨a1, a2, _⟩ := ofE_ok.1 he
      rw [if_neg (by simp; omega), if_neg (by rw [he]; decide)]
      unfold M_graph_Of_j2 M_slices_Values_api_Arc_api_Arc
      simp only [Option.bind_some]
      rw [sortedFunc_eq (by omega) (by omega) (by omega)]
      simp only [Option.bind_some]
      rw [built_eq (fun p hp => by have := a1 p ((srtA_perm l).mem_iff.1 hp); omega) (by rw [srtA_len]; omega) (by rw [srtA_len]; omega) (by omega)]
      rfl
theorem of_eq {F : Nat} {n : Int} {l : List (Int × Int)} (hF : 1000 ≤ F) : M_graph_Of F n l = some (ofM n l) := by
  unfold M_graph_Of ofM
  by_cases h1 : n < 0 ∨ 100 < n
  · rw [if_pos (by simpa using h1), if_pos h1]
  · rw [if_neg (by simpa using h1), if_neg h1]
    by_cases h2 : 600 < l.length
    · rw [if_pos (by simp; omega), if_pos h2]
    · rw [if_neg (by simp; omega), if_neg h2]
      obtain ⟨m, rfl⟩ := Int.eq_ofNat_of_zero_le (show 0 ≤ n by omega)
      have := of_l (F := F) (n := m) (l := l) hF (by omega) (by omega) F 0 (by omega) (by omega) (by simp)
      rw [List.take_zero] at this
      exact this
theorem ofM_tab {n : Nat} {l : List (Int × Int)} (hn : n ≤ 100) (hl : l.length ≤ 600) (h1 : InR n l) (h2 : l.Nodup) : ofM n l = (tab n (srtA l), 0) := by
  have h3 : ofE n [] l = 0 := ofE_ok.2 ⟨h1, h2, fun p _ => by simp⟩
  unfold ofM
  rw [if_neg (by omega), if_neg (by omega), if_neg (by rw [h3]; decide), Int.toNat_natCast]
theorem srt_isTab {n : Nat} {l : List (Int × Int)} (h : l.Nodup) : IsTab n l (tab n (srtA l)) :=
  isTab_congr (tab_isTab (srtA_strict h)) fun _ => (srtA_perm l).mem_iff
theorem hasArc_l {F : Nat} {l : List (Int × Int)} {a b : Int} (hm : l.length ≤ 1000000) : ∀ (k j : Nat), l.length < k + j → j ≤ l.length → M_R_HasArc_l3 F l a b k (j : Int) = some (decide ((a, b) ∈ l.drop j))
  | 0, _, _, _ => by omega
  | k + 1, j, h, hj => by
    show M_R_HasArc_b3 F l a b (M_R_HasArc_l3 F l a b k) (j : Int) = _
    unfold M_R_HasArc_b3
    by_cases hlt : j < l.length
    · rw [if_pos (by simp; omega), idx_nat, List.getElem?_eq_getElem hlt, List.drop_eq_getElem_cons hlt]
      simp only [Option.bind_some]
      by_cases hc : l[j] = (a, b)
      · rw [if_pos (by simp [hc])]; simp [hc]
      · rw [if_neg (by simp only [Bool.and_eq_true, beq_iff_eq]; exact fun h => hc (Prod.ext h.1 h.2)), iadd1_n (by omega), hasArc_l hm k (j + 1) (by omega) (by omega)]
        have : ¬ (a, b) = l[j] := fun h => hc h.symm
        simp only [List.mem_cons, this, false_or]
    · rw [if_neg (by simp; omega), List.drop_eq_nil_of_le (by omega)]
      rfl
theorem hasArc_eq {F : Nat} {l : List (Int × Int)} {a b : Int} (hm : l.length ≤ 1000000) (hF : l.length < F) : M_R_HasArc F l a b = some (decide ((a, b) ∈ l)) := by
  unfold M_R_HasArc
  have := hasArc_l (F := F) (a := a) (b := b) hm F 0 (by omega) (by omega)
  rw [List.drop_zero] at this
  exact this
theorem arcs_eq {F : Nat} {g : List (List Int)} (hF : 1000 ≤ F) : M_graph_Arcs F g = some (if gchk g ≠ 0 then ([], gchk g) else (af 0 g, 0)) := by
  unfold M_graph_Arcs M_graph_All
  rw [graphCheck_eq hF]
  simp only [Option.bind_some]
  by_cases h : gchk g = 0
  · rw [if_neg (by simp [h]), if_neg (by simp [h]), collect_all hF (gchk_ok.1 h)]
    rfl
  · rw [if_pos (by simpa using h), if_pos h]
def sw (l : List (Int × Int)) : List (Int × Int) := l.map fun p => (p.2, p.1)
theorem sw_len (l : List (Int × Int)) : (sw l).length = l.length := by simp [sw]
theorem sw_mem {l : List (Int × Int)} {p : Int × Int} : p ∈ sw l ↔ (p.2, p.1) ∈ l := by
  unfold sw
  rw [List.mem_map]
  constructor
  · rintro ⟨q, hq, rfl⟩; exact hq
  · intro h; exact ⟨_, h, rfl⟩
theorem sw_in {n : Nat} {l : List (Int × Int)} (h : InR n l) : InR n (sw l) := fun p hp => by
  have := h _ (sw_mem.1 hp)
  exact ⟨this.2.2.1, this.2.2.2, this.1, this.2.1⟩
theorem sw_nodup {l : List (Int × Int)} (h : l.Nodup) : (sw l).Nodup := by
  have h : l.Pairwise fun a b => a ≠ b := h
  show (sw l).Pairwise fun a b => a ≠ b
  unfold sw
  rw [List.pairwise_map]
  exact h.imp fun {a b} hab he => hab (by cases a; cases b; simp_all)
theorem gr_len {g : List (List Int)} (h : Gr g) : (af 0 g).length ≤ 600 := by rw [af_len]; exact h.2.2
theorem gr_nodup {g : List (List Int)} (h : Gr g) : (af 0 g).Nodup := lex_nodup (af_pw (gr_pw h))
/-- The turned graph. -/
def tn (g : List (List Int)) : List (List Int) := tab g.length (srtA (sw (af 0 g)))
theorem tn_isTab {g : List (List Int)} (h : Gr g) : IsTab g.length (sw (af 0 g)) (tn g) := srt_isTab (sw_nodup (gr_nodup h))
theorem turn_eq {F : Nat} {g : List (List Int)} (hF : 1000 ≤ F) : M_graph_Turn F g = some (if gchk g ≠ 0 then ([], gchk g) else (tn g, 0)) := by
  unfold M_graph_Turn
  rw [graphCheck_eq hF]
  simp only [Option.bind_some]
  by_cases h : gchk g = 0
  · have hg := gchk_ok.1 h
    have h1 := hg.1
    have h2 := gr_len hg
    rw [if_neg (by simp [h]), if_neg (by simp [h]), turned_eq hF hg]
    simp only [Option.bind_some]
    show (M_slices_Values_api_Arc_api_Arc F (sw (af 0 g))).bind _ = _
    unfold M_slices_Values_api_Arc_api_Arc
    simp only [Option.bind_some]
    show (M_slices_SortedFunc_api_Arc_slices_Values_api_Arc_api_Arc_1_graph_order F (sw (af 0 g))).bind _ = _
    rw [sortedFunc_eq (by omega) (by rw [sw_len]; omega) (by rw [sw_len]; omega)]
    simp only [Option.bind_some]
    rw [built_eq (fun p hp => by have := sw_in (gr_in hg) p ((srtA_perm _).mem_iff.1 hp); omega) (by rw [srtA_len, sw_len]; omega) (by rw [srtA_len, sw_len]; omega) (by omega)]
    rfl
  · rw [if_pos (by simpa using h), if_pos h]
theorem sw_snoc (l : List (Int × Int)) (p : Int × Int) : sw (l ++ [p]) = sw l ++ [(p.2, p.1)] := by simp [sw]
def ddA : Int × Int → List (Int × Int) → List (Int × Int)
  | _, [] => []
  | p, q :: l => if q = p then ddA p l else q :: ddA q l
def ddP : List (Int × Int) → List (Int × Int)
  | [] => []
  | p :: l => p :: ddA p l
theorem ddA_mem : ∀ {l : List (Int × Int)} {p x : Int × Int}, x ∈ p :: ddA p l ↔ x ∈ p :: l
  | [], p, x => by simp [ddA]
  | q :: l, p, x => by
    unfold ddA
    by_cases h : q = p
    · rw [if_pos h, ddA_mem, h]; simp
    · rw [if_neg h, List.mem_cons, ddA_mem, List.mem_cons (a := x) (b := p)]
theorem ddP_mem {l : List (Int × Int)} {x : Int × Int} : x ∈ ddP l ↔ x ∈ l := by
  cases l with
  | nil => simp [ddP]
  | cons p l => exact ddA_mem
theorem ddA_len : ∀ (l : List (Int × Int)) (p : Int × Int), (ddA p l).length ≤ l.length
  | [], p => by simp [ddA]
  | q :: l, p => by
    unfold ddA
    split
    · have := ddA_len l p; simp; omega
    · have := ddA_len l q; simp; omega
theorem ddP_len (l : List (Int × Int)) : (ddP l).length ≤ l.length := by
  cases l with
  | nil => simp [ddP]
  | cons p l => have := ddA_len l p; simp [ddP]; omega
theorem drop_set_lt {α : Type} {xs : List α} {a b : Nat} {v : α} (h : a < b) : (xs.set a v).drop b = xs.drop b := by
  apply List.ext_getElem (by simp)
  intro i h1 h2
  simp only [List.getElem_drop]
  rw [List.getElem_set, if_neg (by omega)]
theorem compact_in {F K : Nat} {l : List (Int × Int)} (hm : l.length ≤ 1000000) (hK : K < l.length) : ∀ (n k2 k : Nat) (x : List (Int × Int)), l.length < n + (K + k2) → 1 ≤ k2 → K + k2 ≤ l.length → x.length = l.length → k < K + k2 → x.drop (K + k2 - 1) = l.drop (K + k2 - 1) → x.take k ++ ddA (l.getD (K + k2 - 1) (0, 0)) (l.drop (K + k2)) = ddP l →
    M_slices_Compact_api_Arc_api_Arc_l116 F l (K : Int) n (x, (k : Int), (k2 : Int)) = some (ddP l)
  | 0, _, _, _, _, _, _, _, _, _, _ => by omega
  | n + 1, k2, k, x, h, h1, h2, hx, hk, hd, he => by
    have hat : ∀ j, K + k2 - 1 ≤ j → x[j]? = l[j]? := fun j hj => by
      have := congrArg (fun z => z[j - (K + k2 - 1)]?) hd
      simp only [List.getElem?_drop] at this
      rwa [show K + k2 - 1 + (j - (K + k2 - 1)) = j from by omega] at this
    show M_slices_Compact_api_Arc_api_Arc_b116 F l (K : Int) (M_slices_Compact_api_Arc_api_Arc_l116 F l (K : Int) n) x (k : Int) (k2 : Int) = _
    unfold M_slices_Compact_api_Arc_api_Arc_b116
    rw [Int.toNat_natCast]
    by_cases hlt : K + k2 < l.length
    · have hlt1 : K + k2 - 1 < l.length := by omega
      rw [if_pos (by simp; omega)]
      simp only [chk]
      rw [if_pos (by simp [hx]), idx_nat, List.getElem?_drop, hat _ (by omega), List.getElem?_eq_getElem hlt]
      simp only [Option.bind_some]
      rw [if_pos (by simp [hx]), isub1_n h1 (by omega), idx_nat, List.getElem?_drop, show K + (k2 - 1) = K + k2 - 1 from by omega, hat _ (by omega), List.getElem?_eq_getElem hlt1]
      simp only [Option.bind_some]
      rw [List.drop_eq_getElem_cons hlt, show l.getD (K + k2 - 1) (0, 0) = l[K + k2 - 1] from by simp [List.getD, List.getElem?_eq_getElem hlt1]] at he
      unfold ddA at he
      have hgd : l.getD (K + (k2 + 1) - 1) (0, 0) = l[K + k2] := by rw [show K + (k2 + 1) - 1 = K + k2 from by omega]; simp [List.getD, List.getElem?_eq_getElem hlt]
      have hrec := compact_in (F := F) hm hK n (k2 + 1)
      by_cases hc : l[K + k2] = l[K + k2 - 1]
      · rw [if_pos hc] at he
        rw [if_neg (by simp [hc])]
        unfold M_slices_Compact_api_Arc_api_Arc_j117
        rw [iadd1_n (by omega)]
        refine hrec k x (by omega) (by omega) (by omega) hx (by omega) ?_ ?_
        · have := congrArg (fun z => z.drop 1) hd
          simp only [List.drop_drop] at this
          rwa [show K + k2 - 1 + 1 = K + (k2 + 1) - 1 from by omega] at this
        · rw [hgd, hc]; exact he
      · rw [if_neg hc] at he
        rw [if_pos (by simp only [Bool.not_eq_true', Bool.and_eq_false_iff, beq_eq_false_iff_ne, ne_eq]; by_cases h5 : l[K + k2].1 = l[K + k2 - 1].1
                       · exact .inr fun h6 => hc (Prod.ext h5 h6)
                       · exact .inl h5), if_pos (by simp [hx]), idx_nat, List.getElem?_eq_getElem (by omega)]
        simp only [Option.bind_some, lett, Int.toNat_natCast]
        unfold M_slices_Compact_api_Arc_api_Arc_j117
        rw [iadd1_n (by omega), iadd1_n (by omega)]
        refine hrec (k + 1) _ (by omega) (by omega) (by omega) (by simp [hx]) (by omega) ?_ ?_
        · rw [drop_set_lt (by omega)]
          have := congrArg (fun z => z.drop 1) hd
          simp only [List.drop_drop] at this
          rwa [show K + k2 - 1 + 1 = K + (k2 + 1) - 1 from by omega] at this
        · have hkl : k < x.length := by omega
          rw [hgd, take_snoc (by simp; omega), List.take_set_of_le (by omega), List.getElem_set_self, List.append_assoc]
          exact he
    · rw [if_neg (by simp; omega)]
      unfold M_slices_Compact_api_Arc_api_Arc_j113
      rw [List.drop_eq_nil_of_le (by omega)] at he
      simp only [ddA, List.append_nil] at he
      simp only [chk, lett]
      rw [if_pos (by simp; omega), Int.toNat_natCast]
      have := sub_n (l := x.take k ++ List.replicate (x.length - k) ((0 : Int), (0 : Int))) (i := 0) (j := k) (by omega) (by simp; omega)
      rw [show ((0 : Nat) : Int) = 0 from rfl, List.drop_zero, List.take_append_of_le_length (by simp; omega), List.take_take, Nat.min_self] at this
      rw [this, he]
      rfl
theorem compact_out {F : Nat} {l : List (Int × Int)} (hF : l.length < F) (hm : l.length ≤ 1000000) : ∀ (n k : Nat), l.length < n + k → 1 ≤ k → k ≤ l.length → l.take k ++ ddA (l.getD (k - 1) (0, 0)) (l.drop k) = ddP l →
    M_slices_Compact_api_Arc_api_Arc_l98 F l n (k : Int) = some (ddP l)
  | 0, _, _, _, _, _ => by omega
  | n + 1, k, h, h1, h2, he => by
    show M_slices_Compact_api_Arc_api_Arc_b98 F l (M_slices_Compact_api_Arc_api_Arc_l98 F l n) (k : Int) = _
    unfold M_slices_Compact_api_Arc_api_Arc_b98
    by_cases hlt : k < l.length
    · have hlt1 : k - 1 < l.length := by omega
      have hgd0 : l.getD (k - 1) (0, 0) = l[k - 1] := by simp [List.getD, List.getElem?_eq_getElem hlt1]
      have hgd : l.getD (k + 1 - 1) (0, 0) = l[k] := by rw [show k + 1 - 1 = k from by omega]; simp [List.getD, List.getElem?_eq_getElem hlt]
      rw [List.drop_eq_getElem_cons hlt, hgd0] at he
      unfold ddA at he
      rw [if_pos (by simp; omega), idx_nat, List.getElem?_eq_getElem hlt]
      simp only [Option.bind_some]
      rw [isub1_n h1 (by omega), idx_nat, List.getElem?_eq_getElem hlt1]
      simp only [Option.bind_some]
      by_cases hc : l[k] = l[k - 1]
      · rw [if_pos hc] at he
        rw [if_pos (by simp [hc])]
        simp only [chk]
        rw [if_pos (by simp; omega)]
        refine compact_in (F := F) hm hlt F 1 k l (by omega) (by omega) (by omega) rfl (by omega) rfl ?_
        rw [hgd, hc]; exact he
      · rw [if_neg hc] at he
        rw [if_neg (by simp only [Bool.and_eq_true, beq_iff_eq]; exact fun h => hc (Prod.ext h.1 h.2))]
        unfold M_slices_Compact_api_Arc_api_Arc_j108
        rw [iadd1_n (by omega)]
        refine compact_out hF hm n (k + 1) (by omega) (by omega) (by omega) ?_
        rw [hgd, take_snoc hlt, List.append_assoc]; exact he
    · rw [if_neg (by simp; omega)]
      unfold M_slices_Compact_api_Arc_api_Arc_j59
      rw [List.drop_eq_nil_of_le (by omega), List.take_of_length_le (by omega)] at he
      simp only [ddA, List.append_nil] at he
      exact congrArg some he
theorem compactA_eq {F : Nat} {l : List (Int × Int)} (hF : l.length < F) (hm : l.length ≤ 1000000) : M_slices_Compact_api_Arc_api_Arc F l = some (ddP l) := by
  unfold M_slices_Compact_api_Arc_api_Arc
  by_cases h : l.length < 2
  · rw [if_pos (by simp; omega)]
    match l, h with
    | [], _ => rfl
    | [p], _ => rfl
  · rw [if_neg (by simp; omega)]
    refine compact_out hF hm F 1 (by omega) (by omega) (by omega) ?_
    cases l with
    | nil => simp at h
    | cons p l => rfl
def bw (g : List (List Int)) : List (Int × Int) := af 0 g ++ sw (af 0 g)
def bd (g : List (List Int)) : List (Int × Int) := ddP (srtA (bw g))
def bt (g : List (List Int)) : List (List Int) := tab g.length (bd g)
theorem bd_mem {g : List (List Int)} {p : Int × Int} : p ∈ bd g ↔ p ∈ bw g := by
  unfold bd
  rw [ddP_mem, (srtA_perm _).mem_iff]
theorem bw_in {g : List (List Int)} (h : Gr g) : InR g.length (bw g) := fun p hp => by
  rcases List.mem_append.1 hp with hp | hp
  · exact gr_in h p hp
  · exact sw_in (gr_in h) p hp
theorem bd_in {g : List (List Int)} (h : Gr g) : InR g.length (bd g) := fun p hp => bw_in h p (bd_mem.1 hp)
theorem bw_len {g : List (List Int)} (h : Gr g) : (bw g).length ≤ 1200 := by
  have := gr_len h
  unfold bw
  rw [List.length_append, sw_len]; omega
theorem bd_len {g : List (List Int)} (h : Gr g) : (bd g).length ≤ 1200 := by
  have h1 := ddP_len (srtA (bw g))
  rw [srtA_len] at h1
  have := bw_len h
  unfold bd; omega
def bothM (g : List (List Int)) : List (List Int) × Int := if 600 < (bd g).length then ([], 2) else (bt g, 0)
theorem both_eq {F : Nat} {g : List (List Int)} (hF : 2000 ≤ F) : M_graph_Both F g = some (if gchk g ≠ 0 then ([], gchk g) else bothM g) := by
  unfold M_graph_Both M_graph_All
  rw [graphCheck_eq (by omega)]
  simp only [Option.bind_some]
  by_cases h : gchk g = 0
  · have hg := gchk_ok.1 h
    have h1 := hg.1
    have h2 := gr_len hg
    have h3 := bw_len hg
    have h4 := bd_len hg
    rw [if_neg (by simp [h]), if_neg (by simp [h]), collect_all (by omega) hg]
    simp only [Option.bind_some]
    rw [turned_eq (by omega) hg]
    simp only [Option.bind_some]
    show (app _ (af 0 g) (sw (af 0 g))).bind _ = _
    rw [app_eq (by rw [sw_len]; omega)]
    simp only [Option.bind_some]
    show (M_slices_SortFunc_api_Arc_api_Arc_graph_order F (bw g)).bind _ = _
    rw [sortFunc_eq (by omega) (by omega)]
    simp only [Option.bind_some, chk]
    rw [if_pos (by rw [srtA_len]; simp [bw]), compactA_eq (by rw [srtA_len]; omega) (by rw [srtA_len]; omega)]
    simp only [Option.bind_some]
    show (if decide (600 < ((bd g).length : Int)) then _ else (M_graph_Built F (g.length : Int) (bd g)).bind _) = _
    unfold bothM
    by_cases h5 : 600 < (bd g).length
    · rw [if_pos (by simp; omega), if_pos h5]
    · rw [if_neg (by simp; omega), if_neg h5, built_eq (fun p hp => by have := bd_in hg p hp; omega) (by omega) (by omega) (by omega)]
      rfl
  · rw [if_pos (by simpa using h), if_pos h]
def lens (g : List (List Int)) : List Int := g.map fun r => (r.length : Int)
def deg (n : Nat) (l : List (Int × Int)) : List Int := lens (tab n l)
theorem deg_len (n : Nat) (l : List (Int × Int)) : (deg n l).length = n := by simp [deg, lens, tab]
theorem deg_get {n i : Nat} {l : List (Int × Int)} (h : i < n) : (deg n l)[i]? = some ((rowOf l i).length : Int) := by
  unfold deg lens
  rw [List.getElem?_map, tab_get h]; rfl
theorem deg_snoc {n a : Nat} {l : List (Int × Int)} {b : Int} : deg n (l ++ [((a : Int), b)]) = (deg n l).set a (((rowOf l a).length + 1 : Nat) : Int) := by
  unfold deg lens
  rw [tab_snoc, List.map_set, List.length_append, List.length_singleton]
theorem deg_perm {n : Nat} {l l' : List (Int × Int)} (h : l.Perm l') : deg n l = deg n l' := by
  unfold deg lens tab
  rw [List.map_map, List.map_map]
  refine List.map_congr_left fun i _ => ?_
  show ((rowOf l i).length : Int) = ((rowOf l' i).length : Int)
  unfold rowOf
  rw [List.length_map, List.length_map, (h.filter _).length_eq]
theorem deg_isTab {n : Nat} {l : List (Int × Int)} {T : List (List Int)} (h : IsTab n l T) (hn : l.Nodup) : deg n l = lens T := by
  rw [isTab_uniq h (srt_isTab hn) fun p => Iff.rfl, ← deg_perm (srtA_perm l)]
  rfl
theorem degrees_fold {F n : Nat} {yy : (List Int × List Int) → (Int × Int) → Option ((List Int × List Int) ⊕ Empty)} (hy : ∀ s p, yy s p = M_graph_Degrees_r3 F s.1 s.2 p.1 p.2) : ∀ (A acc : List (Int × Int)), InR n A → acc.length + A.length ≤ 1000000 →
    runFold yy A (deg n (sw acc), deg n acc) = some (.inl (deg n (sw (acc ++ A)), deg n (acc ++ A)))
  | [], acc, _, _ => by rw [List.append_nil]; rfl
  | p :: A, acc, h, hm => by
    rw [List.length_cons] at hm
    obtain ⟨h1, h2, h3, h4⟩ := h p (by simp)
    have hrec := degrees_fold hy A (acc ++ [p]) (fun q hq => h q (by simp [hq])) (by simp; omega)
    rw [List.append_assoc] at hrec
    show (yy _ p).bind _ = _
    rw [hy]
    unfold M_graph_Degrees_r3
    obtain ⟨a, ha⟩ := Int.eq_ofNat_of_zero_le h1
    obtain ⟨b, hb⟩ := Int.eq_ofNat_of_zero_le h3
    have e : p = ((a : Int), (b : Int)) := Prod.ext ha hb
    have hl1 := rowOf_len acc (a : Int)
    have hl2 := rowOf_len (sw acc) (b : Int)
    rw [sw_len] at hl2
    subst e
    simp only at *
    rw [idx_nat, deg_get (by omega)]
    simp only [Option.bind_some, lett]
    rw [idx_nat, deg_get (by omega)]
    simp only [Option.bind_some]
    rw [iadd1_n (by omega), iadd1_n (by omega), Int.toNat_natCast, Int.toNat_natCast, ← deg_snoc (b := (a : Int)), ← deg_snoc (b := (b : Int))]
    rw [sw_snoc] at hrec
    simp only [Sum.elim_inl]
    exact hrec
theorem lens_tab_nil (n : Nat) : deg n [] = List.replicate n 0 := by
  unfold deg lens
  rw [tab_nil, List.map_replicate]; rfl
def degM (g : List (List Int)) : List Int × List Int × Int := if gchk g ≠ 0 then ([], [], gchk g) else (lens g, lens (tn g), 0)
theorem degrees_eq {F : Nat} {g : List (List Int)} (hF : 1000 ≤ F) : M_graph_Degrees F g = some (degM g) := by
  unfold M_graph_Degrees degM
  rw [graphCheck_eq hF]
  simp only [Option.bind_some]
  by_cases h : gchk g = 0
  · have hg := gchk_ok.1 h
    have h1 := hg.1
    have h2 := gr_len hg
    rw [if_neg (by simp [h]), if_neg (by simp [h])]
    have hmk : mk 17592186044416 (0 : Int) (g.length : Int) = some (deg g.length []) := by
      unfold mk
      rw [if_pos ⟨by omega, by omega⟩, lens_tab_nil, Int.toNat_natCast]
    rw [hmk]
    simp only [Option.bind_some]
    unfold M_graph_Degrees_j1 M_graph_All
    simp only [Option.bind_some]
    rw [all_eq (by omega) (by omega) (fun l hl => by have := gr_row hg hl; omega)]
    have := degrees_fold (F := F) (n := g.length) (yy := fun x x_1 => M_graph_Degrees_r3 F x.1 x.2 x_1.1 x_1.2) (fun _ _ => rfl) (af 0 g) [] (gr_in hg) (by simp; omega)
    rw [List.nil_append] at this
    refine (congrArg (fun z => Option.bind z _) this).trans ?_
    simp only [Option.bind_some, Sum.elim_inl]
    rw [deg_isTab (af_isTab (gr_pw hg)) (gr_nodup hg), deg_isTab (tn_isTab hg) (sw_nodup (gr_nodup hg))]
  · rw [if_pos (by simpa using h), if_pos h]
theorem same_arcs_l {F : Nat} {xs : List (Int × Int)} (hm : xs.length ≤ 1000000) : ∀ (k i : Nat), xs.length < k + i → i ≤ xs.length → M_R_SameArcs_l3 F xs xs k (i : Int) = some true
  | 0, _, _, _ => by omega
  | k + 1, i, h, hi => by
    show M_R_SameArcs_b3 F xs xs (M_R_SameArcs_l3 F xs xs k) (i : Int) = _
    unfold M_R_SameArcs_b3
    by_cases hlt : i < xs.length
    · rw [if_pos (by simp; omega), idx_nat, List.getElem?_eq_getElem hlt]
      simp only [Option.bind_some]
      rw [if_neg (by simp), iadd1_n (by omega)]
      exact same_arcs_l hm k (i + 1) (by omega) (by omega)
    · rw [if_neg (by simp; omega)]
      rfl
theorem same_arcs {F : Nat} {xs : List (Int × Int)} (hF : xs.length < F) (hm : xs.length ≤ 1000000) : M_R_SameArcs F xs xs = some true := by
  unfold M_R_SameArcs
  rw [if_neg (by simp)]
  exact same_arcs_l hm F 0 (by omega) (by omega)
theorem same_lists_l {F : Nat} {xs : List (List Int)} (hm : xs.length ≤ 1000000) (hr : ∀ r ∈ xs, r.length ≤ 1000000 ∧ r.length < F) : ∀ (k i : Nat), xs.length < k + i → i ≤ xs.length → M_R_SameLists_l3 F xs xs k (i : Int) = some true
  | 0, _, _, _ => by omega
  | k + 1, i, h, hi => by
    show M_R_SameLists_b3 F xs xs (M_R_SameLists_l3 F xs xs k) (i : Int) = _
    unfold M_R_SameLists_b3
    by_cases hlt : i < xs.length
    · have := hr _ (List.getElem_mem hlt)
      rw [if_pos (by simp; omega), idx_nat, List.getElem?_eq_getElem hlt]
      simp only [Option.bind_some]
      rw [same_intsR this.2 this.1]
      simp only [Option.bind_some]
      rw [if_neg (by simp), iadd1_n (by omega)]
      exact same_lists_l hm hr k (i + 1) (by omega) (by omega)
    · rw [if_neg (by simp; omega)]
      rfl
theorem same_lists {F : Nat} {xs : List (List Int)} (hF : xs.length < F) (hm : xs.length ≤ 1000000) (hr : ∀ r ∈ xs, r.length ≤ 1000000 ∧ r.length < F) : M_R_SameLists F xs xs = some true := by
  unfold M_R_SameLists
  rw [if_neg (by simp)]
  exact same_lists_l hm hr F 0 (by omega) (by omega)
theorem gbg_eq {F : Nat} (hF : 2000 ≤ F) : M_L_graphBegun F = some true := by
  have s1 : srtA [(2, 0), (0, 1), (0, 0)] = [(0, 0), (0, 1), (2, 0)] := srtA_eq (by decide) (by decide)
  have o1 : ofM 3 [(2, 0), (0, 1), (0, 0)] = ([[0, 1], [], [0]], 0) := by
    rw [show (3 : Int) = ((3 : Nat) : Int) from rfl, ofM_tab (by decide) (by decide) (by unfold InR; decide) (by decide), s1]; rfl
  have c1 : gchk [[0, 1], [], [0]] = 0 := by decide
  have hg := gchk_ok.1 c1
  have a1 : af 0 [[0, 1], [], [0]] = [(0, 0), (0, 1), (2, 0)] := rfl
  have t1 : tn [[0, 1], [], [0]] = [[0, 2], [0], []] := by
    unfold tn
    rw [a1, show sw [(0, 0), (0, 1), (2, 0)] = [(0, 0), (1, 0), (0, 2)] from rfl, srtA_eq (m := [(0, 0), (0, 2), (1, 0)]) (by decide) (by decide)]; rfl
  have b0 : bd [[0, 1], [], [0]] = [(0, 0), (0, 1), (0, 2), (1, 0), (2, 0)] := by
    unfold bd bw
    rw [a1, show sw [(0, 0), (0, 1), (2, 0)] = [(0, 0), (1, 0), (0, 2)] from rfl, srtA_eq (m := [(0, 0), (0, 0), (0, 1), (0, 2), (1, 0), (2, 0)]) (by decide) (by decide)]; rfl
  have b1 : bothM [[0, 1], [], [0]] = ([[0, 1, 2], [0], [0]], 0) := by
    unfold bothM bt
    rw [b0]; rfl
  have d1 : degM [[0, 1], [], [0]] = ([2, 0, 1], [2, 1, 0], 0) := by
    unfold degM
    rw [c1, t1]; rfl
  have o2 : ofM 1 [(0, 0), (0, 0)] = ([], 6) := by decide
  unfold M_L_graphBegun
  rw [of_eq (by omega), o1]
  simp only [Option.bind_some]
  rw [arcs_eq (by omega), c1, if_neg (by decide), a1]
  simp only [Option.bind_some]
  rw [turn_eq (by omega), c1, if_neg (by decide), t1]
  simp only [Option.bind_some]
  rw [both_eq hF, c1, if_neg (by decide), b1]
  simp only [Option.bind_some]
  rw [degrees_eq (by omega), d1]
  simp only [Option.bind_some]
  rw [of_eq (by omega), o2]
  simp only [Option.bind_some]
  have sl : ∀ g : List (List Int), g.length ≤ 3 → (∀ r ∈ g, r.length ≤ 3) → M_R_SameLists F g g = some true := fun g h1 h2 => same_lists (by omega) (by omega) (fun r hr => by have := h2 r hr; omega)
  rw [sl _ (by decide) (by decide)]
  simp only [Option.bind_some]
  rw [if_pos (by decide), same_arcs (by simp; omega) (by decide)]
  simp only [Option.bind_some]
  unfold M_L_graphBegun_j1
  rw [if_pos (by decide), sl _ (by decide) (by decide)]
  simp only [Option.bind_some]
  unfold M_L_graphBegun_j2
  rw [if_pos (by decide), sl _ (by decide) (by decide)]
  simp only [Option.bind_some]
  unfold M_L_graphBegun_j3
  rw [if_pos (by decide), same_intsR (by simp; omega) (by decide)]
  simp only [Option.bind_some]
  unfold M_L_graphBegun_j4
  rw [if_pos (by decide), same_intsR (by simp; omega) (by decide)]
  simp only [Option.bind_some]
  unfold M_L_graphBegun_j5
  rw [if_pos (by decide), graphCheck_eq (by omega)]
  simp only [Option.bind_some]
  rfl
theorem ofE_app {n : Int} : ∀ {A B seen : List (Int × Int)}, ofE n seen A = 0 → ofE n seen (A ++ B) = ofE n (seen ++ A) B
  | [], B, seen, _ => by simp
  | p :: A, B, seen, h => by
    rw [ofE_cons] at h
    rw [List.cons_append, ofE_cons]
    by_cases h1 : p.1 < 0 ∨ n ≤ p.1 ∨ p.2 < 0 ∨ n ≤ p.2
    · rw [if_pos h1] at h; exact absurd h (by decide)
    · rw [if_neg h1] at h ⊢
      by_cases h2 : p ∈ seen
      · rw [if_pos h2] at h; exact absurd h (by decide)
      · rw [if_neg h2] at h ⊢
        rw [ofE_app h, List.append_assoc]; rfl
theorem rowOf_snoc {l : List (Int × Int)} {a b i : Int} : (rowOf (l ++ [(a, b)]) i).length = (rowOf l i).length + if i = a then 1 else 0 := by
  unfold rowOf
  rw [List.length_map, List.length_map, List.filter_append, List.length_append]
  congr 1
  by_cases h : i = a
  · rw [if_pos h]; simp [h]
  · rw [if_neg h]
    have : ¬ a = i := fun h2 => h h2.symm
    simp [this]
theorem iadd_step {i : Nat} {l : List (Int × Int)} {v a : Int} (hm : l.length ≤ 1000) (h : v = if (i : Int) = a then 1 else 0) (b : Int) : iadd .i64 ((rowOf l i).length : Int) v = ((rowOf (l ++ [(a, b)]) i).length : Int) := by
  have := rowOf_len l i
  rw [rowOf_snoc, h]
  split
  · rw [iadd_i64 (by omega) (by omega)]; omega
  · rw [iadd_i64 (by omega) (by omega)]; omega
theorem gm_loop {F n : Nat} {l : List (Int × Int)} {a b : Int} {c d : Int} (hn : n ≤ 100) (hl : l.length ≤ 600) : ∀ (k i : Nat), n < k + i → i ≤ n →
    M_L_GraphMore_l40 F a b (deg n l, deg n (sw l), c) (deg n (l ++ [(a, b)]), deg n (sw (l ++ [(a, b)])), d) k (i : Int) = some true
  | 0, _, _, _ => by omega
  | k + 1, i, h, hi => by
    show M_L_GraphMore_b40 F a b (deg n l, deg n (sw l), c) (deg n (l ++ [(a, b)]), deg n (sw (l ++ [(a, b)])), d) (M_L_GraphMore_l40 F a b (deg n l, deg n (sw l), c) (deg n (l ++ [(a, b)]), deg n (sw (l ++ [(a, b)])), d) k) (i : Int) = _
    unfold M_L_GraphMore_b40
    by_cases hlt : i < n
    · have hrec := gm_loop (F := F) (a := a) (b := b) (c := c) (d := d) hn hl k (i + 1) (by omega) (by omega)
      rw [if_pos (by simp [deg_len]; omega)]
      have key : ∀ v u : Int, v = (if (i : Int) = a then 1 else 0) → u = (if (i : Int) = b then 1 else 0) → M_L_GraphMore_j45 F (M_L_GraphMore_l40 F a b (deg n l, deg n (sw l), c) (deg n (l ++ [(a, b)]), deg n (sw (l ++ [(a, b)])), d) k) (deg n l, deg n (sw l), c) (deg n (l ++ [(a, b)]), deg n (sw (l ++ [(a, b)])), d) (i : Int) v u = some true := by
        intro v u hv hu
        unfold M_L_GraphMore_j45
        simp only
        rw [idx_nat, deg_get hlt]
        simp only [Option.bind_some]
        rw [idx_nat, deg_get hlt]
        simp only [Option.bind_some]
        rw [idx_nat, deg_get hlt]
        simp only [Option.bind_some]
        rw [idx_nat, deg_get hlt]
        simp only [Option.bind_some]
        rw [iadd_step (by omega) hv b, sw_snoc, iadd_step (by rw [sw_len]; omega) hu a, if_neg (by simp)]
        unfold M_L_GraphMore_j46
        rw [if_neg (by simp), iadd1_n (by omega), ← sw_snoc l (a, b)]
        exact hrec
      by_cases h1 : (i : Int) = a
      · rw [if_pos (by simpa using h1)]
        unfold M_L_GraphMore_j44
        by_cases h2 : (i : Int) = b
        · rw [if_pos (by simpa using h2)]; exact key _ _ (if_pos h1).symm (if_pos h2).symm
        · rw [if_neg (by simpa using h2)]; exact key _ _ (if_pos h1).symm (if_neg h2).symm
      · rw [if_neg (by simpa using h1)]
        unfold M_L_GraphMore_j44
        by_cases h2 : (i : Int) = b
        · rw [if_pos (by simpa using h2)]; exact key _ _ (if_neg h1).symm (if_pos h2).symm
        · rw [if_neg (by simpa using h2)]; exact key _ _ (if_neg h1).symm (if_neg h2).symm
    · rw [if_neg (by simp [deg_len]; omega)]
      rfl
theorem graphMore_true {F : Nat} {g : List (List Int)} {a b : Int} (hF : 2000 ≤ F) : M_L_GraphMore F g a b = some true := by
  unfold M_L_GraphMore
  rw [arcs_eq (by omega), gbg_eq hF]
  simp only [Option.bind_some]
  rw [if_neg (by decide)]
  by_cases h : gchk g = 0
  · have hg := gchk_ok.1 h
    have h1 := hg.1
    have hl := gr_len hg
    have hn : ¬ gchk g ≠ 0 := by simp [h]
    have h0 : ofE g.length [] (af 0 g) = 0 := ofE_ok.2 ⟨gr_in hg, gr_nodup hg, fun p _ => by simp⟩
    rw [if_neg hn, if_neg (by simp)]
    simp only
    rw [app_eq (by simp; omega)]
    simp only [Option.bind_some, List.nil_append]
    rw [app_eq (by simp; omega)]
    simp only [Option.bind_some]
    rw [of_eq (by omega)]
    simp only [Option.bind_some]
    by_cases h2 : 600 < (af 0 g ++ [(a, b)]).length
    · have hof : ofM (g.length : Int) (af 0 g ++ [(a, b)]) = ([], 2) := by
        unfold ofM
        rw [if_neg (by omega), if_pos h2]
      rw [hof]
      unfold M_L_GraphMore_j1
      rw [if_pos (by simp), if_pos (by simp)]
      rfl
    · have h3 := ofE_app (B := [(a, b)]) h0
      rw [List.nil_append, ofE_cons] at h3
      by_cases c1 : (a, b).1 < 0 ∨ (g.length : Int) ≤ (a, b).1 ∨ (a, b).2 < 0 ∨ (g.length : Int) ≤ (a, b).2
      · rw [if_pos c1] at h3
        have hof : ofM (g.length : Int) (af 0 g ++ [(a, b)]) = ([], 3) := by
          unfold ofM
          rw [if_neg (by omega), if_neg h2, h3, if_pos (by decide)]
        rw [hof]
        unfold M_L_GraphMore_j1
        rw [if_pos (by simp), if_pos (by simp)]
        rfl
      · rw [if_neg c1] at h3
        by_cases c2 : (a, b) ∈ af 0 g
        · rw [if_pos c2] at h3
          have hof : ofM (g.length : Int) (af 0 g ++ [(a, b)]) = ([], 6) := by
            unfold ofM
            rw [if_neg (by omega), if_neg h2, h3, if_pos (by decide)]
          rw [hof]
          unfold M_L_GraphMore_j1
          rw [if_pos (by simp), if_neg (by simp), if_pos (by simp), hasArc_eq (by show (af 0 g).length ≤ _; omega) (by show (af 0 g).length < _; omega)]
          simp only [Option.bind_some]
          rw [decide_eq_true c2]
          rfl
        · rw [if_neg c2] at h3
          have h3 : ofE g.length [] (af 0 g ++ [(a, b)]) = 0 := h3
          obtain ⟨a1, a2, _⟩ := ofE_ok.1 h3
          rw [ofM_tab h1 (by omega) a1 a2]
          unfold M_L_GraphMore_j1
          rw [if_neg (by simp)]
          have hT : IsTab g.length (af 0 g ++ [(a, b)]) (tab g.length (srtA (af 0 g ++ [(a, b)]))) := srt_isTab a2
          have hp := isTab_perm hT a1 a2
          have hgr : Gr (tab g.length (srtA (af 0 g ++ [(a, b)]))) := isTab_gr hT a1 h1 (by rw [hp.length_eq]; omega)
          simp only
          rw [degrees_eq (by omega), degrees_eq (by omega)]
          simp only [Option.bind_some]
          have e1 : lens g = deg g.length (af 0 g) := (deg_isTab (af_isTab (gr_pw hg)) (gr_nodup hg)).symm
          have e2 : lens (tn g) = deg g.length (sw (af 0 g)) := (deg_isTab (tn_isTab hg) (sw_nodup (gr_nodup hg))).symm
          have e3 : lens (tab g.length (srtA (af 0 g ++ [(a, b)]))) = deg g.length (af 0 g ++ [(a, b)]) := (deg_isTab hT a2).symm
          have e4 : lens (tn (tab g.length (srtA (af 0 g ++ [(a, b)])))) = deg g.length (sw (af 0 g ++ [(a, b)])) := by
            have := deg_isTab (tn_isTab hgr) (sw_nodup (gr_nodup hgr))
            rw [tab_len] at this
            rw [← this]
            exact deg_perm (hp.map _)
          have d1 : degM g = (deg g.length (af 0 g), deg g.length (sw (af 0 g)), 0) := by
            unfold degM
            rw [if_neg hn, e1, e2]
          have d2 : degM (tab g.length (srtA (af 0 g ++ [(a, b)]))) = (deg g.length (af 0 g ++ [(a, b)]), deg g.length (sw (af 0 g ++ [(a, b)])), 0) := by
            unfold degM
            rw [gchk_ok.2 hgr, if_neg (by simp), e3, e4]
          rw [d1, d2, if_neg (by simp [deg_len])]
          exact gm_loop h1 hl F 0 (by omega) (by omega)
  · rw [if_pos h, if_pos (by simpa using h)]
end Go.Proofs.Ytghkjonlhphcjaa
