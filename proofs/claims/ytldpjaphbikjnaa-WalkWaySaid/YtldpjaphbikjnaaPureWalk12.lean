/- Plain facts of what the functions of this seat compute. -/
import Derived.Test.YtldpjaphbikjnaaModels
import Derived.KernelRfl
import Derived.Lib.SlicesCompact
namespace Go.Proofs.Ytldpjaphbikjnaa
open Go SX
def Bit (l : List Int) : Prop := ∀ x ∈ l, x = 0 ∨ x = 1
theorem Bit.getD {l : List Int} (h : Bit l) (i : Nat) : l.getD i 0 = 0 ∨ l.getD i 0 = 1 := by
  by_cases hi : i < l.length
  · have := h l[i] (List.getElem_mem hi)
    simpa [List.getD, hi] using this
  · left
    simp [List.getD, List.getElem?_eq_none (Nat.le_of_not_lt hi)]
theorem iadd_n {a b : Nat} (h : a + b < 9223372036854775808) : iadd .i64 (a : Int) (b : Int) = ((a + b : Nat) : Int) := by rw [iadd_i64 (by omega) (by omega)]; omega
theorem iadd1_n {a : Nat} (h : a + 1 < 9223372036854775808) : iadd .i64 (a : Int) 1 = ((a + 1 : Nat) : Int) := by rw [iadd_i64 (by omega) (by omega)]; omega
/-- The bits of a number, in so many places, the highest one first. -/
def nb (n : Nat) : Nat → List Int
  | 0 => []
  | w + 1 => ((n / 2 ^ w % 2 : Nat) : Int) :: nb n w
theorem sub_n {α : Type} {l : List α} {i j : Nat} (h1 : i ≤ j) (h2 : j ≤ l.length) : sub l (i : Int) (j : Int) = some ((l.take j).drop i) := by
  unfold sub
  rw [if_pos ⟨by omega, by omega, by omega⟩, Int.toNat_natCast, Int.toNat_natCast]
/-- How many bits a number has. -/
def len (x : Nat) : Nat := if x = 0 then 0 else x.log2 + 1
def sh (m : Nat) : Nat := len (m - 1)
def dd (m : Nat) : Nat := 2 ^ sh m - m
def le (n m : Nat) : List Int := if n < dd m then nb n (sh m - 1) else nb (n + dd m) (sh m)
theorem same_ints_l (F : Nat) {xs : List Int} (hm : xs.length ≤ 1000000) : ∀ (k i : Nat), xs.length < k + i → i ≤ xs.length → M_R_SameInts_l3 F xs xs k (i : Int) = some true
  | 0, _, _, _ => by omega
  | k + 1, i, h, hi => by
    show M_R_SameInts_b3 F xs xs (M_R_SameInts_l3 F xs xs k) (i : Int) = _
    unfold M_R_SameInts_b3
    by_cases hlt : i < xs.length
    · rw [if_pos (by simp; omega), idx_nat, List.getElem?_eq_getElem hlt]
      simp only [Option.bind_some]
      rw [if_neg (by simp), iadd1_n (by omega)]
      exact same_ints_l F hm k (i + 1) (by omega) (by omega)
    · rw [if_neg (by simp; omega)]; rfl
theorem same_intsR {F : Nat} {xs : List Int} (hF : xs.length < F) (hm : xs.length ≤ 1000000) : M_R_SameInts F xs xs = some true := by
  unfold M_R_SameInts
  rw [if_neg (by simp)]
  exact same_ints_l F hm F 0 (by omega) (by omega)
theorem hasInt_l (F : Nat) {l : List Int} {v : Int} (hm : l.length ≤ 1000000) : ∀ (k i : Nat), l.length < k + i → i ≤ l.length → M_R_HasInt_l3 F l v k (i : Int) = some (decide (v ∈ l.drop i))
  | 0, _, _, _ => by omega
  | k + 1, i, h, hi => by
    show M_R_HasInt_b3 F l v (M_R_HasInt_l3 F l v k) (i : Int) = _
    unfold M_R_HasInt_b3
    by_cases hlt : i < l.length
    · rw [if_pos (by simp; omega), idx_nat, List.getElem?_eq_getElem hlt, List.drop_eq_getElem_cons hlt]
      simp only [Option.bind_some]
      by_cases he : l[i] = v
      · rw [if_pos (by simpa using he)]
        simp [he]
      · rw [if_neg (by simpa using he), iadd1_n (by omega), hasInt_l F hm k (i + 1) (by omega) (by omega)]
        have : (v ∈ l[i] :: l.drop (i + 1)) ↔ v ∈ l.drop (i + 1) := ⟨fun hv => (List.mem_cons.1 hv).resolve_left (fun e => he e.symm), fun hv => List.mem_cons_of_mem _ hv⟩
        rw [decide_eq_decide.2 this]
    · rw [if_neg (by simp; omega), List.drop_eq_nil_of_le (by omega)]
      simp [M_R_HasInt_j2]
theorem hasInt_eq {F : Nat} {l : List Int} {v : Int} (hF : l.length < F) (hm : l.length ≤ 1000000) : M_R_HasInt F l v = some (decide (v ∈ l)) := by
  unfold M_R_HasInt
  have := hasInt_l F (v := v) hm F 0 (by omega) (by omega)
  simpa using this
def runFold {σ τ : Type} (yy : σ → (Int × Int) → Option (σ ⊕ τ)) : List (Int × Int) → σ → Option (σ ⊕ τ)
  | [], s => some (.inl s)
  | r :: R, s => (yy s r).bind (Sum.elim (fun s' => runFold yy R s') (fun t => some (.inr t)))
def rowE (n : Int) : Int → List Int → Int
  | _, [] => 0
  | last, x :: l => if x < 0 ∨ n ≤ x then 3 else if x ≤ last then 4 else rowE n x l
def gE (n : Int) : List (List Int) → Int
  | [] => 0
  | l :: g => if rowE n (-1) l ≠ 0 then rowE n (-1) l else gE n g
def gtot : List (List Int) → Nat
  | [] => 0
  | l :: g => l.length + gtot g
def gchk (g : List (List Int)) : Int := if 100 < g.length then 2 else if gE g.length g ≠ 0 then gE g.length g else if 600 < gtot g then 2 else 0
theorem rowE_ok : ∀ {n last : Int} {l : List Int}, rowE n last l = 0 ↔ (l.Pairwise (· < ·) ∧ ∀ x ∈ l, last < x) ∧ ∀ x ∈ l, 0 ≤ x ∧ x < n
  | n, last, [] => by simp [rowE]
  | n, last, x :: l => by
    unfold rowE
    by_cases h1 : x < 0 ∨ n ≤ x
    · rw [if_pos h1]
      constructor
      · intro h; simp at h
      · rintro ⟨_, h⟩; have := h x (by simp); omega
    · rw [if_neg h1]
      by_cases h2 : x ≤ last
      · rw [if_pos h2]
        constructor
        · intro h; simp at h
        · rintro ⟨⟨_, h⟩, _⟩; have := h x (by simp); omega
      · rw [if_neg h2, rowE_ok, List.pairwise_cons]
        constructor
        · rintro ⟨⟨a1, a2⟩, a3⟩
          refine ⟨⟨⟨a2, a1⟩, fun y hy => ?_⟩, fun y hy => ?_⟩
          · rcases List.mem_cons.1 hy with rfl | hy
            · omega
            · have := a2 y hy; omega
          · rcases List.mem_cons.1 hy with rfl | hy
            · omega
            · exact a3 y hy
        · rintro ⟨⟨⟨a1, a2⟩, a3⟩, a4⟩
          exact ⟨⟨a2, a1⟩, fun y hy => a4 y (by simp [hy])⟩
theorem row_len {n last : Int} : ∀ {l : List Int}, -1 ≤ last → last < n → rowE n last l = 0 → last + 1 + l.length ≤ n
  | [], h1, h2, _ => by simp; omega
  | x :: l, h1, h2, h => by
    unfold rowE at h
    split at h
    · simp at h
    · split at h
      · simp at h
      · have := row_len (l := l) (by omega) (by omega) h
        rw [List.length_cons]; omega
theorem gE_ok {n : Int} : ∀ {g : List (List Int)}, gE n g = 0 ↔ ∀ l ∈ g, rowE n (-1) l = 0
  | [] => by simp [gE]
  | l :: g => by
    unfold gE
    by_cases h : rowE n (-1) l = 0
    · rw [if_neg (by simp [h]), gE_ok]; simp [h]
    · rw [if_pos h]; simp [h]
/-- A graph that is right. -/
def Gr (g : List (List Int)) : Prop := g.length ≤ 100 ∧ (∀ l ∈ g, l.Pairwise (· < ·) ∧ ∀ x ∈ l, 0 ≤ x ∧ x < g.length) ∧ gtot g ≤ 600
theorem gchk_ok {g : List (List Int)} : gchk g = 0 ↔ Gr g := by
  unfold gchk Gr
  by_cases h1 : 100 < g.length
  · rw [if_pos h1]; simp; omega
  · rw [if_neg h1]
    by_cases h2 : gE g.length g = 0
    · rw [if_neg (by simp [h2])]
      have h3 := gE_ok.1 h2
      have h4 : ∀ l ∈ g, l.Pairwise (· < ·) ∧ ∀ x ∈ l, 0 ≤ x ∧ x < (g.length : Int) := fun l hl => by
        have := rowE_ok.1 (h3 l hl)
        exact ⟨this.1.1, this.2⟩
      by_cases h5 : 600 < gtot g
      · rw [if_pos h5]; simp; omega
      · rw [if_neg h5]
        exact ⟨fun _ => ⟨by omega, h4, by omega⟩, fun _ => rfl⟩
    · rw [if_pos h2]
      refine ⟨fun h => absurd h h2, fun h => absurd (gE_ok.2 fun l hl => rowE_ok.2 ⟨⟨(h.2.1 l hl).1, fun x hx => ?_⟩, (h.2.1 l hl).2⟩) h2⟩
      have := (h.2.1 l hl).2 x hx; omega
theorem gr_row {g : List (List Int)} (h : Gr g) {l : List Int} (hl : l ∈ g) : l.length ≤ 100 := by
  have h1 := (h.2.1 l hl).2
  have h2 : rowE g.length (-1) l = 0 := rowE_ok.2 ⟨⟨(h.2.1 l hl).1, fun x hx => by have := h1 x hx; omega⟩, h1⟩
  have := row_len (by omega) (by omega) h2
  have := h.1
  omega
theorem check_in {F : Nat} {rec38 : (Int × Int) → Option Int} {g : List (List Int)} {m i : Int} {l : List Int} (hg : g.length ≤ 100) : ∀ (k j : Nat) (last : Int), 102 < k + j → (j : Int) ≤ last + 1 → last < g.length → -1 ≤ last →
    M_graph_Check_l45 F rec38 g m i l k (last, (j : Int)) = if rowE g.length last (l.drop j) ≠ 0 then some (rowE g.length last (l.drop j)) else M_graph_Check_j44 F rec38 m i l
  | 0, j, last, h, h1, h2, h3 => by omega
  | k + 1, j, last, h, h1, h2, h3 => by
    show M_graph_Check_b45 F rec38 g m i l (M_graph_Check_l45 F rec38 g m i l k) last (j : Int) = _
    unfold M_graph_Check_b45
    by_cases hlt : j < l.length
    · rw [if_pos (by simp; omega), idx_nat, List.getElem?_eq_getElem hlt, List.drop_eq_getElem_cons hlt]
      simp only [Option.bind_some]
      unfold rowE
      by_cases c1 : l[j] < 0 ∨ (g.length : Int) ≤ l[j]
      · rw [if_pos (by simpa using c1), if_pos c1, if_pos (by decide)]
      · rw [if_neg (by simpa using c1), if_neg c1]
        by_cases c2 : l[j] ≤ last
        · rw [if_pos (by simpa using c2), if_pos c2, if_pos (by decide)]
        · rw [if_neg (by simpa using c2), if_neg c2, iadd1_n (by omega)]
          exact check_in hg k (j + 1) l[j] (by omega) (by omega) (by omega) (by omega)
    · rw [if_neg (by simp; omega), List.drop_eq_nil_of_le (by omega)]
      rw [if_neg (by simp [rowE])]
theorem check_out {F : Nat} (hF : 1000 ≤ F) {g : List (List Int)} (hg : g.length ≤ 100) : ∀ (k i : Nat) (m : Nat), g.length < k + i → i ≤ g.length → m ≤ 100 * i →
    M_graph_Check_l38 F g k ((m : Int), (i : Int)) = if gE g.length (g.drop i) ≠ 0 then some (gE g.length (g.drop i)) else if 600 < m + gtot (g.drop i) then some 2 else some 0
  | 0, _, _, _, _, _ => by omega
  | k + 1, i, m, h, hi, hm => by
    show M_graph_Check_b38 F g (M_graph_Check_l38 F g k) (m : Int) (i : Int) = _
    unfold M_graph_Check_b38
    by_cases hlt : i < g.length
    · rw [if_pos (by simp; omega), idx_nat, List.getElem?_eq_getElem hlt, List.drop_eq_getElem_cons hlt]
      simp only [Option.bind_some]
      have hin := check_in (F := F) (rec38 := M_graph_Check_l38 F g k) (m := (m : Int)) (i := (i : Int)) (l := g[i]) hg F 0 (-1) (by omega) (by omega) (by omega) (by omega)
      rw [List.drop_zero, show ((0 : Nat) : Int) = 0 from rfl] at hin
      rw [hin]
      unfold gE gtot
      by_cases hr : rowE g.length (-1) g[i] = 0
      · have hlen := row_len (by omega) (by omega) hr
        have e : (if rowE (g.length : Int) (-1) g[i] ≠ 0 then rowE (g.length : Int) (-1) g[i] else gE (g.length : Int) (g.drop (i + 1))) = gE (g.length : Int) (g.drop (i + 1)) := if_neg (by simp [hr])
        rw [if_neg (show ¬ rowE (g.length : Int) (-1) g[i] ≠ 0 by simp [hr]), e]
        unfold M_graph_Check_j44 M_graph_Check_j42
        rw [iadd_n (by omega), iadd1_n (by omega), check_out hF hg k (i + 1) (m + g[i].length) (by omega) (by omega) (by omega), Nat.add_assoc]
      · rw [if_pos (by simpa using hr)]
        have e : (if rowE (g.length : Int) (-1) g[i] ≠ 0 then rowE (g.length : Int) (-1) g[i] else gE (g.length : Int) (g.drop (i + 1))) = rowE (g.length : Int) (-1) g[i] := if_pos hr
        rw [e, if_pos hr]
    · rw [if_neg (by simp; omega), List.drop_eq_nil_of_le (by omega)]
      unfold M_graph_Check_j23
      rw [if_neg (show ¬ gE (g.length : Int) [] ≠ 0 by simp [gE])]
      by_cases h6 : 600 < m
      · rw [if_pos (by simp; omega), if_pos (by simpa [gtot] using h6)]
      · rw [if_neg (by simp; omega), if_neg (by simpa [gtot] using h6)]
theorem graphCheck_eq {F : Nat} (hF : 1000 ≤ F) {g : List (List Int)} : M_graph_Check F g = some (gchk g) := by
  unfold M_graph_Check gchk
  by_cases h : 100 < g.length
  · rw [if_pos (by simp; omega), if_pos h]
  · have := check_out hF (g := g) (by omega) F 0 0 (by omega) (by omega) (by omega)
    rw [List.drop_zero, Nat.zero_add, show ((0 : Nat) : Int) = 0 from rfl] at this
    rw [if_neg (by simp; omega), if_neg h, this]
    split
    · rfl
    · split <;> rfl
def af (i : Nat) : List (List Int) → List (Int × Int)
  | [] => []
  | l :: g => l.map (fun x => ((i : Int), x)) ++ af (i + 1) g
theorem runFold_app {σ τ : Type} {yy : σ → (Int × Int) → Option (σ ⊕ τ)} : ∀ (A B : List (Int × Int)) (s : σ), runFold yy (A ++ B) s = (runFold yy A s).bind (Sum.elim (fun s' => runFold yy B s') (fun t => some (.inr t)))
  | [], B, s => rfl
  | p :: A, B, s => by
    show (yy s p).bind _ = ((yy s p).bind _).bind _
    cases yy s p with
    | none => rfl
    | some r =>
      cases r with
      | inl s' => exact runFold_app A B s'
      | inr t => rfl
theorem all_in {σ τ : Type} {F : Nat} {yy : σ → (Int × Int) → Option (σ ⊕ τ)} {rec7 : (Int × σ) → Option (σ ⊕ τ)} {i : Int} {l : List Int} (hm : l.length ≤ 1000000) : ∀ (k j : Nat) (s : σ), l.length < k + j → j ≤ l.length →
    M_graph_All_1_l10 F yy rec7 i l k ((j : Int), s) = (runFold yy ((l.drop j).map fun x => (i, x)) s).bind (Sum.elim (fun s' => M_graph_All_1_j9 F yy rec7 i s') (fun t => some (.inr t)))
  | 0, _, _, _, _ => by omega
  | k + 1, j, s, h, hj => by
    show M_graph_All_1_b10 F yy rec7 i l (M_graph_All_1_l10 F yy rec7 i l k) (j : Int) s = _
    unfold M_graph_All_1_b10
    by_cases hlt : j < l.length
    · rw [if_pos (by simp; omega), idx_nat, List.getElem?_eq_getElem hlt, List.drop_eq_getElem_cons hlt, List.map_cons]
      simp only [Option.bind_some, runFold]
      cases yy s (i, l[j]) with
      | none => rfl
      | some r =>
        cases r with
        | inl s' =>
          simp only [Option.bind_some, Sum.elim_inl]
          rw [iadd1_n (by omega)]
          exact all_in hm k (j + 1) s' (by omega) (by omega)
        | inr t => rfl
    · rw [if_neg (by simp; omega), List.drop_eq_nil_of_le (by omega)]
      rfl
theorem all_out {σ τ : Type} {F : Nat} {yy : σ → (Int × Int) → Option (σ ⊕ τ)} {g : List (List Int)} (hm : g.length ≤ 1000000) (hr : ∀ l ∈ g, l.length ≤ 1000000 ∧ l.length < F) : ∀ (k i : Nat) (s : σ), g.length < k + i → i ≤ g.length →
    M_graph_All_1_l7 F yy g k ((i : Int), s) = runFold yy (af i (g.drop i)) s
  | 0, _, _, _, _ => by omega
  | k + 1, i, s, h, hi => by
    show M_graph_All_1_b7 F yy g (M_graph_All_1_l7 F yy g k) (i : Int) s = _
    unfold M_graph_All_1_b7
    by_cases hlt : i < g.length
    · have hrow := hr _ (List.getElem_mem hlt)
      rw [if_pos (by simp; omega), idx_nat, List.getElem?_eq_getElem hlt, List.drop_eq_getElem_cons hlt]
      simp only [Option.bind_some]
      have := all_in (F := F) (yy := yy) (rec7 := M_graph_All_1_l7 F yy g k) (i := (i : Int)) hrow.1 F 0 s (by omega) (by omega)
      rw [List.drop_zero, show ((0 : Nat) : Int) = 0 from rfl] at this
      rw [this]
      unfold af
      rw [runFold_app]
      congr 1
      funext r
      cases r with
      | inl s' =>
        simp only [Sum.elim_inl]
        unfold M_graph_All_1_j9
        rw [iadd1_n (by omega)]
        exact all_out hm hr k (i + 1) s' (by omega) (by omega)
      | inr t => rfl
    · rw [if_neg (by simp; omega), List.drop_eq_nil_of_le (by omega)]
      rfl
theorem all_eq {σ τ : Type} {F : Nat} {yy : σ → (Int × Int) → Option (σ ⊕ τ)} {g : List (List Int)} {s : σ} (hF : g.length < F) (hm : g.length ≤ 1000000) (hr : ∀ l ∈ g, l.length ≤ 1000000 ∧ l.length < F) : M_graph_All_1 F yy g s = runFold yy (af 0 g) s := by
  unfold M_graph_All_1
  have := all_out (yy := yy) hm hr F 0 s (by omega) (by omega)
  rw [List.drop_zero] at this
  exact this
theorem vals_eq {σ τ : Type} {F : Nat} {yy : σ → (Int × Int) → Option (σ ⊕ τ)} {l : List (Int × Int)} (hm : l.length ≤ 1000000) : ∀ (k i : Nat) (s : σ), l.length < k + i → i ≤ l.length →
    M_slices_Values_api_Arc_api_Arc_1_l1 F yy l k ((i : Int), s) = runFold yy (l.drop i) s
  | 0, _, _, _, _ => by omega
  | k + 1, i, s, h, hi => by
    show M_slices_Values_api_Arc_api_Arc_1_b1 F yy l (M_slices_Values_api_Arc_api_Arc_1_l1 F yy l k) (i : Int) s = _
    unfold M_slices_Values_api_Arc_api_Arc_1_b1
    by_cases hlt : i < l.length
    · rw [if_pos (by simp; omega), idx_nat, List.getElem?_eq_getElem hlt, List.drop_eq_getElem_cons hlt]
      simp only [Option.bind_some, runFold]
      cases yy s l[i] with
      | none => rfl
      | some r =>
        cases r with
        | inl s' =>
          simp only [Option.bind_some, Sum.elim_inl]
          rw [iadd1_n (by omega)]
          exact vals_eq hm k (i + 1) s' (by omega) (by omega)
        | inr t => rfl
    · rw [if_neg (by simp; omega), List.drop_eq_nil_of_le (by omega)]
      rfl
theorem fold_app {τ : Type} {lim : Nat} {f : Int × Int → Int × Int} {yy : List (Int × Int) → (Int × Int) → Option (List (Int × Int) ⊕ τ)} (hy : ∀ s p, yy s p = (app lim s [f p]).bind fun z => some (.inl z)) : ∀ (L s : List (Int × Int)), s.length + L.length ≤ lim → runFold yy L s = some (.inl (s ++ L.map f))
  | [], s, _ => by simp [runFold]
  | p :: L, s, h => by
    rw [List.length_cons] at h
    show (yy s p).bind _ = _
    rw [hy, app_eq (by simp; omega)]
    simp only [Option.bind_some, Sum.elim_inl]
    rw [fold_app hy L (s ++ [f p]) (by simp; omega)]
    simp
theorem af_len : ∀ (i : Nat) (g : List (List Int)), (af i g).length = gtot g
  | _, [] => rfl
  | i, l :: g => by unfold af gtot; rw [List.length_append, List.length_map, af_len (i + 1) g]
theorem collect_vals {F : Nat} {l : List (Int × Int)} (hF : l.length < F) (hm : l.length ≤ 1000000) : M_slices_Collect_api_Arc_slices_Values_api_Arc_api_Arc_1 F l = some l := by
  unfold M_slices_Collect_api_Arc_slices_Values_api_Arc_api_Arc_1 M_slices_AppendSeq_api_Arc_api_Arc_slices_Values_api_Arc_api_Arc_1 M_slices_Values_api_Arc_api_Arc_1
  have := fun yy => vals_eq (σ := List (Int × Int)) (τ := Empty) (F := F) (yy := yy) hm F 0 [] (by omega) (by omega)
  rw [show ((0 : Nat) : Int) = 0 from rfl] at this
  rw [this, List.drop_zero, fold_app (lim := 4398046511104) (f := fun p => p) ?hy l [] (by simp; omega)]
  · simp
  · exact fun s p => rfl
theorem turned_eq {F : Nat} {g : List (List Int)} (hF : 1000 ≤ F) (h : Gr g) : M_graph_turned F g = some ((af 0 g).map fun p => (p.2, p.1)) := by
  unfold M_graph_turned M_graph_All
  have h1 := h.1
  have h2 := h.2.2
  simp only [Option.bind_some]
  rw [all_eq (by omega) (by omega) (fun l hl => by have := gr_row h hl; omega), fold_app (lim := 4398046511104) (f := fun p => (p.2, p.1)) ?hy (af 0 g) [] (by rw [af_len]; simp; omega)]
  · simp
  · exact fun s p => rfl
def lexLt (p q : Int × Int) : Prop := p.1 < q.1 ∨ (p.1 = q.1 ∧ p.2 < q.2)
instance decLex (p q : Int × Int) : Decidable (lexLt p q) := by unfold lexLt; infer_instance
theorem lexLt_irr (a : Int × Int) : ¬ lexLt a a := by unfold lexLt; omega
theorem lexLt_tr (a b d : Int × Int) : lexLt a b → lexLt b d → lexLt a d := by unfold lexLt; omega
theorem lexLt_tot (a b : Int × Int) : lexLt a b ∨ a = b ∨ lexLt b a := by
  obtain ⟨a1, a2⟩ := a
  obtain ⟨b1, b2⟩ := b
  simp only [lexLt, Prod.mk.injEq]; omega
theorem compare_eq {F : Nat} {x y : Int} : M_cmp_Compare_int F x y = some (if x < y then -1 else if y < x then 1 else 0) := by
  unfold M_cmp_Compare_int M_cmp_isNaN_int
  simp only [bne_self_eq_false, Option.bind_some, Bool.false_eq_true, if_false, decide_eq_true_eq]
  split
  · rfl
  · split <;> rfl
theorem or_eq {F : Nat} (hF : 3 ≤ F) {x y : Int} : M_cmp_Or_int F [x, y] = some (if x ≠ 0 then x else y) := by
  obtain ⟨k, rfl⟩ := Nat.exists_eq_add_of_le hF
  rw [Nat.add_comm]
  unfold M_cmp_Or_int
  show M_cmp_Or_int_b3 (k + 3) [x, y] (M_cmp_Or_int_l3 (k + 3) [x, y] (k + 2)) 0 = _
  unfold M_cmp_Or_int_b3
  rw [if_pos (by simp)]
  show ((some x).bind _) = _
  simp only [Option.bind_some]
  by_cases hx : x = 0
  · rw [if_neg (by simp [hx]), if_neg (by simp [hx])]
    show M_cmp_Or_int_b3 (k + 3) [x, y] (M_cmp_Or_int_l3 (k + 3) [x, y] (k + 1)) 1 = _
    unfold M_cmp_Or_int_b3
    rw [if_pos (by simp)]
    show ((some y).bind _) = _
    simp only [Option.bind_some]
    by_cases hy : y = 0
    · rw [if_neg (by simp [hy]), hy]
      show M_cmp_Or_int_b3 (k + 3) [x, y] (M_cmp_Or_int_l3 (k + 3) [x, y] k) 2 = _
      unfold M_cmp_Or_int_b3
      rw [if_neg (by simp)]
      rfl
    · rw [if_pos (by simp [hy])]
  · rw [if_pos (by simp [hx]), if_pos hx]
theorem order_eq {F : Nat} (hF : 3 ≤ F) (a b : Int × Int) : ∃ z, M_graph_order F a.1 a.2 b.1 b.2 = some z ∧ (z < 0 ↔ lexLt a b) := by
  unfold M_graph_order
  rw [compare_eq, compare_eq]
  simp only [Option.bind_some]
  rw [or_eq hF]
  simp only [Option.bind_some]
  unfold lexLt
  by_cases h1 : a.1 < b.1
  · exact ⟨-1, by simp [h1], by simp [h1]⟩
  · by_cases h2 : b.1 < a.1
    · exact ⟨1, by simp [h1, h2], by omega⟩
    · refine ⟨if a.2 < b.2 then -1 else if b.2 < a.2 then 1 else 0, by simp [h1, h2], ?_⟩
      split
      · omega
      · split <;> omega
def srtA (l : List (Int × Int)) : List (Int × Int) := l.mergeSort fun a b => decide (¬ lexLt b a)
theorem srtA_perm (l : List (Int × Int)) : (srtA l).Perm l := List.mergeSort_perm l _
theorem srtA_pw (l : List (Int × Int)) : (srtA l).Pairwise fun a b => ¬ lexLt b a := by
  have h := List.pairwise_mergeSort (le := fun a b : Int × Int => decide (¬ lexLt b a)) (fun a b c h1 h2 => by simp only [decide_eq_true_eq] at *; unfold lexLt at *; omega) (fun a b => by simp only [Bool.or_eq_true, decide_eq_true_eq]; unfold lexLt; omega) l
  exact h.imp (fun h => by simpa using h)
theorem srtA_len (l : List (Int × Int)) : (srtA l).length = l.length := (srtA_perm l).length_eq
theorem lex_nodup {l : List (Int × Int)} (h : l.Pairwise lexLt) : l.Nodup := List.Pairwise.imp (S := fun a b => a ≠ b) (fun {a b} h (he : a = b) => lexLt_irr a (by rw [← he] at h; exact h)) h
theorem srtA_strict {l : List (Int × Int)} (h : l.Nodup) : (srtA l).Pairwise lexLt := by
  have h1 : (srtA l).Nodup := (srtA_perm l).nodup_iff.2 h
  refine (List.Pairwise.and (srtA_pw l) h1).imp fun {a b} h => ?_
  rcases lexLt_tot a b with h2 | h2 | h2
  · exact h2
  · exact absurd h2 h.2
  · exact absurd h2 h.1
theorem sortFunc_eq {F : Nat} {l : List (Int × Int)} (hF : 3 ≤ F) (hl : l.length ≤ 1000000) : M_slices_SortFunc_api_Arc_api_Arc_graph_order F l = some (srtA l) :=
  sortF_eq (lt := lexLt) (fun a _ b _ => order_eq hF a b) lexLt_irr lexLt_tr lexLt_tot (by omega) (srtA_perm l) (srtA_pw l)
theorem sortedFunc_eq {F : Nat} {l : List (Int × Int)} (hF : 3 ≤ F) (hF2 : l.length < F) (hl : l.length ≤ 1000000) : M_slices_SortedFunc_api_Arc_slices_Values_api_Arc_api_Arc_1_graph_order F l = some (srtA l) := by
  unfold M_slices_SortedFunc_api_Arc_slices_Values_api_Arc_api_Arc_1_graph_order
  rw [collect_vals hF2 hl]
  simp only [Option.bind_some]
  rw [sortFunc_eq hF hl]
  simp [chk, srtA_len]
theorem pwx : ∀ {A B : List Int}, A.Pairwise (· < ·) → B.Pairwise (· < ·) → (∀ z, z ∈ A ↔ z ∈ B) → A = B := by
  intro A B hA hB h
  have nd : ∀ {C : List Int}, C.Pairwise (· < ·) → C.Nodup := fun hC => hC.imp fun h => by omega
  exact List.Perm.eq_of_pairwise (le := fun x y : Int => x < y) (fun a b _ _ h1 h2 => by omega) hA hB ((List.perm_ext_iff_of_nodup (nd hA) (nd hB)).2 h)
def rowOf (l : List (Int × Int)) (i : Int) : List Int := (l.filter fun p => decide (p.1 = i)).map (·.2)
def tab (n : Nat) (l : List (Int × Int)) : List (List Int) := (List.range n).map fun (i : Nat) => rowOf l (i : Int)
theorem tab_len (n : Nat) (l : List (Int × Int)) : (tab n l).length = n := by simp [tab]
theorem tab_get {n i : Nat} {l : List (Int × Int)} (h : i < n) : (tab n l)[i]? = some (rowOf l i) := by simp [tab, h]
theorem rowOf_len (l : List (Int × Int)) (i : Int) : (rowOf l i).length ≤ l.length := by
  unfold rowOf
  rw [List.length_map]
  exact List.length_filter_le _ _
theorem tab_snoc {n a : Nat} {l : List (Int × Int)} {b : Int} : tab n (l ++ [((a : Int), b)]) = (tab n l).set a (rowOf l a ++ [b]) := by
  apply List.ext_getElem (by simp [tab])
  intro i h1 h2
  rw [tab_len] at h1
  rw [List.getElem_set]
  simp only [tab, List.getElem_map, List.getElem_range]
  by_cases h : a = i
  · rw [if_pos h, ← h]; simp [rowOf]
  · rw [if_neg h]
    have : ¬ (a : Int) = (i : Int) := by omega
    simp [rowOf, this]
theorem tab_nil (n : Nat) : tab n [] = List.replicate n [] := by
  apply List.ext_getElem (by simp [tab])
  intro i h1 h2
  simp [tab, rowOf]
theorem mk_nil {n : Nat} {lim : Nat} (h : n ≤ lim) : mk lim ([] : List Int) (n : Int) = some (tab n []) := by
  unfold mk
  rw [if_pos ⟨by omega, by omega⟩, tab_nil]; simp
def InR (n : Nat) (l : List (Int × Int)) : Prop := ∀ p ∈ l, 0 ≤ p.1 ∧ p.1 < (n : Int) ∧ 0 ≤ p.2 ∧ p.2 < (n : Int)
theorem take_snoc {α : Type} {l : List α} {j : Nat} (h : j < l.length) : l.take (j + 1) = l.take j ++ [l[j]] := by
  rw [List.take_add_one, List.getElem?_eq_getElem h]; rfl
theorem built_l {F n : Nat} {l : List (Int × Int)} (hl : ∀ p ∈ l, 0 ≤ p.1 ∧ p.1 < (n : Int)) (hm : l.length ≤ 1000000) : ∀ (k j : Nat), l.length < k + j → j ≤ l.length →
    M_graph_Built_l3 F l k ((j : Int), tab n (l.take j)) = some (tab n l)
  | 0, _, _, _ => by omega
  | k + 1, j, h, hj => by
    show M_graph_Built_b3 F l (M_graph_Built_l3 F l k) (j : Int) (tab n (l.take j)) = _
    unfold M_graph_Built_b3
    by_cases hlt : j < l.length
    · obtain ⟨h1, h2⟩ := hl _ (List.getElem_mem hlt)
      have hrec := built_l (F := F) hl hm k (j + 1) (by omega) (by omega)
      obtain ⟨a, ha⟩ := Int.eq_ofNat_of_zero_le h1
      have e : l[j] = ((a : Int), l[j].2) := by rw [← ha]
      rw [take_snoc hlt, e, tab_snoc] at hrec
      have hrl := rowOf_len (l.take j) (a : Int)
      rw [List.length_take] at hrl
      rw [if_pos (by simp; omega), idx_nat, List.getElem?_eq_getElem hlt]
      simp only [Option.bind_some]
      rw [ha, idx_nat, tab_get (by omega)]
      simp only [Option.bind_some]
      rw [app_eq (by simp; omega)]
      simp only [Option.bind_some, lett]
      rw [iadd1_n (by omega), Int.toNat_natCast]
      exact hrec
    · rw [if_neg (by simp; omega), List.take_of_length_le (by omega)]
      rfl
theorem built_eq {F n : Nat} {l : List (Int × Int)} (hl : ∀ p ∈ l, 0 ≤ p.1 ∧ p.1 < (n : Int)) (hm : l.length ≤ 1000000) (hF : l.length < F) (hn : n ≤ 1000000) : M_graph_Built F (n : Int) l = some (tab n l) := by
  unfold M_graph_Built
  rw [mk_nil (by omega)]
  simp only [Option.bind_some]
  have := built_l (F := F) hl hm F 0 (by omega) (by omega)
  rw [List.take_zero] at this
  exact this
def IsTab (n : Nat) (l : List (Int × Int)) (T : List (List Int)) : Prop :=
  T.length = n ∧ ∀ (i : Nat) (r : List Int), T[i]? = some r → r.Pairwise (· < ·) ∧ ∀ x, x ∈ r ↔ ((i : Int), x) ∈ l
theorem isTab_uniq {n : Nat} {l l' : List (Int × Int)} {T T' : List (List Int)} (h : IsTab n l T) (h' : IsTab n l' T') (hm : ∀ p, p ∈ l ↔ p ∈ l') : T = T' := by
  apply List.ext_getElem (by rw [h.1, h'.1])
  intro i h1 h2
  have a := h.2 i _ (List.getElem?_eq_getElem h1)
  have b := h'.2 i _ (List.getElem?_eq_getElem h2)
  exact pwx a.1 b.1 fun z => by rw [a.2, b.2, hm]
theorem mem_rowOf {l : List (Int × Int)} {i x : Int} : x ∈ rowOf l i ↔ (i, x) ∈ l := by
  unfold rowOf
  rw [List.mem_map]
  constructor
  · rintro ⟨p, hp, rfl⟩
    obtain ⟨h1, h2⟩ := List.mem_filter.1 hp
    have : p.1 = i := by simpa using h2
    rw [← this]; exact h1
  · intro h
    exact ⟨(i, x), List.mem_filter.2 ⟨h, by simp⟩, rfl⟩
theorem rowOf_pw {l : List (Int × Int)} {i : Int} (h : l.Pairwise lexLt) : (rowOf l i).Pairwise (· < ·) := by
  unfold rowOf
  rw [List.pairwise_map]
  refine (h.filter _).imp_of_mem fun {a b} ha hb hab => ?_
  have h1 := (List.mem_filter.1 ha).2
  have h2 := (List.mem_filter.1 hb).2
  simp only [decide_eq_true_eq] at h1 h2
  unfold lexLt at hab; omega
theorem tab_isTab {n : Nat} {l : List (Int × Int)} (h : l.Pairwise lexLt) : IsTab n l (tab n l) := by
  refine ⟨tab_len n l, fun i r hr => ?_⟩
  have hi : i < n := by have := (List.getElem?_eq_some_iff.1 hr).1; rwa [tab_len] at this
  rw [tab_get hi] at hr
  cases hr
  exact ⟨rowOf_pw h, fun x => mem_rowOf⟩
theorem isTab_congr {n : Nat} {l l' : List (Int × Int)} {T : List (List Int)} (h : IsTab n l T) (hm : ∀ p, p ∈ l ↔ p ∈ l') : IsTab n l' T :=
  ⟨h.1, fun i r hr => ⟨(h.2 i r hr).1, fun x => by rw [(h.2 i r hr).2, hm]⟩⟩
theorem mem_af : ∀ {g : List (List Int)} {k : Nat} {p : Int × Int}, p ∈ af k g ↔ ∃ i r, g[i]? = some r ∧ p.1 = ((k + i : Nat) : Int) ∧ p.2 ∈ r
  | [], k, p => by simp [af]
  | l :: g, k, p => by
    unfold af
    rw [List.mem_append, mem_af (g := g), List.mem_map]
    constructor
    · rintro (⟨x, hx, rfl⟩ | ⟨i, r, h1, h2, h3⟩)
      · exact ⟨0, l, by simp, by simp, hx⟩
      · exact ⟨i + 1, r, by simpa using h1, by omega, h3⟩
    · rintro ⟨i, r, h1, h2, h3⟩
      cases i with
      | zero =>
        simp only [List.getElem?_cons_zero, Option.some.injEq] at h1
        subst h1
        exact .inl ⟨p.2, h3, by rw [Nat.add_zero] at h2; rw [← h2]⟩
      | succ i =>
        refine .inr ⟨i, r, by simpa using h1, by omega, h3⟩
theorem af_pw : ∀ {g : List (List Int)} {k : Nat}, (∀ r ∈ g, r.Pairwise (· < ·)) → (af k g).Pairwise lexLt
  | [], k, _ => by simp [af]
  | l :: g, k, h => by
    unfold af
    rw [List.pairwise_append]
    refine ⟨?_, af_pw fun r hr => h r (by simp [hr]), ?_⟩
    · rw [List.pairwise_map]
      exact (h l (by simp)).imp fun h => .inr ⟨rfl, h⟩
    · intro a ha b hb
      obtain ⟨x, _, rfl⟩ := List.mem_map.1 ha
      obtain ⟨i, r, _, h2, _⟩ := mem_af.1 hb
      left
      show (k : Int) < b.1
      omega
theorem af_isTab {g : List (List Int)} (h : ∀ r ∈ g, r.Pairwise (· < ·)) : IsTab g.length (af 0 g) g := by
  refine ⟨rfl, fun i r hr => ⟨h r (List.mem_of_getElem? hr), fun x => ?_⟩⟩
  rw [mem_af]
  constructor
  · intro hx; exact ⟨i, r, hr, by simp, hx⟩
  · rintro ⟨i', r', h1, h2, h3⟩
    have : i' = i := by simp at h2; omega
    subst this
    rw [hr] at h1
    cases h1
    exact h3
theorem isTab_pw {n : Nat} {l : List (Int × Int)} {T : List (List Int)} (h : IsTab n l T) : ∀ r ∈ T, r.Pairwise (· < ·) := fun r hr => by
  obtain ⟨i, hi⟩ := List.getElem?_of_mem hr
  exact (h.2 i r hi).1
theorem isTab_mem {n : Nat} {l : List (Int × Int)} {T : List (List Int)} (h : IsTab n l T) (hl : InR n l) (p : Int × Int) : p ∈ af 0 T ↔ p ∈ l := by
  rw [mem_af]
  constructor
  · rintro ⟨i, r, h1, h2, h3⟩
    have := ((h.2 i r h1).2 p.2).1 h3
    rw [Nat.zero_add] at h2
    rw [← h2] at this
    exact this
  · intro hp
    obtain ⟨h1, h2, _, _⟩ := hl p hp
    obtain ⟨a, ha⟩ := Int.eq_ofNat_of_zero_le h1
    have hlt : a < T.length := by rw [h.1]; omega
    refine ⟨a, T[a], List.getElem?_eq_getElem hlt, by omega, ?_⟩
    rw [(h.2 a _ (List.getElem?_eq_getElem hlt)).2, ← ha]
    exact hp
theorem isTab_perm {n : Nat} {l : List (Int × Int)} {T : List (List Int)} (h : IsTab n l T) (hl : InR n l) (hn : l.Nodup) : (af 0 T).Perm l :=
  (List.perm_ext_iff_of_nodup (lex_nodup (af_pw (isTab_pw h))) hn).2 (isTab_mem h hl)
theorem isTab_gr {n : Nat} {l : List (Int × Int)} {T : List (List Int)} (h : IsTab n l T) (hl : InR n l) (hn : n ≤ 100) (hm : (af 0 T).length ≤ 600) : Gr T := by
  refine ⟨by rw [h.1]; exact hn, fun r hr => ⟨isTab_pw h r hr, fun x hx => ?_⟩, by rw [← af_len 0]; exact hm⟩
  obtain ⟨i, hi⟩ := List.getElem?_of_mem hr
  have := hl _ (((h.2 i r hi).2 x).1 hx)
  rw [h.1]
  exact ⟨this.2.2.1, this.2.2.2⟩
theorem gr_in {g : List (List Int)} (h : Gr g) : InR g.length (af 0 g) := fun p hp => by
  obtain ⟨i, r, h1, h2, h3⟩ := mem_af.1 hp
  have h4 := (List.getElem?_eq_some_iff.1 h1).1
  have h5 := (h.2.1 r (List.mem_of_getElem? h1)).2 _ h3
  refine ⟨by omega, by omega, h5.1, h5.2⟩
theorem gr_pw {g : List (List Int)} (h : Gr g) : ∀ r ∈ g, r.Pairwise (· < ·) := fun r hr => (h.2.1 r hr).1
theorem srt_isTab {n : Nat} {l : List (Int × Int)} (h : l.Nodup) : IsTab n l (tab n (srtA l)) :=
  isTab_congr (tab_isTab (srtA_strict h)) fun _ => (srtA_perm l).mem_iff
def sw (l : List (Int × Int)) : List (Int × Int) := l.map fun p => (p.2, p.1)
theorem sw_len (l : List (Int × Int)) : (sw l).length = l.length := by simp [sw]
theorem sw_mem {l : List (Int × Int)} {p : Int × Int} : p ∈ sw l ↔ (p.2, p.1) ∈ l := by
  unfold sw
  rw [List.mem_map]
  constructor
  · rintro ⟨q, hq, rfl⟩; exact hq
  · intro h; exact ⟨_, h, rfl⟩
theorem sw_in {n : Nat} {l : List (Int × Int)} (h : InR n l) : InR n (sw l) := fun p hp => by
  have := h _ (sw_mem.1 hp)
  exact ⟨this.2.2.1, this.2.2.2, this.1, this.2.1⟩
theorem sw_nodup {l : List (Int × Int)} (h : l.Nodup) : (sw l).Nodup := by
  have h : l.Pairwise fun a b => a ≠ b := h
  show (sw l).Pairwise fun a b => a ≠ b
  unfold sw
  rw [List.pairwise_map]
  exact h.imp fun {a b} hab he => hab (by cases a; cases b; simp_all)
theorem gr_len {g : List (List Int)} (h : Gr g) : (af 0 g).length ≤ 600 := by rw [af_len]; exact h.2.2
theorem gr_nodup {g : List (List Int)} (h : Gr g) : (af 0 g).Nodup := lex_nodup (af_pw (gr_pw h))
/-- The turned graph. -/
def tn (g : List (List Int)) : List (List Int) := tab g.length (srtA (sw (af 0 g)))
theorem tn_isTab {g : List (List Int)} (h : Gr g) : IsTab g.length (sw (af 0 g)) (tn g) := srt_isTab (sw_nodup (gr_nodup h))
theorem tn_gr {g : List (List Int)} (h : Gr g) : Gr (tn g) := by
  have h1 := isTab_perm (tn_isTab h) (sw_in (gr_in h)) (sw_nodup (gr_nodup h))
  refine isTab_gr (tn_isTab h) (sw_in (gr_in h)) h.1 ?_
  rw [h1.length_eq, sw_len]; exact gr_len h
theorem tn_af {g : List (List Int)} (h : Gr g) : (af 0 (tn g)).Perm (sw (af 0 g)) := isTab_perm (tn_isTab h) (sw_in (gr_in h)) (sw_nodup (gr_nodup h))
theorem tn_len (g : List (List Int)) : (tn g).length = g.length := tab_len _ _
theorem gr_self {g T : List (List Int)} (h : Gr g) {l : List (Int × Int)} (hT : IsTab g.length l T) (hm : ∀ p, p ∈ l ↔ p ∈ af 0 g) : T = g :=
  isTab_uniq hT (af_isTab (gr_pw h)) hm
theorem tn_tn {g : List (List Int)} (h : Gr g) : tn (tn g) = g := by
  have h1 := tn_isTab (tn_gr h)
  rw [tn_len] at h1
  refine gr_self h h1 fun p => ?_
  rw [sw_mem, (tn_af h).mem_iff, sw_mem]
theorem turn_eq {F : Nat} {g : List (List Int)} (hF : 1000 ≤ F) : M_graph_Turn F g = some (if gchk g ≠ 0 then ([], gchk g) else (tn g, 0)) := by
  unfold M_graph_Turn
  rw [graphCheck_eq hF]
  simp only [Option.bind_some]
  by_cases h : gchk g = 0
  · have hg := gchk_ok.1 h
    have h1 := hg.1
    have h2 := gr_len hg
    rw [if_neg (by simp [h]), if_neg (by simp [h]), turned_eq hF hg]
    simp only [Option.bind_some]
    show (M_slices_Values_api_Arc_api_Arc F (sw (af 0 g))).bind _ = _
    unfold M_slices_Values_api_Arc_api_Arc
    simp only [Option.bind_some]
    show (M_slices_SortedFunc_api_Arc_slices_Values_api_Arc_api_Arc_1_graph_order F (sw (af 0 g))).bind _ = _
    rw [sortedFunc_eq (by omega) (by rw [sw_len]; omega) (by rw [sw_len]; omega)]
    simp only [Option.bind_some]
    rw [built_eq (fun p hp => by have := sw_in (gr_in hg) p ((srtA_perm _).mem_iff.1 hp); omega) (by rw [srtA_len, sw_len]; omega) (by rw [srtA_len, sw_len]; omega) (by omega)]
    rfl
  · rw [if_pos (by simpa using h), if_pos h]
/-- An arc leads from one node to another. -/
def Ld (g : List (List Int)) (u v : Nat) : Prop := ((u : Int), (v : Int)) ∈ af 0 g
theorem ld_row {g : List (List Int)} {u v : Nat} : Ld g u v ↔ ∃ r, g[u]? = some r ∧ (v : Int) ∈ r := by
  unfold Ld
  rw [mem_af]
  constructor
  · rintro ⟨i, r, h1, h2, h3⟩
    simp only [Nat.zero_add] at h2
    obtain rfl : u = i := by omega
    exact ⟨r, h1, h3⟩
  · rintro ⟨r, h1, h2⟩
    exact ⟨u, r, h1, by simp, h2⟩
theorem ld_in {g : List (List Int)} (hg : Gr g) {u v : Nat} (h : Ld g u v) : u < g.length ∧ v < g.length := by
  have := gr_in hg _ h
  simp only at this
  omega
theorem ld_tn {g : List (List Int)} (hg : Gr g) {u v : Nat} : Ld (tn g) u v ↔ Ld g v u := by
  unfold Ld
  rw [(tn_af hg).mem_iff]
  unfold sw
  rw [List.mem_map]
  constructor
  · rintro ⟨p, hp, he⟩
    simp only [Prod.mk.injEq] at he
    have : p = ((v : Int), (u : Int)) := Prod.ext he.2 he.1
    rw [this] at hp; exact hp
  · intro h
    exact ⟨_, h, rfl⟩
def Wk (g : List (List Int)) : Nat → Nat → Nat → Prop
  | 0, s, t => s = t
  | k + 1, s, t => ∃ u, Ld g s u ∧ Wk g k u t
theorem wk_app {g : List (List Int)} : ∀ {j k s u t : Nat}, Wk g j s u → Wk g k u t → Wk g (j + k) s t
  | 0, k, s, u, _, h1, h2 => by
    have h1 : s = u := h1
    subst h1
    rw [Nat.zero_add]; exact h2
  | j + 1, k, _, _, _, ⟨w, h0, h1⟩, h2 => by
    rw [show j + 1 + k = (j + k) + 1 by omega]
    exact ⟨w, h0, wk_app h1 h2⟩
theorem wk_one {g : List (List Int)} {s t : Nat} (h : Ld g s t) : Wk g 1 s t := ⟨t, h, rfl⟩
theorem wk_snoc {g : List (List Int)} {k s u t : Nat} (h1 : Wk g k s u) (h2 : Ld g u t) : Wk g (k + 1) s t := wk_app h1 (wk_one h2)
theorem wk_tn {g : List (List Int)} (hg : Gr g) : ∀ {k s t : Nat}, Wk g k s t → Wk (tn g) k t s
  | 0, s, t, h => (show s = t from h).symm
  | _ + 1, _, _, ⟨_, h0, h1⟩ => wk_snoc (wk_tn hg h1) ((ld_tn hg).2 h0)
def gD (d : List Int) (t : Nat) : Int := d.getD t (-1)
theorem gD_get {d : List Int} {t : Nat} (h : t < d.length) : d[t]? = some (gD d t) := by simp [gD, List.getD, List.getElem?_eq_getElem h]
theorem gD_out {d : List Int} {t : Nat} (h : d.length ≤ t) : gD d t = -1 := by simp [gD, List.getD, List.getElem?_eq_none h]
theorem gD_set {d : List Int} {t u : Nat} {x : Int} (h : t < d.length) : gD (d.set t x) u = if u = t then x else gD d u := by
  unfold gD
  rw [List.getD_eq_getElem?_getD, List.getElem?_set, List.getD_eq_getElem?_getD]
  by_cases hu : u = t
  · subst hu; rw [if_pos rfl, if_pos h, if_pos rfl]; rfl
  · rw [if_neg (by omega), if_neg hu]
theorem gD_ext {d e : List Int} (hl : d.length = e.length) (h : ∀ t, t < d.length → gD d t = gD e t) : d = e := by
  apply List.ext_getElem? ; intro t
  by_cases ht : t < d.length
  · rw [gD_get ht, gD_get (by omega), h t ht]
  · rw [List.getElem?_eq_none (by omega), List.getElem?_eq_none (by omega)]
/-- What a list of how far each node is must be. -/
structure FarOk (g : List (List Int)) (s : Nat) (d : List Int) : Prop where
  len : d.length = g.length
  src : gD d s = 0
  low : ∀ t, -1 ≤ gD d t
  up : ∀ u t, Ld g u t → 0 ≤ gD d u → 0 ≤ gD d t ∧ gD d t ≤ gD d u + 1
  fr : ∀ t, t ≠ s → 0 ≤ gD d t → ∃ u, Ld g u t ∧ gD d u + 1 = gD d t ∧ 0 ≤ gD d u
theorem FarOk.wk {g : List (List Int)} {s : Nat} {d : List Int} (h : FarOk g s d) : ∀ {k u t : Nat}, Wk g k u t → 0 ≤ gD d u → 0 ≤ gD d t ∧ gD d t ≤ gD d u + k
  | 0, u, t, hw, h0 => by have hw : u = t := hw; subst hw; omega
  | k + 1, u, t, ⟨v, h1, h2⟩, h0 => by
    have h3 := h.up u v h1 h0
    have h4 := h.wk h2 h3.1
    omega
theorem FarOk.le {g : List (List Int)} {s : Nat} {d : List Int} (h : FarOk g s d) {k t : Nat} (hw : Wk g k s t) : 0 ≤ gD d t ∧ gD d t ≤ k := by
  have := h.wk hw (by rw [h.src]; exact Int.le_refl 0)
  rw [h.src] at this; omega
theorem FarOk.way {g : List (List Int)} {s : Nat} {d : List Int} (h : FarOk g s d) : ∀ (k t : Nat), gD d t = k → Wk g k s t
  | 0, t, hk => by
    by_cases ht : t = s
    · subst ht; rfl
    · obtain ⟨u, _, h2, h3⟩ := h.fr t ht (by omega)
      omega
  | k + 1, t, hk => by
    by_cases ht : t = s
    · subst ht; rw [h.src] at hk; omega
    · obtain ⟨u, h1, h2, h3⟩ := h.fr t ht (by omega)
      exact wk_snoc (h.way k u (by omega)) h1
theorem FarOk.way' {g : List (List Int)} {s : Nat} {d : List Int} (h : FarOk g s d) {t : Nat} (h0 : 0 ≤ gD d t) : Wk g (gD d t).toNat s t := h.way _ t (by omega)
theorem FarOk.uni {g : List (List Int)} {s : Nat} {d : List Int} {e : List Int} (h : FarOk g s d) (h' : FarOk g s e) : d = e := by
  refine gD_ext (by rw [h.len, h'.len]) fun t _ => ?_
  have l1 := h.low t
  have l2 := h'.low t
  by_cases h0 : 0 ≤ gD d t
  · have a := h'.le (h.way' h0)
    have b := h.le (h'.way' a.1)
    omega
  · by_cases h1 : 0 ≤ gD e t
    · have b := h.le (h'.way' h1)
      omega
    · omega
theorem nodup_le : ∀ {L M : List Nat}, L.Nodup → (∀ x ∈ L, x ∈ M) → L.length ≤ M.length
  | [], _, _, _ => Nat.zero_le _
  | x :: L, M, h, hs => by
    have hx := hs x (by simp)
    have h1 := List.nodup_cons.1 h
    have := nodup_le (L := L) (M := M.erase x) h1.2 fun y hy => (List.mem_erase_of_ne (fun e : y = x => h1.1 (e ▸ hy))).2 (hs y (by simp [hy]))
    rw [List.length_erase_of_mem hx] at this
    have := List.length_pos_of_mem hx
    simp only [List.length_cons]; omega
theorem FarOk.levels {g : List (List Int)} {s : Nat} {d : List Int} (h : FarOk g s d) : ∀ (k t : Nat), gD d t = k → ∀ j, j ≤ k → ∃ v, gD d v = (j : Int)
  | 0, t, hk, j, hj => ⟨t, by omega⟩
  | k + 1, t, hk, j, hj => by
    by_cases hjk : j = k + 1
    · exact ⟨t, by omega⟩
    · by_cases ht : t = s
      · subst ht; rw [h.src] at hk; omega
      · obtain ⟨u, h1, h2, h3⟩ := h.fr t ht (by omega)
        exact h.levels k u (by omega) j (by omega)
theorem FarOk.lt {g : List (List Int)} {s : Nat} {d : List Int} (h : FarOk g s d) (t : Nat) (ht : 0 < g.length) : gD d t < g.length := by
  by_cases h0 : 0 ≤ gD d t
  · obtain ⟨k, hk⟩ := Int.eq_ofNat_of_zero_le h0
    have := nodup_le (L := List.range (k + 1)) (M := d.map Int.toNat) List.nodup_range fun j hj => by
      obtain ⟨v, hv⟩ := h.levels k t hk j (by have := List.mem_range.1 hj; omega)
      have hvl : v < d.length := by
        by_cases hvl : v < d.length
        · exact hvl
        · rw [gD_out (by omega)] at hv; omega
      exact List.mem_map.2 ⟨gD d v, List.mem_of_getElem? (gD_get hvl), by rw [hv]; rfl⟩
    rw [List.length_range, List.length_map, h.len] at this
    omega
  · omega
/-- Turned round it is as far back. -/
theorem far_back {g : List (List Int)} {s t : Nat} {d e : List Int} (hg : Gr g) (h : FarOk g s d) (h' : FarOk (tn g) t e) : gD d t = gD e s := by
  have l1 := h.low t
  have l2 := h'.low s
  by_cases h0 : 0 ≤ gD d t
  · have a := h'.le (wk_tn hg (h.way' h0))
    have b := wk_tn (tn_gr hg) (h'.way' a.1)
    rw [tn_tn hg] at b
    have c := h.le b
    omega
  · by_cases h1 : 0 ≤ gD e s
    · have b := wk_tn (tn_gr hg) (h'.way' h1)
      rw [tn_tn hg] at b
      have c := h.le b
      omega
    · omega
theorem find_least {l : List Int} {p : Int → Bool} (hl : l.Pairwise (· < ·)) {v : Int} (h : l.find? p = some v) {w : Int} (hw : w ∈ l) (hp : p w = true) : v ≤ w := by
  induction l with
  | nil => simp at hw
  | cons x l ih =>
    rw [List.find?_cons] at h
    cases hx : p x with
    | true =>
      rw [hx] at h
      simp only [Option.some.injEq] at h
      subst h
      rcases List.mem_cons.1 hw with rfl | hw
      · exact Int.le_refl _
      · exact Int.le_of_lt ((List.pairwise_cons.1 hl).1 w hw)
    | false =>
      rw [hx] at h
      rcases List.mem_cons.1 hw with rfl | hw
      · rw [hp] at hx; simp at hx
      · exact ih (List.pairwise_cons.1 hl).2 h hw
def nearer (left : List Int) (u : Nat) (v : Int) : Bool := decide (gD left v.toNat + 1 = gD left u)
def nxt (g : List (List Int)) (left : List Int) (u : Nat) : Nat := (((g.getD u []).find? (nearer left u)).getD 0).toNat
theorem nxt_ok {g : List (List Int)} {left : List Int} {t u k : Nat} (hg : Gr g) (h : FarOk (tn g) t left) (hu : gD left u = ((k + 1 : Nat) : Int)) :
    (g.getD u []).find? (nearer left u) = some (nxt g left u : Int) ∧ Ld g u (nxt g left u) ∧ gD left (nxt g left u) = (k : Int) ∧ ∀ w, Ld g u w → gD left w = (k : Int) → nxt g left u ≤ w := by
  have hut : u ≠ t := by
    rintro rfl
    rw [h.src] at hu; omega
  obtain ⟨v, h1, h2, h3⟩ := h.fr u hut (by omega)
  rw [ld_tn hg, ld_row] at h1
  obtain ⟨r, hr, hv⟩ := h1
  have hrow : g.getD u [] = r := by simp [List.getD, hr]
  have hrg := hg.2.1 r (List.mem_of_getElem? hr)
  have hpv : nearer left u (v : Int) = true := by
    unfold nearer
    rw [Int.toNat_natCast, decide_eq_true_eq]; exact h2
  cases hf : r.find? (nearer left u) with
  | none =>
    have := List.find?_eq_none.1 hf _ hv
    exact absurd hpv this
  | some x =>
    have hx := List.mem_of_find?_eq_some hf
    have hx0 := hrg.2 x hx
    have hpx := List.find?_some hf
    obtain ⟨n, rfl⟩ := Int.eq_ofNat_of_zero_le hx0.1
    have hn : nxt g left u = n := by unfold nxt; rw [hrow, hf]; rfl
    rw [hn]
    refine ⟨by rw [hrow]; exact hf, ld_row.2 ⟨r, hr, hx⟩, ?_, fun w hw1 hw2 => ?_⟩
    · unfold nearer at hpx
      rw [Int.toNat_natCast, decide_eq_true_eq] at hpx
      omega
    · obtain ⟨r', hr', hw'⟩ := ld_row.1 hw1
      rw [hr] at hr'
      obtain rfl := Option.some.inj hr'
      have := find_least hrg.1 hf hw' (by unfold nearer; rw [Int.toNat_natCast, decide_eq_true_eq]; omega)
      omega
def wy (g : List (List Int)) (left : List Int) : Nat → Nat → List Nat
  | 0, u => [u]
  | k + 1, u => u :: wy g left k (nxt g left u)
theorem wy_len (g : List (List Int)) (left : List Int) : ∀ (k u : Nat), (wy g left k u).length = k + 1
  | 0, _ => rfl
  | k + 1, u => by rw [wy, List.length_cons, wy_len g left k]
theorem wy_0 (g : List (List Int)) (left : List Int) (k u : Nat) : (wy g left k u).getD 0 0 = u := by
  cases k <;> rfl
theorem wy_s (g : List (List Int)) (left : List Int) (k u i : Nat) : (wy g left (k + 1) u).getD (i + 1) 0 = (wy g left k (nxt g left u)).getD i 0 := rfl
theorem wy_far {g : List (List Int)} {left : List Int} {t : Nat} (hg : Gr g) (h : FarOk (tn g) t left) : ∀ (k u i : Nat), gD left u = (k : Int) → i ≤ k → gD left ((wy g left k u).getD i 0) = ((k - i : Nat) : Int)
  | k, u, 0, hu, _ => by rw [wy_0, hu, Nat.sub_zero]
  | 0, _, i + 1, _, hi => by omega
  | k + 1, u, i + 1, hu, hi => by
    rw [wy_s, wy_far hg h k _ i (nxt_ok hg h hu).2.2.1 (by omega)]
    congr 1; omega
theorem wy_ld {g : List (List Int)} {left : List Int} {t : Nat} (hg : Gr g) (h : FarOk (tn g) t left) : ∀ (k u i : Nat), gD left u = (k : Int) → i < k → Ld g ((wy g left k u).getD i 0) ((wy g left k u).getD (i + 1) 0)
  | 0, _, _, _, hi => by omega
  | k + 1, u, 0, hu, _ => by rw [wy_0, wy_s, wy_0]; exact (nxt_ok hg h hu).2.1
  | k + 1, u, i + 1, hu, hi => by rw [wy_s, wy_s]; exact wy_ld hg h k _ i (nxt_ok hg h hu).2.2.1 (by omega)
theorem far_zero {g : List (List Int)} {s : Nat} {d : List Int} (h : FarOk g s d) {t : Nat} (ht : gD d t = 0) : t = s := by
  by_cases hts : t = s
  · exact hts
  · obtain ⟨u, _, h2, h3⟩ := h.fr t hts (by omega)
    omega
theorem wy_last {g : List (List Int)} {left : List Int} {t : Nat} (hg : Gr g) (h : FarOk (tn g) t left) {k u : Nat} (hu : gD left u = (k : Int)) : (wy g left k u).getD k 0 = t := by
  refine far_zero h ?_
  rw [wy_far hg h k u k hu (Nat.le_refl _)]; simp
/-- None that is as long is ahead of it. -/
theorem wy_min {g : List (List Int)} {left : List Int} {t : Nat} (hg : Gr g) (h : FarOk (tn g) t left) : ∀ (k u : Nat) (o : Nat → Nat), gD left u = (k : Int) → o 0 = u → o k = t → (∀ i, i < k → Ld g (o i) (o (i + 1))) →
    ∀ i, i ≤ k → (∀ j, j < i → o j = (wy g left k u).getD j 0) → o i ≠ (wy g left k u).getD i 0 → (wy g left k u).getD i 0 < o i
  | k, u, o, hu, h0, _, _, 0, _, _, hne => by rw [wy_0, h0] at hne; exact absurd rfl hne
  | 0, _, _, _, _, _, _, i + 1, hi, _, _ => by omega
  | k + 1, u, o, hu, h0, hk, hl, i + 1, hi, hj, hne => by
    have hn := nxt_ok hg h hu
    have hwalk : ∀ m, m ≤ k → Wk g m (o (k + 1 - m)) t := by
      intro m
      induction m with
      | zero => intro _; exact hk
      | succ m ih =>
        intro hm
        have := hl (k + 1 - (m + 1)) (by omega)
        rw [show k + 1 - (m + 1) + 1 = k + 1 - m by omega] at this
        exact ⟨_, this, ih (by omega)⟩
    have hd1 : gD left (o 1) = (k : Int) := by
      have a := h.le (wk_tn hg (hwalk k (Nat.le_refl _)))
      rw [show k + 1 - k = 1 by omega] at a
      have b := h.up (o 1) u ((ld_tn hg).2 (by rw [← h0]; exact hl 0 (by omega))) a.1
      omega
    cases i with
    | zero =>
      rw [wy_s, wy_0] at hne ⊢
      have := hn.2.2.2 (o 1) (by rw [← h0]; exact hl 0 (by omega)) hd1
      have hne : o 1 ≠ nxt g left u := hne
      show nxt g left u < o 1
      omega
    | succ i =>
      rw [wy_s] at hne ⊢
      have h1 := hj 1 (by omega)
      rw [wy_s, wy_0] at h1
      exact wy_min hg h k (nxt g left u) (fun i => o (i + 1)) hn.2.2.1 h1 hk (fun i hi => hl (i + 1) (by omega)) (i + 1) (by omega) (fun j hj2 => by have := hj (j + 1) (by omega); rw [wy_s] at this; exact this) hne
def Ud (g : List (List Int)) (u v : Nat) : Prop := Ld g u v ∨ Ld g v u
def Uw (g : List (List Int)) : Nat → Nat → Nat → Prop
  | 0, s, t => s = t
  | k + 1, s, t => ∃ u, Ud g s u ∧ Uw g k u t
theorem ud_symm {g : List (List Int)} {u v : Nat} (h : Ud g u v) : Ud g v u := h.symm
theorem uw_app {g : List (List Int)} : ∀ {j k s u t : Nat}, Uw g j s u → Uw g k u t → Uw g (j + k) s t
  | 0, k, s, u, _, h1, h2 => by
    have h1 : s = u := h1
    subst h1
    rw [Nat.zero_add]; exact h2
  | j + 1, k, _, _, _, ⟨w, h0, h1⟩, h2 => by
    rw [show j + 1 + k = (j + k) + 1 by omega]
    exact ⟨w, h0, uw_app h1 h2⟩
theorem uw_one {g : List (List Int)} {s t : Nat} (h : Ud g s t) : Uw g 1 s t := ⟨t, h, rfl⟩
theorem uw_symm {g : List (List Int)} : ∀ {k s t : Nat}, Uw g k s t → Uw g k t s
  | 0, s, t, h => (show s = t from h).symm
  | _ + 1, _, _, ⟨_, h0, h1⟩ => uw_app (uw_symm h1) (uw_one (ud_symm h0))
structure PartOk (g : List (List Int)) (p : List Int) : Prop where
  len : p.length = g.length
  le : ∀ t, t < g.length → 0 ≤ gD p t ∧ gD p t ≤ t
  arc : ∀ u v, Ld g u v → gD p u = gD p v
  con : ∀ t, t < g.length → ∃ k, Uw g k (gD p t).toNat t
theorem PartOk.same {g : List (List Int)} {p : List Int} (h : PartOk g p) : ∀ {k x y : Nat}, Uw g k x y → gD p x = gD p y
  | 0, x, y, e => by have e : x = y := e; rw [e]
  | k + 1, x, y, ⟨u, h0, h1⟩ => by
    rw [← h.same h1]
    rcases h0 with h0 | h0
    · exact h.arc _ _ h0
    · exact (h.arc _ _ h0).symm
theorem PartOk.least {g : List (List Int)} {p : List Int} (h : PartOk g p) {k x y : Nat} (hy : y < g.length) (hw : Uw g k x y) : gD p x ≤ y := by
  rw [h.same hw]; exact (h.le y hy).2
theorem PartOk.uni {g : List (List Int)} {p q : List Int} (h : PartOk g p) (h' : PartOk g q) : p = q := by
  have key : ∀ {p q : List Int}, PartOk g p → PartOk g q → ∀ t, t < g.length → gD p t ≤ gD q t := by
    intro p q h h' t ht
    obtain ⟨k, hk⟩ := h'.con t ht
    have a := h'.le t ht
    have := h.least (by omega) (uw_symm hk)
    omega
  refine gD_ext (by rw [h.len, h'.len]) fun t ht => ?_
  rw [h.len] at ht
  have a := key h h' t ht
  have b := key h' h t ht
  omega
def startF (n s : Nat) : List Int := (List.replicate n (-1)).set s 0
theorem startF_gD {n s : Nat} (hs : s < n) (t : Nat) : gD (startF n s) t = if t = s then 0 else -1 := by
  unfold startF
  rw [gD_set (by simpa using hs)]
  split
  · rfl
  · unfold gD
    rw [List.getD_eq_getElem?_getD, List.getElem?_replicate]
    split <;> rfl
structure Lb (g : List (List Int)) (A : List (Int × Int)) (out : List Int) (f : Nat → Nat) : Prop where
  len : out.length = g.length
  par : ∀ i, i < g.length → ∃ m : Nat, gD out i = (m : Int) ∧ m ≤ i ∧ f m = f i ∧ (m = i → f i = i)
  le : ∀ i, i < g.length → f i ≤ i
  idem : ∀ i, i < g.length → f (f i) = f i
  arcs : ∀ p ∈ A, f p.1.toNat = f p.2.toNat
  con : ∀ i, i < g.length → ∃ k, Uw g k (f i) i
def ids (n : Nat) : List Int := (List.range n).map fun (i : Nat) => (i : Int)
theorem ids_gD {n t : Nat} (h : t < n) : gD (ids n) t = (t : Int) := by simp [gD, ids, List.getD, h]
theorem Lb.start (g : List (List Int)) : Lb g [] (ids g.length) id where
  len := by simp [ids]
  par := fun i hi => ⟨i, ids_gD hi, Nat.le_refl _, rfl, fun _ => rfl⟩
  le := fun i _ => Nat.le_refl _
  idem := fun i _ => rfl
  arcs := fun p hp => by simp at hp
  con := fun i _ => ⟨0, rfl⟩
def joined (f : Nat → Nat) (x y : Nat) (z : Nat) : Nat := if f z = max x y then min x y else f z
theorem Lb.union {g : List (List Int)} {A : List (Int × Int)} {out : List Int} {f : Nat → Nat} (h : Lb g A out f) {u v : Nat} (hu : u < g.length) (hv : v < g.length) (huv : Ud g u v) :
    Lb g (A ++ [((u : Int), (v : Int))]) (out.set (max (f u) (f v)) ((min (f u) (f v) : Nat) : Int)) (joined f (f u) (f v)) := by
  have lu := h.le u hu
  have lv := h.le v hv
  have iu := h.idem u hu
  have iv := h.idem v hv
  have hM : max (f u) (f v) < out.length := by rw [h.len]; omega
  have fM : f (max (f u) (f v)) = max (f u) (f v) := by
    by_cases hc : f u ≤ f v
    · rw [Nat.max_eq_right hc]; exact iv
    · rw [Nat.max_eq_left (by omega)]; exact iu
  have fm : f (min (f u) (f v)) = min (f u) (f v) := by
    by_cases hc : f u ≤ f v
    · rw [Nat.min_eq_left hc]; exact iu
    · rw [Nat.min_eq_right (by omega)]; exact iv
  generalize hMM : max (f u) (f v) = M at *
  generalize hmm : min (f u) (f v) = μ at *
  have hle : μ ≤ M := by omega
  have jl : ∀ z, joined f (f u) (f v) z = if f z = M then μ else f z := fun z => by unfold joined; rw [hMM, hmm]
  refine ⟨by rw [List.length_set]; exact h.len, fun i hi => ?_, fun i hi => ?_, fun i hi => ?_, fun p hp => ?_, fun i hi => ?_⟩
  · rw [gD_set hM]
    by_cases hiM : i = M
    · refine ⟨μ, by rw [if_pos hiM], by omega, ?_, fun e => ?_⟩
      · rw [jl, jl, hiM, fM, if_pos rfl, fm]
        by_cases he : μ = M
        · rw [if_pos he]
        · rw [if_neg he]
      · rw [jl, hiM, fM, if_pos rfl]; omega
    · obtain ⟨m, h1, h2, h3, h4⟩ := h.par i hi
      refine ⟨m, by rw [if_neg hiM]; exact h1, h2, by rw [jl, jl, h3], fun e => ?_⟩
      rw [jl, h4 e, if_neg hiM]
  · rw [jl]
    have := h.le i hi
    split <;> omega
  · rw [jl i]
    split
    · rw [jl, fm]
      split <;> rfl
    · rename_i hne
      rw [jl, h.idem i hi, if_neg hne]
  · rcases List.mem_append.1 hp with hp | hp
    · rw [jl, jl, h.arcs p hp]
    · simp only [List.mem_singleton] at hp
      subst hp
      simp only [Int.toNat_natCast]
      rw [jl, jl]
      by_cases h1 : f u = M <;> by_cases h2 : f v = M
      · rw [if_pos h1, if_pos h2]
      · rw [if_pos h1, if_neg h2]; omega
      · rw [if_neg h1, if_pos h2]; omega
      · omega
  · obtain ⟨k, hk⟩ := h.con i hi
    rw [jl]
    by_cases hc : f i = M
    · rw [if_pos hc]
      obtain ⟨a, ha⟩ := h.con u hu
      obtain ⟨b, hb⟩ := h.con v hv
      have hw : ∃ j, Uw g j μ M := by
        by_cases hlt : f u ≤ f v
        · have e1 : μ = f u := by omega
          have e2 : M = f v := by omega
          exact ⟨_, by rw [e1, e2]; exact uw_app (uw_app ha (uw_one huv)) (uw_symm hb)⟩
        · have e1 : μ = f v := by omega
          have e2 : M = f u := by omega
          exact ⟨_, by rw [e1, e2]; exact uw_app (uw_app hb (uw_one (ud_symm huv))) (uw_symm ha)⟩
      obtain ⟨j, hj⟩ := hw
      rw [hc] at hk
      exact ⟨_, uw_app hj hk⟩
    · rw [if_neg hc]; exact ⟨k, hk⟩
/-- What a node is put to is what stands for it. -/
theorem Lb.put {g : List (List Int)} {A : List (Int × Int)} {out : List Int} {f : Nat → Nat} (h : Lb g A out f) {i : Nat} (hi : i < g.length) : Lb g A (out.set i (f i : Int)) f where
  len := by rw [List.length_set]; exact h.len
  par := fun j hj => by
    rw [gD_set (by rw [h.len]; exact hi)]
    by_cases e : j = i
    · subst e
      exact ⟨f j, by rw [if_pos rfl], h.le j hj, h.idem j hj, fun e => e⟩
    · rw [if_neg e]; exact h.par j hj
  le := h.le
  idem := h.idem
  arcs := h.arcs
  con := h.con
theorem Lb.done {g : List (List Int)} {out : List Int} {f : Nat → Nat} (h : Lb g (af 0 g) out f) (hg : Gr g) : PartOk g ((List.range g.length).map fun (i : Nat) => (f i : Int)) := by
  have hgD : ∀ {t}, t < g.length → gD ((List.range g.length).map fun (i : Nat) => (f i : Int)) t = (f t : Int) := fun ht => by simp [gD, List.getD, ht]
  refine ⟨by simp, fun t ht => ?_, fun u v huv => ?_, fun t ht => ?_⟩
  · rw [hgD ht]; have := h.le t ht; omega
  · have hin := ld_in hg huv
    rw [hgD hin.1, hgD hin.2]
    have := h.arcs _ huv
    simp only [Int.toNat_natCast] at this
    rw [this]
  · rw [hgD ht, Int.toNat_natCast]; exact h.con t ht
theorem mul_one64 {F n : Nat} (h : n ≤ 100) : M_math_bits_Mul F 1 (n : Int) = some (0, (n : Int)) := by
  have key : ∀ n : Fin 101, M_math_bits_Mul 0 1 ((n.val : Nat) : Int) = some (0, ((n.val : Nat) : Int)) := by decide +kernel
  exact key ⟨n, by omega⟩
theorem rep_l {F n : Nat} {x : Int} (hn : n ≤ 1000) : ∀ (k m : Nat), n < k + m → 1 ≤ m → m ≤ n → M_slices_Repeat_int_int_l3 F k (List.replicate m x ++ List.replicate (n - m) 0, (m : Int)) = some (List.replicate n x)
  | 0, m, h, _, hm => by omega
  | k + 1, m, h, h1, hm => by
    show M_slices_Repeat_int_int_b3 F (M_slices_Repeat_int_int_l3 F k) (List.replicate m x ++ List.replicate (n - m) 0) (m : Int) = _
    unfold M_slices_Repeat_int_int_b3
    have hl : (List.replicate m x ++ List.replicate (n - m) (0 : Int)).length = n := by simp; omega
    by_cases hlt : m < n
    · have e2 : sub (List.replicate m x ++ List.replicate (n - m) (0 : Int)) 0 (m : Int) = some (List.replicate m x) := by
        have := sub_n (l := List.replicate m x ++ List.replicate (n - m) (0 : Int)) (i := 0) (j := m) (by omega) (by omega)
        rw [show ((0 : Nat) : Int) = 0 from rfl] at this
        rw [this, List.drop_zero, List.take_left' (by simp)]
      have e1 : sub (List.replicate m x ++ List.replicate (n - m) (0 : Int)) (m : Int) (n : Int) = some ((List.replicate m x ++ List.replicate (n - m) (0 : Int)).drop m) := by
        rw [sub_n (by omega) (by omega), List.take_of_length_le (by omega)]
      rw [if_pos (by simp; omega), hl, e1]
      simp only [Option.bind_some]
      rw [e2]
      simp only [Option.bind_some]
      have hd : ((List.replicate m x ++ List.replicate (n - m) (0 : Int)).drop m).length = n - m := by simp
      unfold lett
      rw [hd, Int.toNat_natCast, List.length_replicate, iadd_n (by omega)]
      have e3 : overlay m (List.replicate m x ++ List.replicate (n - m) (0 : Int)) (List.replicate m x) = List.replicate (m + min m (n - m)) x ++ List.replicate (n - (m + min m (n - m))) 0 := by
        unfold overlay
        rw [hl, List.take_left' (by simp), List.take_replicate, List.length_replicate, Nat.min_comm, List.drop_append, List.drop_replicate]
        simp only [List.drop_replicate, List.length_replicate]
        rw [show m - (m + m) = 0 by omega, List.replicate_zero, List.nil_append, ← List.replicate_append_replicate]
        have e9 : n - m - (m + m - m) = n - (m + min m (n - m)) := by omega
        rw [e9]
      rw [e3]
      exact rep_l hn k (m + min m (n - m)) (by omega) (by omega) (by omega)
    · rw [if_neg (by simp; omega)]
      unfold M_slices_Repeat_int_int_j2
      obtain rfl : m = n := by omega
      simp
theorem rep_eq {F n : Nat} {x : Int} (hF : 1000 ≤ F) (hn : n ≤ 100) : M_slices_Repeat_int_int F [x] (n : Int) = some (List.replicate n x) := by
  unfold M_slices_Repeat_int_int
  have c1 : iconv .u64 (([x] : List Int).length : Int) = 1 := by show iconv .u64 1 = 1; decide
  have c2 : iconv .u64 (n : Int) = (n : Int) := by
    have key : ∀ n : Fin 101, iconv .u64 ((n.val : Nat) : Int) = ((n.val : Nat) : Int) := by decide +kernel
    exact key ⟨n, by omega⟩
  have c3 : iconv .i64 (n : Int) = (n : Int) := by
    have key : ∀ n : Fin 101, iconv .i64 ((n.val : Nat) : Int) = ((n.val : Nat) : Int) := by decide +kernel
    exact key ⟨n, by omega⟩
  rw [if_neg (by simp), c1, c2, mul_one64 hn]
  simp only [Option.bind_some]
  rw [if_neg (by simp; omega), c3]
  have hmk : mk 17592186044416 (0 : Int) (n : Int) = some (List.replicate n 0) := by
    unfold mk
    rw [if_pos (by omega), Int.toNat_natCast]
  rw [hmk]
  simp only [Option.bind_some]
  unfold lett
  by_cases h0 : n = 0
  · subst h0
    obtain ⟨k, rfl⟩ := Nat.exists_eq_succ_of_ne_zero (show F ≠ 0 by omega)
    show M_slices_Repeat_int_int_b3 _ _ _ _ = _
    unfold M_slices_Repeat_int_int_b3
    rw [if_neg (by simp [overlay])]
    rfl
  · have e : overlay 0 (List.replicate n (0 : Int)) [x] = List.replicate 1 x ++ List.replicate (n - 1) 0 := by
      unfold overlay
      obtain ⟨m, rfl⟩ := Nat.exists_eq_succ_of_ne_zero h0
      simp
    have e2 : ((min ([x] : List Int).length (List.replicate n (0 : Int)).length : Nat) : Int) = ((1 : Nat) : Int) := by simp; omega
    rw [e, e2]
    exact rep_l (by omega) F 1 (by omega) (by omega) (by omega)
def iz (q : List Nat) : List Int := q.map fun (u : Nat) => (u : Int)
theorem iz_len (q : List Nat) : (iz q).length = q.length := by simp [iz]
def unv (out : List Int) : Nat := out.countP fun x => decide (x < 0)
theorem unv_set {out : List Int} {t : Nat} {x : Int} (ht : t < out.length) (h0 : gD out t < 0) (hx : 0 ≤ x) : unv (out.set t x) + 1 = unv out := by
  unfold unv
  have hge : out[t] < 0 := by
    have := gD_get ht
    rw [List.getElem?_eq_getElem ht] at this
    rw [Option.some.inj this]; exact h0
  have hpos : 0 < out.countP fun x => decide (x < 0) := List.countP_pos_iff.2 ⟨out[t], List.getElem_mem ht, by simpa using hge⟩
  rw [List.countP_set ht, if_pos (by simpa using hge), if_neg (by simp; omega)]
  omega
structure BF (g : List (List Int)) (s : Nat) (out : List Int) (q : List Nat) : Prop where
  len : out.length = g.length
  src : gD out s = 0
  low : ∀ t, -1 ≤ gD out t
  qin : ∀ u, u ∈ q → u < g.length ∧ 0 ≤ gD out u
  qpw : q.Pairwise fun a b => gD out a ≤ gD out b
  top : ∀ u, u ∈ q → ∀ t, gD out t ≤ gD out u + 1
  don : ∀ u, 0 ≤ gD out u → u ∉ q → ∀ t, Ld g u t → 0 ≤ gD out t ∧ gD out t ≤ gD out u + 1
  fr : ∀ t, t ≠ s → 0 ≤ gD out t → ∃ u, Ld g u t ∧ gD out u + 1 = gD out t ∧ 0 ≤ gD out u
  hi : ∀ t, gD out t + 1 + (unv out : Int) ≤ (g.length : Int)
theorem BF.done {g : List (List Int)} {s : Nat} {out : List Int} (h : BF g s out []) : FarOk g s out :=
  ⟨h.len, h.src, h.low, fun u t hl h0 => h.don u h0 (by simp) t hl, h.fr⟩
theorem BF.pop {g : List (List Int)} {s a : Nat} {out : List Int} {q : List Nat} (h : BF g s out (a :: q)) (ha : ∀ t, Ld g a t → 0 ≤ gD out t ∧ gD out t ≤ gD out a + 1) : BF g s out q where
  len := h.len
  src := h.src
  low := h.low
  qin := fun u hu => h.qin u (by simp [hu])
  qpw := (List.pairwise_cons.1 h.qpw).2
  top := fun u hu => h.top u (by simp [hu])
  don := fun u h0 hu => by
    by_cases e : u = a
    · subst e; exact ha
    · exact h.don u h0 (by simp [e, hu])
  fr := h.fr
  hi := h.hi
theorem BF.push {g : List (List Int)} {s a t : Nat} {out : List Int} {q : List Nat} (hg : Gr g) (h : BF g s out (a :: q)) (ht : gD out t < 0) (hl : Ld g a t) : BF g s (out.set t (gD out a + 1)) (a :: q ++ [t]) := by
  have htl : t < out.length := by rw [h.len]; exact (ld_in hg hl).2
  have ha0 := (h.qin a (by simp)).2
  have hv : ∀ x, gD (out.set t (gD out a + 1)) x = if x = t then gD out a + 1 else gD out x := fun x => gD_set htl
  have hne : ∀ x, 0 ≤ gD out x → x ≠ t := fun x hx e => by rw [e] at hx; omega
  have hold : ∀ x, 0 ≤ gD out x → gD (out.set t (gD out a + 1)) x = gD out x := fun x hx => by rw [hv, if_neg (hne x hx)]
  have hat : gD (out.set t (gD out a + 1)) t = gD out a + 1 := by rw [hv, if_pos rfl]
  have hmin : ∀ u, u ∈ a :: q → gD out a ≤ gD out u := fun u hu => by
    rcases List.mem_cons.1 hu with rfl | hu
    · exact Int.le_refl _
    · exact (List.pairwise_cons.1 h.qpw).1 u hu
  refine ⟨by rw [List.length_set]; exact h.len, by rw [hold s (by rw [h.src]; exact Int.le_refl 0)]; exact h.src, fun x => ?_, fun u hu => ?_, ?_, fun u hu x => ?_, fun u h0 hu x hx => ?_, fun x hxs h0 => ?_, fun x => ?_⟩
  · rw [hv]; have := h.low x; split <;> omega
  · rcases List.mem_append.1 hu with hu | hu
    · rw [hold u (h.qin u hu).2]; exact h.qin u hu
    · rw [List.mem_singleton] at hu
      rw [hu, hat]
      exact ⟨(ld_in hg hl).2, by omega⟩
  · rw [List.pairwise_append]
    refine ⟨h.qpw.imp_of_mem fun {x y} hx hy hxy => by rw [hold x (h.qin x hx).2, hold y (h.qin y hy).2]; exact hxy, by simp, fun x hx y hy => ?_⟩
    rw [List.mem_singleton] at hy
    rw [hy, hat, hold x (h.qin x hx).2]
    exact h.top a (by simp) x
  · rcases List.mem_append.1 hu with hu | hu
    · rw [hold u (h.qin u hu).2, hv]
      have := hmin u hu
      split
      · omega
      · exact h.top u hu x
    · rw [List.mem_singleton] at hu
      rw [hu, hat, hv]
      have := h.top a (by simp) x
      split <;> omega
  · have hut : u ≠ t := fun e => hu (by simp [e])
    have hu' : u ∉ a :: q := fun hm => hu (List.mem_append.2 (.inl hm))
    rw [hv, if_neg hut] at h0
    have := h.don u h0 hu' x hx
    rw [hold x this.1, hold u h0]; exact this
  · by_cases e : x = t
    · exact ⟨a, by rw [e]; exact hl, by rw [e, hat, hold a ha0], by rw [hold a ha0]; exact ha0⟩
    · rw [hv, if_neg e] at h0 ⊢
      obtain ⟨u, h1, h2, h3⟩ := h.fr x hxs h0
      exact ⟨u, h1, by rw [hold u h3]; exact h2, by rw [hold u h3]; exact h3⟩
  · have := unv_set (x := gD out a + 1) htl ht (by omega)
    have h1 := h.hi x
    have h2 := h.hi a
    rw [hv]
    split <;> omega
theorem far_in {F : Nat} {g : List (List Int)} {s a : Nat} {r : List Int} {rec48 : (List Int × List Int) → Option (List Int)} (hg : Gr g) (hr : g[a]? = some r) : ∀ (k j : Nat) (out : List Int) (q : List Nat), r.length < k + j → j ≤ r.length → BF g s out (a :: q) → q.length + unv out ≤ 1000 →
    (∀ t : Nat, (t : Int) ∈ r.take j → 0 ≤ gD out t ∧ gD out t ≤ gD out a + 1) →
    ∃ out' q', M_walk_far_l56 F rec48 (a : Int) r k (out, iz (a :: q), (j : Int)) = M_walk_far_j53 F rec48 out' (iz (a :: q')) ∧ BF g s out' (a :: q') ∧ (∀ t : Nat, (t : Int) ∈ r → 0 ≤ gD out' t ∧ gD out' t ≤ gD out' a + 1) ∧ q'.length + unv out' = q.length + unv out
  | 0, j, _, _, h, hj, _, _, _ => by omega
  | k + 1, j, out, q, h, hj, hb, hm, hp => by
    have hrl := gr_row hg (List.mem_of_getElem? hr)
    by_cases hlt : j < r.length
    · have hx0 := (hg.2.1 r (List.mem_of_getElem? hr)).2 r[j] (List.getElem_mem hlt)
      obtain ⟨t, ht⟩ := Int.eq_ofNat_of_zero_le hx0.1
      have htg : t < g.length := by omega
      have htl : t < out.length := by rw [hb.len]; exact htg
      have hal : a < out.length := by rw [hb.len]; exact (hb.qin a (by simp)).1
      have hld : Ld g a t := ld_row.2 ⟨r, hr, by rw [← ht]; exact List.getElem_mem hlt⟩
      have ha0 := (hb.qin a (by simp)).2
      have hsn : r.take (j + 1) = r.take j ++ [(t : Int)] := by rw [take_snoc hlt, ht]
      have hstep : M_walk_far_l56 F rec48 (a : Int) r (k + 1) (out, iz (a :: q), (j : Int)) = M_walk_far_b56 F rec48 (a : Int) r (M_walk_far_l56 F rec48 (a : Int) r k) out (iz (a :: q)) (j : Int) := rfl
      rw [hstep]
      unfold M_walk_far_b56
      rw [if_pos (by simpa using hlt), idx_nat, List.getElem?_eq_getElem hlt, ht]
      simp only [Option.bind_some]
      rw [idx_nat, gD_get htl]
      simp only [Option.bind_some]
      by_cases hneg : gD out t < 0
      · rw [if_pos (by simpa using hneg), idx_nat, gD_get hal]
        simp only [Option.bind_some]
        have hglen : g.length ≤ 100 := hg.1
        have htop := hb.top a (by simp) a
        have hbig := hb.hi a
        rw [app_eq (by rw [iz_len]; simp; omega)]
        unfold lett
        simp only [Option.bind_some]
        unfold M_walk_far_j57
        rw [iadd1_n (by omega), iadd_i64 (by omega) (by omega), Int.toNat_natCast]
        have hb' := hb.push hg hneg hld
        have hz : iz (a :: q) ++ [(t : Int)] = iz (a :: (q ++ [t])) := by simp [iz]
        have hu := unv_set (x := gD out a + 1) htl hneg (by omega)
        have hat : gD (out.set t (gD out a + 1)) a = gD out a := by rw [gD_set htl, if_neg (fun e => by rw [← e] at hneg; omega)]
        rw [hz]
        obtain ⟨out', q', e1, e2, e3, e4⟩ := far_in (rec48 := rec48) hg hr k (j + 1) (out.set t (gD out a + 1)) (q ++ [t]) (by omega) (by omega) hb' (by simp; omega) (fun x hx => by
          rw [hsn] at hx
          rw [hat, gD_set htl]
          rcases List.mem_append.1 hx with hx | hx
          · have := hp x hx
            split
            · omega
            · exact this
          · simp only [List.mem_singleton] at hx
            rw [if_pos (by omega)]; omega)
        refine ⟨out', q', e1, e2, e3, ?_⟩
        rw [e4]; simp; omega
      · rw [if_neg (by simpa using hneg)]
        unfold M_walk_far_j57
        rw [iadd1_n (by omega)]
        exact far_in hg hr k (j + 1) out q (by omega) (by omega) hb hm (fun x hx => by
          rw [hsn] at hx
          rcases List.mem_append.1 hx with hx | hx
          · exact hp x hx
          · simp only [List.mem_singleton] at hx
            obtain rfl : x = t := by omega
            exact ⟨by omega, hb.top a (by simp) x⟩)
    · have hstep : M_walk_far_l56 F rec48 (a : Int) r (k + 1) (out, iz (a :: q), (j : Int)) = M_walk_far_b56 F rec48 (a : Int) r (M_walk_far_l56 F rec48 (a : Int) r k) out (iz (a :: q)) (j : Int) := rfl
      refine ⟨out, q, ?_, hb, fun t ht => hp t (by rw [List.take_of_length_le (by omega)]; exact ht), rfl⟩
      rw [hstep]
      unfold M_walk_far_b56
      rw [if_neg (by simpa using hlt)]
theorem far_out {F : Nat} {g : List (List Int)} {s : Nat} (hF : 1000 ≤ F) (hg : Gr g) : ∀ (k : Nat) (out : List Int) (q : List Nat), q.length + unv out < k → q.length + unv out ≤ 1000 → BF g s out q → ∃ d, M_walk_far_l48 F g k (out, iz q) = some d ∧ FarOk g s d
  | 0, _, _, h, _, _ => by omega
  | k + 1, out, q, h, hm, hb => by
    have hstep : M_walk_far_l48 F g (k + 1) (out, iz q) = M_walk_far_b48 F g (M_walk_far_l48 F g k) out (iz q) := rfl
    rw [hstep]
    unfold M_walk_far_b48
    cases q with
    | nil =>
      rw [if_neg (by simp [iz])]
      exact ⟨out, rfl, hb.done⟩
    | cons a q =>
      have hal := (hb.qin a (by simp)).1
      have hra : g[a]? = some g[a] := List.getElem?_eq_getElem hal
      have hrl := gr_row hg (List.getElem_mem hal)
      rw [if_pos (by simp [iz])]
      have e0 : idx (iz (a :: q)) 0 = some (a : Int) := rfl
      rw [e0]
      simp only [Option.bind_some]
      rw [idx_nat, hra]
      simp only [Option.bind_some]
      obtain ⟨out', q', e1, e2, e3, e4⟩ := far_in (F := F) (rec48 := M_walk_far_l48 F g k) hg hra F 0 out q (by omega) (by omega) hb (by simp only [List.length_cons] at hm; omega) (fun t ht => by simp at ht)
      rw [show ((0 : Nat) : Int) = 0 from rfl] at e1
      rw [e1]
      unfold M_walk_far_j53
      have es : sub (iz (a :: q')) 1 ((iz (a :: q')).length : Int) = some (iz q') := by
        have := sub_n (l := iz (a :: q')) (i := 1) (j := (iz (a :: q')).length) (by simp [iz]) (Nat.le_refl _)
        rw [show ((1 : Nat) : Int) = 1 from rfl] at this
        rw [this, List.take_length]; rfl
      rw [es]
      simp only [Option.bind_some]
      have hpop := e2.pop (fun t ht => by
        obtain ⟨r, hr, hm⟩ := ld_row.1 ht
        rw [hra] at hr
        obtain rfl := Option.some.inj hr
        exact e3 t hm)
      simp only [List.length_cons] at h hm
      exact far_out hF hg k out' q' (by omega) (by omega) hpop
theorem unv_rep (n : Nat) : unv (List.replicate n (-1)) = n := by
  unfold unv
  rw [List.countP_replicate]; simp
theorem far_ex {F : Nat} {g : List (List Int)} {s : Nat} (hF : 1000 ≤ F) (hg : Gr g) (hs : s < g.length) : ∃ d, M_walk_far F g (s : Int) = some d ∧ FarOk g s d := by
  have hgl := hg.1
  have hsr : s < (List.replicate g.length (-1 : Int)).length := by simpa using hs
  unfold M_walk_far
  rw [rep_eq hF hgl]
  simp only [Option.bind_some]
  rw [idx_nat, List.getElem?_eq_getElem hsr]
  simp only [Option.bind_some]
  unfold lett
  rw [Int.toNat_natCast]
  have hst : (List.replicate g.length (-1 : Int)).set s 0 = startF g.length s := rfl
  have hu : unv (startF g.length s) + 1 = g.length := by
    have h9 : gD (List.replicate g.length (-1 : Int)) s < 0 := by
      unfold gD
      rw [List.getD_eq_getElem?_getD, List.getElem?_replicate]
      split <;> simp
    have := unv_set (out := List.replicate g.length (-1)) (x := 0) hsr h9 (Int.le_refl 0)
    rw [unv_rep] at this
    exact this
  rw [hst]
  have hone : ([(s : Int)] : List Int) = iz [s] := rfl
  rw [hone]
  refine far_out hF hg F _ [s] (by simp; omega) (by simp; omega) ⟨by simp [startF], by rw [startF_gD hs, if_pos rfl], fun t => by rw [startF_gD hs]; split <;> omega, fun u hu => ?_, by simp, fun u hu t => ?_, fun u h0 hu t ht => ?_, fun t hts h0 => ?_, fun t => ?_⟩
  · simp only [List.mem_singleton] at hu
    subst hu
    exact ⟨hs, by rw [startF_gD hs, if_pos rfl]; exact Int.le_refl 0⟩
  · simp only [List.mem_singleton] at hu
    subst hu
    rw [startF_gD hs, startF_gD hs, if_pos rfl]
    split <;> omega
  · rw [startF_gD hs] at h0
    split at h0
    · rename_i e; exact absurd (by simp [e]) hu
    · omega
  · rw [startF_gD hs, if_neg hts] at h0; omega
  · rw [startF_gD hs]
    split <;> omega
/-- How far each node is from a node. -/
def farL (g : List (List Int)) (s : Nat) : List Int := (M_walk_far 1000 g (s : Int)).getD []
theorem farL_ok {g : List (List Int)} {s : Nat} (hg : Gr g) (hs : s < g.length) : FarOk g s (farL g s) := by
  obtain ⟨d, h1, h2⟩ := far_ex (F := 1000) (Nat.le_refl _) hg hs
  unfold farL
  rw [h1]; exact h2
theorem far_eq {F : Nat} {g : List (List Int)} {s : Nat} (hF : 1000 ≤ F) (hg : Gr g) (hs : s < g.length) : M_walk_far F g (s : Int) = some (farL g s) := by
  obtain ⟨d, h1, h2⟩ := far_ex hF hg hs
  rw [h1, h2.uni (farL_ok hg hs)]
def wout (g : List (List Int)) (ns : List Int) : Bool := ns.any fun n => decide (n < 0) || decide ((g.length : Int) ≤ n)
def wchk (g : List (List Int)) (ns : List Int) : Int := if gchk g ≠ 0 then gchk g else if wout g ns then 3 else 0
theorem windex_l {F : Nat} {g : List (List Int)} {l : List Int} (hm : l.length ≤ 1000000) : ∀ (k i : Nat), l.length < k + i → i ≤ l.length → ∃ z, M_slices_IndexFunc_int_int_walk_check_1_l3 F l g k (i : Int) = some z ∧ decide (0 ≤ z) = wout g (l.drop i)
  | 0, _, _, _ => by omega
  | k + 1, i, h, hi => by
    show ∃ z, M_slices_IndexFunc_int_int_walk_check_1_b3 F l g (M_slices_IndexFunc_int_int_walk_check_1_l3 F l g k) (i : Int) = some z ∧ _
    unfold M_slices_IndexFunc_int_int_walk_check_1_b3
    by_cases hlt : i < l.length
    · rw [if_pos (by simp; omega), idx_nat, List.getElem?_eq_getElem hlt, List.drop_eq_getElem_cons hlt]
      simp only [Option.bind_some]
      unfold M_walk_check_1
      simp only [Option.bind_some]
      unfold wout
      rw [List.any_cons]
      by_cases hc : (decide (l[i] < 0) || decide ((g.length : Int) ≤ l[i])) = true
      · rw [if_pos hc, hc]
        exact ⟨_, rfl, by simp⟩
      · rw [if_neg hc, iadd1_n (by omega)]
        rw [Bool.not_eq_true] at hc
        rw [hc, Bool.false_or]
        exact windex_l hm k (i + 1) (by omega) (by omega)
    · rw [if_neg (by simp; omega), List.drop_eq_nil_of_le (by omega)]
      exact ⟨-1, rfl, rfl⟩
theorem wcheck_eq {F : Nat} {g : List (List Int)} {ns : List Int} (hF : 1000 ≤ F) (hn : ns.length ≤ 100) : M_walk_check F g ns = some (wchk g ns) := by
  unfold M_walk_check wchk
  rw [graphCheck_eq hF]
  simp only [Option.bind_some]
  by_cases h : gchk g = 0
  · rw [if_neg (by simp [h]), if_neg (by simp [h])]
    unfold M_slices_ContainsFunc_int_int_walk_check_1 M_slices_IndexFunc_int_int_walk_check_1
    obtain ⟨z, e1, e2⟩ := windex_l (F := F) (g := g) (l := ns) (by omega) F 0 (by omega) (by omega)
    have e1' : M_slices_IndexFunc_int_int_walk_check_1_l3 F ns g F 0 = some z := e1
    rw [List.drop_zero] at e2
    rw [e1']
    simp only [Option.bind_some]
    rw [e2]
    split <;> rfl
  · rw [if_pos (by simpa using h), if_pos h]
theorem wchk1 {g : List (List Int)} {s : Int} (h : wchk g [s] = 0) : Gr g ∧ ∃ n : Nat, s = (n : Int) ∧ n < g.length := by
  unfold wchk at h
  by_cases h1 : gchk g = 0
  · rw [if_neg (by simp [h1])] at h
    by_cases h2 : wout g [s] = true
    · rw [if_pos h2] at h; simp at h
    · simp [wout] at h2
      obtain ⟨n, hn⟩ := Int.eq_ofNat_of_zero_le (show 0 ≤ s by omega)
      exact ⟨gchk_ok.1 h1, n, hn, by omega⟩
  · rw [if_pos h1] at h; exact absurd h h1
theorem wchk2 {g : List (List Int)} {s t : Int} (h : wchk g [s, t] = 0) : Gr g ∧ (∃ n : Nat, s = (n : Int) ∧ n < g.length) ∧ ∃ n : Nat, t = (n : Int) ∧ n < g.length := by
  unfold wchk at h
  by_cases h1 : gchk g = 0
  · rw [if_neg (by simp [h1])] at h
    by_cases h2 : wout g [s, t] = true
    · rw [if_pos h2] at h; simp at h
    · simp [wout] at h2
      obtain ⟨n, hn⟩ := Int.eq_ofNat_of_zero_le (show 0 ≤ s by omega)
      obtain ⟨m, hm⟩ := Int.eq_ofNat_of_zero_le (show 0 ≤ t by omega)
      exact ⟨gchk_ok.1 h1, ⟨n, hn, by omega⟩, m, hm, by omega⟩
  · rw [if_pos h1] at h; exact absurd h h1
theorem wchk_in1 {g : List (List Int)} {s : Nat} (hg : Gr g) (hs : s < g.length) : wchk g [(s : Int)] = 0 := by
  unfold wchk
  rw [if_neg (by simp [gchk_ok.2 hg]), if_neg]
  simp [wout]; omega
theorem wchk_in2 {g : List (List Int)} {s t : Nat} (hg : Gr g) (hs : s < g.length) (ht : t < g.length) : wchk g [(s : Int), (t : Int)] = 0 := by
  unfold wchk
  rw [if_neg (by simp [gchk_ok.2 hg]), if_neg]
  simp [wout]; omega
def farM (g : List (List Int)) (s : Int) : List Int × Int := if wchk g [s] ≠ 0 then ([], wchk g [s]) else (farL g s.toNat, 0)
theorem Far_eq {F : Nat} {g : List (List Int)} {s : Int} (hF : 1000 ≤ F) : M_walk_Far F g s = some (farM g s) := by
  unfold M_walk_Far farM
  rw [wcheck_eq hF (by simp)]
  simp only [Option.bind_some]
  by_cases h : wchk g [s] = 0
  · obtain ⟨hg, n, rfl, hn⟩ := wchk1 h
    rw [if_neg (by simp [h]), if_neg (by simp [h]), far_eq hF hg hn, Int.toNat_natCast]
    rfl
  · rw [if_pos (by simpa using h), if_pos h]
theorem way_index {F : Nat} {r left : List Int} {u v : Nat} (hm : r.length ≤ 1000000) (hr : ∀ x ∈ r, 0 ≤ x ∧ x < left.length) (hu : u < left.length) (hlo : ∀ t, -1 ≤ gD left t ∧ gD left t ≤ 1000000) : ∀ (k i : Nat), r.length < k + i → i ≤ r.length → (r.drop i).find? (nearer left u) = some (v : Int) →
    ∃ z : Nat, M_slices_IndexFunc_int_int_walk_Way_1_l3 F r left (u : Int) k (i : Int) = some (z : Int) ∧ r[z]? = some (v : Int)
  | 0, _, _, _, _ => by omega
  | k + 1, i, h, hi, hf => by
    show ∃ z : Nat, M_slices_IndexFunc_int_int_walk_Way_1_b3 F r left (u : Int) (M_slices_IndexFunc_int_int_walk_Way_1_l3 F r left (u : Int) k) (i : Int) = some (z : Int) ∧ _
    unfold M_slices_IndexFunc_int_int_walk_Way_1_b3
    by_cases hlt : i < r.length
    · have hx := hr r[i] (List.getElem_mem hlt)
      obtain ⟨x, hx1⟩ := Int.eq_ofNat_of_zero_le hx.1
      have hxl : x < left.length := by omega
      have hlu := hlo u
      rw [if_pos (by simpa using hlt), idx_nat, List.getElem?_eq_getElem hlt]
      simp only [Option.bind_some]
      unfold M_walk_Way_1
      rw [hx1, idx_nat, gD_get hxl]
      simp only [Option.bind_some]
      rw [idx_nat, gD_get hu]
      simp only [Option.bind_some]
      rw [isub_i64 (by omega) (by omega)]
      rw [List.drop_eq_getElem_cons hlt, List.find?_cons, hx1] at hf
      have hnear : nearer left u (x : Int) = (gD left x == gD left u - 1) := by
        unfold nearer
        rw [Int.toNat_natCast, Bool.eq_iff_iff, decide_eq_true_eq, beq_iff_eq]; omega
      rw [hnear] at hf
      cases hc : (gD left x == gD left u - 1) with
      | true =>
        rw [hc] at hf
        simp only [Option.some.injEq] at hf
        exact ⟨i, by simp, by rw [List.getElem?_eq_getElem hlt, hx1, hf]⟩
      | false =>
        rw [hc] at hf
        simp only [Bool.false_eq_true, if_false]
        rw [iadd1_n (by omega)]
        exact way_index hm hr hu hlo k (i + 1) (by omega) (by omega) hf
    · rw [List.drop_eq_nil_of_le (by omega)] at hf
      simp at hf
theorem far_b {g : List (List Int)} {s : Nat} {d : List Int} (hg : Gr g) (h : FarOk g s d) (t : Nat) : -1 ≤ gD d t ∧ gD d t ≤ 1000000 := by
  have h1 := hg.1
  refine ⟨h.low t, ?_⟩
  by_cases h0 : 0 < g.length
  · have := h.lt t h0; omega
  · rw [gD_out (by rw [h.len]; omega)]; omega
theorem way_l {F : Nat} {g : List (List Int)} {left : List Int} {t : Nat} (hF : 1000 ≤ F) (hg : Gr g) (h : FarOk (tn g) t left) : ∀ (m k u : Nat) (acc : List Int), m < k → gD left u = (m : Int) → acc.length + m ≤ 1000 →
    M_walk_Way_l3 F g (t : Int) left k (acc, (u : Int)) = some (acc ++ iz ((wy g left m u).drop 1), 0)
  | 0, k, u, acc, hk, hu, ha => by
    obtain ⟨k, rfl⟩ := Nat.exists_eq_succ_of_ne_zero (show k ≠ 0 by omega)
    show M_walk_Way_b3 F g (t : Int) left (M_walk_Way_l3 F g (t : Int) left k) acc (u : Int) = _
    unfold M_walk_Way_b3
    have hut := far_zero h hu
    rw [if_neg (by simp [hut])]
    unfold M_walk_Way_j2
    rw [wy]
    simp [iz]
  | m + 1, k, u, acc, hk, hu, ha => by
    obtain ⟨k, rfl⟩ := Nat.exists_eq_succ_of_ne_zero (show k ≠ 0 by omega)
    show M_walk_Way_b3 F g (t : Int) left (M_walk_Way_l3 F g (t : Int) left k) acc (u : Int) = _
    unfold M_walk_Way_b3
    have hut : u ≠ t := by
      rintro rfl
      rw [h.src] at hu; omega
    obtain ⟨n1, n2, n3, n4⟩ := nxt_ok hg h hu
    have hin := ld_in hg n2
    have hrow : g.getD u [] = g[u] := by simp [List.getD, List.getElem?_eq_getElem hin.1]
    have hrg := hg.2.1 g[u] (List.getElem_mem hin.1)
    have hrl := gr_row hg (List.getElem_mem hin.1)
    have hll : left.length = g.length := by rw [h.len, tn_len]
    rw [hrow] at n1
    rw [if_pos (by simp; omega), idx_nat, List.getElem?_eq_getElem hin.1]
    simp only [Option.bind_some]
    unfold M_slices_IndexFunc_int_int_walk_Way_1
    obtain ⟨z, e1, e2⟩ := way_index (F := F) (r := g[u]) (left := left) (u := u) (v := nxt g left u) (by omega) (by rw [hll]; exact hrg.2) (by rw [hll]; exact hin.1) (far_b (tn_gr hg) h) F 0 (by omega) (by omega) (by rw [List.drop_zero]; exact n1)
    rw [show ((0 : Nat) : Int) = 0 from rfl] at e1
    rw [e1]
    simp only [Option.bind_some]
    rw [idx_nat, e2]
    simp only [Option.bind_some]
    rw [app_eq (by simp; omega)]
    simp only [Option.bind_some]
    rw [way_l hF hg h m k (nxt g left u) (acc ++ [(nxt g left u : Int)]) (by omega) n3 (by simp; omega), wy]
    have : ∀ (m : Nat), (nxt g left u : Int) :: iz ((wy g left m (nxt g left u)).drop 1) = iz (wy g left m (nxt g left u)) := fun m => by cases m <;> rfl
    rw [List.append_assoc, List.singleton_append, this]
    rfl
def wayM (g : List (List Int)) (s t : Int) : List Int × Int :=
  if wchk g [s, t] ≠ 0 then ([], wchk g [s, t]) else if gD (farL (tn g) t.toNat) s.toNat < 0 then ([], 5) else (iz (wy g (farL (tn g) t.toNat) (gD (farL (tn g) t.toNat) s.toNat).toNat s.toNat), 0)
theorem Way_eq {F : Nat} {g : List (List Int)} {s t : Int} (hF : 2000 ≤ F) : M_walk_Way F g s t = some (wayM g s t) := by
  unfold M_walk_Way wayM
  rw [wcheck_eq (by omega) (by simp)]
  simp only [Option.bind_some]
  by_cases h : wchk g [s, t] = 0
  · obtain ⟨hg, ⟨n, rfl, hn⟩, m, rfl, hm⟩ := wchk2 h
    rw [if_neg (by simp [h]), if_neg (by simp [h]), turn_eq (by omega), if_neg (by simp [gchk_ok.2 hg])]
    simp only [Option.bind_some]
    have hml : m < (tn g).length := by rw [tn_len]; exact hm
    have hf := farL_ok (tn_gr hg) hml
    have hnl : n < (farL (tn g) m).length := by rw [hf.len, tn_len]; exact hn
    rw [far_eq (by omega) (tn_gr hg) hml]
    simp only [Option.bind_some]
    rw [idx_nat, gD_get hnl, Int.toNat_natCast, Int.toNat_natCast]
    simp only [Option.bind_some]
    have hb := far_b (tn_gr hg) hf n
    have hlt := hf.lt n (by omega)
    rw [tn_len] at hlt
    have h100 := hg.1
    by_cases hneg : gD (farL (tn g) m) n < 0
    · rw [if_pos (by simpa using hneg), if_pos hneg]
    · rw [if_neg (by simpa using hneg), if_neg hneg]
      obtain ⟨k, hk⟩ := Int.eq_ofNat_of_zero_le (show 0 ≤ gD (farL (tn g) m) n by omega)
      rw [way_l (by omega) hg hf k F n [(n : Int)] (by omega) hk (by simp; omega), hk, Int.toNat_natCast]
      have : ∀ (k : Nat), (n : Int) :: iz ((wy g (farL (tn g) m) k n).drop 1) = iz (wy g (farL (tn g) m) k n) := fun k => by cases k <;> rfl
      rw [List.singleton_append, this]
  · rw [if_pos (by simpa using h), if_pos h]
theorem root_eq {F : Nat} {g : List (List Int)} {A : List (Int × Int)} {out : List Int} {f : Nat → Nat} (h : Lb g A out f) : ∀ (k n : Nat), n < k → n < g.length → M_walk_Parts_1_l3 F out k (n : Int) = some (f n : Int)
  | 0, _, hk, _ => by omega
  | k + 1, n, hk, hn => by
    show M_walk_Parts_1_b3 F out (M_walk_Parts_1_l3 F out k) (n : Int) = _
    unfold M_walk_Parts_1_b3
    obtain ⟨m, h1, h2, h3, h4⟩ := h.par n hn
    rw [idx_nat, gD_get (by rw [h.len]; exact hn)]
    simp only [Option.bind_some]
    by_cases e : m = n
    · rw [if_neg (by simp [h1, e])]
      unfold M_walk_Parts_1_j2
      rw [h4 e]
    · rw [if_pos (by simp [h1]; omega), h1, root_eq h k m (by omega) (by omega), h3]
def unite (f : Nat → Nat) : List (Int × Int) → (Nat → Nat)
  | [] => f
  | p :: A => unite (joined f (f p.1.toNat) (f p.2.toNat)) A
theorem imax_n (a b : Nat) : imax (a : Int) (b : Int) = ((max a b : Nat) : Int) := by unfold imax; split <;> omega
theorem imin_n (a b : Nat) : imin (a : Int) (b : Int) = ((min a b : Nat) : Int) := by unfold imin; split <;> omega
theorem unite_fold {F : Nat} {g : List (List Int)} (hF : 1000 ≤ F) (hg : Gr g) : ∀ (A done : List (Int × Int)) (out : List Int) (f : Nat → Nat), (∀ p ∈ A, p ∈ af 0 g) → Lb g done out f →
    ∃ out', runFold (τ := Empty) (fun (x116 : List Int) ((x130, x131) : (Int × Int)) => M_walk_Parts_r4 F x116 x130 x131) A out = some (.inl out') ∧ Lb g (done ++ A) out' (unite f A)
  | [], done, out, f, _, h => ⟨out, rfl, by rw [List.append_nil]; exact h⟩
  | p :: A, done, out, f, hA, h => by
    have h100 := hg.1
    have hin := gr_in hg p (hA p (by simp))
    obtain ⟨u, hu⟩ := Int.eq_ofNat_of_zero_le hin.1
    obtain ⟨v, hv⟩ := Int.eq_ofNat_of_zero_le hin.2.2.1
    have hp : p = ((u : Int), (v : Int)) := Prod.ext hu hv
    have hun : u < g.length := by omega
    have hvn : v < g.length := by omega
    have hld : Ld g u v := by unfold Ld; rw [← hp]; exact hA p (by simp)
    have hU := h.union hun hvn (.inl hld)
    have lu := h.le u hun
    have lv := h.le v hvn
    have hM : max (f u) (f v) < out.length := by rw [h.len]; omega
    have hstep : M_walk_Parts_r4 F out (u : Int) (v : Int) = some (.inl (out.set (max (f u) (f v)) ((min (f u) (f v) : Nat) : Int))) := by
      unfold M_walk_Parts_r4 M_walk_Parts_1
      rw [root_eq h F u (by omega) hun, root_eq h F v (by omega) hvn]
      simp only [Option.bind_some]
      rw [imax_n, imin_n, idx_nat, gD_get hM]
      simp only [Option.bind_some]
      unfold lett
      rw [Int.toNat_natCast]
    obtain ⟨out', e1, e2⟩ := unite_fold hF hg A (done ++ [p]) _ (joined f (f p.1.toNat) (f p.2.toNat)) (fun q hq => hA q (by simp [hq])) (by rw [hp]; exact hU)
    refine ⟨out', ?_, ?_⟩
    · rw [← e1, hp]
      show (M_walk_Parts_r4 F out (u : Int) (v : Int)).bind _ = _
      rw [hstep]
      rfl
    · rw [List.append_assoc, List.singleton_append] at e2
      exact e2
theorem parts_put {F : Nat} {g : List (List Int)} {x116 : List Int} {f : Nat → Nat} (hF : 1000 ≤ F) (hg : Gr g) (hx : x116.length = g.length) : ∀ (k i : Nat) (out : List Int), g.length < k + i → i ≤ g.length → Lb g (af 0 g) out f → (∀ j, j < i → gD out j = (f j : Int)) →
    M_walk_Parts_l7 F x116 k ((i : Int), out) = some ((List.range g.length).map (fun (i : Nat) => (f i : Int)), 0)
  | 0, _, _, _, _, _, _ => by omega
  | k + 1, i, out, h, hi, hL, hj => by
    have h100 := hg.1
    show M_walk_Parts_b7 F x116 (M_walk_Parts_l7 F x116 k) (i : Int) out = _
    unfold M_walk_Parts_b7
    by_cases hlt : i < g.length
    · have hil : i < out.length := by rw [hL.len]; exact hlt
      rw [if_pos (by simp [hx]; omega), idx_nat, gD_get hil]
      simp only [Option.bind_some]
      unfold M_walk_Parts_1
      rw [root_eq hL F i (by omega) hlt]
      simp only [Option.bind_some]
      unfold lett
      rw [iadd1_n (by omega), Int.toNat_natCast]
      refine parts_put hF hg hx k (i + 1) _ (by omega) (by omega) (hL.put hlt) fun j hj2 => ?_
      rw [gD_set hil]
      by_cases e : j = i
      · rw [if_pos e, e]
      · rw [if_neg e]; exact hj j (by omega)
    · rw [if_neg (by simp [hx]; omega)]
      unfold M_walk_Parts_j6
      congr 2
      refine gD_ext (by simp [hL.len]) fun t ht => ?_
      rw [hL.len] at ht
      rw [hj t (by omega)]
      simp [gD, List.getD, ht]
theorem ids_take {n i : Nat} (h : i ≤ n) (xs : List Int) (hx : xs = (ids n).take i ++ List.replicate (n - i) 0) : xs.length = n := by
  rw [hx]; simp [ids]; omega
theorem ids_set {n i : Nat} (h : i < n) : ((ids n).take i ++ List.replicate (n - i) (0 : Int)).set i (i : Int) = (ids n).take (i + 1) ++ List.replicate (n - (i + 1)) 0 := by
  have hl : ((ids n).take i).length = i := by simp [ids]; omega
  rw [List.set_append_right _ _ (by omega), hl, Nat.sub_self, show n - i = (n - (i + 1)) + 1 by omega, List.replicate_succ, List.set_cons_zero]
  have : (ids n).take (i + 1) = (ids n).take i ++ [(i : Int)] := by
    rw [take_snoc (by simp [ids]; exact h)]
    simp [ids]
  rw [this, List.append_assoc, List.singleton_append]
theorem parts_ids {F : Nat} {g : List (List Int)} {x8 : List Int} (hg : Gr g) (hx : x8.length = g.length) : ∀ (k i : Nat), g.length < k + i → i ≤ g.length →
    M_walk_Parts_l8 F g x8 k ((i : Int), (ids g.length).take i ++ List.replicate (g.length - i) 0) = M_walk_Parts_j2 F g (ids g.length)
  | 0, _, _, _ => by omega
  | k + 1, i, h, hi => by
    have h100 := hg.1
    show M_walk_Parts_b8 F g x8 (M_walk_Parts_l8 F g x8 k) (i : Int) ((ids g.length).take i ++ List.replicate (g.length - i) 0) = _
    unfold M_walk_Parts_b8
    by_cases hlt : i < g.length
    · have hl := ids_take (n := g.length) (i := i) (by omega) _ rfl
      rw [if_pos (by simp [hx]; omega), idx_nat, List.getElem?_eq_getElem (by omega)]
      simp only [Option.bind_some]
      unfold lett
      rw [Int.toNat_natCast, ids_set hlt, iadd1_n (by omega)]
      exact parts_ids hg hx k (i + 1) (by omega) (by omega)
    · rw [if_neg (by simp [hx]; omega)]
      obtain rfl : i = g.length := by omega
      rw [List.take_of_length_le (by simp [ids]), Nat.sub_self, List.replicate_zero, List.append_nil]
theorem parts_ex {F : Nat} {g : List (List Int)} (hF : 1000 ≤ F) (hg : Gr g) : ∃ p, M_walk_Parts F g = some (p, 0) ∧ PartOk g p := by
  have h100 := hg.1
  unfold M_walk_Parts
  rw [wcheck_eq hF (by simp)]
  have hw : wchk g [] = 0 := by
    unfold wchk
    rw [if_neg (by simp [gchk_ok.2 hg]), if_neg (by simp [wout])]
  have hmk : mk 17592186044416 (0 : Int) (g.length : Int) = some (List.replicate g.length 0) := by
    unfold mk
    rw [if_pos (by omega), Int.toNat_natCast]
  simp only [Option.bind_some]
  rw [if_neg (by simp [hw]), hmk]
  simp only [Option.bind_some]
  have h0 := parts_ids (F := F) (x8 := List.replicate g.length 0) hg (by simp) F 0 (by omega) (by omega)
  rw [List.take_zero, List.nil_append, Nat.sub_zero] at h0
  rw [show ((0 : Nat) : Int) = 0 from rfl] at h0
  rw [h0]
  unfold M_walk_Parts_j2 M_graph_All
  simp only [Option.bind_some]
  obtain ⟨out', e1, e2⟩ := unite_fold hF hg (af 0 g) [] (ids g.length) id (fun p hp => hp) (Lb.start g)
  rw [all_eq (by omega) (by omega) (fun l hl => by have := gr_row hg hl; omega), e1]
  simp only [Option.bind_some, Sum.elim_inl]
  rw [List.nil_append] at e2
  have := parts_put (F := F) hF hg e2.len F 0 out' (by omega) (by omega) e2 (fun j hj => by omega)
  rw [show ((0 : Nat) : Int) = 0 from rfl] at this
  exact ⟨_, this, e2.done hg⟩
def partL (g : List (List Int)) : List Int := ((M_walk_Parts 1000 g).getD ([], 0)).1
theorem partL_ok {g : List (List Int)} (hg : Gr g) : PartOk g (partL g) := by
  obtain ⟨p, h1, h2⟩ := parts_ex (F := 1000) (Nat.le_refl _) hg
  unfold partL
  rw [h1]; exact h2
def partM (g : List (List Int)) : List Int × Int := if gchk g ≠ 0 then ([], gchk g) else (partL g, 0)
theorem Parts_eq {F : Nat} {g : List (List Int)} (hF : 1000 ≤ F) : M_walk_Parts F g = some (partM g) := by
  unfold partM
  by_cases h : gchk g = 0
  · have hg := gchk_ok.1 h
    rw [if_neg (by simp [h])]
    obtain ⟨p, h1, h2⟩ := parts_ex hF hg
    rw [h1, h2.uni (partL_ok hg)]
  · rw [if_pos h]
    unfold M_walk_Parts
    rw [wcheck_eq hF (by simp)]
    have hw : wchk g [] = gchk g := by unfold wchk; rw [if_pos h]
    simp only [Option.bind_some]
    rw [hw, if_pos (by simpa using h)]
def mx (l : List Int) (m : Int) : Int := l.foldl imax m
theorem imax_assoc (a b c : Int) : imax (imax a b) c = imax a (imax b c) := by
  unfold imax
  repeat' split
  all_goals omega
theorem mx_imax : ∀ (l : List Int) (a b : Int), imax a (mx l b) = mx l (imax a b)
  | [], _, _ => rfl
  | x :: l, a, b => by
    show imax a (mx l (imax b x)) = mx l (imax (imax a b) x)
    rw [mx_imax l, imax_assoc]
theorem max_l {F : Nat} {l : List Int} (hm : l.length ≤ 1000000) : ∀ (k i : Nat) (m : Int), l.length < k + i → i ≤ l.length → M_slices_Max_int_int_l3 F l k (m, (i : Int)) = some (mx (l.drop i) m)
  | 0, _, _, _, _ => by omega
  | k + 1, i, m, h, hi => by
    show M_slices_Max_int_int_b3 F l (M_slices_Max_int_int_l3 F l k) m (i : Int) = _
    unfold M_slices_Max_int_int_b3
    by_cases hlt : i < l.length
    · rw [if_pos (by simpa using hlt), idx_nat, List.getElem?_eq_getElem hlt]
      simp only [Option.bind_some]
      rw [iadd1_n (by omega), max_l hm k (i + 1) (imax m l[i]) (by omega) (by omega), List.drop_eq_getElem_cons hlt]
      rfl
    · rw [if_neg (by simpa using hlt), List.drop_eq_nil_of_le (by omega)]
      rfl
theorem max_eq {F : Nat} {l : List Int} {a : Int} (hF : l.length < F) (hm : l.length ≤ 1000000) (h0 : 0 < l.length) : (M_slices_Max_int_int F l).map (imax a) = some (mx l a) := by
  unfold M_slices_Max_int_int
  rw [if_neg (by simp; omega)]
  cases l with
  | nil => simp at h0
  | cons x l =>
    have := max_l (F := F) (l := x :: l) hm F 1 x (by omega) (by simp)
    have e0 : idx (x :: l) 0 = some x := rfl
    rw [e0]
    simp only [Option.bind_some]
    rw [show ((1 : Nat) : Int) = 1 from rfl] at this
    rw [this]
    show some (imax a (mx l x)) = _
    rw [mx_imax]; rfl
def mostG (g : List (List Int)) (i : Nat) (m : Int) : Int := ((List.range g.length).drop i).foldl (fun m s => mx (farL g s) m) m
theorem mostG_step {g : List (List Int)} {i : Nat} {m : Int} (h : i < g.length) : mostG g i m = mostG g (i + 1) (mx (farL g i) m) := by
  unfold mostG
  rw [List.drop_eq_getElem_cons (by simpa using h), List.foldl_cons, List.getElem_range]
theorem mostG_end {g : List (List Int)} {m : Int} : mostG g g.length m = m := by
  unfold mostG
  rw [List.drop_eq_nil_of_le (by simp)]; rfl
theorem most_l {F : Nat} {g : List (List Int)} (hF : 1000 ≤ F) (hg : Gr g) : ∀ (k i : Nat) (m : Int), g.length < k + i → i ≤ g.length → M_walk_Most_l3 F g k (m, (i : Int)) = some (mostG g i m, 0)
  | 0, _, _, _, _ => by omega
  | k + 1, i, m, h, hi => by
    have h100 := hg.1
    show M_walk_Most_b3 F g (M_walk_Most_l3 F g k) m (i : Int) = _
    unfold M_walk_Most_b3
    by_cases hlt : i < g.length
    · have hf := farL_ok hg hlt
      have hfl := hf.len
      rw [if_pos (by simpa using hlt), far_eq hF hg hlt]
      simp only [Option.bind_some]
      have hmx := max_eq (F := F) (a := m) (l := farL g i) (by omega) (by omega) (by omega)
      obtain ⟨z, hz, hz2⟩ := Option.map_eq_some_iff.1 hmx
      rw [hz]
      simp only [Option.bind_some]
      rw [hz2, iadd1_n (by omega), most_l hF hg k (i + 1) _ (by omega) (by omega), ← mostG_step hlt]
    · rw [if_neg (by simpa using hlt)]
      obtain rfl : i = g.length := by omega
      rw [mostG_end]; rfl
def mostM (g : List (List Int)) : Int × Int := if gchk g ≠ 0 then (0, gchk g) else (mostG g 0 0, 0)
theorem Most_eq {F : Nat} {g : List (List Int)} (hF : 1000 ≤ F) : M_walk_Most F g = some (mostM g) := by
  unfold M_walk_Most mostM
  rw [wcheck_eq hF (by simp)]
  simp only [Option.bind_some]
  by_cases h : gchk g = 0
  · have hg := gchk_ok.1 h
    have h100 := hg.1
    have hw : wchk g [] = 0 := by
      unfold wchk
      rw [if_neg (by simp [h]), if_neg (by simp [wout])]
    rw [if_neg (by simp [hw]), if_neg (by simp [h])]
    exact most_l hF hg F 0 0 (by omega) (by omega)
  · have hw : wchk g [] = gchk g := by unfold wchk; rw [if_pos h]
    rw [hw, if_pos h, if_pos (by simpa using h)]
theorem leads_eq {F i : Nat} {g : List (List Int)} (hF : 1000 ≤ F) (hg : Gr g) (hi : i < g.length) {v : Int} : M_R_Leads F g (i : Int) v = some (decide (((i : Int), v) ∈ af 0 g)) := by
  unfold M_R_Leads
  have hr := gr_row hg (List.getElem_mem hi)
  rw [idx_nat, List.getElem?_eq_getElem hi]
  simp only [Option.bind_some]
  rw [hasInt_eq (by omega) (by omega)]
  simp only [Option.bind_some]
  rw [decide_eq_decide.2 (((af_isTab (gr_pw hg)).2 i _ (List.getElem?_eq_getElem hi)).2 v)]
def sg6 : List (List Int) := [[1, 2, 3, 5], [1, 2, 3, 5], [0, 1, 2, 3, 5], [], [4], [1, 2, 3]]
theorem sg6_gr : Gr sg6 := gchk_ok.1 (by decide)
def fchk (g : List (List Int)) (s : Nat) (d : List Int) : Bool :=
  decide (d.length = g.length) && (decide (gD d s = 0) && (d.all (fun x => decide (-1 ≤ x)) && ((af 0 g).all (fun p => decide (gD d p.1.toNat < 0) || (decide (0 ≤ gD d p.2.toNat) && decide (gD d p.2.toNat ≤ gD d p.1.toNat + 1))) &&
    (List.range g.length).all (fun t => decide (t = s) || (decide (gD d t < 0) || (af 0 g).any (fun p => decide (p.2 = (t : Int)) && (decide (gD d p.1.toNat + 1 = gD d t) && decide (0 ≤ gD d p.1.toNat))))))))
theorem fchk_ok {g : List (List Int)} {s : Nat} {d : List Int} (hg : Gr g) (h : fchk g s d = true) : FarOk g s d := by
  unfold fchk at h
  simp only [Bool.and_eq_true, decide_eq_true_eq, List.all_eq_true, Bool.or_eq_true, List.any_eq_true, List.mem_range] at h
  obtain ⟨h1, h2, h3, h4, h5⟩ := h
  refine ⟨h1, h2, fun t => ?_, fun u t hut h0 => ?_, fun t hts h0 => ?_⟩
  · by_cases ht : t < d.length
    · exact h3 _ (List.mem_of_getElem? (gD_get ht))
    · rw [gD_out (by omega)]; omega
  · have := h4 _ hut
    simp only [Int.toNat_natCast] at this
    rcases this with h | h
    · omega
    · exact h
  · have ht : t < g.length := by
      by_cases ht : t < d.length
      · omega
      · rw [gD_out (by omega)] at h0; omega
    rcases h5 t ht with h | h | ⟨p, hp, e1, e2, e3⟩
    · exact absurd h hts
    · omega
    · have hin := gr_in hg p hp
      refine ⟨p.1.toNat, ?_, e2, e3⟩
      unfold Ld
      rw [Int.toNat_of_nonneg hin.1, ← e1]; exact hp
def sg6_d : List (List Int) := [[0, 1, 1, 1, -1, 1], [2, 0, 1, 1, -1, 1], [1, 1, 0, 1, -1, 1], [-1, -1, -1, 0, -1, -1], [-1, -1, -1, -1, 0, -1], [2, 1, 1, 1, -1, 0]]
theorem sg6_far {i : Nat} (h : i < 6) : farL sg6 i = sg6_d.getD i [] := by
  have key : ∀ i : Fin 6, fchk sg6 i.val (sg6_d.getD i.val []) = true := by decide
  exact (farL_ok sg6_gr h).uni (fchk_ok sg6_gr (key ⟨i, h⟩))
theorem sg6_left {u : Nat} (h : u < 6) {t : Nat} (ht : t < 6) : gD (farL (tn sg6) t) u = gD (sg6_d.getD u []) t := by
  have hl : t < (tn sg6).length := by rw [tn_len]; exact ht
  rw [← sg6_far h]
  exact (far_back sg6_gr (farL_ok sg6_gr h) (farL_ok (tn_gr sg6_gr) hl)).symm
theorem sg6_left3 : farL (tn sg6) 3 = [1, 1, 1, 0, -1, 1] := by
  have hl : (3 : Nat) < (tn sg6).length := by rw [tn_len]; decide
  have hf := farL_ok (tn_gr sg6_gr) hl
  refine gD_ext (by rw [hf.len, tn_len]; rfl) fun t ht => ?_
  rw [hf.len, tn_len] at ht
  have ht : t < 6 := ht
  rw [sg6_left ht (by decide)]
  have key : ∀ t : Fin 6, gD (sg6_d.getD t.val []) 3 = gD [1, 1, 1, 0, -1, 1] t.val := by decide
  exact key ⟨t, ht⟩
theorem sg6_parts : partL sg6 = [0, 0, 0, 0, 4, 0] := by
  refine (partL_ok sg6_gr).uni ⟨rfl, fun t ht => ?_, fun u v huv => ?_, fun t ht => ?_⟩
  · have key : ∀ t : Fin 6, 0 ≤ gD [0, 0, 0, 0, 4, 0] t.val ∧ gD [0, 0, 0, 0, 4, 0] t.val ≤ (t.val : Int) := by decide
    exact key ⟨t, ht⟩
  · have key : ∀ p ∈ af 0 sg6, gD [0, 0, 0, 0, 4, 0] p.1.toNat = gD [0, 0, 0, 0, 4, 0] p.2.toNat := by decide
    have := key _ huv
    simpa using this
  · have key : ∀ t : Fin 6, (gD [0, 0, 0, 0, 4, 0] t.val).toNat = t.val ∨ (((gD [0, 0, 0, 0, 4, 0] t.val).toNat : Int), (t.val : Int)) ∈ af 0 sg6 := by decide
    rcases key ⟨t, ht⟩ with h | h
    · exact ⟨0, h⟩
    · exact ⟨1, uw_one (.inl h)⟩
theorem most_next {g : List (List Int)} {i : Nat} {m x : Int} {d : List Int} (h : i < g.length) (hd : farL g i = d) (hx : mx d m = x) : mostG g i m = mostG g (i + 1) x := by
  rw [mostG_step h, hd, hx]
theorem sg6_most : mostG sg6 0 0 = 2 :=
  (most_next (by decide) (sg6_far (i := 0) (by decide)) (by decide : mx (sg6_d.getD 0 []) 0 = 1)).trans <|
  (most_next (by decide) (sg6_far (i := 1) (by decide)) (by decide : mx (sg6_d.getD 1 []) 1 = 2)).trans <|
  (most_next (by decide) (sg6_far (i := 2) (by decide)) (by decide : mx (sg6_d.getD 2 []) 2 = 2)).trans <|
  (most_next (by decide) (sg6_far (i := 3) (by decide)) (by decide : mx (sg6_d.getD 3 []) 2 = 2)).trans <|
  (most_next (by decide) (sg6_far (i := 4) (by decide)) (by decide : mx (sg6_d.getD 4 []) 2 = 2)).trans <|
  (most_next (by decide) (sg6_far (i := 5) (by decide)) (by decide : mx (sg6_d.getD 5 []) 2 = 2)).trans mostG_end
theorem wbg_eq {F : Nat} (hF : 20000 ≤ F) : M_L_walkBegun F = some true := by
  have e1 : farM sg6 4 = ([-1, -1, -1, -1, 0, -1], 0) := by
    unfold farM
    rw [if_neg (by decide)]
    show (farL sg6 4, (0 : Int)) = _
    rw [sg6_far (by decide)]
    rfl
  have e2 : wayM sg6 2 3 = ([2, 3], 0) := by
    unfold wayM
    rw [if_neg (by decide)]
    show (if gD (farL (tn sg6) 3) 2 < 0 then _ else (iz (wy sg6 (farL (tn sg6) 3) (gD (farL (tn sg6) 3) 2).toNat 2), (0 : Int))) = _
    rw [sg6_left3]
    decide
  have e3 : partM sg6 = ([0, 0, 0, 0, 4, 0], 0) := by
    unfold partM
    rw [if_neg (by decide), sg6_parts]
  have e4 : mostM sg6 = (2, 0) := by
    unfold mostM
    rw [if_neg (by decide), sg6_most]
  have e5 : wayM sg6 3 0 = ([], 5) := by
    unfold wayM
    rw [if_neg (by decide)]
    have : gD (farL (tn sg6) (0 : Int).toNat) (3 : Int).toNat < 0 := by
      show gD (farL (tn sg6) 0) 3 < 0
      rw [sg6_left (by decide) (by decide)]
      decide
    rw [if_pos this]
  unfold M_L_walkBegun M_L_someGraph
  simp only [Option.bind_some]
  show ((M_walk_Far F sg6 4).bind fun x4 => ((M_walk_Way F sg6 2 3).bind fun x10 => ((M_walk_Parts F sg6).bind fun x16 => ((M_walk_Most F sg6).bind fun x22 => ((M_walk_Way F sg6 3 0).bind fun x26 => ((M_R_SameInts F x4.1 ([-1, -1, -1, -1, 0, -1] : List Int)).bind fun x31 => (if (x31 && ((x4.2 : Int) == 0)) then ((M_R_SameInts F x10.1 ([2, 3] : List Int)).bind fun x53 => M_L_walkBegun_j1 F x10 x16 x22 x26 x53) else M_L_walkBegun_j1 F x10 x16 x22 x26 false))))))) = _
  rw [Far_eq (by omega), e1, Way_eq (by omega), e2, Parts_eq (by omega), e3, Most_eq (by omega), e4, Way_eq (by omega), e5]
  simp only [Option.bind_some]
  rw [same_intsR (by simp; omega) (by decide)]
  simp only [Option.bind_some]
  rw [if_pos (by decide), same_intsR (by simp; omega) (by decide)]
  simp only [Option.bind_some]
  unfold M_L_walkBegun_j1
  rw [if_pos (by decide), same_intsR (by simp; omega) (by decide)]
  simp only [Option.bind_some]
  unfold M_L_walkBegun_j2
  decide
theorem iz_get {q : List Nat} {i : Nat} (h : i < q.length) : (iz q)[i]? = some ((q.getD i 0 : Nat) : Int) := by
  simp [iz, List.getD, List.getElem?_eq_getElem h]
/-- What is asked of another way. -/
structure Oth (g : List (List Int)) (ot : List Int) (i : Nat) : Prop where
  ok : ∀ j, 1 ≤ j → j < i → ∃ a b : Nat, ot[j - 1]? = some (a : Int) ∧ ot[j]? = some (b : Int) ∧ Ld g a b
theorem ww_cmp {F : Nat} {w : List Nat} {ot : List Int} {e : Int} (hm : w.length ≤ 1000) (hl : ot.length = w.length) (hmin : ∀ i, i < w.length → (∀ j, j < i → ot[j]? = some ((w.getD j 0 : Nat) : Int)) → ∀ x, ot[i]? = some x → x ≠ ((w.getD i 0 : Nat) : Int) → ((w.getD i 0 : Nat) : Int) < x) : ∀ (k i : Nat), w.length < k + i → i ≤ w.length → (∀ j, j < i → ot[j]? = some ((w.getD j 0 : Nat) : Int)) →
    M_L_WalkWay_l29 F ot (iz w, e) k (i : Int) = some true
  | 0, _, _, _, _ => by omega
  | k + 1, i, h, hi, hj => by
    show M_L_WalkWay_b29 F ot (iz w, e) (M_L_WalkWay_l29 F ot (iz w, e) k) (i : Int) = _
    unfold M_L_WalkWay_b29
    by_cases hlt : i < w.length
    · have hx : ot[i]? = some ot[i] := List.getElem?_eq_getElem (by omega)
      rw [if_pos (by simp [iz_len]; omega)]
      simp only
      rw [idx_nat, iz_get hlt]
      simp only [Option.bind_some]
      rw [idx_nat, hx]
      simp only [Option.bind_some]
      by_cases hc : ot[i] = ((w.getD i 0 : Nat) : Int)
      · rw [if_neg (by rw [hc]; simp), iadd1_n (by omega)]
        refine ww_cmp hm hl hmin k (i + 1) (by omega) (by omega) fun j hj2 => ?_
        by_cases e : j = i
        · rw [e, hx, hc]
        · exact hj j (by omega)
      · have hne : (((w.getD i 0 : Nat) : Int) != ot[i]) = true := by rw [bne_iff_ne]; exact fun e => hc e.symm
        rw [if_pos hne]
        have := hmin i hlt hj _ hx hc
        simpa using this
    · rw [if_neg (by simp [iz_len]; omega)]
      rfl
theorem ww_oth {F : Nat} {g : List (List Int)} {w ot : List Int} {e : Int} (hF : 20000 ≤ F) (hg : Gr g) (hm : ot.length ≤ 1000) (hend : Oth g ot ot.length → M_L_WalkWay_j26 F ot (w, e) = some true) (h0 : ∃ a : Nat, ot[0]? = some (a : Int) ∧ a < g.length) : ∀ (k i : Nat), ot.length < k + i → 1 ≤ i → i ≤ ot.length → Oth g ot i →
    M_L_WalkWay_l34 F g ot (w, e) k (i : Int) = some true
  | 0, _, _, _, _, _ => by omega
  | k + 1, i, h, h1, hi, ho => by
    have h100 := hg.1
    show M_L_WalkWay_b34 F g ot (w, e) (M_L_WalkWay_l34 F g ot (w, e) k) (i : Int) = _
    unfold M_L_WalkWay_b34
    have hstop : M_L_WalkWay_j36 F (M_L_WalkWay_l34 F g ot (w, e) k) (i : Int) true = some true := by
      unfold M_L_WalkWay_j36
      rw [if_pos rfl]
    by_cases hlt : i < ot.length
    · have hx : ot[i]? = some ot[i] := List.getElem?_eq_getElem hlt
      rw [if_pos (by simpa using hlt), idx_nat, hx]
      simp only [Option.bind_some]
      by_cases c1 : ot[i] < 0
      · rw [if_pos (by simpa using c1)]; exact hstop
      · rw [if_neg (by simpa using c1)]
        by_cases c2 : (g.length : Int) ≤ ot[i]
        · rw [if_pos (by simpa using c2)]; exact hstop
        · have hpre : ∃ a : Nat, ot[i - 1]? = some (a : Int) ∧ a < g.length := by
            by_cases hi1 : i = 1
            · rw [hi1]; exact h0
            · obtain ⟨a, b, _, h3, h4⟩ := ho.ok (i - 1) (by omega) (by omega)
              exact ⟨b, h3, (ld_in hg h4).2⟩
          obtain ⟨a, ha, han⟩ := hpre
          obtain ⟨b, hb⟩ := Int.eq_ofNat_of_zero_le (show 0 ≤ ot[i] by omega)
          have ei : isub .i64 (i : Int) 1 = ((i - 1 : Nat) : Int) := by rw [isub_i64 (by omega) (by omega)]; omega
          rw [if_neg (by simpa using c2), ei, idx_nat, ha]
          simp only [Option.bind_some]
          rw [leads_eq (by omega) hg han]
          simp only [Option.bind_some]
          by_cases hc : ((a : Int), ot[i]) ∈ af 0 g
          · rw [decide_eq_true hc]
            unfold M_L_WalkWay_j36
            rw [if_neg (by simp), iadd1_n (by omega)]
            refine ww_oth hF hg hm hend h0 k (i + 1) (by omega) (by omega) (by omega) ⟨fun j hj1 hj2 => ?_⟩
            by_cases e : j = i
            · subst e
              exact ⟨a, b, ha, by rw [hx, hb], by unfold Ld; rw [← hb]; exact hc⟩
            · exact ho.ok j hj1 (by omega)
          · rw [decide_eq_false hc]
            exact hstop
    · rw [if_neg (by simpa using hlt)]
      obtain rfl : i = ot.length := by omega
      exact hend ho
theorem wy_nodup {g : List (List Int)} {left : List Int} {t k u : Nat} (hg : Gr g) (h : FarOk (tn g) t left) (hu : gD left u = (k : Int)) {i j : Nat} (hi : i ≤ k) (hj : j ≤ k) (hij : i ≠ j) : (wy g left k u).getD i 0 ≠ (wy g left k u).getD j 0 := by
  intro e
  have a := wy_far hg h k u i hu hi
  have b := wy_far hg h k u j hu hj
  rw [e] at a
  omega
theorem ww_way {F : Nat} {g : List (List Int)} {left : List Int} {t k u : Nat} {s tt : Int} {ot : List Int} (hF : 20000 ≤ F) (hg : Gr g) (h : FarOk (tn g) t left) (hu : gD left u = (k : Int)) (hk : k ≤ 100) (hend : M_L_WalkWay_j14 F g s tt ot (iz (wy g left k u), 0) = some true) : ∀ (m i : Nat), k + 1 < m + i → 1 ≤ i → i ≤ k + 1 →
    M_L_WalkWay_l41 F g s tt ot (iz (wy g left k u), 0) m (i : Int) = some true
  | 0, _, _, _, _ => by omega
  | m + 1, i, hm, h1, hi => by
    have h100 := hg.1
    show M_L_WalkWay_b41 F g s tt ot (iz (wy g left k u), 0) (M_L_WalkWay_l41 F g s tt ot (iz (wy g left k u), 0) m) (i : Int) = _
    unfold M_L_WalkWay_b41
    have hwl : (wy g left k u).length = k + 1 := wy_len _ _ _ _
    by_cases hlt : i < k + 1
    · obtain ⟨j, rfl⟩ := Nat.exists_eq_succ_of_ne_zero (show i ≠ 0 by omega)
      have hld := wy_ld hg h k u j hu (by omega)
      have hin := ld_in hg hld
      have ei : isub .i64 ((j + 1 : Nat) : Int) 1 = (j : Int) := by rw [isub_i64 (by omega) (by omega)]; omega
      have es : sub (iz (wy g left k u)) 0 ((j + 1 : Nat) : Int) = some ((iz (wy g left k u)).take (j + 1)) := by
        have := sub_n (l := iz (wy g left k u)) (i := 0) (j := j + 1) (by omega) (by rw [iz_len, hwl]; omega)
        rw [show ((0 : Nat) : Int) = 0 from rfl, List.drop_zero] at this
        exact this
      rw [if_pos (by simp [iz_len, hwl]; omega), Nat.succ_eq_add_one, ei]
      simp only
      rw [idx_nat, iz_get (by omega)]
      simp only [Option.bind_some]
      rw [idx_nat, iz_get (by omega)]
      simp only [Option.bind_some]
      rw [leads_eq (by omega) hg hin.1]
      simp only [Option.bind_some]
      have hld' : ((((wy g left k u).getD j 0 : Nat) : Int), (((wy g left k u).getD (j + 1) 0 : Nat) : Int)) ∈ af 0 g := hld
      rw [decide_eq_true hld', if_neg (by simp), es]
      simp only [Option.bind_some]
      rw [hasInt_eq (by rw [List.length_take, iz_len, hwl]; omega) (by rw [List.length_take, iz_len, hwl]; omega)]
      simp only [Option.bind_some]
      have hno : ¬ (((wy g left k u).getD (j + 1) 0 : Nat) : Int) ∈ (iz (wy g left k u)).take (j + 1) := by
        intro hmem
        obtain ⟨q, hq, e⟩ := List.getElem_of_mem hmem
        rw [List.length_take, iz_len, hwl] at hq
        have e2 : ((iz (wy g left k u)).take (j + 1))[q]? = some (((wy g left k u).getD (j + 1) 0 : Nat) : Int) := by
          rw [List.getElem?_eq_getElem (by rw [List.length_take, iz_len, hwl]; omega), e]
        rw [List.getElem?_take_of_lt (by omega), iz_get (by omega)] at e2
        have e3 := Option.some.inj e2
        exact wy_nodup hg h hu (i := q) (j := j + 1) (by omega) (by omega) (by omega) (by omega)
      rw [decide_eq_false hno]
      unfold M_L_WalkWay_j43
      rw [if_neg (by simp), iadd1_n (by omega)]
      exact ww_way hF hg h hu hk hend m (j + 1 + 1) (by omega) (by omega) (by omega)
    · rw [if_neg (by simp [iz_len, hwl]; omega)]
      exact hend
theorem ww_other {F : Nat} {g : List (List Int)} {left : List Int} {t k u : Nat} {ot : List Int} (hF : 20000 ≤ F) (hg : Gr g) (h : FarOk (tn g) t left) (hu : gD left u = (k : Int)) (hk : k ≤ 100) (hug : u < g.length) : M_L_WalkWay_j14 F g (u : Int) (t : Int) ot (iz (wy g left k u), 0) = some true := by
  have hwl : (wy g left k u).length = k + 1 := wy_len _ _ _ _
  have hstop : M_L_WalkWay_j18 F g ot (iz (wy g left k u), 0) true = some true := by
    unfold M_L_WalkWay_j18
    rw [if_pos rfl]
  unfold M_L_WalkWay_j14
  by_cases c1 : ot.length = k + 1
  · have h0 : idx ot 0 = some ot[0] := List.getElem?_eq_getElem (l := ot) (i := 0) (by omega)
    rw [if_neg (by simp [iz_len, hwl, c1]), h0]
    simp only [Option.bind_some]
    unfold M_L_WalkWay_j17
    by_cases c2 : ot[0] = (u : Int)
    · have el : isub .i64 ((iz (wy g left k u)).length : Int) 1 = (k : Int) := by rw [iz_len, hwl, isub_i64 (by omega) (by omega)]; omega
      rw [if_neg (by simp [c2])]
      simp only
      rw [el, idx_nat, List.getElem?_eq_getElem (by omega)]
      simp only [Option.bind_some]
      by_cases c3 : ot[k] = (t : Int)
      · unfold M_L_WalkWay_j18
        rw [if_neg (by simp [c3])]
        refine ww_oth hF hg (by omega) (fun ho => ?_) ⟨u, by rw [List.getElem?_eq_getElem (by omega), c2], hug⟩ F 1 (by omega) (by omega) (by omega) ⟨fun j _ _ => by omega⟩
        unfold M_L_WalkWay_j26
        refine ww_cmp (by omega) (by omega) (fun i hi hpre x hx hne => ?_) F 0 (by omega) (by omega) (fun j hj => by omega)
        -- the other way as places
        have hval : ∀ i, i ≤ k → ot[i]? = some (((ot.getD i 0).toNat : Nat) : Int) := by
          intro i hi
          cases i with
          | zero => rw [List.getElem?_eq_getElem (by omega), c2]; simp [List.getD, List.getElem?_eq_getElem (show 0 < ot.length by omega), c2]
          | succ i =>
            obtain ⟨a, b, _, h3, _⟩ := ho.ok (i + 1) (by omega) (by omega)
            simp [List.getD, h3]
        have hmin := wy_min hg h k u (fun i => (ot.getD i 0).toNat) hu (by simp [List.getD, List.getElem?_eq_getElem (show 0 < ot.length by omega), c2]) (by simp [List.getD, List.getElem?_eq_getElem (show k < ot.length by omega), c3]) (fun i hi => by
          obtain ⟨a, b, h2, h3, h4⟩ := ho.ok (i + 1) (by omega) (by omega)
          simp only [Nat.add_sub_cancel] at h2
          have e1 : (ot.getD i 0).toNat = a := by simp [List.getD, h2]
          have e2 : (ot.getD (i + 1) 0).toNat = b := by simp [List.getD, h3]
          show Ld g (ot.getD i 0).toNat (ot.getD (i + 1) 0).toNat
          rw [e1, e2]; exact h4) i (by omega) (fun j hj => by
            have a := hpre j hj
            have b := hval j (by omega)
            rw [a] at b
            have := Option.some.inj b
            show (ot.getD j 0).toNat = _
            omega) (by
            have b := hval i (by omega)
            rw [hx] at b
            have := Option.some.inj b
            show (ot.getD i 0).toNat ≠ _
            omega)
        have b := hval i (by omega)
        rw [hx] at b
        have b := Option.some.inj b
        have hmin : (wy g left k u).getD i 0 < (ot.getD i 0).toNat := hmin
        omega
      · have : (ot[k] != (t : Int)) = true := by simpa using c3
        rw [this]; exact hstop
    · rw [if_pos (by simpa using c2)]
      exact hstop
  · rw [if_pos (by simp [iz_len, hwl]; omega)]
    unfold M_L_WalkWay_j17
    rw [if_pos rfl]
    exact hstop
theorem walkWay_true {F : Nat} {g : List (List Int)} {s t : Int} {ot : List Int} (hF : 20000 ≤ F) : M_L_WalkWay F g s t ot = some true := by
  unfold M_L_WalkWay
  rw [Far_eq (by omega), Way_eq (by omega), wbg_eq hF]
  simp only [Option.bind_some]
  rw [if_neg (by decide)]
  have hbad : ∀ e : Int, e ≠ 0 → wayM g s t = ([], e) → some ((wayM g s t).2 != 0 && (((wayM g s t).1.length : Int) == 0)) = some true := fun e he h => by
    rw [h]; simp [he]
  by_cases h1 : wchk g [s] = 0
  · obtain ⟨hg, i, rfl, hi⟩ := wchk1 h1
    have h100 := hg.1
    have hfi := farL_ok hg hi
    have f1 : farM g (i : Int) = (farL g i, 0) := by unfold farM; rw [if_neg (by simp [h1]), Int.toNat_natCast]
    rw [f1]
    by_cases ht : t < 0 ∨ (g.length : Int) ≤ t
    · have e2 : wayM g (i : Int) t = ([], 3) := by
        have : wchk g [(i : Int), t] = 3 := by unfold wchk; rw [if_neg (by simp [gchk_ok.2 hg]), if_pos (by simp [wout]; omega)]
        unfold wayM; rw [this, if_pos (by decide)]
      rw [if_pos (by simp [hfi.len]; omega)]
      exact hbad 3 (by decide) e2
    · obtain ⟨j, rfl⟩ := Int.eq_ofNat_of_zero_le (show 0 ≤ t by omega)
      have hj : j < g.length := by omega
      have hjt : j < (tn g).length := by rw [tn_len]; exact hj
      have hleft := farL_ok (tn_gr hg) hjt
      have hbk := far_back hg hfi hleft
      have hlow := hfi.low j
      have hlt := hfi.lt j (by omega)
      have gij : (farL g i)[j]? = some (gD (farL g i) j) := gD_get (by rw [hfi.len]; exact hj)
      have e2 : wayM g (i : Int) (j : Int) = if gD (farL (tn g) j) i < 0 then ([], 5) else (iz (wy g (farL (tn g) j) (gD (farL (tn g) j) i).toNat i), 0) := by
        unfold wayM; rw [if_neg (by simp [wchk_in2 hg hi hj])]; simp only [Int.toNat_natCast]
      rw [if_neg (by simp [hfi.len]; omega), e2]
      by_cases hneg : gD (farL (tn g) j) i < 0
      · rw [if_pos hneg, if_pos (by simp), if_pos (by simp)]
        simp only
        rw [idx_nat, gij]
        simp only [Option.bind_some]
        unfold M_L_WalkWay_j2
        have : gD (farL g i) j = -1 := by omega
        rw [this]; rfl
      · obtain ⟨k, hk⟩ := Int.eq_ofNat_of_zero_le (show 0 ≤ gD (farL (tn g) j) i by omega)
        have hwl : (wy g (farL (tn g) j) k i).length = k + 1 := wy_len _ _ _ _
        rw [if_neg hneg, if_neg (by simp), hk, Int.toNat_natCast]
        simp only
        rw [idx_nat, gij]
        simp only [Option.bind_some]
        rw [hbk, hk, iadd1_n (by omega), if_neg (by simp [iz_len, hwl])]
        have e0 : idx (iz (wy g (farL (tn g) j) k i)) 0 = some (i : Int) := by
          have := iz_get (q := wy g (farL (tn g) j) k i) (i := 0) (by omega)
          rw [wy_0] at this
          exact this
        have el : isub .i64 ((iz (wy g (farL (tn g) j) k i)).length : Int) 1 = (k : Int) := by rw [iz_len, hwl, isub_i64 (by omega) (by omega)]; omega
        rw [e0]
        simp only [Option.bind_some]
        unfold M_L_WalkWay_j5
        rw [if_neg (by simp)]
        simp only
        rw [el, idx_nat, iz_get (by omega), wy_last hg hleft hk]
        simp only [Option.bind_some]
        unfold M_L_WalkWay_j6
        rw [if_neg (by simp)]
        exact ww_way hF hg hleft hk (by omega) (ww_other hF hg hleft hk (by omega) hi) F 1 (by omega) (by omega) (by omega)
  · have hfe : (farM g s).2 ≠ 0 := by unfold farM; rw [if_pos h1]; exact h1
    rw [if_pos (by simp [hfe])]
    have : ∃ e, e ≠ 0 ∧ wayM g s t = ([], e) := by
      refine ⟨wchk g [s, t], ?_, ?_⟩
      · intro h
        obtain ⟨hg, ⟨n, hn, hn2⟩, _⟩ := wchk2 h
        rw [hn] at h1
        exact h1 (wchk_in1 hg hn2)
      · unfold wayM
        rw [if_pos]
        intro h
        obtain ⟨hg, ⟨n, hn, hn2⟩, _⟩ := wchk2 h
        rw [hn] at h1
        exact h1 (wchk_in1 hg hn2)
    obtain ⟨e, he, h⟩ := this
    exact hbad e he h
end Go.Proofs.Ytldpjaphbikjnaa
