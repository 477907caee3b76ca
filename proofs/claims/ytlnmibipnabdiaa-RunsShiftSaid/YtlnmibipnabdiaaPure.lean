/- Plain facts of what the functions of this seat compute. -/
import Derived.Test.YtlnmibipnabdiaaModels
import Derived.KernelRfl
import Derived.Lib.SlicesCompact
namespace Go.Proofs.Ytlnmibipnabdiaa
open Go SX
variable {F : Nat} {rec68 : (List (Int × Int) × List Int × Int) → Option (List (Int × Int) × List Int)} {l : List Int} {least : Int} {o : List (Int × Int)} {rest : List Int} {i : Int}
def I64 (n : Int) : Prop := -9223372036854775808 ≤ n ∧ n < 9223372036854775808
theorem iadd_n {a b : Nat} (h : a + b < 9223372036854775808) : iadd .i64 (a : Int) (b : Int) = ((a + b : Nat) : Int) := by rw [iadd_i64 (by omega) (by omega)]; omega
theorem iadd1_n {a : Nat} (h : a + 1 < 9223372036854775808) : iadd .i64 (a : Int) 1 = ((a + 1 : Nat) : Int) := by rw [iadd_i64 (by omega) (by omega)]; omega
theorem isub1_n {a : Nat} (h : 1 ≤ a) (h2 : a < 9223372036854775808) : isub .i64 (a : Int) 1 = ((a - 1 : Nat) : Int) := by rw [isub_i64 (by omega) (by omega)]; omega
/-- The bits of a number, in so many places, the highest one first. -/
def nb (n : Nat) : Nat → List Int
  | 0 => []
  | w + 1 => ((n / 2 ^ w % 2 : Nat) : Int) :: nb n w
theorem between_eq {F : Nat} {a b c : Int} : M_R_between F a b c = some (decide (b ≤ a ∧ a ≤ c)) := by
  unfold M_R_between
  congr 1
  by_cases h : b ≤ a <;> by_cases h2 : a ≤ c <;> simp [h, h2]
theorem sub_n {α : Type} {l : List α} {i j : Nat} (h1 : i ≤ j) (h2 : j ≤ l.length) : sub l (i : Int) (j : Int) = some ((l.take j).drop i) := by
  unfold sub
  rw [if_pos ⟨by omega, by omega, by omega⟩, Int.toNat_natCast, Int.toNat_natCast]
/-- How many bits a number has. -/
def len (x : Nat) : Nat := if x = 0 then 0 else x.log2 + 1
def sh (m : Nat) : Nat := len (m - 1)
def dd (m : Nat) : Nat := 2 ^ sh m - m
def le (n m : Nat) : List Int := if n < dd m then nb n (sh m - 1) else nb (n + dd m) (sh m)
theorem node_eq {F : Nat} {x : Int} : M_gaps_node F x = some (decide (0 ≤ x ∧ x ≤ 1048576)) := by
  unfold M_gaps_node
  congr 1
  by_cases h : 0 ≤ x <;> by_cases h2 : x ≤ 1048576 <;> simp [h, h2]
/-- What is wrong with numbers that must rise, behind a last one. -/
def gk : Int → List Int → Int
  | _, [] => 0
  | last, n :: l => if 0 ≤ n ∧ n ≤ 1048576 then (if n ≤ last then 4 else gk n l) else 3
def gkc (l : List Int) : Int := if 300 < l.length then 2 else gk (-1) l
theorem gcheck_l {F : Nat} {l : List Int} (hm : l.length ≤ 300) : ∀ (k i : Nat) (last : Int), l.length < k + i → i ≤ l.length →
    M_gaps_Check_l3 F l k (last, (i : Int)) = some (gk last (l.drop i))
  | 0, _, _, _, _ => by omega
  | k + 1, i, last, h, hi => by
    show M_gaps_Check_b3 F l (M_gaps_Check_l3 F l k) last (i : Int) = _
    unfold M_gaps_Check_b3
    by_cases hlt : i < l.length
    · rw [if_pos (by simp; omega), idx_nat, List.getElem?_eq_getElem hlt, List.drop_eq_getElem_cons hlt, gk]
      simp only [Option.bind_some]
      rw [node_eq]
      simp only [Option.bind_some]
      by_cases h1 : 0 ≤ l[i] ∧ l[i] ≤ 1048576
      · rw [decide_eq_true h1, if_pos h1, if_neg (by simp)]
        by_cases h2 : l[i] ≤ last
        · rw [if_pos h2, if_pos (by simpa using h2)]
        · rw [if_neg h2, if_neg (by simpa using h2), iadd1_n (by omega)]
          exact gcheck_l hm k (i + 1) _ (by omega) (by omega)
      · rw [decide_eq_false h1, if_neg h1, if_pos (by simp)]
    · rw [if_neg (by simp; omega), List.drop_eq_nil_of_le (by omega)]
      rfl
theorem gCheck_eq {F : Nat} (hF : 20000 ≤ F) {l : List Int} : M_gaps_Check F l = some (gkc l) := by
  unfold M_gaps_Check gkc
  by_cases h : 300 < l.length
  · rw [if_pos (by simp; omega), if_pos h]
  · rw [if_neg (by simp; omega), if_neg h]
    exact gcheck_l (by omega) F 0 (-1) (by omega) (by omega)
theorem rising_l {F : Nat} {l : List Int} (hm : l.length ≤ 300) : ∀ (k i : Nat) (last : Int), l.length < k + i → i ≤ l.length → (i = 0 ∧ last = -1 ∨ 0 < i ∧ l[i - 1]? = some last) →
    M_R_RisingCheck_l13 F l k (i : Int) = some (gk last (l.drop i))
  | 0, _, _, _, _, _ => by omega
  | k + 1, i, last, h, hi, hlast => by
    show M_R_RisingCheck_b13 F l (M_R_RisingCheck_l13 F l k) (i : Int) = _
    unfold M_R_RisingCheck_b13
    by_cases hlt : i < l.length
    · rw [if_pos (by simp; omega), idx_nat, List.getElem?_eq_getElem hlt, List.drop_eq_getElem_cons hlt, gk]
      simp only [Option.bind_some]
      rw [between_eq]
      simp only [Option.bind_some]
      by_cases h1 : 0 ≤ l[i] ∧ l[i] ≤ 1048576
      · rw [decide_eq_true h1, if_pos h1, if_neg (by simp)]
        have hrec : M_R_RisingCheck_l13 F l k ((i + 1 : Nat) : Int) = some (gk l[i] (l.drop (i + 1))) :=
          rising_l hm k (i + 1) _ (by omega) (by omega) (.inr ⟨by omega, by rw [Nat.add_sub_cancel, List.getElem?_eq_getElem hlt]⟩)
        rcases hlast with ⟨rfl, rfl⟩ | ⟨h0, hl⟩
        · rw [if_neg (by simp)]
          unfold M_R_RisingCheck_j15
          rw [if_neg (by simp), if_neg (show ¬ l[0] ≤ -1 by omega), iadd1_n (by omega)]
          exact hrec
        · rw [if_pos (by simp; omega), isub1_n (by omega) (by omega), idx_nat, hl]
          simp only [Option.bind_some, M_R_RisingCheck_j15]
          by_cases h2 : l[i] ≤ last
          · rw [if_pos h2, if_pos (by simpa using h2)]
          · rw [if_neg h2, if_neg (by simpa using h2), iadd1_n (by omega)]
            exact hrec
      · rw [decide_eq_false h1, if_neg h1, if_pos (by simp)]
    · rw [if_neg (by simp; omega), List.drop_eq_nil_of_le (by omega)]
      rfl
theorem rising_eq {F : Nat} (hF : 20000 ≤ F) {l : List Int} : M_R_RisingCheck F l = some (gkc l) := by
  unfold M_R_RisingCheck gkc
  by_cases h : 300 < l.length
  · rw [if_pos (by simp; omega), if_pos h]
  · rw [if_neg (by simp; omega), if_neg h]
    exact rising_l (by omega) F 0 (-1) (by omega) (by omega) (.inl ⟨rfl, rfl⟩)
/-- Numbers that rise behind a last one. -/
def Ris : Int → List Int → Prop
  | _, [] => True
  | last, n :: l => (0 ≤ n ∧ n ≤ 1048576) ∧ last < n ∧ Ris n l
theorem gk_ris : ∀ {last : Int} {l : List Int}, gk last l = 0 ↔ Ris last l
  | _, [] => by simp [gk, Ris]
  | last, n :: l => by
    unfold gk Ris
    by_cases h1 : 0 ≤ n ∧ n ≤ 1048576
    · rw [if_pos h1]
      by_cases h2 : n ≤ last
      · rw [if_pos h2]; simp; omega
      · rw [if_neg h2, gk_ris]; simp [h1]; omega
    · rw [if_neg h1]; simp; omega
theorem gkc_ris {l : List Int} : gkc l = 0 ↔ (l.length ≤ 300 ∧ Ris (-1) l) := by
  unfold gkc
  by_cases h : 300 < l.length
  · rw [if_pos h]; simp; omega
  · rw [if_neg h, gk_ris]; simp; omega
def Nd (x : Int) : Prop := 0 ≤ x ∧ x ≤ 1048576
instance ndDec (x : Int) : Decidable (Nd x) := inferInstanceAs (Decidable (_ ∧ _))
theorem ris_nd : ∀ {q : Int} {l : List Int}, Ris q l → ∀ x ∈ l, Nd x
  | _, [], _ => by intro x hx; simp at hx
  | _, n :: l, h => by
    intro x hx
    rcases List.mem_cons.1 hx with rfl | hx
    · exact h.1
    · exact ris_nd h.2.2 x hx
theorem gk_shift {by_ : Int} : ∀ {q q' : Int} {l : List Int}, Ris q l → (q' = q + by_ ∨ q' < 0) → gk q' (l.map (· + by_)) = 0 ∨ gk q' (l.map (· + by_)) = 3
  | _, _, [], _, _ => .inl rfl
  | q, q', n :: l, h, hq => by
    rw [List.map_cons]
    unfold gk
    by_cases h1 : 0 ≤ n + by_ ∧ n + by_ ≤ 1048576
    · have h2 := h.2.1
      rw [if_pos h1, if_neg (show ¬ n + by_ ≤ q' by omega)]
      exact gk_shift h.2.2 (.inl rfl)
    · rw [if_neg h1]; exact .inr rfl
theorem srt_perm (l : List Int) : (srt l).Perm l := List.mergeSort_perm l _
theorem srt_pw (l : List Int) : (srt l).Pairwise (· ≤ ·) := by
  have h := List.pairwise_mergeSort (le := fun x y : Int => decide (x ≤ y)) (fun a b c h1 h2 => by simp only [decide_eq_true_eq] at *; omega) (fun a b => by simp only [Bool.or_eq_true, decide_eq_true_eq]; omega) l
  exact h.imp (fun h => by simpa using h)
theorem srt_eq {l m : List Int} (hp : l.Perm m) (hm : m.Pairwise (· ≤ ·)) : srt l = m :=
  List.Perm.eq_of_pairwise (le := fun x y : Int => x ≤ y) (fun a b _ _ h1 h2 => by omega) (srt_pw l) hm ((srt_perm l).trans hp)
theorem srt_congr {l m : List Int} (hp : l.Perm m) : srt l = srt m := srt_eq (hp.trans (srt_perm m).symm) (srt_pw m)
theorem srt_cons {x : Int} {l : List Int} (h : ∀ z ∈ l, x ≤ z) : srt (x :: l) = x :: srt l :=
  srt_eq ((srt_perm l).symm.cons x) (List.pairwise_cons.2 ⟨fun z hz => h z ((srt_perm l).mem_iff.1 hz), srt_pw l⟩)
theorem pw_le {l : List Int} (h : l.Pairwise (· < ·)) : l.Pairwise (· ≤ ·) := h.imp (fun h => by omega)
theorem pw_nodup {l : List Int} (h : l.Pairwise (· < ·)) : l.Nodup := h.imp (fun h => by omega)
theorem pw_of_nodup {l : List Int} (h : l.Pairwise (· ≤ ·)) (hn : l.Nodup) : l.Pairwise (· < ·) := by
  have := List.Pairwise.and h hn
  exact this.imp (fun h => by have h1 := h.1; have h2 := h.2; omega)
theorem compact_len (xs : List Int) : (Go.Lib.compact xs).length ≤ xs.length := by
  unfold Go.Lib.compact Go.Lib.compactUpTo
  rw [List.length_map]
  exact Nat.le_trans (List.length_filter_le _ _) (by simp)
theorem keeps_get {xs : List Int} {j : Nat} (h0 : 0 < j) (hj : j < xs.length) : Go.Lib.keeps xs.toArray j = decide (xs[j] ≠ xs[j - 1]) := by
  unfold Go.Lib.keeps
  have e1 : xs.toArray[j]! = xs[j] := by rw [getElem!_pos xs.toArray j (by simpa using hj)]; simp
  have e2 : xs.toArray[j - 1]! = xs[j - 1] := by rw [getElem!_pos xs.toArray (j - 1) (by simp; omega)]; simp
  rw [e1, e2]
  have : j ≠ 0 := by omega
  simp [this]
theorem compact_strict {xs : List Int} (h : xs.Pairwise (· < ·)) : Go.Lib.compact xs = xs := by
  refine Go.Lib.compact_all _ fun j hj => ?_
  by_cases h0 : j = 0
  · subst h0; simp [Go.Lib.keeps]
  · rw [keeps_get (by omega) hj]
    have := List.pairwise_iff_getElem.1 h (j - 1) j (by omega) hj (by omega)
    simp; omega
theorem compact_same {xs : List Int} (h : xs.Pairwise (· ≤ ·)) (he : (Go.Lib.compact xs).length = xs.length) : xs.Pairwise (· < ·) := by
  unfold Go.Lib.compact Go.Lib.compactUpTo at he
  rw [List.length_map] at he
  have he' : ((List.range xs.length).filter (Go.Lib.keeps xs.toArray)).length = (List.range xs.length).length := by rw [he]; simp
  have hk := List.length_filter_eq_length_iff.1 he'
  rw [List.pairwise_iff_getElem]
  intro i j hi hj hij
  have h1 := hk j (by simpa using hj)
  rw [keeps_get (by omega) hj] at h1
  have h2 : xs[j] ≠ xs[j - 1] := by simpa using h1
  have h3 := List.pairwise_iff_getElem.1 h (j - 1) j (by omega) hj (by omega)
  have h4 : xs[i] ≤ xs[j - 1] := by
    by_cases e : i = j - 1
    · subst e; omega
    · exact List.pairwise_iff_getElem.1 h i (j - 1) hi (by omega) (by omega)
  omega
theorem ris_pw : ∀ {q : Int} {l : List Int}, Ris q l → l.Pairwise (· < ·) ∧ ∀ z ∈ l, q < z
  | _, [], _ => by simp
  | q, x :: l, h => by
    obtain ⟨h1, h2⟩ := ris_pw h.2.2
    have h3 := h.2.1
    refine ⟨List.pairwise_cons.2 ⟨h2, h1⟩, fun z hz => ?_⟩
    rcases List.mem_cons.1 hz with rfl | hz
    · exact h3
    · have := h2 z hz; omega
theorem pw_ris : ∀ {q : Int} {l : List Int}, l.Pairwise (· < ·) → (∀ z ∈ l, q < z) → (∀ z ∈ l, Nd z) → Ris q l
  | _, [], _, _, _ => trivial
  | q, x :: l, h, hq, hn => ⟨hn x (by simp), hq x (by simp), pw_ris (List.pairwise_cons.1 h).2 (List.pairwise_cons.1 h).1 fun z hz => hn z (by simp [hz])⟩
def cmn (l r : List Int) : Bool := l.any fun x => r.contains x
theorem cmn_iff {l r : List Int} : cmn l r = true ↔ ∃ x ∈ l, x ∈ r := by simp [cmn]
theorem cmn_not {l r : List Int} : cmn l r = false ↔ ∀ x ∈ l, x ∉ r := by simp [cmn]
def mrg (l r : List Int) : List Int × Int := if cmn l r then ([], 6) else if 300 < l.length + r.length then ([], 2) else (srt (l ++ r), 0)
theorem grow_eq {F n : Nat} (h : n ≤ 1000000) : M_slices_Grow_int_int F ([] : List Int) 0 (n : Int) = some [] := by
  unfold M_slices_Grow_int_int lett
  rw [if_neg (by simp)]
  have e1 : isub .i64 ((0 : Nat) : Int) (([] : List Int).length : Int) = 0 := by decide
  rw [e1, isub_i64 (by omega) (by omega), Int.sub_zero]
  by_cases h0 : n = 0
  · subst h0; rfl
  · simp only
    rw [if_pos (by simp; omega)]
    have e2 : sub ([] : List Int) 0 ((0 : Nat) : Int) = some [] := by decide
    have e3 : appz 8796093022208 ([] : List Int) 0 (n : Int) = some (List.replicate n 0) := by
      unfold appz
      rw [if_pos (by simp; omega)]
      simp
    rw [e2]
    simp only [Option.bind_some]
    rw [e3]
    simp only [Option.bind_some]
    have e4 : sub (List.replicate n (0 : Int)) 0 ((([] : List Int).length : Nat) : Int) = some [] := by
      have := sub_n (l := List.replicate n (0 : Int)) (i := 0) (j := 0) (by omega) (by omega)
      simpa using this
    rw [e4]
    rfl
theorem concat_eq {F : Nat} (hF : 20000 ≤ F) {a b : List Int} (h : a.length + b.length ≤ 1000000) : M_slices_Concat_int_int F [a, b] = some (a ++ b) := by
  obtain ⟨k, rfl⟩ : ∃ k, F = k + 3 := ⟨F - 3, by omega⟩
  have i0 : idx [a, b] (0 : Int) = some a := rfl
  have i1 : idx [a, b] (1 : Int) = some b := rfl
  have e0 : iadd .i64 0 (a.length : Int) = (a.length : Int) := by rw [iadd_i64 (by omega) (by omega)]; omega
  have e1 : iadd .i64 (a.length : Int) (b.length : Int) = ((a.length + b.length : Nat) : Int) := iadd_n (by omega)
  have o1 : iadd .i64 0 1 = 1 := by decide
  have o2 : iadd .i64 1 1 = 2 := by decide
  have hs : M_slices_Concat_int_int_j2 (k + 3) [a, b] ((a.length + b.length : Nat) : Int) = some (a ++ b) := by
    unfold M_slices_Concat_int_int_j2
    rw [grow_eq h]
    simp only [Option.bind_some]
    show M_slices_Concat_int_int_b5 (k + 3) [a, b] (M_slices_Concat_int_int_l5 (k + 3) [a, b] (k + 2)) [] 0 = _
    unfold M_slices_Concat_int_int_b5
    rw [if_pos (by simp), i0]
    simp only [Option.bind_some]
    rw [app_eq (by simp; omega), o1]
    simp only [Option.bind_some, List.nil_append]
    show M_slices_Concat_int_int_b5 (k + 3) [a, b] (M_slices_Concat_int_int_l5 (k + 3) [a, b] (k + 1)) a 1 = _
    unfold M_slices_Concat_int_int_b5
    rw [if_pos (by simp), i1]
    simp only [Option.bind_some]
    rw [app_eq (by omega), o2]
    simp only [Option.bind_some]
    show M_slices_Concat_int_int_b5 (k + 3) [a, b] (M_slices_Concat_int_int_l5 (k + 3) [a, b] k) (a ++ b) 2 = _
    unfold M_slices_Concat_int_int_b5
    rw [if_neg (by simp)]
    rfl
  unfold M_slices_Concat_int_int
  show M_slices_Concat_int_int_b6 (k + 3) [a, b] (M_slices_Concat_int_int_l6 (k + 3) [a, b] (k + 2)) 0 0 = _
  unfold M_slices_Concat_int_int_b6
  rw [if_pos (by simp), i0]
  simp only [Option.bind_some]
  rw [e0, if_neg (by simp), o1]
  show M_slices_Concat_int_int_b6 (k + 3) [a, b] (M_slices_Concat_int_int_l6 (k + 3) [a, b] (k + 1)) (a.length : Int) 1 = _
  unfold M_slices_Concat_int_int_b6
  rw [if_pos (by simp), i1]
  simp only [Option.bind_some]
  rw [e1, if_neg (by simp; omega), o2]
  show M_slices_Concat_int_int_b6 (k + 3) [a, b] (M_slices_Concat_int_int_l6 (k + 3) [a, b] k) ((a.length + b.length : Nat) : Int) 2 = _
  unfold M_slices_Concat_int_int_b6
  rw [if_neg (by simp)]
  exact hs
theorem srt_cmn {l r : List Int} (hl : l.Pairwise (· < ·)) (hr : r.Pairwise (· < ·)) : (srt (l ++ r)).Pairwise (· < ·) ↔ cmn l r = false := by
  rw [cmn_not]
  constructor
  · intro h x hx hx'
    have hn : (l ++ r).Nodup := (srt_perm _).nodup_iff.1 (pw_nodup h)
    exact (List.nodup_append.1 hn).2.2 x hx x hx' rfl
  · intro h
    refine pw_of_nodup (srt_pw _) ((srt_perm _).nodup_iff.2 (List.nodup_append.2 ⟨pw_nodup hl, pw_nodup hr, fun a ha b hb e => ?_⟩))
    subst e
    exact h a ha hb
/-- What the program does: joined, sorted, and are there fewer without what stands twice? -/
theorem joined_eq {F : Nat} (hF : 20000 ≤ F) {l r : List Int} (hl : l.Pairwise (· < ·)) (hr : r.Pairwise (· < ·)) (hm : l.length + r.length ≤ 1000000) :
    ((M_slices_Concat_int_int F ([l, r] : List (List Int))).bind fun x16 => ((M_slices_Sort_int_int F x16).bind fun x19 => (chk (decide (x19.length = x16.length)) (((M_slices_Clone_int_int F x19).bind fun x29 => ((M_slices_Compact_int_int F x29).bind fun x32 => (if (decide ((x32.length : Int) < (x19.length : Int))) then some (([] : List Int), (6 : Int)) else (if (decide (300 < (x19.length : Int))) then some (([] : List Int), 2) else some (x19, 0))))))))) = some (mrg l r) := by
  rw [concat_eq hF hm]
  simp only [Option.bind_some]
  have hsl : (srt (l ++ r)).length = l.length + r.length := by rw [srt_len, List.length_append]
  unfold M_slices_Sort_int_int
  rw [if_pos (by rw [List.length_append]; omega)]
  simp only [Option.bind_some]
  unfold chk
  rw [if_pos (by rw [srt_len]; simp)]
  unfold M_slices_Clone_int_int
  rw [app_eq (by rw [hsl]; simp; omega)]
  simp only [Option.bind_some, List.nil_append]
  unfold M_slices_Compact_int_int
  rw [if_pos (compact_len _)]
  simp only [Option.bind_some]
  unfold mrg
  have hc := compact_len (srt (l ++ r))
  cases h : cmn l r
  · have hp := (srt_cmn hl hr).2 h
    rw [compact_strict hp, if_neg (by simp), hsl, if_neg (show ¬ (false = true) by simp)]
    by_cases h3 : 300 < l.length + r.length
    · rw [if_pos (by simp; omega), if_pos h3]
    · rw [if_neg (by simp; omega), if_neg h3]
  · have hne : (Go.Lib.compact (srt (l ++ r))).length ≠ (srt (l ++ r)).length := by
      intro he
      have := (srt_cmn hl hr).1 (compact_same (srt_pw _) he)
      rw [h] at this
      simp at this
    rw [if_pos (by simp only [decide_eq_true_eq]; omega), if_pos rfl]
theorem cmn_swap {l r : List Int} : cmn l r = cmn r l := by
  rw [Bool.eq_iff_iff, cmn_iff, cmn_iff]
  exact ⟨fun ⟨x, h1, h2⟩ => ⟨x, h2, h1⟩, fun ⟨x, h1, h2⟩ => ⟨x, h2, h1⟩⟩
/-- The answer when some numbers have come out already. -/
def mrgO (o l r : List Int) : List Int × Int := if cmn l r then ([], 6) else if 300 < o.length + (l.length + r.length) then ([], 2) else (o ++ srt (l ++ r), 0)
theorem mrgO_nil (l r : List Int) : mrgO [] l r = mrg l r := by simp [mrgO, mrg]
theorem mrgO_eq {x : Int} {o l r : List Int} : mrgO o (x :: l) (x :: r) = ([], 6) := by
  unfold mrgO
  rw [if_pos (cmn_iff.2 ⟨x, by simp, by simp⟩)]
theorem mrgO_l {x : Int} {o l r : List Int} (hl : ∀ z ∈ l, x < z) (hr : ∀ z ∈ r, x < z) : mrgO o (x :: l) r = mrgO (o ++ [x]) l r := by
  have hc : cmn (x :: l) r = cmn l r := by
    cases r with
    | nil => rw [cmn_swap, cmn_swap (l := l)]; rfl
    | cons y r =>
      rw [Bool.eq_iff_iff, cmn_iff, cmn_iff]
      constructor
      · rintro ⟨z, hz, hz'⟩
        rcases List.mem_cons.1 hz with rfl | hz
        · have := hr _ hz'; omega
        · exact ⟨z, hz, hz'⟩
      · rintro ⟨z, hz, hz'⟩
        exact ⟨z, by simp [hz], hz'⟩
  unfold mrgO
  rw [hc]
  have hs : srt (x :: l ++ r) = x :: srt (l ++ r) := by
    rw [List.cons_append]
    refine srt_cons fun z hz => ?_
    rcases List.mem_append.1 hz with hz | hz
    · have := hl z hz; omega
    · have := hr z hz; omega
  rw [hs]
  have e : o.length + ((x :: l).length + r.length) = (o ++ [x]).length + (l.length + r.length) := by simp; omega
  rw [e, List.append_assoc]
  rfl
theorem mrgO_r {y : Int} {o l r : List Int} (hl : ∀ z ∈ l, y < z) (hr : ∀ z ∈ r, y < z) : mrgO o l (y :: r) = mrgO (o ++ [y]) l r := by
  have h := mrgO_l (o := o) (l := r) (r := l) hr hl
  unfold mrgO at h ⊢
  rw [cmn_swap (l := l), cmn_swap (l := l) (r := r), srt_congr (List.perm_append_comm (l₁ := l) (l₂ := y :: r)), srt_congr (List.perm_append_comm (l₁ := l) (l₂ := r)), Nat.add_comm l.length, Nat.add_comm l.length]
  exact h
/-- How many numbers follow, one by one. -/
def cr : Int → List Int → Nat
  | _, [] => 0
  | v, y :: t => if y = v then 1 + cr (v + 1) t else 0
def rs : List Int → List (Int × Int)
  | [] => []
  | x :: t => match rs t with
    | (y, n) :: r => if y = x + 1 then (x, n + 1) :: r else (x, 1) :: (y, n) :: r
    | [] => [(x, 1)]
def rng : Int → Nat → List Int
  | _, 0 => []
  | a, n + 1 => a :: rng (a + 1) n
def flat (R : List (Int × Int)) : List Int := R.flatMap fun r => rng r.1 r.2.toNat
theorem cr_cons (v y : Int) (t : List Int) : cr v (y :: t) = if y = v then 1 + cr (v + 1) t else 0 := rfl
theorem rs_step (x : Int) (t : List Int) : rs (x :: t) = match rs t with
    | (y, n) :: r => if y = x + 1 then (x, n + 1) :: r else (x, 1) :: (y, n) :: r
    | [] => [(x, 1)] := rfl
theorem cr_le : ∀ (v : Int) (t : List Int), cr v t ≤ t.length
  | _, [] => Nat.le_refl _
  | v, y :: t => by
    unfold cr
    have := cr_le (v + 1) t
    split
    · rw [List.length_cons]; omega
    · omega
theorem cr_get : ∀ (v : Int) (t : List Int) {j : Nat}, j < cr v t → t[j]? = some (v + j)
  | _, [], _, h => by simp [cr] at h
  | v, y :: t, j, h => by
    unfold cr at h
    split at h
    · rename_i he
      cases j with
      | zero => simp [he]
      | succ j =>
        rw [List.getElem?_cons_succ, cr_get (v + 1) t (by omega)]
        congr 1; omega
    · omega
theorem cr_end : ∀ (v : Int) (t : List Int) {y : Int}, t[cr v t]? = some y → y ≠ v + cr v t
  | _, [], _, h => by simp [cr] at h
  | v, x :: t, y, h => by
    unfold cr at h ⊢
    split at h
    · rename_i he
      rw [if_pos he]
      rw [Nat.add_comm 1, List.getElem?_cons_succ] at h
      have := cr_end (v + 1) t h
      omega
    · rename_i he
      rw [if_neg he]
      simp at h
      omega
theorem rs_cons : ∀ (x : Int) (t : List Int), rs (x :: t) = (x, 1 + (cr (x + 1) t : Int)) :: rs (t.drop (cr (x + 1) t))
  | x, [] => rfl
  | x, y :: t => by
    have ih := rs_cons y t
    rw [rs_step, ih, cr_cons]
    simp only
    by_cases h : y = x + 1
    · subst h
      rw [if_pos rfl, if_pos rfl, Nat.add_comm 1, List.drop_succ_cons]
      congr 2
    · rw [if_neg h, if_neg h, List.drop_zero, ih]
      simp
theorem rng_len : ∀ (a : Int) (n : Nat), (rng a n).length = n
  | _, 0 => rfl
  | a, n + 1 => by rw [rng, List.length_cons, rng_len]
theorem rng_snoc : ∀ (a : Int) (n : Nat), rng a (n + 1) = rng a n ++ [a + n]
  | a, 0 => by simp [rng]
  | a, n + 1 => by
    rw [rng, rng_snoc (a + 1) n, rng, List.cons_append, show a + 1 + (n : Int) = a + ((n + 1 : Nat) : Int) from by omega]
theorem rng_get : ∀ {a : Int} {n j : Nat}, j < n → (rng a n)[j]? = some (a + j)
  | _, 0, _, h => by omega
  | a, n + 1, 0, _ => by simp [rng]
  | a, n + 1, j + 1, h => by
    rw [rng, List.getElem?_cons_succ, rng_get (Nat.lt_of_succ_lt_succ h), show a + 1 + (j : Int) = a + ((j + 1 : Nat) : Int) from by omega]
theorem rng_mem : ∀ {a z : Int} {n : Nat}, z ∈ rng a n ↔ a ≤ z ∧ z < a + n
  | a, z, 0 => by simp [rng]
  | a, z, n + 1 => by
    rw [rng, List.mem_cons, rng_mem]
    omega
theorem flat_cons (r : Int × Int) (R : List (Int × Int)) : flat (r :: R) = rng r.1 r.2.toNat ++ flat R := rfl
theorem flat_app (A B : List (Int × Int)) : flat (A ++ B) = flat A ++ flat B := by unfold flat; rw [List.flatMap_append]
theorem flat_mem {R : List (Int × Int)} {z : Int} : z ∈ flat R ↔ ∃ r ∈ R, r.1 ≤ z ∧ z < r.1 + r.2.toNat := by
  unfold flat
  rw [List.mem_flatMap]
  constructor
  · rintro ⟨r, h1, h2⟩; exact ⟨r, h1, rng_mem.1 h2⟩
  · rintro ⟨r, h1, h2⟩; exact ⟨r, h1, rng_mem.2 h2⟩
/-- Runs that stand apart, behind a number. -/
def Sep : Int → List (Int × Int) → Prop
  | _, [] => True
  | e, r :: R => e < r.1 ∧ 1 ≤ r.2 ∧ Sep (r.1 + r.2) R
theorem sep_weak {e e' : Int} {R : List (Int × Int)} (h : Sep e R) (he : e' ≤ e) : Sep e' R := by
  cases R with
  | nil => trivial
  | cons r R => exact ⟨by have := h.1; omega, h.2⟩
theorem rs_flat : ∀ (l : List Int), flat (rs l) = l
  | [] => rfl
  | x :: t => by
    have ih := rs_flat t
    unfold rs
    cases h : rs t with
    | nil =>
      rw [h] at ih
      simp only [flat_cons]
      rw [ih]
      simp [rng]
    | cons p r =>
      obtain ⟨y, n⟩ := p
      rw [h] at ih
      simp only
      by_cases he : y = x + 1
      · rw [if_pos he]
        subst he
        rw [flat_cons] at ih ⊢
        simp only at ih ⊢
        by_cases hn : 0 ≤ n
        · rw [show (n + 1).toNat = n.toNat + 1 from by omega, rng, List.cons_append, ih]
        · exfalso
          have : ∀ (l : List Int), ∀ r ∈ rs l, 1 ≤ r.2 := by
            intro l
            induction l with
            | nil => intro r hr; simp [rs] at hr
            | cons x t ih =>
              intro r hr
              unfold rs at hr
              cases h : rs t with
              | nil => rw [h] at hr; simp at hr; rw [hr]; simp
              | cons p q =>
                obtain ⟨y, n⟩ := p
                rw [h] at hr ih
                have hn := ih (y, n) (by simp)
                simp only at hr hn
                split at hr
                · rcases List.mem_cons.1 hr with rfl | hr
                  · simp only; omega
                  · exact ih r (by simp [hr])
                · rcases List.mem_cons.1 hr with rfl | hr
                  · simp
                  · exact ih r hr
          have := this t (x + 1, n) (by rw [h]; simp)
          simp only at this
          omega
      · rw [if_neg he, flat_cons, ih]
        simp [rng]
theorem rs_sep : ∀ {q : Int} {l : List Int}, l.Pairwise (· < ·) → (∀ z ∈ l, q < z) → Sep q (rs l)
  | _, [], _, _ => trivial
  | q, x :: t, h, hq => by
    have h' := List.pairwise_cons.1 h
    have ih : Sep x (rs t) := rs_sep h'.2 h'.1
    have hx := hq x (by simp)
    unfold rs
    cases hr : rs t with
    | nil => exact ⟨hx, by simp, trivial⟩
    | cons p r =>
      obtain ⟨y, n⟩ := p
      rw [hr] at ih
      obtain ⟨i1, i2, i3⟩ := ih
      simp only at i1 i2 i3 ⊢
      by_cases he : y = x + 1
      · rw [if_pos he]
        subst he
        refine ⟨hx, by simp only; omega, ?_⟩
        simp only
        rw [show x + (n + 1) = x + 1 + n from by omega]
        exact i3
      · rw [if_neg he]
        exact ⟨hx, by simp, by simp only; omega, i2, i3⟩
theorem sep_lt : ∀ {e : Int} {R : List (Int × Int)}, Sep e R → ∀ z ∈ flat R, e < z
  | _, [], _ => by simp [flat]
  | e, r :: R, h => by
    intro z hz
    rw [flat_cons] at hz
    rcases List.mem_append.1 hz with hz | hz
    · have := rng_mem.1 hz; have := h.1; omega
    · have := sep_lt h.2.2 z hz; have := h.1; have := h.2.1; omega
theorem rng_pw : ∀ (a : Int) (n : Nat), (rng a n).Pairwise (· < ·)
  | _, 0 => List.Pairwise.nil
  | a, n + 1 => List.pairwise_cons.2 ⟨fun z hz => by have := rng_mem.1 hz; omega, rng_pw (a + 1) n⟩
theorem sep_pw : ∀ {e : Int} {R : List (Int × Int)}, Sep e R → (flat R).Pairwise (· < ·)
  | _, [], _ => by simp [flat]
  | e, r :: R, h => by
    rw [flat_cons, List.pairwise_append]
    refine ⟨rng_pw _ _, sep_pw h.2.2, fun x hx y hy => ?_⟩
    have h1 := rng_mem.1 hx
    have h2 := sep_lt h.2.2 y hy
    have := h.2.1
    omega
theorem rs_of_sep : ∀ {e : Int} {R : List (Int × Int)}, Sep e R → rs (flat R) = R
  | _, [], _ => rfl
  | e, (a, n) :: R, h => by
    have ih := rs_of_sep h.2.2
    obtain ⟨n, rfl⟩ : ∃ m : Nat, n = ((m + 1 : Nat) : Int) := ⟨(n - 1).toNat, by have := h.2.1; simp only at this; omega⟩
    have h3 := h.2.2
    rw [flat_cons]
    simp only [Int.toNat_natCast] at h3 ⊢
    have key : ∀ (n : Nat) (a : Int), (∀ r R', R = r :: R' → a + ((n + 1 : Nat) : Int) < r.1) → rs (rng a (n + 1) ++ flat R) = (a, ((n + 1 : Nat) : Int)) :: R := by
      intro n
      induction n with
      | zero =>
        intro a hR
        show rs (a :: flat R) = _
        unfold rs
        rw [ih]
        cases hq : R with
        | nil => rfl
        | cons r R' =>
          obtain ⟨y, k⟩ := r
          have := hR _ _ hq
          simp only at this ⊢
          rw [if_neg (by omega)]
          rfl
      | succ n ihn =>
        intro a hR
        rw [rng, List.cons_append]
        unfold rs
        rw [ihn (a + 1) (fun r R' hq => by have := hR r R' hq; omega)]
        simp only [if_true]
        congr 2
    refine key n a fun r R' hq => ?_
    rw [hq] at h3
    exact h3.1
theorem sep_filter : ∀ {e : Int} {R : List (Int × Int)} (p : Int × Int → Bool), Sep e R → Sep e (R.filter p)
  | _, [], _, _ => trivial
  | e, r :: R, p, h => by
    have ih := sep_filter p h.2.2
    rw [List.filter_cons]
    split
    · exact ⟨h.1, h.2.1, ih⟩
    · exact sep_weak ih (by have := h.1; have := h.2.1; omega)
theorem same_ints_l (F : Nat) {xs : List Int} (hm : xs.length ≤ 1000000) : ∀ (k i : Nat), xs.length < k + i → i ≤ xs.length → M_R_SameInts_l3 F xs xs k (i : Int) = some true
  | 0, _, _, _ => by omega
  | k + 1, i, h, hi => by
    show M_R_SameInts_b3 F xs xs (M_R_SameInts_l3 F xs xs k) (i : Int) = _
    unfold M_R_SameInts_b3
    by_cases hlt : i < xs.length
    · rw [if_pos (by simp; omega), idx_nat, List.getElem?_eq_getElem hlt]
      simp only [Option.bind_some]
      rw [if_neg (by simp), iadd1_n (by omega)]
      exact same_ints_l F hm k (i + 1) (by omega) (by omega)
    · rw [if_neg (by simp; omega)]; rfl
theorem same_intsR {F : Nat} {xs : List Int} (hF : xs.length < F) (hm : xs.length ≤ 1000000) : M_R_SameInts F xs xs = some true := by
  unfold M_R_SameInts
  rw [if_neg (by simp)]
  exact same_ints_l F hm F 0 (by omega) (by omega)
theorem same_runs_l (F : Nat) {xs : List (Int × Int)} (hm : xs.length ≤ 1000000) : ∀ (k i : Nat), xs.length < k + i → i ≤ xs.length → M_R_SameRuns_l3 F xs xs k (i : Int) = some true
  | 0, _, _, _ => by omega
  | k + 1, i, h, hi => by
    show M_R_SameRuns_b3 F xs xs (M_R_SameRuns_l3 F xs xs k) (i : Int) = _
    unfold M_R_SameRuns_b3
    by_cases hlt : i < xs.length
    · rw [if_pos (by simp; omega), idx_nat, List.getElem?_eq_getElem hlt]
      simp only [Option.bind_some]
      rw [if_neg (by simp), iadd1_n (by omega)]
      exact same_runs_l F hm k (i + 1) (by omega) (by omega)
    · rw [if_neg (by simp; omega)]; rfl
theorem same_runs {F : Nat} {xs : List (Int × Int)} (hF : xs.length < F) (hm : xs.length ≤ 1000000) : M_R_SameRuns F xs xs = some true := by
  unfold M_R_SameRuns
  rw [if_neg (by simp)]
  exact same_runs_l F hm F 0 (by omega) (by omega)
theorem hasInt_l (F : Nat) {l : List Int} {v : Int} (hm : l.length ≤ 1000000) : ∀ (k i : Nat), l.length < k + i → i ≤ l.length → M_R_HasInt_l3 F l v k (i : Int) = some (decide (v ∈ l.drop i))
  | 0, _, _, _ => by omega
  | k + 1, i, h, hi => by
    show M_R_HasInt_b3 F l v (M_R_HasInt_l3 F l v k) (i : Int) = _
    unfold M_R_HasInt_b3
    by_cases hlt : i < l.length
    · rw [if_pos (by simp; omega), idx_nat, List.getElem?_eq_getElem hlt, List.drop_eq_getElem_cons hlt]
      simp only [Option.bind_some]
      by_cases he : l[i] = v
      · rw [if_pos (by simpa using he)]
        simp [he]
      · rw [if_neg (by simpa using he), iadd1_n (by omega), hasInt_l F hm k (i + 1) (by omega) (by omega)]
        have : (v ∈ l[i] :: l.drop (i + 1)) ↔ v ∈ l.drop (i + 1) := ⟨fun hv => (List.mem_cons.1 hv).resolve_left (fun e => he e.symm), fun hv => List.mem_cons_of_mem _ hv⟩
        rw [decide_eq_decide.2 this]
    · rw [if_neg (by simp; omega), List.drop_eq_nil_of_le (by omega)]
      simp [M_R_HasInt_j2]
theorem hasInt_eq {F : Nat} {l : List Int} {v : Int} (hF : l.length < F) (hm : l.length ≤ 1000000) : M_R_HasInt F l v = some (decide (v ∈ l)) := by
  unfold M_R_HasInt
  have := hasInt_l F (v := v) hm F 0 (by omega) (by omega)
  simpa using this
def runFold {σ τ : Type} (yy : σ → (Int × Int) → Option (σ ⊕ τ)) : List (Int × Int) → σ → Option (σ ⊕ τ)
  | [], s => some (.inl s)
  | r :: R, s => (yy s r).bind (Sum.elim (fun s' => runFold yy R s') (fun t => some (.inr t)))
def Mid (l : List Int) : Prop := ∀ x ∈ l, -4611686018427387904 ≤ x ∧ x ≤ 4611686018427387904
theorem run_in {σ τ : Type} {F : Nat} {yy : σ → (Int × Int) → Option (σ ⊕ τ)} {rec31 : (Int × σ) → Option (σ ⊕ τ)} {l : List Int} {i : Nat} {x : Int} {s : σ} (hl : l.length ≤ 1000000) (hm : Mid l) (hx : l[i]? = some x) :
    ∀ (k j : Nat), cr (x + 1) (l.drop (i + 1)) < k + j → j ≤ cr (x + 1) (l.drop (i + 1)) →
      M_runs_runs_1_l44 F yy rec31 l (i : Int) s k ((1 + j : Nat) : Int) = M_runs_runs_1_j39 F yy rec31 l (i : Int) s ((1 + cr (x + 1) (l.drop (i + 1)) : Nat) : Int)
  | 0, _, _, _ => by omega
  | k + 1, j, h, hj => by
    have hi := (List.getElem?_eq_some_iff.1 hx).1
    have hcl := cr_le (x + 1) (l.drop (i + 1))
    rw [List.length_drop] at hcl
    have hxm := hm x (List.mem_of_getElem? hx)
    show M_runs_runs_1_b44 F yy rec31 l (i : Int) s (M_runs_runs_1_l44 F yy rec31 l (i : Int) s k) ((1 + j : Nat) : Int) = _
    unfold M_runs_runs_1_b44
    rw [iadd_n (by omega)]
    by_cases hlt : i + (1 + j) < l.length
    · have hg : l[i + (1 + j)]? = some l[i + (1 + j)] := List.getElem?_eq_getElem hlt
      have hd : (l.drop (i + 1))[j]? = some l[i + (1 + j)] := by rw [List.getElem?_drop, show i + 1 + j = i + (1 + j) from by omega]; exact hg
      rw [if_pos (by simp; omega), idx_nat, idx_nat, hx, hg]
      simp only [Option.bind_some]
      rw [iadd_i64 (by omega) (by omega)]
      unfold M_runs_runs_1_j46
      by_cases hjc : j < cr (x + 1) (l.drop (i + 1))
      · have := cr_get (x + 1) (l.drop (i + 1)) hjc
        rw [hd, Option.some.injEq] at this
        rw [if_pos (by rw [this]; simp; omega), iadd1_n (by omega), show 1 + j + 1 = 1 + (j + 1) from by omega]
        exact run_in hl hm hx k (j + 1) (by omega) (by omega)
      · obtain rfl : j = cr (x + 1) (l.drop (i + 1)) := by omega
        have := cr_end (x + 1) (l.drop (i + 1)) hd
        rw [if_neg (by simp; omega)]
    · obtain rfl : j = cr (x + 1) (l.drop (i + 1)) := by omega
      rw [if_neg (by simp; omega)]
      rfl
theorem runs_l {σ τ : Type} {F : Nat} {yy : σ → (Int × Int) → Option (σ ⊕ τ)} {l : List Int} (hl : l.length ≤ 1000000) (hF : l.length + 1 < F) (hm : Mid l) :
    ∀ (k i : Nat) (s : σ), l.length < k + i → i ≤ l.length → M_runs_runs_1_l31 F yy l k ((i : Int), s) = runFold yy (rs (l.drop i)) s
  | 0, _, _, _, _ => by omega
  | k + 1, i, s, h, hi => by
    show M_runs_runs_1_b31 F yy l (M_runs_runs_1_l31 F yy l k) (i : Int) s = _
    unfold M_runs_runs_1_b31
    by_cases hlt : i < l.length
    · have hcl := cr_le (l[i] + 1) (l.drop (i + 1))
      rw [List.length_drop] at hcl
      have h1 := run_in (F := F) (yy := yy) (rec31 := M_runs_runs_1_l31 F yy l k) (s := s) hl hm (List.getElem?_eq_getElem hlt) F 0 (by omega) (by omega)
      rw [show ((1 + 0 : Nat) : Int) = 1 from rfl] at h1
      rw [if_pos (by simp; omega), h1, List.drop_eq_getElem_cons hlt, rs_cons]
      unfold M_runs_runs_1_j39 runFold
      rw [idx_nat, List.getElem?_eq_getElem hlt]
      simp only [Option.bind_some]
      rw [iadd_n (by omega), show ((1 + cr (l[i] + 1) (l.drop (i + 1)) : Nat) : Int) = 1 + (cr (l[i] + 1) (l.drop (i + 1)) : Int) from by omega]
      congr 2
      funext s'
      rw [runs_l hl hF hm k _ s' (by omega) (by omega), List.drop_drop]
      congr 3
      omega
    · rw [if_neg (by simp; omega), List.drop_eq_nil_of_le (by omega)]
      rfl
theorem runs_eq {σ τ : Type} {F : Nat} {yy : σ → (Int × Int) → Option (σ ⊕ τ)} {l : List Int} {s : σ} (hl : l.length ≤ 1000000) (hF : l.length + 1 < F) (hm : Mid l) : M_runs_runs_1 F yy l s = runFold yy (rs l) s := by
  unfold M_runs_runs_1
  exact runs_l hl hF hm F 0 s (by omega) (by omega)
def spO (least : Int) (R : List (Int × Int)) : List (Int × Int) := R.filter fun r => decide (least ≤ r.2)
def spS (least : Int) (R : List (Int × Int)) : List (Int × Int) := R.filter fun r => decide (r.2 < least)
theorem spO_y {least : Int} {r : Int × Int} {R : List (Int × Int)} (h : least ≤ r.2) : spO least (r :: R) = r :: spO least R := by unfold spO; rw [List.filter_cons, if_pos (by simpa using h)]
theorem spO_n {least : Int} {r : Int × Int} {R : List (Int × Int)} (h : ¬ least ≤ r.2) : spO least (r :: R) = spO least R := by unfold spO; rw [List.filter_cons, if_neg (by simpa using h)]
theorem spS_y {least : Int} {r : Int × Int} {R : List (Int × Int)} (h : ¬ least ≤ r.2) : spS least (r :: R) = r :: spS least R := by unfold spS; rw [List.filter_cons, if_pos (by simpa using h)]
theorem spS_n {least : Int} {r : Int × Int} {R : List (Int × Int)} (h : least ≤ r.2) : spS least (r :: R) = spS least R := by unfold spS; rw [List.filter_cons, if_neg (by simpa using h)]
theorem runsRaw_l {F : Nat} {o : List (Int × Int)} {a n : Int} (ha : -4611686018427387904 ≤ a ∧ a ≤ 4611686018427387904) (hn : 0 ≤ n ∧ n ≤ 1000000) {rest : List Int} (hr : rest.length ≤ 1000000) : ∀ (k j : Nat), n.toNat < k + j → j ≤ n.toNat →
    M_runs_Raw_l8 F o a n k ((j : Int), rest ++ rng a j) = some (.inl (rest ++ rng a n.toNat, o))
  | 0, _, _, _ => by omega
  | k + 1, j, h, hj => by
    show M_runs_Raw_b8 F o a n (M_runs_Raw_l8 F o a n k) (j : Int) (rest ++ rng a j) = _
    unfold M_runs_Raw_b8
    by_cases hlt : j < n.toNat
    · rw [if_pos (by simp; omega), app_eq (by simp [rng_len]; omega), iadd_i64 (by omega) (by omega), iadd1_n (by omega)]
      simp only [Option.bind_some]
      rw [List.append_assoc, ← rng_snoc]
      exact runsRaw_l ha hn hr k (j + 1) (by omega) (by omega)
    · rw [if_neg (by simp; omega)]
      obtain rfl : j = n.toNat := by omega
      rfl
def Small (R : List (Int × Int)) : Prop := ∀ r ∈ R, (-4611686018427387904 ≤ r.1 ∧ r.1 ≤ 4611686018427387904) ∧ 0 ≤ r.2 ∧ r.2 ≤ 1000000
def rawY (F : Nat) (least : Int) (s : List Int × List (Int × Int)) (r : Int × Int) : Option ((List Int × List (Int × Int)) ⊕ Empty) := M_runs_Raw_r5 F least s.1 s.2 r.1 r.2
theorem runsRaw_f {F : Nat} {least : Int} (hF : 1000001 < F) : ∀ (R : List (Int × Int)) (rest : List Int) (o : List (Int × Int)), Small R → rest.length + (flat R).length ≤ 1000000 → o.length + R.length ≤ 1000000 →
    runFold (rawY F least) R (rest, o) = some (.inl (rest ++ flat (spS least R), o ++ spO least R))
  | [], rest, o, _, _, _ => by simp [runFold, spS, spO, flat]
  | (a, n) :: R, rest, o, hs, h1, h2 => by
    have hr := hs (a, n) (by simp)
    have hs' : Small R := fun r hr => hs r (by simp [hr])
    rw [flat_cons, List.length_append, rng_len] at h1
    rw [List.length_cons] at h2
    simp only at hr h1
    show ((M_runs_Raw_r5 F least rest o a n).bind _) = _
    unfold M_runs_Raw_r5
    by_cases h : least ≤ n
    · rw [if_pos (by simpa using h), app_eq (by simp; omega)]
      simp only [Option.bind_some, Sum.elim_inl]
      rw [runsRaw_f hF R _ _ hs' (by omega) (by simp; omega)]
      rw [spO_y (by exact h), spS_n (by exact h), List.append_assoc]
      rfl
    · rw [if_neg (by simpa using h)]
      have hl := runsRaw_l (F := F) (o := o) hr.1 hr.2 (rest := rest) (by omega) F 0 (by omega) (by omega)
      rw [rng, List.append_nil] at hl
      rw [show ((0 : Nat) : Int) = 0 from rfl] at hl
      rw [hl]
      simp only [Option.bind_some, Sum.elim_inl]
      rw [runsRaw_f hF R _ _ hs' (by rw [List.length_append, rng_len]; omega) (by omega)]
      rw [spO_n (by exact h), spS_y (by exact h), flat_cons, List.append_assoc]
theorem rs_pos : ∀ {q : Int} {R : List (Int × Int)}, Sep q R → ∀ r ∈ R, 1 ≤ r.2
  | _, [], _ => by simp
  | q, r :: R, h => by
    intro r' hr
    rcases List.mem_cons.1 hr with rfl | hr
    · exact h.2.1
    · exact rs_pos h.2.2 r' hr
theorem flat_part {R : List (Int × Int)} {r : Int × Int} (hr : r ∈ R) : r.2.toNat ≤ (flat R).length := by
  obtain ⟨A, B, rfl⟩ := List.append_of_mem hr
  rw [flat_app, flat_cons, List.length_append, List.length_append, rng_len]
  omega
theorem flat_long {q : Int} {R : List (Int × Int)} (h : Sep q R) : R.length ≤ (flat R).length := by
  induction R generalizing q with
  | nil => simp
  | cons r R ih =>
    have := ih h.2.2
    have := h.2.1
    rw [flat_cons, List.length_append, rng_len, List.length_cons]
    omega
theorem ris_mid {q : Int} {l : List Int} (h : Ris q l) : Mid l := fun x hx => by have := ris_nd h x hx; unfold Nd at this; omega
theorem rs_small {q : Int} {l : List Int} (hl : l.length ≤ 1000000) (h : Ris q l) : Small (rs l) := by
  intro r hr
  have hs := rs_sep (ris_pw h).1 (ris_pw h).2
  have h1 := rs_pos hs r hr
  have h2 := flat_part hr
  have hf : r.1 ∈ flat (rs l) := flat_mem.2 ⟨r, hr, by omega, by omega⟩
  rw [rs_flat] at h2 hf
  have h3 := ris_mid h _ hf
  exact ⟨h3, by omega, by omega⟩
theorem runsRaw_eq {F : Nat} (hF : 2000000 ≤ F) {q : Int} {l : List Int} {least : Int} (hl : l.length ≤ 300) (h : Ris q l) : M_runs_Raw F l least = some (spO least (rs l), flat (spS least (rs l))) := by
  unfold M_runs_Raw M_runs_runs
  simp only [Option.bind_some]
  have hs := rs_sep (ris_pw h).1 (ris_pw h).2
  have hlong := flat_long hs
  rw [rs_flat] at hlong
  have hf := runsRaw_f (F := F) (least := least) (by omega) (rs l) [] [] (rs_small (by omega) h) (by rw [rs_flat]; simp; omega) (by simp; omega)
  have he := runs_eq (yy := rawY F least) (s := (([] : List Int), ([] : List (Int × Int)))) (by omega) (by omega : l.length + 1 < F) (ris_mid h)
  rw [hf] at he
  show ((M_runs_runs_1 F (rawY F least) l ([], [])).bind _) = _
  rw [he]
  simp
def spE (l : List Int) (least : Int) : Int := if gkc l ≠ 0 then gkc l else if least < 2 ∨ 300 < least then 3 else 0
def spl (l : List Int) (least : Int) : List (Int × Int) × List Int × Int := if spE l least ≠ 0 then ([], [], spE l least) else (spO least (rs l), flat (spS least (rs l)), 0)
theorem spE_ok {l : List Int} {least : Int} : spE l least = 0 ↔ (l.length ≤ 300 ∧ Ris (-1) l) ∧ 2 ≤ least ∧ least ≤ 300 := by
  unfold spE
  rw [← gkc_ris]
  by_cases h : gkc l = 0
  · rw [if_neg (by simp [h])]
    by_cases h2 : least < 2 ∨ 300 < least
    · rw [if_pos h2]; simp; omega
    · rw [if_neg h2]; simp [h]; omega
  · rw [if_pos h]; simp [h]
theorem spl_ok {l : List Int} {least : Int} (h : spE l least = 0) : spl l least = (spO least (rs l), flat (spS least (rs l)), 0) := by unfold spl; rw [if_neg (by simp [h])]
theorem spl_bad {l : List Int} {least : Int} (h : spE l least ≠ 0) : spl l least = ([], [], spE l least) := by unfold spl; rw [if_pos h]
theorem split_eq {F : Nat} (hF : 2000000 ≤ F) {l : List Int} {least : Int} : M_runs_Split F l least = some (spl l least) := by
  unfold M_runs_Split
  rw [gCheck_eq (by omega)]
  simp only [Option.bind_some]
  have hj : M_runs_Split_j2 F l least (spE l least) = some (spl l least) := by
    unfold M_runs_Split_j2
    by_cases h : spE l least = 0
    · rw [if_neg (by simp [h]), spl_ok h, runsRaw_eq hF (spE_ok.1 h).1.1 (spE_ok.1 h).1.2]
      rfl
    · rw [if_pos (by simpa using h), spl_bad h]
  by_cases h : gkc l = 0
  · rw [if_pos (by simpa using h)]
    unfold M_runs_Split_j3
    by_cases h2 : least < 2 ∨ 300 < least
    · have e : spE l least = 3 := by unfold spE; rw [if_neg (by simp [h]), if_pos h2]
      rw [if_pos (by simpa using h2), ← hj, e]
    · have e : spE l least = 0 := by unfold spE; rw [if_neg (by simp [h]), if_neg h2]
      rw [if_neg (by simp; omega), ← hj, e, h]
  · rw [if_neg (by simpa using h)]
    unfold M_runs_Split_j3
    have e : spE l least = gkc l := by unfold spE; rw [if_pos h]
    rw [if_neg (by simp), ← hj, e]
theorem sep_fst : ∀ {e : Int} {R : List (Int × Int)}, Sep e R → ∀ r ∈ R, e < r.1
  | _, [], _ => by simp
  | e, r :: R, h => by
    intro r' hr
    rcases List.mem_cons.1 hr with rfl | hr
    · exact h.1
    · have := sep_fst h.2.2 r' hr; have := h.1; have := h.2.1; omega
/-- A run is as long as it can be. -/
def Mx (l : List Int) (r : Int × Int) : Prop := 1 ≤ r.2 ∧ r.1 - 1 ∉ l ∧ r.1 + r.2 ∉ l ∧ ∀ z, r.1 ≤ z → z < r.1 + r.2 → z ∈ l
theorem sep_mx : ∀ {e : Int} {R : List (Int × Int)}, Sep e R → ∀ r ∈ R, Mx (flat R) r
  | _, [], _ => by simp
  | e, r :: R, h => by
    intro r' hr
    have h1 := h.2.1
    have hlt := sep_lt h.2.2
    rcases List.mem_cons.1 hr with rfl | hr
    · refine ⟨h1, fun hm => ?_, fun hm => ?_, fun z h2 h3 => ?_⟩
      · rw [flat_cons] at hm
        rcases List.mem_append.1 hm with hm | hm
        · have := rng_mem.1 hm; omega
        · have := hlt _ hm; omega
      · rw [flat_cons] at hm
        rcases List.mem_append.1 hm with hm | hm
        · have := rng_mem.1 hm; omega
        · have := hlt _ hm; omega
      · rw [flat_cons]
        exact List.mem_append.2 (.inl (rng_mem.2 (by omega)))
    · obtain ⟨i1, i2, i3, i4⟩ := sep_mx h.2.2 r' hr
      have hf := sep_fst h.2.2 r' hr
      refine ⟨i1, fun hm => ?_, fun hm => ?_, fun z h2 h3 => ?_⟩
      · rw [flat_cons] at hm
        rcases List.mem_append.1 hm with hm | hm
        · have := rng_mem.1 hm; omega
        · exact i2 hm
      · rw [flat_cons] at hm
        rcases List.mem_append.1 hm with hm | hm
        · have := rng_mem.1 hm; omega
        · exact i3 hm
      · rw [flat_cons]
        exact List.mem_append.2 (.inr (i4 z h2 h3))
theorem rdown {x a : Int} (hF : 1000000 < F) (hl : l.length ≤ 1000000) (ha : -1000000000 ≤ a ∧ a ≤ 1000000000) (h0 : a - 1 ∉ l) : ∀ (j k : Nat), j < k → j ≤ 1000000 → (∀ z, a ≤ z → z < a + j → z ∈ l) →
    M_R_RunsSplit_l81 F rec68 l least o rest i x k (a + j) = M_R_RunsSplit_j77 F rec68 l least o rest i x a
  | _, 0, h, _, _ => by omega
  | 0, k + 1, _, _, _ => by
    show M_R_RunsSplit_b81 F rec68 l least o rest i x (M_R_RunsSplit_l81 F rec68 l least o rest i x k) (a + ((0 : Nat) : Int)) = _
    unfold M_R_RunsSplit_b81
    rw [show a + ((0 : Nat) : Int) = a from by omega, isub_i64 (by omega) (by omega), hasInt_eq (by omega) hl, decide_eq_false h0]
    rfl
  | j + 1, k + 1, h, hj, hz => by
    show M_R_RunsSplit_b81 F rec68 l least o rest i x (M_R_RunsSplit_l81 F rec68 l least o rest i x k) (a + ((j + 1 : Nat) : Int)) = _
    unfold M_R_RunsSplit_b81
    rw [isub_i64 (by omega) (by omega), show a + ((j + 1 : Nat) : Int) - 1 = a + (j : Int) from by omega, hasInt_eq (by omega) hl, decide_eq_true (hz _ (by omega) (by omega))]
    exact rdown hF hl ha h0 j k (by omega) (by omega) (fun z h1 h2 => hz z h1 (by omega))
theorem rup {b fr0 : Int} (hF : 1000000 < F) (hl : l.length ≤ 1000000) (hb : -1000000000 ≤ b ∧ b ≤ 1000000000) (h0 : b + 1 ∉ l) : ∀ (j k : Nat), j < k → j ≤ 1000000 → (∀ z, b - j < z → z ≤ b → z ∈ l) →
    M_R_RunsSplit_l80 F rec68 l least o rest i fr0 k (b - j) = M_R_RunsSplit_j79 F rec68 l least o rest i fr0 b
  | _, 0, h, _, _ => by omega
  | 0, k + 1, _, _, _ => by
    show M_R_RunsSplit_b80 F rec68 l least o rest i fr0 (M_R_RunsSplit_l80 F rec68 l least o rest i fr0 k) (b - ((0 : Nat) : Int)) = _
    unfold M_R_RunsSplit_b80
    rw [show b - ((0 : Nat) : Int) = b from by omega, iadd_i64 (by omega) (by omega), hasInt_eq (by omega) hl, decide_eq_false h0]
    rfl
  | j + 1, k + 1, h, hj, hz => by
    show M_R_RunsSplit_b80 F rec68 l least o rest i fr0 (M_R_RunsSplit_l80 F rec68 l least o rest i fr0 k) (b - ((j + 1 : Nat) : Int)) = _
    unfold M_R_RunsSplit_b80
    rw [iadd_i64 (by omega) (by omega), show b - ((j + 1 : Nat) : Int) + 1 = b - (j : Int) from by omega, hasInt_eq (by omega) hl, decide_eq_true (hz _ (by omega) (by omega))]
    exact rup hF hl hb h0 j k (by omega) (by omega) (fun z h1 h2 => hz z (by omega) h2)
def oj (least : Int) (o : List (Int × Int)) (r : Int × Int) (j : Nat) : List (Int × Int) := if least ≤ r.2 ∧ 0 < j then o ++ [r] else o
def rj (least : Int) (rest : List Int) (r : Int × Int) (j : Nat) : List Int := if least ≤ r.2 then rest else rest ++ rng r.1 j
theorem rstep {F : Nat} {l : List Int} {least : Int} {o : List (Int × Int)} {rest : List Int} {r : Int × Int} (hF : 1000000 < F) (hl : l.length ≤ 300) (hr : Mx l r) (ha : -1000000 ≤ r.1 ∧ r.1 ≤ 10000000) (hn : r.2 ≤ 300) (hlm : o.length + rest.length ≤ 1000000) {i j k : Nat} (hj : j < r.2.toNat) (hi : l[i]? = some (r.1 + j)) :
    M_R_RunsSplit_l68 F l least (k + 1) (oj least o r j, rj least rest r j, (i : Int)) = M_R_RunsSplit_l68 F l least k (oj least o r (j + 1), rj least rest r (j + 1), ((i + 1 : Nat) : Int)) := by
  obtain ⟨h1, h2, h3, h4⟩ := hr
  obtain ⟨a, n⟩ := r
  simp only at h1 h2 h3 h4 ha hn hj hi
  have hil := (List.getElem?_eq_some_iff.1 hi).1
  show M_R_RunsSplit_b68 F l least (M_R_RunsSplit_l68 F l least k) (oj least o (a, n) j) (rj least rest (a, n) j) (i : Int) = _
  unfold M_R_RunsSplit_b68
  rw [if_pos (by simp; omega), idx_nat, hi]
  simp only [Option.bind_some]
  rw [rdown hF (by omega) (by omega) h2 j F (by omega) (by omega) (fun z z1 z2 => h4 z z1 (by omega))]
  unfold M_R_RunsSplit_j77
  rw [show a + (j : Int) = (a + n - 1) - ((n.toNat - 1 - j : Nat) : Int) from by omega, rup hF (by omega) (by omega) (by rw [show a + n - 1 + 1 = a + n from by omega]; exact h3) _ F (by omega) (by omega) (fun z z1 z2 => h4 z (by omega) (by omega))]
  unfold M_R_RunsSplit_j79
  rw [isub_i64 (by omega) (by omega), iadd_i64 (by omega) (by omega), show a + n - 1 - a + 1 = n from by omega, idx_nat, hi]
  simp only [Option.bind_some]
  unfold oj rj M_R_RunsSplit_j75
  simp only
  by_cases hc : least ≤ n
  · rw [if_neg (by simp; omega)]
    by_cases hj0 : j = 0
    · subst hj0
      rw [if_pos (by simp), if_pos hc, if_neg (by simp), if_pos ⟨hc, by omega⟩, if_pos hc, app_eq (by simp; omega), iadd1_n (by omega)]
      rfl
    · rw [if_neg (by simp; omega), if_pos hc, if_pos ⟨hc, by omega⟩, if_pos ⟨hc, by omega⟩, if_pos hc, iadd1_n (by omega)]
  · rw [if_pos (by simp; omega), if_neg hc, if_neg (by omega), if_neg (by omega), if_neg hc, app_eq (by simp [rng_len]; omega), iadd1_n (by omega)]
    simp only [Option.bind_some]
    rw [List.append_assoc, ← rng_snoc]
theorem rrun {F : Nat} {l : List Int} {least : Int} {o : List (Int × Int)} {rest : List Int} {r : Int × Int} (hF : 1000000 < F) (hl : l.length ≤ 300) (hr : Mx l r) (ha : -1000000 ≤ r.1 ∧ r.1 ≤ 10000000) (hn : r.2 ≤ 300) (hlm : o.length + rest.length ≤ 1000000) {i k : Nat} (hi : ∀ j, j < r.2.toNat → l[i + j]? = some (r.1 + j)) :
    ∀ (m j : Nat), j + m = r.2.toNat → M_R_RunsSplit_l68 F l least (k + m) (oj least o r j, rj least rest r j, ((i + j : Nat) : Int)) = M_R_RunsSplit_l68 F l least k (oj least o r r.2.toNat, rj least rest r r.2.toNat, ((i + r.2.toNat : Nat) : Int))
  | 0, j, h => by rw [← h]; rfl
  | m + 1, j, h => by
    rw [← Nat.add_assoc, rstep hF hl hr ha hn hlm (by omega) (hi j (by omega))]
    exact rrun hF hl hr ha hn hlm hi m (j + 1) (by omega)
theorem rall {F : Nat} {l : List Int} {least : Int} (hF : 1000000 < F) (hl : l.length ≤ 300) : ∀ (R : List (Int × Int)) (o : List (Int × Int)) (rest : List Int) (i k : Nat), (∀ r ∈ R, Mx l r ∧ (-1000000 ≤ r.1 ∧ r.1 ≤ 10000000) ∧ r.2 ≤ 300) → l.drop i = flat R → i ≤ l.length → o.length + R.length + (rest.length + (flat R).length) ≤ 1000000 →
    M_R_RunsSplit_l68 F l least (k + 1 + (flat R).length) (o, rest, (i : Int)) = some (o ++ spO least R, rest ++ flat (spS least R))
  | [], o, rest, i, k, _, hd, hi, _ => by
    have : l.length ≤ i := by
      have := congrArg List.length hd
      rw [List.length_drop] at this
      simp [flat] at this
      omega
    show M_R_RunsSplit_b68 F l least (M_R_RunsSplit_l68 F l least k) o rest (i : Int) = _
    unfold M_R_RunsSplit_b68
    rw [if_neg (by simp; omega)]
    simp [M_R_RunsSplit_j41, spO, spS, flat]
  | r :: R, o, rest, i, k, hR, hd, hi, hlm => by
    obtain ⟨h1, h2, h3⟩ := hR r (by simp)
    have hn := h1.1
    rw [flat_cons, List.length_append, rng_len, List.length_cons] at hlm
    rw [flat_cons] at hd
    have hget : ∀ j, j < r.2.toNat → l[i + j]? = some (r.1 + j) := by
      intro j hj
      rw [← List.getElem?_drop, hd, List.getElem?_append_left (by rw [rng_len]; exact hj), rng_get hj]
    have hrun := rrun (least := least) (o := o) (rest := rest) (k := k + 1 + (flat R).length) hF hl h1 h2 h3 (by omega) hget r.2.toNat 0 (by omega)
    have e1 : oj least o r 0 = o := by unfold oj; rw [if_neg (by omega)]
    have e2 : rj least rest r 0 = rest := by unfold rj; split <;> simp [rng]
    rw [e1, e2, show i + 0 = i from rfl] at hrun
    rw [flat_cons, List.length_append, rng_len, show k + 1 + (r.2.toNat + (flat R).length) = k + 1 + (flat R).length + r.2.toNat from by omega, hrun]
    have hd' : l.drop (i + r.2.toNat) = flat R := by
      rw [← List.drop_drop, hd, List.drop_left' (rng_len _ _)]
    have hlen : i + r.2.toNat ≤ l.length := by
      have := congrArg List.length hd
      rw [List.length_drop, List.length_append, rng_len] at this
      omega
    have hlo : (oj least o r r.2.toNat).length + R.length + ((rj least rest r r.2.toNat).length + (flat R).length) ≤ 1000000 := by
      unfold oj rj
      by_cases hc : least ≤ r.2
      · rw [if_pos ⟨hc, by omega⟩, if_pos hc]; simp; omega
      · rw [if_neg (by omega), if_neg hc]; simp [rng_len]; omega
    rw [rall hF hl R _ _ _ k (fun r' hr' => hR r' (by simp [hr'])) hd' hlen hlo]
    unfold oj rj
    by_cases hc : least ≤ r.2
    · rw [if_pos ⟨hc, by omega⟩, if_pos hc, spO_y hc, spS_n hc, List.append_assoc]; rfl
    · rw [if_neg (by omega), if_neg hc, spO_n hc, spS_y hc, flat_cons, List.append_assoc]
theorem rsplit_eq {F : Nat} (hF : 2000000 ≤ F) {q : Int} {l : List Int} {least : Int} (hl : l.length ≤ 300) (h : Ris q l) : M_R_RunsSplit F l least = some (spO least (rs l), flat (spS least (rs l))) := by
  unfold M_R_RunsSplit
  have hs := rs_sep (ris_pw h).1 (ris_pw h).2
  have hfl := rs_flat l
  have hlong := flat_long hs
  rw [hfl] at hlong
  have hR : ∀ r ∈ rs l, Mx l r ∧ (-1000000 ≤ r.1 ∧ r.1 ≤ 10000000) ∧ r.2 ≤ 300 := by
    intro r hr
    have hm := sep_mx hs r hr
    rw [hfl] at hm
    have h2 := flat_part hr
    rw [hfl] at h2
    have hx := ris_nd h _ (hm.2.2.2 r.1 (by omega) (by have := hm.1; omega))
    unfold Nd at hx
    exact ⟨hm, by omega, by omega⟩
  have := rall (F := F) (l := l) (least := least) (by omega) hl (rs l) [] [] 0 (F - l.length - 1) hR (by rw [hfl]; rfl) (by omega) (by rw [hfl]; simp; omega)
  rw [hfl, show F - l.length - 1 + 1 + l.length = F from by omega] at this
  simpa using this
theorem within_eq {F : Nat} {x a b : Int} : M_runs_within F x a b = some (decide (a ≤ x ∧ x ≤ b)) := by
  unfold M_runs_within
  congr 1
  by_cases h : a ≤ x <;> by_cases h2 : x ≤ b <;> simp [h, h2]
def RunOk (r : Int × Int) : Prop := (0 ≤ r.1 ∧ r.1 ≤ 1048576) ∧ (1 ≤ r.2 ∧ r.2 ≤ 300) ∧ r.1 + r.2 - 1 ≤ 1048576
instance runOkDec (r : Int × Int) : Decidable (RunOk r) := inferInstanceAs (Decidable (_ ∧ _ ∧ _))
/-- What is wrong with runs, behind a number. -/
def sk : Int → List (Int × Int) → Int
  | _, [] => 0
  | e, r :: R => if RunOk r then (if r.1 < e + 2 then 4 else sk (r.1 + r.2 - 1) R) else 3
theorem sk_sep : ∀ {e : Int} {R : List (Int × Int)}, sk e R = 0 ↔ (∀ r ∈ R, RunOk r) ∧ Sep (e + 1) R
  | _, [] => by simp [sk, Sep]
  | e, r :: R => by
    unfold sk Sep
    by_cases h : RunOk r
    · rw [if_pos h]
      by_cases h2 : r.1 < e + 2
      · rw [if_pos h2]; simp; omega
      · rw [if_neg h2, sk_sep]
        rw [show r.1 + r.2 - 1 + 1 = r.1 + r.2 from by omega]
        have h3 : 1 ≤ r.2 := h.2.1.1
        constructor
        · rintro ⟨h4, h5⟩
          exact ⟨fun r' hr => by rcases List.mem_cons.1 hr with rfl | hr; exact h; exact h4 r' hr, by omega, h3, h5⟩
        · rintro ⟨h4, _, _, h5⟩
          exact ⟨fun r' hr => h4 r' (by simp [hr]), h5⟩
    · rw [if_neg h]
      constructor
      · intro h3; simp at h3
      · rintro ⟨h4, _⟩; exact absurd (h4 r (by simp)) h
theorem flat_size : ∀ {R : List (Int × Int)}, (∀ r ∈ R, RunOk r) → (flat R).length ≤ 300 * R.length
  | [], _ => by simp [flat]
  | r :: R, h => by
    have h1 := flat_size (R := R) fun r hr => h r (by simp [hr])
    have h2 := h r (by simp)
    unfold RunOk at h2
    rw [flat_cons, List.length_append, rng_len, List.length_cons]
    omega
theorem spread_in {F : Nat} {rec32 : (List Int × Int) → Option (List Int × Int)} {i : Int} {r : Int × Int} {acc : List Int} (hr : RunOk r) (ha : acc.length ≤ 1000000) : ∀ (k j : Nat), r.2.toNat < k + j → j ≤ r.2.toNat →
    M_runs_spread_l35 F rec32 i r k (acc ++ rng r.1 j, (j : Int)) = M_runs_spread_j34 F rec32 i (acc ++ rng r.1 r.2.toNat)
  | 0, _, _, _ => by omega
  | k + 1, j, h, hj => by
    unfold RunOk at hr
    show M_runs_spread_b35 F rec32 i r (M_runs_spread_l35 F rec32 i r k) (acc ++ rng r.1 j) (j : Int) = _
    unfold M_runs_spread_b35
    by_cases hlt : j < r.2.toNat
    · rw [if_pos (by simp; omega), iadd_i64 (by omega) (by omega), app_eq (by simp [rng_len]; omega), iadd1_n (by omega)]
      simp only [Option.bind_some]
      rw [List.append_assoc, ← rng_snoc]
      exact spread_in hr ha k (j + 1) (by omega) (by omega)
    · rw [if_neg (by simp; omega)]
      obtain rfl : j = r.2.toNat := by omega
      rfl
theorem flat_take {R : List (Int × Int)} {i : Nat} (h : i < R.length) : flat (R.take (i + 1)) = flat (R.take i) ++ rng R[i].1 R[i].2.toNat := by
  rw [List.take_add_one, List.getElem?_eq_getElem h, flat_app]
  simp [flat]
theorem spread_out {F : Nat} (hF : 1000 < F) {R : List (Int × Int)} (hR : ∀ r ∈ R, RunOk r) (hl : R.length ≤ 300) : ∀ (k i : Nat), R.length < k + i → i ≤ R.length →
    M_runs_spread_l32 F R k (flat (R.take i), (i : Int)) = some (flat R, 0)
  | 0, _, _, _ => by omega
  | k + 1, i, h, hi => by
    show M_runs_spread_b32 F R (M_runs_spread_l32 F R k) (flat (R.take i)) (i : Int) = _
    unfold M_runs_spread_b32
    by_cases hlt : i < R.length
    · have hok := hR _ (List.getElem_mem hlt)
      have hsz := flat_size (R := R.take i) fun r hr => hR r (List.mem_of_mem_take hr)
      rw [List.length_take] at hsz
      have hsp := spread_in (F := F) (rec32 := M_runs_spread_l32 F R k) (i := (i : Int)) (acc := flat (R.take i)) hok (by omega) F 0 (by unfold RunOk at hok; omega) (by omega)
      rw [rng, List.append_nil, show ((0 : Nat) : Int) = 0 from rfl] at hsp
      rw [if_pos (by simp; omega), idx_nat, List.getElem?_eq_getElem hlt]
      simp only [Option.bind_some]
      rw [hsp, ← flat_take hlt]
      unfold M_runs_spread_j34
      rw [iadd1_n (by omega)]
      exact spread_out hF hR hl k (i + 1) (by omega) (by omega)
    · rw [if_neg (by simp; omega)]
      obtain rfl : i = R.length := by omega
      rw [List.take_length]; rfl
theorem isub_add {a b : Int} (h1 : -1000000000 ≤ a ∧ a ≤ 1000000000) (h2 : -1000000000 ≤ b ∧ b ≤ 1000000000) : isub .i64 (iadd .i64 a b) 1 = a + b - 1 := by
  rw [iadd_i64 (by omega) (by omega), isub_i64 (by omega) (by omega)]
theorem spread_chk {F : Nat} {R : List (Int × Int)} (hl : R.length ≤ 300) : ∀ (k i : Nat) (e : Int), R.length < k + i → i ≤ R.length → -2 ≤ e ∧ e ≤ 1048576 →
    M_runs_spread_l44 F R k (e, (i : Int)) = if sk e (R.drop i) ≠ 0 then some ([], sk e (R.drop i)) else M_runs_spread_j14 F R
  | 0, _, _, _, _, _ => by omega
  | k + 1, i, e, h, hi, he => by
    show M_runs_spread_b44 F R (M_runs_spread_l44 F R k) e (i : Int) = _
    unfold M_runs_spread_b44
    by_cases hlt : i < R.length
    · rw [if_pos (by simp; omega), idx_nat, List.getElem?_eq_getElem hlt, List.drop_eq_getElem_cons hlt, sk]
      generalize R[i] = r
      simp only [Option.bind_some]
      rw [within_eq, within_eq]
      simp only [Option.bind_some]
      by_cases h1 : 0 ≤ r.1 ∧ r.1 ≤ 1048576
      · rw [decide_eq_true h1, if_neg (by simp)]
        by_cases h2 : 1 ≤ r.2 ∧ r.2 ≤ 300
        · rw [decide_eq_true h2, if_neg (by simp), isub_add (by omega) (by omega)]
          unfold M_runs_spread_j48
          by_cases h3 : r.1 + r.2 - 1 ≤ 1048576
          · have hok : RunOk r := ⟨h1, h2, h3⟩
            rw [if_neg (by simp; omega), if_pos hok, iadd_i64 (by omega) (by omega)]
            by_cases h4 : r.1 < e + 2
            · rw [if_pos (by simpa using h4), if_pos h4, if_pos (by decide)]
            · rw [if_neg (by simpa using h4), if_neg h4, isub_add (by omega) (by omega), iadd1_n (by omega)]
              exact spread_chk hl k (i + 1) _ (by omega) (by omega) (by omega)
          · have hok : ¬ RunOk r := fun h => h3 h.2.2
            rw [if_pos (by simp; omega), if_neg hok, if_pos (by decide)]
        · have hok : ¬ RunOk r := fun h => h2 h.2.1
          rw [decide_eq_false h2, if_pos (by simp), if_neg hok, if_pos (by decide)]
          rfl
      · have hok : ¬ RunOk r := fun h => h1 h.1
        rw [decide_eq_false h1, if_pos (by simp), if_neg hok, if_pos (by decide)]
        rfl
    · rw [if_neg (by simp; omega), List.drop_eq_nil_of_le (by omega), sk, if_neg (by simp)]
/-- The answers of spread. -/
def skc (R : List (Int × Int)) : Int := if 300 < R.length then 2 else sk (-2) R
def spd (R : List (Int × Int)) : List Int × Int := if skc R ≠ 0 then ([], skc R) else (flat R, 0)
theorem skc_ok {R : List (Int × Int)} : skc R = 0 ↔ R.length ≤ 300 ∧ (∀ r ∈ R, RunOk r) ∧ Sep (-1) R := by
  unfold skc
  by_cases h : 300 < R.length
  · rw [if_pos h]; simp; omega
  · rw [if_neg h, sk_sep]
    simp
    omega
theorem spread_eq {F : Nat} (hF : 20000 ≤ F) {R : List (Int × Int)} : M_runs_spread F R = some (spd R) := by
  unfold M_runs_spread spd
  by_cases h : 300 < R.length
  · have e : skc R = 2 := by unfold skc; rw [if_pos h]
    rw [if_pos (by simp; omega), e, if_pos (by decide)]
  · have e : skc R = sk (-2) R := by unfold skc; rw [if_neg h]
    have hc := spread_chk (F := F) (R := R) (by omega) F 0 (-2) (by omega) (by omega) (by omega)
    rw [List.drop_zero] at hc
    rw [if_neg (by simp; omega), e]
    refine hc.trans ?_
    by_cases h2 : sk (-2) R = 0
    · rw [if_neg (by simp [h2]), if_neg (by simp [h2])]
      unfold M_runs_spread_j14
      have hok := skc_ok.1 (e.trans h2)
      exact spread_out (by omega) hok.2.1 hok.1 F 0 (by omega) (by omega)
    · rw [if_pos h2, if_pos h2]
def rm (R : List (Int × Int)) (rest : List Int) : List Int × Int := if skc R ≠ 0 then ([], skc R) else if gkc rest ≠ 0 then ([], gkc rest) else mrg (flat R) rest
theorem rm_1 {R : List (Int × Int)} {rest : List Int} (h : skc R ≠ 0) : rm R rest = ([], skc R) := by unfold rm; rw [if_pos h]
theorem rm_2 {R : List (Int × Int)} {rest : List Int} (h : skc R = 0) (h2 : gkc rest ≠ 0) : rm R rest = ([], gkc rest) := by unfold rm; rw [if_neg (by simp [h]), if_pos h2]
theorem rm_3 {R : List (Int × Int)} {rest : List Int} (h : skc R = 0) (h2 : gkc rest = 0) : rm R rest = mrg (flat R) rest := by unfold rm; rw [if_neg (by simp [h]), if_neg (by simp [h2])]
theorem spd_ok {R : List (Int × Int)} (h : skc R = 0) : spd R = (flat R, 0) := by unfold spd; rw [if_neg (by simp [h])]
theorem spd_bad {R : List (Int × Int)} (h : skc R ≠ 0) : spd R = ([], skc R) := by unfold spd; rw [if_pos h]
theorem merge_eq {F : Nat} (hF : 20000 ≤ F) {R : List (Int × Int)} {rest : List Int} : M_runs_Merge F R rest = some (rm R rest) := by
  unfold M_runs_Merge
  rw [spread_eq hF, gCheck_eq hF]
  simp only [Option.bind_some]
  by_cases h : skc R = 0
  · rw [spd_ok h, if_pos (by simp)]
    unfold M_runs_Merge_j1
    by_cases h2 : gkc rest = 0
    · rw [rm_3 h h2, if_neg (by simp [h2])]
      obtain ⟨k1, k2, k3⟩ := skc_ok.1 h
      have k4 := gkc_ris.1 h2
      have k5 := flat_size k2
      exact joined_eq hF (sep_pw k3) (ris_pw k4.2).1 (by show (flat R).length + rest.length ≤ _; omega)
    · rw [rm_2 h h2, if_pos (by simpa using h2)]
  · rw [spd_bad h, rm_1 h, if_neg (by simpa using h)]
    unfold M_runs_Merge_j1
    rw [if_pos (by simpa using h)]
theorem count_eq {F : Nat} (hF : 20000 ≤ F) {R : List (Int × Int)} : M_runs_Count F R = some (((rm R []).1.length : Int), (rm R []).2) := by
  unfold M_runs_Count
  rw [merge_eq hF]; rfl
theorem rmerge_l {F : Nat} {l r : List Int} (hl : l.Pairwise (· < ·)) (hr : r.Pairwise (· < ·)) (hm : l.length + r.length ≤ 1000000) : ∀ (k i j : Nat) (o : List Int), l.length + r.length < k + (i + j) → i ≤ l.length → j ≤ r.length → o.length + (l.length - i + (r.length - j)) ≤ 2000000 →
    M_R_RunsMerge_l53 F r l k (o, (i : Int), (j : Int)) = some (mrgO o (l.drop i) (r.drop j))
  | 0, _, _, _, _, _, _, _ => by omega
  | k + 1, i, j, o, h, hi, hj, ho => by
    show M_R_RunsMerge_b53 F r l (M_R_RunsMerge_l53 F r l k) o (i : Int) (j : Int) = _
    have hpl : i < l.length → ∀ z ∈ l.drop (i + 1), l[i]! < z := by
      intro hlt
      rw [getElem!_pos l i hlt]
      have := hl.sublist (List.drop_sublist i l)
      rw [List.drop_eq_getElem_cons hlt] at this
      exact (List.pairwise_cons.1 this).1
    have hpr : j < r.length → ∀ z ∈ r.drop (j + 1), r[j]! < z := by
      intro hlt
      rw [getElem!_pos r j hlt]
      have := hr.sublist (List.drop_sublist j r)
      rw [List.drop_eq_getElem_cons hlt] at this
      exact (List.pairwise_cons.1 this).1
    have stepL : i < l.length → (∀ z ∈ r.drop j, l[i]! < z) → M_R_RunsMerge_j56 F (M_R_RunsMerge_l53 F r l k) r l o (i : Int) (j : Int) true = some (mrgO o (l.drop i) (r.drop j)) := by
      intro hlt hz
      unfold M_R_RunsMerge_j56
      rw [if_pos rfl, idx_nat, List.getElem?_eq_getElem hlt]
      simp only [Option.bind_some]
      rw [app_eq (by simp; omega), iadd1_n (by omega)]
      simp only [Option.bind_some]
      rw [rmerge_l hl hr hm k (i + 1) j _ (by omega) (by omega) hj (by simp; omega), List.drop_eq_getElem_cons hlt, mrgO_l]
      · have := hpl hlt; rwa [getElem!_pos l i hlt] at this
      · rwa [getElem!_pos l i hlt] at hz
    have stepR : j < r.length → (∀ z ∈ l.drop i, r[j]! < z) → M_R_RunsMerge_j56 F (M_R_RunsMerge_l53 F r l k) r l o (i : Int) (j : Int) false = some (mrgO o (l.drop i) (r.drop j)) := by
      intro hlt hz
      unfold M_R_RunsMerge_j56
      rw [if_neg (by simp), idx_nat, List.getElem?_eq_getElem hlt]
      simp only [Option.bind_some]
      rw [app_eq (by simp; omega), iadd1_n (by omega)]
      simp only [Option.bind_some]
      rw [rmerge_l hl hr hm k i (j + 1) _ (by omega) hi (by omega) (by simp; omega), List.drop_eq_getElem_cons hlt, mrgO_r]
      · rwa [getElem!_pos r j hlt] at hz
      · have := hpr hlt; rwa [getElem!_pos r j hlt] at this
    unfold M_R_RunsMerge_b53
    by_cases h1 : i < l.length
    · have d1 : decide ((i : Int) < (l.length : Int)) = true := by simp; omega
      rw [d1, Bool.true_or, if_pos rfl, if_pos rfl]
      by_cases h2 : j < r.length
      · have d2 : decide ((j : Int) < (r.length : Int)) = true := by simp; omega
        rw [d2, if_pos rfl, idx_nat, idx_nat, List.getElem?_eq_getElem h1, List.getElem?_eq_getElem h2]
        simp only [Option.bind_some]
        unfold M_R_RunsMerge_j55
        by_cases he : l[i] = r[j]
        · rw [if_pos (by simpa using he), List.drop_eq_getElem_cons h1, List.drop_eq_getElem_cons h2, he, mrgO_eq]
        · rw [if_neg (by simpa using he), if_neg (by simp; omega), d1, if_pos rfl, idx_nat, idx_nat, List.getElem?_eq_getElem h1, List.getElem?_eq_getElem h2]
          simp only [Option.bind_some]
          by_cases hlt : l[i] < r[j]
          · rw [decide_eq_true hlt]
            refine stepL h1 fun z hz => ?_
            rw [getElem!_pos l i h1]
            rw [List.drop_eq_getElem_cons h2] at hz
            rcases List.mem_cons.1 hz with rfl | hz
            · exact hlt
            · have := hpr h2 z hz
              rw [getElem!_pos r j h2] at this
              omega
          · rw [decide_eq_false hlt]
            refine stepR h2 fun z hz => ?_
            rw [getElem!_pos r j h2]
            rw [List.drop_eq_getElem_cons h1] at hz
            rcases List.mem_cons.1 hz with rfl | hz
            · omega
            · have := hpl h1 z hz
              rw [getElem!_pos l i h1] at this
              omega
      · have d2 : decide ((j : Int) < (r.length : Int)) = false := by simp; omega
        rw [d2, if_neg (by simp)]
        unfold M_R_RunsMerge_j55
        rw [if_neg (by simp), if_pos (by simp; omega)]
        exact stepL h1 (by rw [List.drop_eq_nil_of_le (by omega)]; simp)
    · have d1 : decide ((i : Int) < (l.length : Int)) = false := by simp; omega
      rw [d1, Bool.false_or]
      by_cases h2 : j < r.length
      · have d2 : decide ((j : Int) < (r.length : Int)) = true := by simp; omega
        rw [d2, if_pos rfl, if_neg (by simp)]
        unfold M_R_RunsMerge_j55
        rw [if_neg (by simp), if_neg (by simp; omega), d1, if_neg (by simp)]
        exact stepR h2 (by rw [List.drop_eq_nil_of_le (by omega)]; simp)
      · have d2 : decide ((j : Int) < (r.length : Int)) = false := by simp; omega
        rw [d2, if_neg (by simp), List.drop_eq_nil_of_le (by omega), List.drop_eq_nil_of_le (by omega)]
        unfold M_R_RunsMerge_j46 mrgO
        rw [if_neg (show ¬ cmn [] [] = true by simp [cmn])]
        by_cases h3 : 300 < o.length
        · rw [if_pos (by simp; omega), if_pos (by simpa using h3)]
        · rw [if_neg (by simp; omega), if_neg (by simpa using h3)]
          simp [srt]
theorem rm_in {F : Nat} {rec79 : (List Int × Int) → Option (List Int × Int)} {R : List (Int × Int)} {i : Nat} {r : Int × Int} (hi : R[i]? = some r) (hr : RunOk r) {acc : List Int} (ha : acc.length ≤ 1000000) : ∀ (k j : Nat), r.2.toNat < k + j → j ≤ r.2.toNat →
    M_R_RunsMerge_l90 F rec79 R (i : Int) k (acc ++ rng r.1 j, (j : Int)) = M_R_RunsMerge_j85 F rec79 (i : Int) (acc ++ rng r.1 r.2.toNat)
  | 0, _, _, _ => by omega
  | k + 1, j, h, hj => by
    have hr' := hr
    unfold RunOk at hr'
    show M_R_RunsMerge_b90 F rec79 R (i : Int) (M_R_RunsMerge_l90 F rec79 R (i : Int) k) (acc ++ rng r.1 j) (j : Int) = _
    unfold M_R_RunsMerge_b90
    rw [idx_nat, hi]
    simp only [Option.bind_some]
    by_cases hlt : j < r.2.toNat
    · rw [if_pos (by simp; omega), iadd_i64 (by omega) (by omega), app_eq (by simp [rng_len]; omega), iadd1_n (by omega)]
      simp only [Option.bind_some]
      rw [List.append_assoc, ← rng_snoc]
      exact rm_in hi hr ha k (j + 1) (by omega) (by omega)
    · rw [if_neg (by simp; omega)]
      obtain rfl : j = r.2.toNat := by omega
      rfl
theorem rm_out {F : Nat} (hF : 1000 < F) {R : List (Int × Int)} {rest : List Int} (hl : R.length ≤ 300) : ∀ (k i : Nat) (e : Int), R.length < k + i → i ≤ R.length → (∀ r ∈ R.take i, RunOk r) → (i = 0 ∧ e = -2 ∨ ∃ r, 0 < i ∧ R[i - 1]? = some r ∧ RunOk r ∧ e = r.1 + r.2 - 1) →
    M_R_RunsMerge_l79 F R rest k (flat (R.take i), (i : Int)) = if sk e (R.drop i) ≠ 0 then some ([], sk e (R.drop i)) else M_R_RunsMerge_j35 F rest (flat R)
  | 0, _, _, _, _, _, _ => by omega
  | k + 1, i, e, h, hi, hok, he => by
    show M_R_RunsMerge_b79 F R rest (M_R_RunsMerge_l79 F R rest k) (flat (R.take i)) (i : Int) = _
    unfold M_R_RunsMerge_b79
    by_cases hlt : i < R.length
    · have hsz := flat_size hok
      rw [List.length_take] at hsz
      have hgi : R[i]? = some R[i] := List.getElem?_eq_getElem hlt
      have hft := flat_take hlt
      have htk : ∀ r ∈ R.take (i + 1), RunOk R[i] → RunOk r := by
        intro r hr h1
        rw [List.take_add_one, hgi] at hr
        rcases List.mem_append.1 hr with hr | hr
        · exact hok r hr
        · simp at hr; rw [hr]; exact h1
      rw [if_pos (by simp; omega), idx_nat, hgi, List.drop_eq_getElem_cons hlt, sk]
      generalize R[i] = r at hgi hft htk
      simp only [Option.bind_some]
      rw [between_eq, between_eq]
      simp only [Option.bind_some]
      have hbad : ∀ b : Bool, b = true → ¬ RunOk r → M_R_RunsMerge_j87 F (M_R_RunsMerge_l79 F R rest k) R (flat (R.take i)) (i : Int) b = if (if RunOk r then if r.1 < e + 2 then (4 : Int) else sk (r.1 + r.2 - 1) (R.drop (i + 1)) else 3) ≠ 0 then some ([], if RunOk r then if r.1 < e + 2 then (4 : Int) else sk (r.1 + r.2 - 1) (R.drop (i + 1)) else 3) else M_R_RunsMerge_j35 F rest (flat R) := by
        intro b hb hn
        unfold M_R_RunsMerge_j87
        rw [if_pos hb, if_neg hn, if_pos (by decide)]
      by_cases h1 : 0 ≤ r.1 ∧ r.1 ≤ 1048576
      · rw [decide_eq_true h1, if_neg (by simp)]
        by_cases h2 : 1 ≤ r.2 ∧ r.2 ≤ 300
        · rw [decide_eq_true h2, if_neg (by simp), isub_add (by omega) (by omega)]
          by_cases h3 : r.1 + r.2 - 1 ≤ 1048576
          · have hr : RunOk r := ⟨h1, h2, h3⟩
            have hin := rm_in (F := F) (rec79 := M_R_RunsMerge_l79 F R rest k) (acc := flat (R.take i)) hgi hr (by omega) F 0 (by omega) (by omega)
            rw [rng, List.append_nil, show ((0 : Nat) : Int) = 0 from rfl, ← hft] at hin
            have hrec := rm_out hF (rest := rest) hl k (i + 1) (r.1 + r.2 - 1) (by omega) (by omega) (fun r' hr' => htk r' hr' hr) (.inr ⟨r, by omega, by rw [Nat.add_sub_cancel]; exact hgi, hr, rfl⟩)
            have hlast : M_R_RunsMerge_j89 F (M_R_RunsMerge_l79 F R rest k) R (flat (R.take i)) (i : Int) false = if sk (r.1 + r.2 - 1) (R.drop (i + 1)) ≠ 0 then some ([], sk (r.1 + r.2 - 1) (R.drop (i + 1))) else M_R_RunsMerge_j35 F rest (flat R) := by
              unfold M_R_RunsMerge_j89
              rw [if_neg (by simp), hin]
              unfold M_R_RunsMerge_j85
              rw [iadd1_n (by omega)]
              exact hrec
            unfold M_R_RunsMerge_j87
            rw [if_neg (by simp; omega), if_pos hr]
            rcases he with ⟨rfl, rfl⟩ | ⟨p, hi0, hp, hpok, rfl⟩
            · rw [if_neg (by simp), if_neg (show ¬ r.1 < -2 + 2 by omega)]
              exact hlast
            · unfold RunOk at hpok
              rw [if_pos (by simp; omega), isub1_n (by omega) (by omega), idx_nat, idx_nat, hgi, hp]
              simp only [Option.bind_some]
              rw [iadd_i64 (a := p.1) (by omega) (by omega), iadd_i64 (by omega) (by omega)]
              by_cases h4 : r.1 < p.1 + p.2 + 1
              · rw [decide_eq_true h4, if_pos (show r.1 < p.1 + p.2 - 1 + 2 by omega), if_pos (by decide)]
                rfl
              · rw [decide_eq_false h4, if_neg (show ¬ r.1 < p.1 + p.2 - 1 + 2 by omega)]
                exact hlast
          · exact hbad _ (by simp; omega) (fun h => h3 h.2.2)
        · rw [decide_eq_false h2, if_pos (by simp)]
          exact hbad _ rfl (fun h => h2 h.2.1)
      · rw [decide_eq_false h1, if_pos (by simp)]
        exact hbad _ rfl (fun h => h1 h.1)
    · rw [if_neg (by simp; omega), List.drop_eq_nil_of_le (by omega), sk, if_neg (by simp)]
      obtain rfl : i = R.length := by omega
      rw [List.take_length]
theorem rmerge_eq {F : Nat} (hF : 2000000 ≤ F) {R : List (Int × Int)} {rest : List Int} : M_R_RunsMerge F R rest = some (rm R rest) := by
  unfold M_R_RunsMerge
  by_cases h : 300 < R.length
  · have e : skc R = 2 := by unfold skc; rw [if_pos h]
    rw [if_pos (by simp; omega), rm_1 (by rw [e]; decide), e]
  · have e : skc R = sk (-2) R := by unfold skc; rw [if_neg h]
    have hc := rm_out (F := F) (R := R) (rest := rest) (by omega) (by omega) F 0 (-2) (by omega) (by omega) (by simp) (.inl ⟨rfl, rfl⟩)
    rw [List.drop_zero] at hc
    rw [if_neg (by simp; omega)]
    refine hc.trans ?_
    rw [← e]
    by_cases h2 : skc R = 0
    · rw [if_neg (by simp [h2])]
      unfold M_R_RunsMerge_j35
      rw [rising_eq (by omega)]
      simp only [Option.bind_some]
      by_cases h3 : gkc rest = 0
      · obtain ⟨k1, k2, k3⟩ := skc_ok.1 h2
        have k4 := gkc_ris.1 h3
        have k5 := flat_size k2
        rw [if_neg (by simp [h3]), rm_3 h2 h3]
        have := rmerge_l (F := F) (sep_pw k3) (ris_pw k4.2).1 (by omega) F 0 0 [] (by omega) (by omega) (by omega) (by simp; omega)
        rw [List.drop_zero, List.drop_zero, mrgO_nil] at this
        exact this
      · rw [if_pos (by simpa using h3), rm_2 h2 h3]
    · rw [if_pos h2, rm_1 h2]
theorem rm_merged {R : List (Int × Int)} {rest w : List Int} (h1 : skc R = 0) (h2 : gkc rest = 0) (h3 : cmn (flat R) rest = false) (h4 : (flat R ++ rest).Perm w) (h5 : w.Pairwise (· ≤ ·)) (h6 : w.length ≤ 300) : rm R rest = (w, 0) := by
  have hl := h4.length_eq
  rw [List.length_append] at hl
  rw [rm_3 h1 h2]
  unfold mrg
  rw [h3, if_neg (by simp), if_neg (by omega), srt_eq h4 h5]
theorem begun_runs' {F : Nat} (hF : 2000000 ≤ F) : M_L_runsBegun F = some true := by
  have s1 : spl [1, 3, 4, 5, 8, 9] 3 = ([(3, 3)], [1, 8, 9], 0) := by decide
  have s2 : rm [(3, 3)] [1, 8, 9] = ([1, 3, 4, 5, 8, 9], 0) := rm_merged (by decide) (by decide) (by decide) (by decide) (by decide) (by decide)
  have s3 : rm [(3, 3)] [] = ([3, 4, 5], 0) := rm_merged (by decide) (by decide) (by decide) (by decide) (by decide) (by decide)
  have s4 : rm [(3, 2), (5, 1)] [] = ([], 4) := rm_1 (by decide)
  have s5 : rm [(3, 3)] [4] = ([], 6) := by
    rw [rm_3 (by decide) (by decide)]
    unfold mrg
    rw [if_pos (by decide)]
  unfold M_L_runsBegun
  rw [split_eq hF, s1]
  simp only [Option.bind_some]
  rw [merge_eq (by omega), s2, count_eq (by omega), s3, merge_eq (by omega), s4, merge_eq (by omega), s5]
  simp only [Option.bind_some]
  rw [same_runs (by simp; omega) (by simp)]
  simp only [Option.bind_some, if_true]
  rw [same_intsR (by simp; omega) (by simp)]
  simp only [Option.bind_some]
  unfold M_L_runsBegun_j1
  rw [if_pos (by simp), same_intsR (by simp; omega) (by simp)]
  rfl
theorem mrg_len {l r : List Int} : (mrg l r).1.length ≤ 300 := by
  unfold mrg
  split
  · simp
  · split
    · simp
    · simp; omega
theorem rm_len {R : List (Int × Int)} {rest : List Int} : (rm R rest).1.length ≤ 300 := by
  unfold rm
  split
  · simp
  · split
    · simp
    · exact mrg_len
theorem filter_len {R : List (Int × Int)} (p : Int × Int → Bool) : (R.filter p).length ≤ R.length := List.length_filter_le _ _
theorem perm_flat {A B : List (Int × Int)} (h : A.Perm B) : (flat A).Perm (flat B) := h.flatMap_right _
theorem parts_perm (least : Int) : ∀ (R : List (Int × Int)), (spO least R ++ spS least R).Perm R
  | [] => List.Perm.refl _
  | r :: R => by
    by_cases h : least ≤ r.2
    · rw [spO_y h, spS_n h]; exact (parts_perm least R).cons r
    · rw [spO_n h, spS_y h]; exact List.perm_middle.trans ((parts_perm least R).cons r)
theorem spl_perm (least : Int) (l : List Int) : (flat (spO least (rs l)) ++ flat (spS least (rs l))).Perm l := by
  rw [← flat_app]
  have := perm_flat (parts_perm least (rs l))
  rwa [rs_flat] at this
theorem spl_len {q : Int} {least : Int} {l : List Int} (hl : l.length ≤ 300) (h : Ris q l) : (spO least (rs l)).length ≤ 300 ∧ (flat (spS least (rs l))).length ≤ 300 := by
  have h1 := flat_long (rs_sep (ris_pw h).1 (ris_pw h).2)
  rw [rs_flat] at h1
  have h2 := (spl_perm least l).length_eq
  rw [List.length_append] at h2
  have h3 : (spO least (rs l)).length ≤ (rs l).length := filter_len _
  omega
theorem spl_short {l : List Int} {least : Int} : (spl l least).1.length ≤ 300 ∧ (spl l least).2.1.length ≤ 300 := by
  by_cases h : spE l least = 0
  · rw [spl_ok h]
    exact spl_len (spE_ok.1 h).1.1 (spE_ok.1 h).1.2
  · rw [spl_bad h]; simp
theorem law_runsTell {F : Nat} (h0 : 2000000 ≤ F) {l : List Int} {least : Int} {R : List (Int × Int)} {rest : List Int} : M_L_RunsTell F l least R rest = some true := by
  unfold M_L_RunsTell
  rw [split_eq h0, merge_eq (by omega), count_eq (by omega), rising_eq (by omega)]
  simp only [Option.bind_some]
  have hj3 : ∀ (o : List (Int × Int)) (w : List Int) (e : Int), spl l least = (o, w, e) → M_L_RunsTell_j3 F R rest (spl l least) (rm R rest) (((rm R []).1.length : Int), (rm R []).2) e o w = some true := by
    intro o w e h
    have hs := spl_short (l := l) (least := least)
    have hm := rm_len (R := R) (rest := rest)
    rw [h] at hs ⊢
    simp only at hs
    unfold M_L_RunsTell_j3
    rw [rmerge_eq h0, rmerge_eq h0, begun_runs' h0]
    simp only [Option.bind_some, if_true]
    rw [same_runs (by omega) (by omega)]
    simp only [Option.bind_some, M_L_RunsTell_j4, if_true]
    rw [same_intsR (by omega) (by omega)]
    simp only [Option.bind_some, M_L_RunsTell_j5, beq_self_eq_true, Bool.and_self, if_true]
    rw [same_intsR (by omega) (by omega)]
    simp [M_L_RunsTell_j6]
  have hj2 : M_L_RunsTell_j2 F l least R rest (spl l least) (rm R rest) (((rm R []).1.length : Int), (rm R []).2) (spE l least) = some true := by
    unfold M_L_RunsTell_j2
    by_cases h : spE l least = 0
    · have hk := spE_ok.1 h
      rw [if_pos (by simpa using h), rsplit_eq h0 hk.1.1 hk.1.2]
      exact hj3 _ _ _ (by rw [spl_ok h, h])
    · rw [if_neg (by simpa using h)]
      exact hj3 _ _ _ (spl_bad h)
  unfold M_L_RunsTell_j7
  by_cases h : gkc l = 0
  · rw [if_pos (by simpa using h)]
    by_cases h2 : least < 2 ∨ 300 < least
    · have e : spE l least = 3 := by unfold spE; rw [if_neg (by simp [h]), if_pos h2]
      rw [e] at hj2
      rw [if_pos (by simpa using h2)]
      exact hj2
    · have e : spE l least = 0 := by unfold spE; rw [if_neg (by simp [h]), if_neg h2]
      rw [e] at hj2
      rw [if_neg (by simp; omega), h]
      exact hj2
  · have e : spE l least = gkc l := by unfold spE; rw [if_pos h]
    rw [e] at hj2
    rw [if_neg (by simpa using h), if_neg (by simp)]
    exact hj2
theorem rs_ok {l : List Int} (hl : l.length ≤ 300) (h : Ris (-1) l) : Sep (-1) (rs l) ∧ ∀ r ∈ rs l, RunOk r := by
  have hs := rs_sep (ris_pw h).1 (ris_pw h).2
  refine ⟨hs, fun r hr => ?_⟩
  have hm := sep_mx hs r hr
  have h2 := flat_part hr
  rw [rs_flat] at hm h2
  have h1 := hm.1
  have a1 := ris_nd h _ (hm.2.2.2 r.1 (by omega) (by omega))
  have a2 := ris_nd h _ (hm.2.2.2 (r.1 + r.2 - 1) (by omega) (by omega))
  unfold Nd at a1 a2
  exact ⟨by omega, by omega, by omega⟩
theorem sub_skc {l : List Int} (hl : l.length ≤ 300) (h : Ris (-1) l) (p : Int × Int → Bool) : skc ((rs l).filter p) = 0 := by
  obtain ⟨h1, h2⟩ := rs_ok hl h
  have h3 := flat_long h1
  rw [rs_flat] at h3
  exact skc_ok.2 ⟨Nat.le_trans (filter_len p) (by omega), fun r hr => h2 r (List.mem_filter.1 hr).1, sep_filter p h1⟩
theorem flat_sub {R : List (Int × Int)} (p : Int × Int → Bool) : ∀ z ∈ flat (R.filter p), z ∈ flat R := by
  intro z hz
  obtain ⟨r, h1, h2⟩ := flat_mem.1 hz
  exact flat_mem.2 ⟨r, (List.mem_filter.1 h1).1, h2⟩
theorem sub_ris {l : List Int} (h : Ris (-1) l) (p : Int × Int → Bool) : Ris (-1) (flat ((rs l).filter p)) := by
  have hs := rs_sep (ris_pw h).1 (ris_pw h).2
  have hsub : ∀ z ∈ flat ((rs l).filter p), z ∈ l := fun z hz => by have := flat_sub p z hz; rwa [rs_flat] at this
  exact pw_ris (sep_pw (sep_filter p hs)) (fun z hz => (ris_pw h).2 z (hsub z hz)) (fun z hz => ris_nd h z (hsub z hz))
theorem spl_cmn {l : List Int} (least : Int) (h : Ris (-1) l) : cmn (flat (spO least (rs l))) (flat (spS least (rs l))) = false := by
  have hn : (flat (spO least (rs l)) ++ flat (spS least (rs l))).Nodup := (spl_perm least l).nodup_iff.2 (pw_nodup (ris_pw h).1)
  exact cmn_not.2 fun x h1 h2 => (List.nodup_append.1 hn).2.2 x h1 x h2 rfl
theorem spl_merge {l : List Int} {least : Int} (hl : l.length ≤ 300) (h : Ris (-1) l) : rm (spO least (rs l)) (flat (spS least (rs l))) = (l, 0) :=
  rm_merged (sub_skc hl h _) (gkc_ris.2 ⟨(spl_len hl h).2, sub_ris h _⟩) (spl_cmn least h) (spl_perm least l) (pw_le (ris_pw h).1) hl
theorem spS_again {least : Int} (R : List (Int × Int)) : spO least (spS least R) = [] ∧ spS least (spS least R) = spS least R := by
  unfold spO spS
  constructor
  · rw [List.filter_filter, List.filter_eq_nil_iff]
    intro r _
    simp
  · rw [List.filter_filter]
    congr 1
    funext r
    simp
theorem runsBack_l {F : Nat} {least : Int} {x5 : List (Int × Int) × List Int × Int} (hx : ∀ r ∈ x5.1, least ≤ r.2) (hm : x5.1.length ≤ 1000) : ∀ (k i : Nat), x5.1.length < k + i → i ≤ x5.1.length → M_L_RunsBack_l6 F least x5 k (i : Int) = M_L_RunsBack_j4 F least x5
  | 0, _, _, _ => by omega
  | k + 1, i, h, hi => by
    show M_L_RunsBack_b6 F least x5 (M_L_RunsBack_l6 F least x5 k) (i : Int) = _
    unfold M_L_RunsBack_b6
    by_cases hlt : i < x5.1.length
    · have := hx _ (List.getElem_mem hlt)
      rw [if_pos (by simp; omega), idx_nat, List.getElem?_eq_getElem hlt]
      simp only [Option.bind_some]
      rw [if_neg (by simp; omega), iadd1_n (by omega)]
      exact runsBack_l hx hm k (i + 1) (by omega) (by omega)
    · rw [if_neg (by simp; omega)]
theorem law_runsBack {F : Nat} (h0 : 2000000 ≤ F) {l : List Int} {least : Int} : M_L_RunsBack F l least = some true := by
  unfold M_L_RunsBack
  rw [split_eq h0, begun_runs' h0]
  simp only [Option.bind_some, Bool.not_true, Bool.false_eq_true, if_false]
  by_cases h : spE l least = 0
  · obtain ⟨⟨h1, h2⟩, h3, h4⟩ := spE_ok.1 h
    rw [spl_ok h, if_neg (by simp), merge_eq (by omega)]
    simp only [Option.bind_some]
    rw [spl_merge h1 h2, if_neg (by simp), same_intsR (by simp only; omega) (by simp only; omega)]
    simp only [Option.bind_some, Bool.not_true]
    have hlen := spl_len (least := least) h1 h2
    unfold M_L_RunsBack_j2
    rw [if_neg (by simp)]
    have hb := runsBack_l (F := F) (least := least) (x5 := (spO least (rs l), flat (spS least (rs l)), 0)) (fun r hr => by have := (List.mem_filter.1 hr).2; simpa using this) (by simp only; omega) F 0 (by simp only; omega) (by omega)
    rw [show ((0 : Nat) : Int) = 0 from rfl] at hb
    rw [hb]
    unfold M_L_RunsBack_j4
    simp only
    have hE : spE (flat (spS least (rs l))) least = 0 := spE_ok.2 ⟨⟨hlen.2, sub_ris h2 _⟩, h3, h4⟩
    have hR : rs (flat (spS least (rs l))) = spS least (rs l) := rs_of_sep (sep_filter _ (rs_ok h1 h2).1)
    rw [split_eq h0, spl_ok hE, hR, (spS_again (rs l)).1, (spS_again (rs l)).2]
    simp only [Option.bind_some]
    rw [if_pos (by simp), same_intsR (by omega) (by omega)]
    rfl
  · rw [spl_bad h, if_pos (by simpa using h)]
    rfl
theorem whole_l {F : Nat} {a n least : Int} (ha : 0 ≤ a ∧ a ≤ 1048576) (hn : 1 ≤ n ∧ n ≤ 300) : ∀ (k j : Nat), n.toNat < k + j → j ≤ n.toNat → M_L_RunsWhole_l7 F a n least k (rng a j, (j : Int)) = M_L_RunsWhole_j2 F a n least (rng a n.toNat)
  | 0, _, _, _ => by omega
  | k + 1, j, h, hj => by
    show M_L_RunsWhole_b7 F a n least (M_L_RunsWhole_l7 F a n least k) (rng a j) (j : Int) = _
    unfold M_L_RunsWhole_b7
    by_cases hlt : j < n.toNat
    · rw [if_pos (by simp; omega), iadd_i64 (by omega) (by omega), app_eq (by simp [rng_len]; omega), iadd1_n (by omega)]
      simp only [Option.bind_some]
      rw [← rng_snoc]
      exact whole_l ha hn k (j + 1) (by omega) (by omega)
    · rw [if_neg (by simp; omega)]
      obtain rfl : j = n.toNat := by omega
      rfl
theorem flat_one {r : Int × Int} : flat [r] = rng r.1 r.2.toNat := by simp [flat]
theorem law_rwhole {F : Nat} (h0 : 2000000 ≤ F) {a n least : Int} (hn1 : I64 n) : M_L_RunsWhole F a n least = some true := by
  unfold M_L_RunsWhole
  rw [begun_runs' h0]
  simp only [Option.bind_some, Bool.not_true, Bool.false_eq_true, if_false]
  by_cases hb : a < 0 ∨ n < 1 ∨ 300 < n ∨ 1048576 - n + 1 < a ∨ least < 2 ∨ 300 < least
  · rw [if_pos]
    simp only [Bool.or_eq_true, decide_eq_true_eq]
    unfold I64 at hn1
    by_cases hq : n < 1 ∨ 300 < n
    · omega
    · rw [isub_i64 (by omega) (by omega), iadd_i64 (by omega) (by omega)]; omega
  · rw [if_neg (by simp only [Bool.or_eq_true, decide_eq_true_eq]; rw [isub_i64 (by omega) (by omega), iadd_i64 (by omega) (by omega)]; omega)]
    have hw := whole_l (F := F) (a := a) (n := n) (least := least) (by omega) (by omega) F 0 (by omega) (by omega)
    rw [rng, show ((0 : Nat) : Int) = 0 from rfl] at hw
    rw [hw]
    have hok : RunOk (a, n) := ⟨by simp only; omega, by simp only; omega, by simp only; omega⟩
    have hsep : Sep (-1) [(a, n)] := ⟨by simp only; omega, by simp only; omega, trivial⟩
    have hris : Ris (-1) (rng a n.toNat) := pw_ris (rng_pw _ _) (fun z hz => by have := rng_mem.1 hz; omega) (fun z hz => by have := rng_mem.1 hz; unfold Nd; omega)
    have hrs : rs (rng a n.toNat) = [(a, n)] := by have := rs_of_sep hsep; rwa [flat_one] at this
    have hlen := rng_len a n.toNat
    have hE : spE (rng a n.toNat) least = 0 := spE_ok.2 ⟨⟨by omega, hris⟩, by omega, by omega⟩
    have hsk : skc [(a, n)] = 0 := skc_ok.2 ⟨by simp, by simpa using hok, hsep⟩
    have hm : rm [(a, n)] [] = (rng a n.toNat, 0) := rm_merged hsk (by decide) (by simp [cmn]) (by rw [List.append_nil, flat_one]) (pw_le (rng_pw _ _)) (by omega)
    unfold M_L_RunsWhole_j2
    rw [split_eq h0, spl_ok hE, hrs, merge_eq (by omega), hm]
    simp only [Option.bind_some]
    rw [if_neg (by simp), same_intsR (by omega) (by omega)]
    simp only [Option.bind_some, Bool.not_true]
    unfold M_L_RunsWhole_j4
    rw [if_neg (by simp)]
    simp only
    by_cases hc : least ≤ n
    · rw [if_neg (by simp; omega), spO_y (by exact hc), spS_n (by exact hc)]
      have e1 : spO least [] = [] := rfl
      have e2 : spS least [] = [] := rfl
      rw [e1, e2, same_runs (by simp; omega) (by simp)]
      rfl
    · rw [if_pos (by simp; omega), spO_n (by exact hc), spS_y (by exact hc)]
      have e1 : spO least [] = [] := rfl
      have e2 : spS least [] = [] := rfl
      rw [e1, e2, flat_one, if_pos (by simp), same_intsR (by simp only; omega) (by simp only; omega)]
      rfl
theorem more_at {F : Nat} {rec158 : (Int × Int) → Option Bool} {x5 x10 : List (Int × Int) × List Int × Int} {i : Nat} {r : Int × Int} {S : List (Int × Int)} (hi : x10.1[i]? = some r) (hm : x5.1.length ≤ 1000) (hmi : i ≤ 1000) : ∀ (k j : Nat), x5.1.length < k + j → (r :: S).Sublist (x5.1.drop j) →
    ∃ j' : Nat, S.Sublist (x5.1.drop j') ∧ M_L_RunsMore_l187 F rec158 x5 x10 (i : Int) k (j : Int) = rec158 ((j' : Int), ((i + 1 : Nat) : Int))
  | 0, j, h, hs => by
    have := hs.length_le
    rw [List.length_drop] at this
    simp at this
    omega
  | k + 1, j, h, hs => by
    have hlt : j < x5.1.length := by
      have := hs.length_le
      rw [List.length_drop] at this
      simp at this
      omega
    show ∃ j' : Nat, _ ∧ M_L_RunsMore_b187 F rec158 x5 x10 (i : Int) (M_L_RunsMore_l187 F rec158 x5 x10 (i : Int) k) (j : Int) = _
    unfold M_L_RunsMore_b187
    rw [if_pos (by simp; omega), idx_nat, idx_nat, hi, List.getElem?_eq_getElem hlt]
    simp only [Option.bind_some]
    unfold M_L_RunsMore_j189
    rw [List.drop_eq_getElem_cons hlt] at hs
    by_cases he : x5.1[j] = r
    · rw [if_neg (by simp [he])]
      refine ⟨j, ?_, ?_⟩
      · rw [List.drop_eq_getElem_cons hlt]
        cases hs with
        | cons _ h => exact ((List.sublist_cons_self _ _).trans h).trans (List.sublist_cons_self _ _)
        | cons_cons _ h => exact h.trans (List.sublist_cons_self _ _)
      · unfold M_L_RunsMore_j182
        rw [if_neg (by simp; omega)]
        unfold M_L_RunsMore_j174
        rw [iadd1_n (by omega)]
    · rw [if_pos, iadd1_n (by omega)]
      · refine more_at hi hm hmi k (j + 1) (by omega) ?_
        cases hs with
        | cons _ h => exact h
        | cons_cons _ h => exact absurd rfl he
      · rw [Bool.not_eq_true', Bool.and_eq_false_iff]
        by_cases e1 : x5.1[j].1 = r.1
        · right
          have : x5.1[j].2 ≠ r.2 := fun e2 => he (Prod.ext e1 e2)
          simpa using this
        · left; simpa using e1
theorem more_l {F : Nat} {x5 x10 : List (Int × Int) × List Int × Int} (hF : 1000 < F) (hm : x5.1.length ≤ 1000) (hm2 : x10.1.length ≤ 1000) (hall : x10.1.length ≤ x5.1.length) : ∀ (k i j : Nat), x10.1.length < k + i → i ≤ x10.1.length → (x10.1.drop i).Sublist (x5.1.drop j) →
    M_L_RunsMore_l158 F x5 x10 k ((j : Int), (i : Int)) = some true
  | 0, _, _, _, _, _ => by omega
  | k + 1, i, j, h, hi, hs => by
    show M_L_RunsMore_b158 F x5 x10 (M_L_RunsMore_l158 F x5 x10 k) (j : Int) (i : Int) = _
    unfold M_L_RunsMore_b158
    by_cases hlt : i < x10.1.length
    · rw [List.drop_eq_getElem_cons hlt] at hs
      obtain ⟨j', h1, h2⟩ := more_at (F := F) (rec158 := M_L_RunsMore_l158 F x5 x10 k) (List.getElem?_eq_getElem hlt) hm (by omega) F j (by omega) hs
      rw [if_pos (by simp; omega), h2]
      exact more_l hF hm hm2 hall k (i + 1) j' (by omega) (by omega) h1
    · rw [if_neg (by simp; omega)]
      unfold M_L_RunsMore_j95
      simp; omega
theorem spO_sub (least : Int) : ∀ (R : List (Int × Int)), (spO (least + 1) R).Sublist (spO least R)
  | [] => List.Sublist.refl _
  | r :: R => by
    by_cases h : least + 1 ≤ r.2
    · rw [spO_y h, spO_y (show least ≤ r.2 by omega)]; exact (spO_sub least R).cons_cons r
    · rw [spO_n h]
      by_cases h2 : least ≤ r.2
      · rw [spO_y h2]; exact (spO_sub least R).cons r
      · rw [spO_n h2]; exact spO_sub least R
theorem law_rmore {F : Nat} (h0 : 2000000 ≤ F) {l : List Int} {least : Int} : M_L_RunsMore F l least = some true := by
  unfold M_L_RunsMore
  rw [split_eq h0, begun_runs' h0, split_eq h0]
  simp only [Option.bind_some, Bool.not_true, Bool.false_eq_true, if_false]
  by_cases h : spE l least = 0
  · obtain ⟨⟨h1, h2⟩, h3, h4⟩ := spE_ok.1 h
    have hlen := spl_len (least := least) h1 h2
    have hp := (spl_perm least l).length_eq
    rw [List.length_append] at hp
    have hm : rm (spO least (rs l)) [] = (flat (spO least (rs l)), 0) := rm_merged (sub_skc h1 h2 _) (by decide) (by rw [cmn_swap]; rfl) (by rw [List.append_nil]) (pw_le (sep_pw (sep_filter _ (rs_ok h1 h2).1))) (by omega)
    rw [spl_ok h, if_neg (by simp), count_eq (by omega), hm]
    simp only [Option.bind_some]
    rw [iadd_n (by omega), hp, if_neg (by simp), iadd_i64 (by omega) (by omega)]
    by_cases hf : spE l (least + 1) = 0
    · have hlen2 := spl_len (least := least + 1) h1 h2
      have hsub := spO_sub least (rs l)
      rw [spl_ok hf, if_neg (by simp)]
      exact more_l (by omega) (by simp only; omega) (by simp only; omega) hsub.length_le F 0 0 (by simp only; omega) (by omega) hsub
    · have h3' : spE l (least + 1) = 3 := by
        unfold spE at hf ⊢
        rw [gkc_ris.2 ⟨h1, h2⟩] at hf ⊢
        rw [if_neg (by simp)] at hf ⊢
        split at hf
        · rename_i hh; rw [if_pos hh]
        · exact absurd rfl hf
      rw [spl_bad hf, if_pos (by simpa using hf), h3']
      rfl
  · rw [spl_bad h, if_pos (by simpa using h)]
theorem mx_eq {l : List Int} {r s : Int × Int} {z : Int} (hr : Mx l r) (hs : Mx l s) (h1 : r.1 ≤ z) (h2 : z < r.1 + r.2) (h3 : s.1 ≤ z) (h4 : z < s.1 + s.2) : r = s := by
  obtain ⟨_, r2, r3, r4⟩ := hr
  obtain ⟨_, s2, s3, s4⟩ := hs
  have e1 : r.1 = s.1 := by
    rcases Int.lt_trichotomy r.1 s.1 with h | h | h
    · exact absurd (r4 (s.1 - 1) (by omega) (by omega)) s2
    · exact h
    · exact absurd (s4 (r.1 - 1) (by omega) (by omega)) r2
  have e2 : r.1 + r.2 = s.1 + s.2 := by
    rcases Int.lt_trichotomy (r.1 + r.2) (s.1 + s.2) with h | h | h
    · exact absurd (s4 (r.1 + r.2) (by omega) (by omega)) r3
    · exact h
    · exact absurd (r4 (s.1 + s.2) (by omega) (by omega)) s3
  exact Prod.ext e1 (by omega)
theorem mx_in {l : List Int} (hl : l.Pairwise (· < ·)) {q : Int} (hq : ∀ z ∈ l, q < z) {r : Int × Int} (hr : Mx l r) : r ∈ rs l := by
  have hs := rs_sep hl hq
  have ha : r.1 ∈ l := hr.2.2.2 r.1 (by omega) (by have := hr.1; omega)
  rw [← rs_flat l] at ha
  obtain ⟨s, s1, s2, s3⟩ := flat_mem.1 ha
  have hm := sep_mx hs s s1
  rw [rs_flat] at hm
  have h1 := hm.1
  have : r = s := mx_eq hr hm (by omega : r.1 ≤ r.1) (by have := hr.1; omega) s2 (by omega)
  rw [this]; exact s1
theorem rs_mx {l : List Int} (hl : l.Pairwise (· < ·)) {q : Int} (hq : ∀ z ∈ l, q < z) {r : Int × Int} (hr : r ∈ rs l) : Mx l r := by
  have hm := sep_mx (rs_sep hl hq) r hr
  rwa [rs_flat] at hm
theorem sep_ext : ∀ {A B : List (Int × Int)} {e e' : Int}, Sep e A → Sep e' B → (∀ r, r ∈ A ↔ r ∈ B) → A = B
  | [], [], _, _, _, _, _ => rfl
  | [], s :: B, _, _, _, _, h => by have := (h s).2 (by simp); simp at this
  | r :: A, [], _, _, _, _, h => by have := (h r).1 (by simp); simp at this
  | r :: A, s :: B, e, e', hA, hB, h => by
    have fA := sep_fst hA.2.2
    have fB := sep_fst hB.2.2
    have pA := hA.2.1
    have pB := hB.2.1
    have hrs : r = s := by
      rcases List.mem_cons.1 ((h r).1 (by simp)) with h1 | h1
      · exact h1
      · rcases List.mem_cons.1 ((h s).2 (by simp)) with h2 | h2
        · exact h2.symm
        · have := fA s h2; have := fB r h1; omega
    subst hrs
    congr 1
    refine sep_ext hA.2.2 hB.2.2 fun x => ⟨fun hx => ?_, fun hx => ?_⟩
    · rcases List.mem_cons.1 ((h x).1 (by simp [hx])) with h1 | h1
      · subst h1; have := fA x hx; omega
      · exact h1
    · rcases List.mem_cons.1 ((h x).2 (by simp [hx])) with h1 | h1
      · subst h1; have := fB x hx; omega
      · exact h1
theorem rm_zero {R : List (Int × Int)} {rest : List Int} (h : (rm R rest).2 = 0) : skc R = 0 ∧ gkc rest = 0 ∧ cmn (flat R) rest = false ∧ (flat R).length + rest.length ≤ 300 ∧ rm R rest = (srt (flat R ++ rest), 0) := by
  by_cases h1 : skc R = 0
  · by_cases h2 : gkc rest = 0
    · rw [rm_3 h1 h2] at h ⊢
      unfold mrg at h ⊢
      cases h3 : cmn (flat R) rest
      · rw [h3, if_neg (by simp)] at h
        rw [if_neg (by simp)]
        split at h
        · simp at h
        · rename_i h4
          rw [if_neg h4]
          exact ⟨h1, h2, rfl, by omega, rfl⟩
      · rw [h3, if_pos rfl] at h
        simp at h
    · rw [rm_2 h1 h2] at h
      exact absurd h h2
  · rw [rm_1 h1] at h
    exact absurd h h1
def Gd (least : Int) (rest : List Int) (r : Int × Int) : Prop := least ≤ r.2 ∧ r.1 - 1 ∉ rest ∧ r.1 + r.2 ∉ rest
theorem only_l {F : Nat} (hF : 1000 < F) {R : List (Int × Int)} {rest : List Int} {least : Int} {x8 : List Int × Int} (hl : R.length ≤ 300) (hr : rest.length ≤ 300) (hR : ∀ r ∈ R, RunOk r) : ∀ (k i : Nat), R.length < k + i → i ≤ R.length → (∀ r ∈ R.take i, Gd least rest r) →
    M_L_RunsOnly_l15 F R rest least x8 k (i : Int) = some true ∨ (∀ r ∈ R, Gd least rest r) ∧ M_L_RunsOnly_l15 F R rest least x8 k (i : Int) = M_L_RunsOnly_j8 F R rest least x8
  | 0, _, _, _, _ => by omega
  | k + 1, i, h, hi, hg => by
    have hstep : M_L_RunsOnly_l15 F R rest least x8 (k + 1) (i : Int) = M_L_RunsOnly_b15 F R rest least x8 (M_L_RunsOnly_l15 F R rest least x8 k) (i : Int) := rfl
    rw [hstep]
    unfold M_L_RunsOnly_b15
    by_cases hlt : i < R.length
    · have hok := hR _ (List.getElem_mem hlt)
      have hgi : R[i]? = some R[i] := List.getElem?_eq_getElem hlt
      have hrec := only_l hF (least := least) (x8 := x8) hl hr hR k (i + 1) (by omega) (by omega)
      rw [List.take_add_one, hgi] at hrec
      unfold RunOk at hok
      rw [if_pos (by simp; omega), idx_nat, hgi]
      generalize R[i] = r at hok hrec
      simp only [Option.bind_some]
      by_cases h1 : r.2 < least
      · left
        rw [if_pos (by simpa using h1)]
        rfl
      · rw [if_neg (by simpa using h1), isub_i64 (by omega) (by omega), hasInt_eq (by omega) (by omega)]
        simp only [Option.bind_some]
        by_cases h2 : r.1 - 1 ∈ rest
        · left; rw [decide_eq_true h2]; rfl
        · rw [decide_eq_false h2, if_neg (by simp), iadd_i64 (by omega) (by omega), hasInt_eq (by omega) (by omega)]
          simp only [Option.bind_some]
          by_cases h3 : r.1 + r.2 ∈ rest
          · left; rw [decide_eq_true h3]; rfl
          · rw [decide_eq_false h3]
            unfold M_L_RunsOnly_j17
            rw [if_neg (by simp), iadd1_n (by omega)]
            exact hrec fun r' hr' => by
              rcases List.mem_append.1 hr' with hr' | hr'
              · exact hg r' hr'
              · simp at hr'; subst hr'; exact ⟨by omega, h2, h3⟩
    · rw [if_neg (by simp; omega)]
      right
      rw [List.take_of_length_le (by omega)] at hg
      exact ⟨hg, rfl⟩
theorem only_split {R : List (Int × Int)} {rest : List Int} {least : Int} (h1 : skc R = 0) (h2 : gkc rest = 0) (h3 : cmn (flat R) rest = false) (hg : ∀ r ∈ R, Gd least rest r) (hn : spO least (rs rest) = []) :
    (srt (flat R ++ rest)).Pairwise (· < ·) ∧ spO least (rs (srt (flat R ++ rest))) = R ∧ flat (spS least (rs (srt (flat R ++ rest)))) = rest := by
  obtain ⟨k1, k2, k3⟩ := skc_ok.1 h1
  obtain ⟨k4, k5⟩ := gkc_ris.1 h2
  have hrp := ris_pw k5
  have hp := (srt_cmn (sep_pw k3) hrp.1).2 h3
  have hmem : ∀ z, z ∈ srt (flat R ++ rest) ↔ z ∈ flat R ∨ z ∈ rest := fun z => by rw [(srt_perm _).mem_iff, List.mem_append]
  have hq : ∀ z ∈ srt (flat R ++ rest), -1 < z := fun z hz => by
    rcases (hmem z).1 hz with hz | hz
    · exact sep_lt k3 z hz
    · exact hrp.2 z hz
  have hcm := cmn_not.1 h3
  have hRl : ∀ r ∈ R, Mx (srt (flat R ++ rest)) r := by
    intro r hr
    obtain ⟨m1, m2, m3, m4⟩ := sep_mx k3 r hr
    obtain ⟨g1, g2, g3⟩ := hg r hr
    exact ⟨m1, fun hm => ((hmem _).1 hm).elim m2 g2, fun hm => ((hmem _).1 hm).elim m3 g3, fun z z1 z2 => (hmem z).2 (.inl (m4 z z1 z2))⟩
  have hSl : ∀ r ∈ rs rest, Mx (srt (flat R ++ rest)) r := by
    intro r hr
    obtain ⟨m1, m2, m3, m4⟩ := rs_mx hrp.1 hrp.2 hr
    refine ⟨m1, fun hm => ((hmem _).1 hm).elim (fun hf => ?_) m2, fun hm => ((hmem _).1 hm).elim (fun hf => ?_) m3, fun z z1 z2 => (hmem z).2 (.inr (m4 z z1 z2))⟩
    · obtain ⟨s, s1, s2, s3⟩ := flat_mem.1 hf
      have hp1 := rs_pos k3 s s1
      have ha : r.1 ∈ rest := m4 r.1 (by omega) (by omega)
      have hb : ¬ r.1 < s.1 + s.2 := fun hb => hcm r.1 (flat_mem.2 ⟨s, s1, by omega, by omega⟩) ha
      exact (hg s s1).2.2 (by rw [show s.1 + s.2 = r.1 from by omega]; exact ha)
    · obtain ⟨s, s1, s2, s3⟩ := flat_mem.1 hf
      have hp1 := rs_pos k3 s s1
      have ha : r.1 + r.2 - 1 ∈ rest := m4 (r.1 + r.2 - 1) (by omega) (by omega)
      have hb : ¬ s.1 ≤ r.1 + r.2 - 1 := fun hb => hcm _ (flat_mem.2 ⟨s, s1, hb, by omega⟩) ha
      exact (hg s s1).2.1 (by rw [show s.1 - 1 = r.1 + r.2 - 1 from by omega]; exact ha)
  have hno : ∀ r ∈ rs rest, ¬ least ≤ r.2 := by
    intro r hr hc
    have : r ∈ spO least (rs rest) := List.mem_filter.2 ⟨hr, by simpa using hc⟩
    rw [hn] at this
    simp at this
  have hall : ∀ r, r ∈ rs (srt (flat R ++ rest)) ↔ r ∈ R ∨ r ∈ rs rest := by
    intro r
    constructor
    · intro hr
      have hm := rs_mx hp hq hr
      have hpos := hm.1
      rcases (hmem r.1).1 (hm.2.2.2 r.1 (by omega) (by omega)) with hf | hf
      · obtain ⟨s, s1, s2, s3⟩ := flat_mem.1 hf
        have hp1 := rs_pos k3 s s1
        left
        rw [mx_eq hm (hRl s s1) (by omega : r.1 ≤ r.1) (by omega) s2 (by omega)]
        exact s1
      · rw [← rs_flat rest] at hf
        obtain ⟨s, s1, s2, s3⟩ := flat_mem.1 hf
        have hp1 := (rs_mx hrp.1 hrp.2 s1).1
        right
        rw [mx_eq hm (hSl s s1) (by omega : r.1 ≤ r.1) (by omega) s2 (by omega)]
        exact s1
    · rintro (hr | hr)
      · exact mx_in hp hq (hRl r hr)
      · exact mx_in hp hq (hSl r hr)
  have hsl := rs_sep hp hq
  refine ⟨hp, sep_ext (sep_filter _ hsl) k3 fun r => ?_, ?_⟩
  · unfold spO
    rw [List.mem_filter, hall]
    constructor
    · rintro ⟨hr | hr, h⟩
      · exact hr
      · exact absurd (by simpa using h) (hno r hr)
    · intro hr
      exact ⟨.inl hr, by simpa using (hg r hr).1⟩
  · have e : spS least (rs (srt (flat R ++ rest))) = rs rest := by
      refine sep_ext (sep_filter _ hsl) (rs_sep hrp.1 hrp.2) fun r => ?_
      unfold spS
      rw [List.mem_filter, hall]
      constructor
      · rintro ⟨hr | hr, h⟩
        · have := (hg r hr).1
          simp at h
          omega
        · exact hr
      · intro hr
        have := hno r hr
        exact ⟨.inr hr, by simp; omega⟩
    rw [e, rs_flat]
theorem law_ronly {F : Nat} (h0 : 2000000 ≤ F) {R : List (Int × Int)} {rest : List Int} {least : Int} : M_L_RunsOnly F R rest least = some true := by
  unfold M_L_RunsOnly
  rw [merge_eq (by omega), begun_runs' h0]
  simp only [Option.bind_some, Bool.not_true, Bool.false_eq_true, if_false]
  by_cases h : (rm R rest).2 = 0 ∧ 2 ≤ least ∧ least ≤ 300
  · obtain ⟨h1, h2, h3⟩ := h
    rw [if_neg (by simp only [Bool.or_eq_true, decide_eq_true_eq, bne_iff_ne]; omega)]
    obtain ⟨z1, z2, z3, z4, z5⟩ := rm_zero h1
    obtain ⟨k1, k2, k3⟩ := skc_ok.1 z1
    obtain ⟨k4, k5⟩ := gkc_ris.1 z2
    rcases only_l (F := F) (least := least) (x8 := rm R rest) (by omega) k1 k4 k2 F 0 (by omega) (by omega) (by simp) with hA | ⟨hg, hA⟩
    · exact hA
    · refine hA.trans ?_
      unfold M_L_RunsOnly_j8
      rw [rsplit_eq h0 k4 k5, z5]
      simp only [Option.bind_some]
      by_cases hn : spO least (rs rest) = []
      · obtain ⟨o1, o2, o3⟩ := only_split z1 z2 z3 hg hn
        have hlen : (srt (flat R ++ rest)).length = (flat R).length + rest.length := by rw [srt_len, List.length_append]
        have hris : Ris (-1) (srt (flat R ++ rest)) := by
          refine pw_ris o1 (fun z hz => ?_) (fun z hz => ?_)
          · rw [(srt_perm _).mem_iff] at hz
            rcases List.mem_append.1 hz with hz | hz
            · exact sep_lt k3 z hz
            · exact (ris_pw k5).2 z hz
          · rw [(srt_perm _).mem_iff] at hz
            rcases List.mem_append.1 hz with hz | hz
            · obtain ⟨s, s1, s2, s3⟩ := flat_mem.1 hz
              have := k2 s s1
              unfold RunOk at this
              unfold Nd
              omega
            · exact ris_nd k5 z hz
        have hE : spE (srt (flat R ++ rest)) least = 0 := spE_ok.2 ⟨⟨by omega, hris⟩, h2, h3⟩
        rw [hn, if_neg (by simp), split_eq h0, spl_ok hE, o2, o3]
        simp only [Option.bind_some]
        rw [if_pos (by simp), same_runs (by omega) (by omega)]
        simp only [Option.bind_some]
        unfold M_L_RunsOnly_j9
        rw [if_pos rfl]
        simp only
        rw [same_intsR (by omega) (by omega)]
        rfl
      · rw [if_pos (by
          have : 0 < (spO least (rs rest)).length := List.length_pos_iff.2 hn
          simp only [decide_eq_true_eq]; omega)]
  · rw [if_pos (by simp only [Bool.or_eq_true, decide_eq_true_eq, bne_iff_ne]; omega)]
theorem rs_shift (b : Int) : ∀ (l : List Int), rs (l.map (· + b)) = (rs l).map fun r => (r.1 + b, r.2)
  | [] => rfl
  | x :: t => by
    rw [List.map_cons, rs_step, rs_step, rs_shift b t]
    cases rs t with
    | nil => rfl
    | cons p r =>
      obtain ⟨y, n⟩ := p
      simp only [List.map_cons]
      by_cases h : y = x + 1
      · rw [if_pos (by omega), if_pos h]; rfl
      · rw [if_neg (by omega), if_neg h]; rfl
theorem spO_shift (b least : Int) (R : List (Int × Int)) : spO least (R.map fun r => (r.1 + b, r.2)) = (spO least R).map fun r => (r.1 + b, r.2) := by
  unfold spO
  rw [List.filter_map]; rfl
theorem spS_shift (b least : Int) (R : List (Int × Int)) : spS least (R.map fun r => (r.1 + b, r.2)) = (spS least R).map fun r => (r.1 + b, r.2) := by
  unfold spS
  rw [List.filter_map]; rfl
theorem rng_shift (b : Int) : ∀ (a : Int) (n : Nat), rng (a + b) n = (rng a n).map (· + b)
  | _, 0 => rfl
  | a, n + 1 => by rw [rng, rng, List.map_cons, ← rng_shift b (a + 1) n, show a + b + 1 = a + 1 + b from by omega]
theorem flat_shift (b : Int) : ∀ (R : List (Int × Int)), flat (R.map fun r => (r.1 + b, r.2)) = (flat R).map (· + b)
  | [] => rfl
  | r :: R => by rw [List.map_cons, flat_cons, flat_cons, flat_shift b R, List.map_append, rng_shift]
theorem rshift_l {F : Nat} {l : List Int} {least by_ : Int} {x6 : List (Int × Int) × List Int × Int} (hm : l.length ≤ 300) (hl : ∀ x ∈ l, Nd x) (hb : -1048576 ≤ by_ ∧ by_ ≤ 1048576) : ∀ (k i : Nat), l.length < k + i → i ≤ l.length →
    M_L_RunsShift_l33 F l least by_ x6 k ((l.take i).map (· + by_), (i : Int)) = M_L_RunsShift_j2 F least by_ x6 (l.map (· + by_))
  | 0, _, _, _ => by omega
  | k + 1, i, h, hi => by
    show M_L_RunsShift_b33 F l least by_ x6 (M_L_RunsShift_l33 F l least by_ x6 k) ((l.take i).map (· + by_)) (i : Int) = _
    unfold M_L_RunsShift_b33
    by_cases hlt : i < l.length
    · have hx := hl _ (List.getElem_mem hlt)
      unfold Nd at hx
      rw [if_pos (by simp; omega), idx_nat, List.getElem?_eq_getElem hlt]
      simp only [Option.bind_some]
      rw [iadd_i64 (by omega) (by omega), app_eq (by simp; omega), iadd1_n (by omega)]
      simp only [Option.bind_some]
      have e : (l.take i).map (· + by_) ++ [l[i] + by_] = (l.take (i + 1)).map (· + by_) := by
        rw [List.take_add_one, List.getElem?_eq_getElem hlt, List.map_append]; rfl
      rw [e]
      exact rshift_l hm hl hb k (i + 1) (by omega) (by omega)
    · rw [if_neg (by simp; omega)]
      obtain rfl : i = l.length := by omega
      rw [List.take_length]
theorem rsh_rest {F : Nat} {by_ : Int} {x6 x81 : List (Int × Int) × List Int × Int} (h1 : x81.1.length = x6.1.length) (h2 : x81.2.1 = x6.2.1.map (· + by_)) (hl : ∀ x ∈ x6.2.1, Nd x) (hb : -1048576 ≤ by_ ∧ by_ ≤ 1048576) (hm : x6.2.1.length ≤ 1000) : ∀ (k i : Nat), x6.2.1.length < k + i → i ≤ x6.2.1.length →
    M_L_RunsShift_l23 F by_ x6 x81 k (i : Int) = some true
  | 0, _, _, _ => by omega
  | k + 1, i, h, hi => by
    show M_L_RunsShift_b23 F by_ x6 x81 (M_L_RunsShift_l23 F by_ x6 x81 k) (i : Int) = _
    unfold M_L_RunsShift_b23
    have hlen : x81.2.1.length = x6.2.1.length := by rw [h2, List.length_map]
    by_cases hlt : i < x6.2.1.length
    · have hx := hl _ (List.getElem_mem hlt)
      unfold Nd at hx
      rw [if_pos (by simp; omega), if_neg (by simp; omega), idx_nat, idx_nat, h2, List.getElem?_map, List.getElem?_eq_getElem hlt]
      simp only [Option.map_some, Option.bind_some]
      rw [iadd_i64 (by omega) (by omega)]
      unfold M_L_RunsShift_j25
      rw [if_neg (by simp), iadd1_n (by omega)]
      exact rsh_rest h1 h2 hl hb hm k (i + 1) (by omega) (by omega)
    · rw [if_neg (by simp; omega)]
      unfold M_L_RunsShift_j18
      rw [hlen, h1]
      simp
theorem rsh_runs {F : Nat} {by_ : Int} {x6 x81 : List (Int × Int) × List Int × Int} (h1 : x81.1 = x6.1.map fun r => (r.1 + by_, r.2)) (hl : ∀ r ∈ x6.1, RunOk r) (hb : -1048576 ≤ by_ ∧ by_ ≤ 1048576) (hm : x6.1.length ≤ 1000) : ∀ (k i : Nat), x6.1.length < k + i → i ≤ x6.1.length →
    M_L_RunsShift_l30 F by_ x6 x81 k (i : Int) = M_L_RunsShift_j10 F by_ x6 x81
  | 0, _, _, _ => by omega
  | k + 1, i, h, hi => by
    show M_L_RunsShift_b30 F by_ x6 x81 (M_L_RunsShift_l30 F by_ x6 x81 k) (i : Int) = _
    unfold M_L_RunsShift_b30
    have hlen : x81.1.length = x6.1.length := by rw [h1, List.length_map]
    by_cases hlt : i < x6.1.length
    · have hx := hl _ (List.getElem_mem hlt)
      unfold RunOk at hx
      rw [if_pos (by simp; omega), if_neg (by simp; omega), idx_nat, idx_nat, h1, List.getElem?_map, List.getElem?_eq_getElem hlt]
      simp only [Option.map_some, Option.bind_some]
      rw [iadd_i64 (by omega) (by omega), if_neg (by simp)]
      unfold M_L_RunsShift_j32
      rw [if_neg (by simp), iadd1_n (by omega)]
      exact rsh_runs h1 hl hb hm k (i + 1) (by omega) (by omega)
    · rw [if_neg (by simp; omega)]
theorem law_rshift {F : Nat} (h0 : 2000000 ≤ F) {l : List Int} {least by_ : Int} : M_L_RunsShift F l least by_ = some true := by
  unfold M_L_RunsShift
  rw [split_eq h0, begun_runs' h0]
  simp only [Option.bind_some, Bool.not_true, Bool.false_eq_true, if_false]
  by_cases h : spE l least = 0 ∧ -1048576 ≤ by_ ∧ by_ ≤ 1048576
  · obtain ⟨h, hb⟩ := h
    obtain ⟨⟨h1, h2⟩, h3, h4⟩ := spE_ok.1 h
    obtain ⟨q1, q2⟩ := rs_ok h1 h2
    have hlen := spl_len (least := least) h1 h2
    rw [spl_ok h, if_neg (by simp only [Bool.or_eq_true, decide_eq_true_eq, bne_iff_ne]; omega)]
    have hs := rshift_l (F := F) (least := least) (by_ := by_) (x6 := (spO least (rs l), flat (spS least (rs l)), 0)) h1 (ris_nd h2) hb F 0 (by omega) (by omega)
    rw [List.take_zero, List.map_nil, show ((0 : Nat) : Int) = 0 from rfl] at hs
    rw [hs]
    unfold M_L_RunsShift_j2
    rw [split_eq h0]
    simp only [Option.bind_some]
    by_cases hE : spE (l.map (· + by_)) least = 0
    · have hr1 := rsh_runs (F := F) (by_ := by_) (x6 := (spO least (rs l), flat (spS least (rs l)), 0)) (x81 := (spO least (rs (l.map (· + by_))), flat (spS least (rs (l.map (· + by_)))), 0)) (by simp only; rw [rs_shift, spO_shift]) (fun r hr => q2 r (List.mem_filter.1 hr).1) hb (by simp only; omega) F 0 (by simp only; omega) (by omega)
      have hr2 := rsh_rest (F := F) (by_ := by_) (x6 := (spO least (rs l), flat (spS least (rs l)), 0)) (x81 := (spO least (rs (l.map (· + by_))), flat (spS least (rs (l.map (· + by_)))), 0)) (by simp only; rw [rs_shift, spO_shift, List.length_map]) (by simp only; rw [rs_shift, spS_shift, flat_shift]) (fun x hx => ris_nd (sub_ris h2 _) x hx) hb (by simp only; omega) F 0 (by simp only; omega) (by omega)
      rw [spl_ok hE, if_neg (by simp)]
      exact hr1.trans hr2
    · rw [spl_bad hE, if_pos (by simpa using hE)]
      have hg : gkc (l.map (· + by_)) = 0 ∨ gkc (l.map (· + by_)) = 3 := by
        unfold gkc
        rw [List.length_map, if_neg (by omega)]
        exact gk_shift h2 (.inr (by omega))
      have h5 : spE (l.map (· + by_)) least = 3 := by
        unfold spE at hE ⊢
        rcases hg with hg | hg
        · rw [hg, if_neg (by simp), if_neg (by omega)] at hE
          exact absurd rfl hE
        · rw [hg, if_pos (by decide)]
      rw [h5]; rfl
  · rw [if_pos]
    simp only [Bool.or_eq_true, decide_eq_true_eq, bne_iff_ne]
    by_cases hE : spE l least = 0
    · omega
    · left; left; rw [spl_bad hE]; exact hE
end Go.Proofs.Ytlnmibipnabdiaa
