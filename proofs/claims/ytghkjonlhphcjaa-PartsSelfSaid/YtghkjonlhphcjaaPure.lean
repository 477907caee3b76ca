/- Plain facts of what the functions of this seat compute. -/
import Derived.Test.YtghkjonlhphcjaaModels
import Derived.KernelRfl
import Derived.Lib.SlicesCompact
namespace Go.Proofs.Ytghkjonlhphcjaa
open Go SX
variable {F : Nat} {rec68 : (List (Int × Int) × List Int × Int) → Option (List (Int × Int) × List Int)} {l : List Int} {least : Int} {o : List (Int × Int)} {rest : List Int} {i : Int}
def Bit (l : List Int) : Prop := ∀ x ∈ l, x = 0 ∨ x = 1
theorem Bit.getD {l : List Int} (h : Bit l) (i : Nat) : l.getD i 0 = 0 ∨ l.getD i 0 = 1 := by
  by_cases hi : i < l.length
  · have := h l[i] (List.getElem_mem hi)
    simpa [List.getD, hi] using this
  · left
    simp [List.getD, List.getElem?_eq_none (Nat.le_of_not_lt hi)]
theorem iadd_n {a b : Nat} (h : a + b < 9223372036854775808) : iadd .i64 (a : Int) (b : Int) = ((a + b : Nat) : Int) := by rw [iadd_i64 (by omega) (by omega)]; omega
theorem iadd1_n {a : Nat} (h : a + 1 < 9223372036854775808) : iadd .i64 (a : Int) 1 = ((a + 1 : Nat) : Int) := by rw [iadd_i64 (by omega) (by omega)]; omega
theorem isub_n {a b : Nat} (h : b ≤ a) (h2 : a < 9223372036854775808) : isub .i64 (a : Int) (b : Int) = ((a - b : Nat) : Int) := by rw [isub_i64 (by omega) (by omega)]; omega
theorem isub1_n {a : Nat} (h : 1 ≤ a) (h2 : a < 9223372036854775808) : isub .i64 (a : Int) 1 = ((a - 1 : Nat) : Int) := by rw [isub_i64 (by omega) (by omega)]; omega
/-- The bits of a number, in so many places, the highest one first. -/
def nb (n : Nat) : Nat → List Int
  | 0 => []
  | w + 1 => ((n / 2 ^ w % 2 : Nat) : Int) :: nb n w
theorem between_eq {F : Nat} {a b c : Int} : M_R_between F a b c = some (decide (b ≤ a ∧ a ≤ c)) := by
  unfold M_R_between
  congr 1
  by_cases h : b ≤ a <;> by_cases h2 : a ≤ c <;> simp [h, h2]
theorem sub_n {α : Type} {l : List α} {i j : Nat} (h1 : i ≤ j) (h2 : j ≤ l.length) : sub l (i : Int) (j : Int) = some ((l.take j).drop i) := by
  unfold sub
  rw [if_pos ⟨by omega, by omega, by omega⟩, Int.toNat_natCast, Int.toNat_natCast]
/-- How many bits a number has. -/
def len (x : Nat) : Nat := if x = 0 then 0 else x.log2 + 1
def sh (m : Nat) : Nat := len (m - 1)
def dd (m : Nat) : Nat := 2 ^ sh m - m
def le (n m : Nat) : List Int := if n < dd m then nb n (sh m - 1) else nb (n + dd m) (sh m)
theorem node_eq {F : Nat} {x : Int} : M_gaps_node F x = some (decide (0 ≤ x ∧ x ≤ 1048576)) := by
  unfold M_gaps_node
  congr 1
  by_cases h : 0 ≤ x <;> by_cases h2 : x ≤ 1048576 <;> simp [h, h2]
/-- What is wrong with numbers that must rise, behind a last one. -/
def gk : Int → List Int → Int
  | _, [] => 0
  | last, n :: l => if 0 ≤ n ∧ n ≤ 1048576 then (if n ≤ last then 4 else gk n l) else 3
def gkc (l : List Int) : Int := if 300 < l.length then 2 else gk (-1) l
theorem gcheck_l {F : Nat} {l : List Int} (hm : l.length ≤ 300) : ∀ (k i : Nat) (last : Int), l.length < k + i → i ≤ l.length →
    M_gaps_Check_l3 F l k (last, (i : Int)) = some (gk last (l.drop i))
  | 0, _, _, _, _ => by omega
  | k + 1, i, last, h, hi => by
    show M_gaps_Check_b3 F l (M_gaps_Check_l3 F l k) last (i : Int) = _
    unfold M_gaps_Check_b3
    by_cases hlt : i < l.length
    · rw [if_pos (by simp; omega), idx_nat, List.getElem?_eq_getElem hlt, List.drop_eq_getElem_cons hlt, gk]
      simp only [Option.bind_some]
      rw [node_eq]
      simp only [Option.bind_some]
      by_cases h1 : 0 ≤ l[i] ∧ l[i] ≤ 1048576
      · rw [decide_eq_true h1, if_pos h1, if_neg (by simp)]
        by_cases h2 : l[i] ≤ last
        · rw [if_pos h2, if_pos (by simpa using h2)]
        · rw [if_neg h2, if_neg (by simpa using h2), iadd1_n (by omega)]
          exact gcheck_l hm k (i + 1) _ (by omega) (by omega)
      · rw [decide_eq_false h1, if_neg h1, if_pos (by simp)]
    · rw [if_neg (by simp; omega), List.drop_eq_nil_of_le (by omega)]
      rfl
theorem gCheck_eq {F : Nat} (hF : 20000 ≤ F) {l : List Int} : M_gaps_Check F l = some (gkc l) := by
  unfold M_gaps_Check gkc
  by_cases h : 300 < l.length
  · rw [if_pos (by simp; omega), if_pos h]
  · rw [if_neg (by simp; omega), if_neg h]
    exact gcheck_l (by omega) F 0 (-1) (by omega) (by omega)
theorem rising_l {F : Nat} {l : List Int} (hm : l.length ≤ 300) : ∀ (k i : Nat) (last : Int), l.length < k + i → i ≤ l.length → (i = 0 ∧ last = -1 ∨ 0 < i ∧ l[i - 1]? = some last) →
    M_R_RisingCheck_l13 F l k (i : Int) = some (gk last (l.drop i))
  | 0, _, _, _, _, _ => by omega
  | k + 1, i, last, h, hi, hlast => by
    show M_R_RisingCheck_b13 F l (M_R_RisingCheck_l13 F l k) (i : Int) = _
    unfold M_R_RisingCheck_b13
    by_cases hlt : i < l.length
    · rw [if_pos (by simp; omega), idx_nat, List.getElem?_eq_getElem hlt, List.drop_eq_getElem_cons hlt, gk]
      simp only [Option.bind_some]
      rw [between_eq]
      simp only [Option.bind_some]
      by_cases h1 : 0 ≤ l[i] ∧ l[i] ≤ 1048576
      · rw [decide_eq_true h1, if_pos h1, if_neg (by simp)]
        have hrec : M_R_RisingCheck_l13 F l k ((i + 1 : Nat) : Int) = some (gk l[i] (l.drop (i + 1))) :=
          rising_l hm k (i + 1) _ (by omega) (by omega) (.inr ⟨by omega, by rw [Nat.add_sub_cancel, List.getElem?_eq_getElem hlt]⟩)
        rcases hlast with ⟨rfl, rfl⟩ | ⟨h0, hl⟩
        · rw [if_neg (by simp)]
          unfold M_R_RisingCheck_j15
          rw [if_neg (by simp), if_neg (show ¬ l[0] ≤ -1 by omega), iadd1_n (by omega)]
          exact hrec
        · rw [if_pos (by simp; omega), isub1_n (by omega) (by omega), idx_nat, hl]
          simp only [Option.bind_some, M_R_RisingCheck_j15]
          by_cases h2 : l[i] ≤ last
          · rw [if_pos h2, if_pos (by simpa using h2)]
          · rw [if_neg h2, if_neg (by simpa using h2), iadd1_n (by omega)]
            exact hrec
      · rw [decide_eq_false h1, if_neg h1, if_pos (by simp)]
    · rw [if_neg (by simp; omega), List.drop_eq_nil_of_le (by omega)]
      rfl
theorem rising_eq {F : Nat} (hF : 20000 ≤ F) {l : List Int} : M_R_RisingCheck F l = some (gkc l) := by
  unfold M_R_RisingCheck gkc
  by_cases h : 300 < l.length
  · rw [if_pos (by simp; omega), if_pos h]
  · rw [if_neg (by simp; omega), if_neg h]
    exact rising_l (by omega) F 0 (-1) (by omega) (by omega) (.inl ⟨rfl, rfl⟩)
/-- Numbers that rise behind a last one. -/
def Ris : Int → List Int → Prop
  | _, [] => True
  | last, n :: l => (0 ≤ n ∧ n ≤ 1048576) ∧ last < n ∧ Ris n l
theorem gk_ris : ∀ {last : Int} {l : List Int}, gk last l = 0 ↔ Ris last l
  | _, [] => by simp [gk, Ris]
  | last, n :: l => by
    unfold gk Ris
    by_cases h1 : 0 ≤ n ∧ n ≤ 1048576
    · rw [if_pos h1]
      by_cases h2 : n ≤ last
      · rw [if_pos h2]; simp; omega
      · rw [if_neg h2, gk_ris]; simp [h1]; omega
    · rw [if_neg h1]; simp; omega
theorem gkc_ris {l : List Int} : gkc l = 0 ↔ (l.length ≤ 300 ∧ Ris (-1) l) := by
  unfold gkc
  by_cases h : 300 < l.length
  · rw [if_pos h]; simp; omega
  · rw [if_neg h, gk_ris]; simp; omega
def Nd (x : Int) : Prop := 0 ≤ x ∧ x ≤ 1048576
instance ndDec (x : Int) : Decidable (Nd x) := inferInstanceAs (Decidable (_ ∧ _))
theorem irem2_u {g : Int} (h : 0 ≤ g) : irem g 2 = g % 2 := by unfold irem; rw [Int.tmod_eq_emod_of_nonneg h]
theorem ris_nd : ∀ {q : Int} {l : List Int}, Ris q l → ∀ x ∈ l, Nd x
  | _, [], _ => by intro x hx; simp at hx
  | _, n :: l, h => by
    intro x hx
    rcases List.mem_cons.1 hx with rfl | hx
    · exact h.1
    · exact ris_nd h.2.2 x hx
theorem srt_perm (l : List Int) : (srt l).Perm l := List.mergeSort_perm l _
theorem srt_pw (l : List Int) : (srt l).Pairwise (· ≤ ·) := by
  have h := List.pairwise_mergeSort (le := fun x y : Int => decide (x ≤ y)) (fun a b c h1 h2 => by simp only [decide_eq_true_eq] at *; omega) (fun a b => by simp only [Bool.or_eq_true, decide_eq_true_eq]; omega) l
  exact h.imp (fun h => by simpa using h)
theorem srt_eq {l m : List Int} (hp : l.Perm m) (hm : m.Pairwise (· ≤ ·)) : srt l = m :=
  List.Perm.eq_of_pairwise (le := fun x y : Int => x ≤ y) (fun a b _ _ h1 h2 => by omega) (srt_pw l) hm ((srt_perm l).trans hp)
theorem srt_congr {l m : List Int} (hp : l.Perm m) : srt l = srt m := srt_eq (hp.trans (srt_perm m).symm) (srt_pw m)
theorem srt_cons {x : Int} {l : List Int} (h : ∀ z ∈ l, x ≤ z) : srt (x :: l) = x :: srt l :=
  srt_eq ((srt_perm l).symm.cons x) (List.pairwise_cons.2 ⟨fun z hz => h z ((srt_perm l).mem_iff.1 hz), srt_pw l⟩)
theorem pw_le {l : List Int} (h : l.Pairwise (· < ·)) : l.Pairwise (· ≤ ·) := h.imp (fun h => by omega)
theorem pw_nodup {l : List Int} (h : l.Pairwise (· < ·)) : l.Nodup := h.imp (fun h => by omega)
theorem pw_of_nodup {l : List Int} (h : l.Pairwise (· ≤ ·)) (hn : l.Nodup) : l.Pairwise (· < ·) := by
  have := List.Pairwise.and h hn
  exact this.imp (fun h => by have h1 := h.1; have h2 := h.2; omega)
theorem compact_len (xs : List Int) : (Go.Lib.compact xs).length ≤ xs.length := by
  unfold Go.Lib.compact Go.Lib.compactUpTo
  rw [List.length_map]
  exact Nat.le_trans (List.length_filter_le _ _) (by simp)
theorem keeps_get {xs : List Int} {j : Nat} (h0 : 0 < j) (hj : j < xs.length) : Go.Lib.keeps xs.toArray j = decide (xs[j] ≠ xs[j - 1]) := by
  unfold Go.Lib.keeps
  have e1 : xs.toArray[j]! = xs[j] := by rw [getElem!_pos xs.toArray j (by simpa using hj)]; simp
  have e2 : xs.toArray[j - 1]! = xs[j - 1] := by rw [getElem!_pos xs.toArray (j - 1) (by simp; omega)]; simp
  rw [e1, e2]
  have : j ≠ 0 := by omega
  simp [this]
theorem compact_strict {xs : List Int} (h : xs.Pairwise (· < ·)) : Go.Lib.compact xs = xs := by
  refine Go.Lib.compact_all _ fun j hj => ?_
  by_cases h0 : j = 0
  · subst h0; simp [Go.Lib.keeps]
  · rw [keeps_get (by omega) hj]
    have := List.pairwise_iff_getElem.1 h (j - 1) j (by omega) hj (by omega)
    simp; omega
theorem compact_same {xs : List Int} (h : xs.Pairwise (· ≤ ·)) (he : (Go.Lib.compact xs).length = xs.length) : xs.Pairwise (· < ·) := by
  unfold Go.Lib.compact Go.Lib.compactUpTo at he
  rw [List.length_map] at he
  have he' : ((List.range xs.length).filter (Go.Lib.keeps xs.toArray)).length = (List.range xs.length).length := by rw [he]; simp
  have hk := List.length_filter_eq_length_iff.1 he'
  rw [List.pairwise_iff_getElem]
  intro i j hi hj hij
  have h1 := hk j (by simpa using hj)
  rw [keeps_get (by omega) hj] at h1
  have h2 : xs[j] ≠ xs[j - 1] := by simpa using h1
  have h3 := List.pairwise_iff_getElem.1 h (j - 1) j (by omega) hj (by omega)
  have h4 : xs[i] ≤ xs[j - 1] := by
    by_cases e : i = j - 1
    · subst e; omega
    · exact List.pairwise_iff_getElem.1 h i (j - 1) hi (by omega) (by omega)
  omega
theorem ris_pw : ∀ {q : Int} {l : List Int}, Ris q l → l.Pairwise (· < ·) ∧ ∀ z ∈ l, q < z
  | _, [], _ => by simp
  | q, x :: l, h => by
    obtain ⟨h1, h2⟩ := ris_pw h.2.2
    have h3 := h.2.1
    refine ⟨List.pairwise_cons.2 ⟨h2, h1⟩, fun z hz => ?_⟩
    rcases List.mem_cons.1 hz with rfl | hz
    · exact h3
    · have := h2 z hz; omega
theorem pw_ris : ∀ {q : Int} {l : List Int}, l.Pairwise (· < ·) → (∀ z ∈ l, q < z) → (∀ z ∈ l, Nd z) → Ris q l
  | _, [], _, _, _ => trivial
  | q, x :: l, h, hq, hn => ⟨hn x (by simp), hq x (by simp), pw_ris (List.pairwise_cons.1 h).2 (List.pairwise_cons.1 h).1 fun z hz => hn z (by simp [hz])⟩
def cmn (l r : List Int) : Bool := l.any fun x => r.contains x
theorem cmn_iff {l r : List Int} : cmn l r = true ↔ ∃ x ∈ l, x ∈ r := by simp [cmn]
theorem cmn_not {l r : List Int} : cmn l r = false ↔ ∀ x ∈ l, x ∉ r := by simp [cmn]
def mrg (l r : List Int) : List Int × Int := if cmn l r then ([], 6) else if 300 < l.length + r.length then ([], 2) else (srt (l ++ r), 0)
theorem grow_eq {F n : Nat} (h : n ≤ 1000000) : M_slices_Grow_int_int F ([] : List Int) 0 (n : Int) = some [] := by
  unfold M_slices_Grow_int_int lett
  rw [if_neg (by simp)]
  have e1 : isub .i64 ((0 : Nat) : Int) (([] : List Int).length : Int) = 0 := by decide
  rw [e1, isub_i64 (by omega) (by omega), Int.sub_zero]
  by_cases h0 : n = 0
  · subst h0; rfl
  · simp only
    rw [if_pos (by simp; omega)]
    have e2 : sub ([] : List Int) 0 ((0 : Nat) : Int) = some [] := by decide
    have e3 : appz 8796093022208 ([] : List Int) 0 (n : Int) = some (List.replicate n 0) := by
      unfold appz
      rw [if_pos (by simp; omega)]
      simp
    rw [e2]
    simp only [Option.bind_some]
    rw [e3]
    simp only [Option.bind_some]
    have e4 : sub (List.replicate n (0 : Int)) 0 ((([] : List Int).length : Nat) : Int) = some [] := by
      have := sub_n (l := List.replicate n (0 : Int)) (i := 0) (j := 0) (by omega) (by omega)
      simpa using this
    rw [e4]
    rfl
theorem concat_eq {F : Nat} (hF : 20000 ≤ F) {a b : List Int} (h : a.length + b.length ≤ 1000000) : M_slices_Concat_int_int F [a, b] = some (a ++ b) := by
  obtain ⟨k, rfl⟩ : ∃ k, F = k + 3 := ⟨F - 3, by omega⟩
  have i0 : idx [a, b] (0 : Int) = some a := rfl
  have i1 : idx [a, b] (1 : Int) = some b := rfl
  have e0 : iadd .i64 0 (a.length : Int) = (a.length : Int) := by rw [iadd_i64 (by omega) (by omega)]; omega
  have e1 : iadd .i64 (a.length : Int) (b.length : Int) = ((a.length + b.length : Nat) : Int) := iadd_n (by omega)
  have o1 : iadd .i64 0 1 = 1 := by decide
  have o2 : iadd .i64 1 1 = 2 := by decide
  have hs : M_slices_Concat_int_int_j2 (k + 3) [a, b] ((a.length + b.length : Nat) : Int) = some (a ++ b) := by
    unfold M_slices_Concat_int_int_j2
    rw [grow_eq h]
    simp only [Option.bind_some]
    show M_slices_Concat_int_int_b5 (k + 3) [a, b] (M_slices_Concat_int_int_l5 (k + 3) [a, b] (k + 2)) [] 0 = _
    unfold M_slices_Concat_int_int_b5
    rw [if_pos (by simp), i0]
    simp only [Option.bind_some]
    rw [app_eq (by simp; omega), o1]
    simp only [Option.bind_some, List.nil_append]
    show M_slices_Concat_int_int_b5 (k + 3) [a, b] (M_slices_Concat_int_int_l5 (k + 3) [a, b] (k + 1)) a 1 = _
    unfold M_slices_Concat_int_int_b5
    rw [if_pos (by simp), i1]
    simp only [Option.bind_some]
    rw [app_eq (by omega), o2]
    simp only [Option.bind_some]
    show M_slices_Concat_int_int_b5 (k + 3) [a, b] (M_slices_Concat_int_int_l5 (k + 3) [a, b] k) (a ++ b) 2 = _
    unfold M_slices_Concat_int_int_b5
    rw [if_neg (by simp)]
    rfl
  unfold M_slices_Concat_int_int
  show M_slices_Concat_int_int_b6 (k + 3) [a, b] (M_slices_Concat_int_int_l6 (k + 3) [a, b] (k + 2)) 0 0 = _
  unfold M_slices_Concat_int_int_b6
  rw [if_pos (by simp), i0]
  simp only [Option.bind_some]
  rw [e0, if_neg (by simp), o1]
  show M_slices_Concat_int_int_b6 (k + 3) [a, b] (M_slices_Concat_int_int_l6 (k + 3) [a, b] (k + 1)) (a.length : Int) 1 = _
  unfold M_slices_Concat_int_int_b6
  rw [if_pos (by simp), i1]
  simp only [Option.bind_some]
  rw [e1, if_neg (by simp; omega), o2]
  show M_slices_Concat_int_int_b6 (k + 3) [a, b] (M_slices_Concat_int_int_l6 (k + 3) [a, b] k) ((a.length + b.length : Nat) : Int) 2 = _
  unfold M_slices_Concat_int_int_b6
  rw [if_neg (by simp)]
  exact hs
theorem srt_cmn {l r : List Int} (hl : l.Pairwise (· < ·)) (hr : r.Pairwise (· < ·)) : (srt (l ++ r)).Pairwise (· < ·) ↔ cmn l r = false := by
  rw [cmn_not]
  constructor
  · intro h x hx hx'
    have hn : (l ++ r).Nodup := (srt_perm _).nodup_iff.1 (pw_nodup h)
    exact (List.nodup_append.1 hn).2.2 x hx x hx' rfl
  · intro h
    refine pw_of_nodup (srt_pw _) ((srt_perm _).nodup_iff.2 (List.nodup_append.2 ⟨pw_nodup hl, pw_nodup hr, fun a ha b hb e => ?_⟩))
    subst e
    exact h a ha hb
/-- What the program does: joined, sorted, and are there fewer without what stands twice? -/
theorem joined_eq {F : Nat} (hF : 20000 ≤ F) {l r : List Int} (hl : l.Pairwise (· < ·)) (hr : r.Pairwise (· < ·)) (hm : l.length + r.length ≤ 1000000) :
    ((M_slices_Concat_int_int F ([l, r] : List (List Int))).bind fun x16 => ((M_slices_Sort_int_int F x16).bind fun x19 => (chk (decide (x19.length = x16.length)) (((M_slices_Clone_int_int F x19).bind fun x29 => ((M_slices_Compact_int_int F x29).bind fun x32 => (if (decide ((x32.length : Int) < (x19.length : Int))) then some (([] : List Int), (6 : Int)) else (if (decide (300 < (x19.length : Int))) then some (([] : List Int), 2) else some (x19, 0))))))))) = some (mrg l r) := by
  rw [concat_eq hF hm]
  simp only [Option.bind_some]
  have hsl : (srt (l ++ r)).length = l.length + r.length := by rw [srt_len, List.length_append]
  unfold M_slices_Sort_int_int
  rw [if_pos (by rw [List.length_append]; omega)]
  simp only [Option.bind_some]
  unfold chk
  rw [if_pos (by rw [srt_len]; simp)]
  unfold M_slices_Clone_int_int
  rw [app_eq (by rw [hsl]; simp; omega)]
  simp only [Option.bind_some, List.nil_append]
  unfold M_slices_Compact_int_int
  rw [if_pos (compact_len _)]
  simp only [Option.bind_some]
  unfold mrg
  have hc := compact_len (srt (l ++ r))
  cases h : cmn l r
  · have hp := (srt_cmn hl hr).2 h
    rw [compact_strict hp, if_neg (by simp), hsl, if_neg (show ¬ (false = true) by simp)]
    by_cases h3 : 300 < l.length + r.length
    · rw [if_pos (by simp; omega), if_pos h3]
    · rw [if_neg (by simp; omega), if_neg h3]
  · have hne : (Go.Lib.compact (srt (l ++ r))).length ≠ (srt (l ++ r)).length := by
      intro he
      have := (srt_cmn hl hr).1 (compact_same (srt_pw _) he)
      rw [h] at this
      simp at this
    rw [if_pos (by simp only [decide_eq_true_eq]; omega), if_pos rfl]
theorem cmn_swap {l r : List Int} : cmn l r = cmn r l := by
  rw [Bool.eq_iff_iff, cmn_iff, cmn_iff]
  exact ⟨fun ⟨x, h1, h2⟩ => ⟨x, h2, h1⟩, fun ⟨x, h1, h2⟩ => ⟨x, h2, h1⟩⟩
/-- The answer when some numbers have come out already. -/
def mrgO (o l r : List Int) : List Int × Int := if cmn l r then ([], 6) else if 300 < o.length + (l.length + r.length) then ([], 2) else (o ++ srt (l ++ r), 0)
theorem mrgO_nil (l r : List Int) : mrgO [] l r = mrg l r := by simp [mrgO, mrg]
theorem mrgO_eq {x : Int} {o l r : List Int} : mrgO o (x :: l) (x :: r) = ([], 6) := by
  unfold mrgO
  rw [if_pos (cmn_iff.2 ⟨x, by simp, by simp⟩)]
theorem mrgO_l {x : Int} {o l r : List Int} (hl : ∀ z ∈ l, x < z) (hr : ∀ z ∈ r, x < z) : mrgO o (x :: l) r = mrgO (o ++ [x]) l r := by
  have hc : cmn (x :: l) r = cmn l r := by
    cases r with
    | nil => rw [cmn_swap, cmn_swap (l := l)]; rfl
    | cons y r =>
      rw [Bool.eq_iff_iff, cmn_iff, cmn_iff]
      constructor
      · rintro ⟨z, hz, hz'⟩
        rcases List.mem_cons.1 hz with rfl | hz
        · have := hr _ hz'; omega
        · exact ⟨z, hz, hz'⟩
      · rintro ⟨z, hz, hz'⟩
        exact ⟨z, by simp [hz], hz'⟩
  unfold mrgO
  rw [hc]
  have hs : srt (x :: l ++ r) = x :: srt (l ++ r) := by
    rw [List.cons_append]
    refine srt_cons fun z hz => ?_
    rcases List.mem_append.1 hz with hz | hz
    · have := hl z hz; omega
    · have := hr z hz; omega
  rw [hs]
  have e : o.length + ((x :: l).length + r.length) = (o ++ [x]).length + (l.length + r.length) := by simp; omega
  rw [e, List.append_assoc]
  rfl
theorem mrgO_r {y : Int} {o l r : List Int} (hl : ∀ z ∈ l, y < z) (hr : ∀ z ∈ r, y < z) : mrgO o l (y :: r) = mrgO (o ++ [y]) l r := by
  have h := mrgO_l (o := o) (l := r) (r := l) hr hl
  unfold mrgO at h ⊢
  rw [cmn_swap (l := l), cmn_swap (l := l) (r := r), srt_congr (List.perm_append_comm (l₁ := l) (l₂ := y :: r)), srt_congr (List.perm_append_comm (l₁ := l) (l₂ := r)), Nat.add_comm l.length, Nat.add_comm l.length]
  exact h
theorem same_ints_l (F : Nat) {xs : List Int} (hm : xs.length ≤ 1000000) : ∀ (k i : Nat), xs.length < k + i → i ≤ xs.length → M_R_SameInts_l3 F xs xs k (i : Int) = some true
  | 0, _, _, _ => by omega
  | k + 1, i, h, hi => by
    show M_R_SameInts_b3 F xs xs (M_R_SameInts_l3 F xs xs k) (i : Int) = _
    unfold M_R_SameInts_b3
    by_cases hlt : i < xs.length
    · rw [if_pos (by simp; omega), idx_nat, List.getElem?_eq_getElem hlt]
      simp only [Option.bind_some]
      rw [if_neg (by simp), iadd1_n (by omega)]
      exact same_ints_l F hm k (i + 1) (by omega) (by omega)
    · rw [if_neg (by simp; omega)]; rfl
theorem same_intsR {F : Nat} {xs : List Int} (hF : xs.length < F) (hm : xs.length ≤ 1000000) : M_R_SameInts F xs xs = some true := by
  unfold M_R_SameInts
  rw [if_neg (by simp)]
  exact same_ints_l F hm F 0 (by omega) (by omega)
theorem hasInt_l (F : Nat) {l : List Int} {v : Int} (hm : l.length ≤ 1000000) : ∀ (k i : Nat), l.length < k + i → i ≤ l.length → M_R_HasInt_l3 F l v k (i : Int) = some (decide (v ∈ l.drop i))
  | 0, _, _, _ => by omega
  | k + 1, i, h, hi => by
    show M_R_HasInt_b3 F l v (M_R_HasInt_l3 F l v k) (i : Int) = _
    unfold M_R_HasInt_b3
    by_cases hlt : i < l.length
    · rw [if_pos (by simp; omega), idx_nat, List.getElem?_eq_getElem hlt, List.drop_eq_getElem_cons hlt]
      simp only [Option.bind_some]
      by_cases he : l[i] = v
      · rw [if_pos (by simpa using he)]
        simp [he]
      · rw [if_neg (by simpa using he), iadd1_n (by omega), hasInt_l F hm k (i + 1) (by omega) (by omega)]
        have : (v ∈ l[i] :: l.drop (i + 1)) ↔ v ∈ l.drop (i + 1) := ⟨fun hv => (List.mem_cons.1 hv).resolve_left (fun e => he e.symm), fun hv => List.mem_cons_of_mem _ hv⟩
        rw [decide_eq_decide.2 this]
    · rw [if_neg (by simp; omega), List.drop_eq_nil_of_le (by omega)]
      simp [M_R_HasInt_j2]
theorem hasInt_eq {F : Nat} {l : List Int} {v : Int} (hF : l.length < F) (hm : l.length ≤ 1000000) : M_R_HasInt F l v = some (decide (v ∈ l)) := by
  unfold M_R_HasInt
  have := hasInt_l F (v := v) hm F 0 (by omega) (by omega)
  simpa using this
theorem pw_ext : ∀ {A B : List Int}, A.Pairwise (· < ·) → B.Pairwise (· < ·) → (∀ z, z ∈ A ↔ z ∈ B) → A = B
  | [], [], _, _, _ => rfl
  | [], s :: B, _, _, h => by have := (h s).2 (by simp); simp at this
  | r :: A, [], _, _, h => by have := (h r).1 (by simp); simp at this
  | r :: A, s :: B, hA, hB, h => by
    obtain ⟨fA, pA⟩ := List.pairwise_cons.1 hA
    obtain ⟨fB, pB⟩ := List.pairwise_cons.1 hB
    have hrs : r = s := by
      rcases List.mem_cons.1 ((h r).1 (by simp)) with h1 | h1
      · exact h1
      · rcases List.mem_cons.1 ((h s).2 (by simp)) with h2 | h2
        · exact h2.symm
        · have := fA s h2; have := fB r h1; omega
    subst hrs
    congr 1
    refine pw_ext pA pB fun x => ⟨fun hx => ?_, fun hx => ?_⟩
    · rcases List.mem_cons.1 ((h x).1 (by simp [hx])) with h1 | h1
      · subst h1; have := fA x hx; omega
      · exact h1
    · rcases List.mem_cons.1 ((h x).2 (by simp [hx])) with h1 | h1
      · subst h1; have := fB x hx; omega
      · exact h1
theorem less_eq {F : Nat} {x y : Int} : M_cmp_Less_int F x y = some (decide (x < y)) := by
  unfold M_cmp_Less_int M_cmp_isNaN_int
  simp [M_cmp_Less_int_j1]
theorem half_eq {i j : Nat} (h : i + j < 1000000000) : iconv .i64 (ishr .u64 (iconv .u64 (iadd .i64 (i : Int) (j : Int))) 1) = (((i + j) / 2 : Nat) : Int) := by
  rw [iadd_n (by omega)]
  have e1 : iconv .u64 ((i + j : Nat) : Int) = ((i + j : Nat) : Int) := wrap_u64 (by omega) (by omega)
  have e2 := ishr_eq (k := .u64) (a := ((i + j : Nat) : Int)) (m := 1) (by decide)
  rw [show ((1 : Nat) : Int) = 1 from rfl, show (2 : Int) ^ 1 = 2 from rfl] at e2
  rw [e1, e2]
  have e3 : ((i + j : Nat) : Int) / 2 = (((i + j) / 2 : Nat) : Int) := by omega
  rw [e3]
  exact wrap_i64 (by omega) (by omega)
theorem search_l {F : Nat} {l : List Int} {v : Int} (hl : l.Pairwise (· < ·)) (hm : l.length ≤ 100000) : ∀ (k i j : Nat), j < k + i → i ≤ j → j ≤ l.length → (∀ z ∈ l.take i, z < v) → (∀ z ∈ l.drop j, v ≤ z) →
    ∃ p, M_slices_BinarySearch_int_int_l10 F l v k ((i : Int), (j : Int)) = some (p, decide (v ∈ l))
  | 0, _, _, _, _, _, _, _ => by omega
  | k + 1, i, j, h, hij, hj, h1, h2 => by
    show ∃ p, M_slices_BinarySearch_int_int_b10 F l v (M_slices_BinarySearch_int_int_l10 F l v k) (i : Int) (j : Int) = _
    unfold M_slices_BinarySearch_int_int_b10
    by_cases hlt : i < j
    · have hh : (i + j) / 2 < l.length := by omega
      rw [if_pos (by simp; omega)]
      unfold lett
      rw [half_eq (by omega)]
      simp only
      rw [idx_nat, List.getElem?_eq_getElem hh]
      simp only [Option.bind_some]
      rw [less_eq]
      simp only [Option.bind_some]
      by_cases hc : l[(i + j) / 2] < v
      · rw [decide_eq_true hc, if_pos rfl, iadd1_n (by omega)]
        refine search_l hl hm k ((i + j) / 2 + 1) j (by omega) (by omega) hj (fun z hz => ?_) h2
        obtain ⟨q, hq⟩ := List.getElem?_of_mem hz
        have hq1 := (List.getElem?_eq_some_iff.1 hq).1
        rw [List.length_take] at hq1
        rw [List.getElem?_take_of_lt (by omega), List.getElem?_eq_getElem (by omega)] at hq
        simp only [Option.some.injEq] at hq
        subst hq
        by_cases e : q = (i + j) / 2
        · subst e; exact hc
        · have := List.pairwise_iff_getElem.1 hl q ((i + j) / 2) (by omega) hh (by omega)
          omega
      · rw [decide_eq_false hc, if_neg (by simp)]
        refine search_l hl hm k i ((i + j) / 2) (by omega) (by omega) (by omega) h1 (fun z hz => ?_)
        obtain ⟨q, hq⟩ := List.getElem?_of_mem hz
        rw [List.getElem?_drop] at hq
        have hq1 := (List.getElem?_eq_some_iff.1 hq).1
        rw [List.getElem?_eq_getElem hq1] at hq
        simp only [Option.some.injEq] at hq
        subst hq
        by_cases e : q = 0
        · subst e; simp only [Nat.add_zero]; omega
        · have := List.pairwise_iff_getElem.1 hl ((i + j) / 2) ((i + j) / 2 + q) hh (by omega) (by omega)
          omega
    · obtain rfl : i = j := by omega
      rw [if_neg (by simp)]
      unfold M_slices_BinarySearch_int_int_j2
      by_cases hi : i < l.length
      · have hd : l.drop i = l[i] :: l.drop (i + 1) := List.drop_eq_getElem_cons hi
        have hmem : v ∈ l ↔ l[i] = v := by
          constructor
          · intro hv
            rw [← List.take_append_drop i l] at hv
            rcases List.mem_append.1 hv with hv | hv
            · have := h1 v hv; omega
            · rw [hd] at hv
              rcases List.mem_cons.1 hv with hv | hv
              · exact hv.symm
              · have hp := hl.sublist (List.drop_sublist i l)
                rw [hd] at hp
                have := (List.pairwise_cons.1 hp).1 v hv
                have := h2 l[i] (by rw [hd]; exact List.mem_cons_self ..)
                omega
          · intro hv; rw [← hv]; exact List.getElem_mem hi
        rw [if_pos (by simp; omega), idx_nat, List.getElem?_eq_getElem hi]
        simp only [Option.bind_some]
        by_cases he : l[i] = v
        · rw [if_pos (by simpa using he), decide_eq_true (hmem.2 he)]
          exact ⟨_, rfl⟩
        · rw [if_neg (by simpa using he), decide_eq_false (fun h => he (hmem.1 h))]
          unfold M_slices_isNaN_int
          simp only [Option.bind_some, bne_self_eq_false, Bool.false_eq_true, if_false]
          exact ⟨_, rfl⟩
      · rw [if_neg (by simp; omega)]
        have hn : v ∉ l := by
          intro hv
          rw [List.take_of_length_le (by omega)] at h1
          have := h1 v hv
          omega
        rw [decide_eq_false hn]
        exact ⟨_, rfl⟩
theorem search_eq {F : Nat} (hF : 200000 ≤ F) {l : List Int} {v : Int} (hl : l.Pairwise (· < ·)) (hm : l.length ≤ 100000) : ∃ p, M_slices_BinarySearch_int_int F l v = some (p, decide (v ∈ l)) := by
  unfold M_slices_BinarySearch_int_int
  exact search_l hl hm F 0 l.length (by omega) (by omega) (Nat.le_refl _) (by simp) (by simp)
def tb : Bool → Int → List Bool → List Int
  | _, _, [] => []
  | c, m, b :: bs => if b != c then m :: tb b 1 bs else tb c (m + 1) bs
theorem tb_same (c : Bool) (m : Int) (bs : List Bool) : tb c m (c :: bs) = tb c (m + 1) bs := by
  show (if c != c then _ else _) = _
  rw [if_neg (by simp)]
theorem tb_turn {c b : Bool} (h : b ≠ c) (m : Int) (bs : List Bool) : tb c m (b :: bs) = m :: tb b 1 bs := by
  show (if b != c then _ else _) = _
  rw [if_pos (by simpa using h)]
theorem tb_len : ∀ (c : Bool) (m : Int) (bs : List Bool), (tb c m bs).length ≤ bs.length
  | _, _, [] => Nat.le_refl _
  | c, m, b :: bs => by
    by_cases h : b = c
    · subst h
      rw [tb_same]
      have := tb_len b (m + 1) bs
      rw [List.length_cons]; omega
    · rw [tb_turn h, List.length_cons, List.length_cons]
      have := tb_len b 1 bs
      omega
def hasB (l : List Int) (x : Int) : Bool := decide (x ∈ l)
def tbs (fr0 l : List Int) : List Int := tb true 0 (fr0.map (hasB l))
def rst (fr0 l : List Int) : List Int := l.filter fun x => !hasB fr0 x
theorem see_eq {F : Nat} {o : List Int} {c b : Bool} {m : Int} (ho : o.length ≤ 1000000) (hm : 0 ≤ m ∧ m ≤ 1000000) : M_parts_turner_see F o c m b = some (if b != c then (o ++ [m], b, 1) else (o, c, m + 1)) := by
  unfold M_parts_turner_see
  by_cases h : b = c
  · subst h
    rw [if_neg (by simp), if_neg (by simp)]
    unfold M_parts_turner_see_j1
    rw [iadd_i64 (by omega) (by omega)]
  · rw [if_pos (by simpa using h), if_pos (by simpa using h), app_eq (by simp; omega)]
    rfl
theorem praw_rest {F : Nat} (hF : 200000 ≤ F) {fr0 l o : List Int} (hf : fr0.Pairwise (· < ·)) (hfm : fr0.length ≤ 300) (hm : l.length ≤ 300) : ∀ (k i : Nat) (r : List Int), l.length < k + i → i ≤ l.length → r.length ≤ i →
    M_parts_Raw_l10 F fr0 l o k (r, (i : Int)) = some (o, r ++ rst fr0 (l.drop i))
  | 0, _, _, _, _, _ => by omega
  | k + 1, i, r, h, hi, hr => by
    show M_parts_Raw_b10 F fr0 l o (M_parts_Raw_l10 F fr0 l o k) r (i : Int) = _
    unfold M_parts_Raw_b10
    by_cases hlt : i < l.length
    · obtain ⟨p, hp⟩ := search_eq hF (v := l[i]) hf (by omega)
      rw [if_pos (by simp; omega), idx_nat, List.getElem?_eq_getElem hlt, List.drop_eq_getElem_cons hlt]
      simp only [Option.bind_some]
      rw [hp]
      simp only [Option.bind_some]
      unfold M_parts_Raw_j11 rst
      rw [List.filter_cons, iadd1_n (by omega)]
      by_cases hc : l[i] ∈ fr0
      · rw [if_neg (by simp [hc]), if_neg (by simp [hasB, hc])]
        exact praw_rest hF hf hfm hm k (i + 1) r (by omega) (by omega) (by omega)
      · rw [if_pos (by simp [hc]), if_pos (by simp [hasB, hc]), app_eq (by simp; omega)]
        simp only [Option.bind_some]
        rw [praw_rest hF hf hfm hm k (i + 1) _ (by omega) (by omega) (by simp; omega), List.append_assoc]
        rfl
    · rw [if_neg (by simp; omega), List.drop_eq_nil_of_le (by omega)]
      simp [M_parts_Raw_j7, rst]
theorem praw_l {F : Nat} (hF : 200000 ≤ F) {fr0 l : List Int} (hf : fr0.Pairwise (· < ·)) (hl : l.Pairwise (· < ·)) (hfm : fr0.length ≤ 300) (hm : l.length ≤ 300) : ∀ (k i : Nat) (o : List Int) (c : Bool) (m : Int), fr0.length < k + i → i ≤ fr0.length → o.length ≤ i → 0 ≤ m ∧ m ≤ i →
    M_parts_Raw_l12 F fr0 l k ((i : Int), o, c, m) = some (o ++ tb c m ((fr0.drop i).map (hasB l)), rst fr0 l)
  | 0, _, _, _, _, _, _, _, _ => by omega
  | k + 1, i, o, c, m, h, hi, ho, hmm => by
    show M_parts_Raw_b12 F fr0 l (M_parts_Raw_l12 F fr0 l k) (i : Int) o c m = _
    unfold M_parts_Raw_b12
    by_cases hlt : i < fr0.length
    · obtain ⟨p, hp⟩ := search_eq hF (v := fr0[i]) hl (by omega)
      rw [if_pos (by simp; omega), idx_nat, List.getElem?_eq_getElem hlt, List.drop_eq_getElem_cons hlt, List.map_cons]
      simp only [Option.bind_some]
      rw [hp]
      simp only [Option.bind_some]
      rw [see_eq (by omega) (by omega)]
      simp only [Option.bind_some]
      rw [iadd1_n (by omega)]
      have hb : hasB l fr0[i] = decide (fr0[i] ∈ l) := rfl
      rw [← hb]
      by_cases hc : hasB l fr0[i] = c
      · rw [if_neg (by simp [hc])]
        simp only
        rw [praw_l hF hf hl hfm hm k (i + 1) o c (m + 1) (by omega) (by omega) (by omega) (by omega), hc, tb_same]
      · rw [if_pos (by simpa using hc)]
        simp only
        rw [praw_l hF hf hl hfm hm k (i + 1) _ _ 1 (by omega) (by omega) (by simp; omega) (by omega), tb_turn hc, List.append_assoc]
        rfl
    · rw [if_neg (by simp; omega), List.drop_eq_nil_of_le (by omega)]
      unfold M_parts_Raw_j2
      have := praw_rest hF (o := o) hf hfm hm F 0 [] (by omega) (by omega) (by simp)
      rw [List.drop_zero, List.nil_append] at this
      rw [show ((0 : Nat) : Int) = 0 from rfl] at this
      rw [this]
      simp [tb]
def blE (fr0 l : List Int) : Int := if gkc fr0 ≠ 0 then gkc fr0 else gkc l
def bls (fr0 l : List Int) : List Int × List Int × Int := if blE fr0 l ≠ 0 then ([], [], blE fr0 l) else (tbs fr0 l, rst fr0 l, 0)
theorem blE_ok {fr0 l : List Int} : blE fr0 l = 0 ↔ (fr0.length ≤ 300 ∧ Ris (-1) fr0) ∧ l.length ≤ 300 ∧ Ris (-1) l := by
  unfold blE
  rw [← gkc_ris, ← gkc_ris]
  by_cases h : gkc fr0 = 0
  · rw [if_neg (by simp [h])]; simp [h]
  · rw [if_pos h]; simp [h]
theorem bls_ok {fr0 l : List Int} (h : blE fr0 l = 0) : bls fr0 l = (tbs fr0 l, rst fr0 l, 0) := by unfold bls; rw [if_neg (by simp [h])]
theorem bls_bad {fr0 l : List Int} (h : blE fr0 l ≠ 0) : bls fr0 l = ([], [], blE fr0 l) := by unfold bls; rw [if_pos h]
theorem blocks_eq {F : Nat} (hF : 200000 ≤ F) {fr0 l : List Int} : M_parts_Blocks F fr0 l = some (bls fr0 l) := by
  unfold M_parts_Blocks
  rw [gCheck_eq (by omega), gCheck_eq (by omega)]
  simp only [Option.bind_some]
  have hj : M_parts_Blocks_j1 F fr0 l (blE fr0 l) = some (bls fr0 l) := by
    unfold M_parts_Blocks_j1
    by_cases h : blE fr0 l = 0
    · obtain ⟨⟨h1, h2⟩, h3, h4⟩ := blE_ok.1 h
      have := praw_l hF (ris_pw h2).1 (ris_pw h4).1 h1 h3 F 0 [] true 0 (by omega) (by omega) (by simp) (by omega)
      rw [List.drop_zero, List.nil_append] at this
      rw [if_neg (by simp [h]), bls_ok h]
      unfold M_parts_Raw
      rw [show ((0 : Nat) : Int) = 0 from rfl] at this
      rw [this]
      rfl
    · rw [if_pos (by simpa using h), bls_bad h]
  by_cases h : gkc fr0 = 0
  · have e : blE fr0 l = gkc l := by unfold blE; rw [if_neg (by simp [h])]
    rw [if_pos (by simpa using h), ← e]; exact hj
  · have e : blE fr0 l = gkc fr0 := by unfold blE; rw [if_pos h]
    rw [if_neg (by simpa using h)]
    rw [e] at hj; exact hj
theorem rpb_rest {F : Nat} (hF : 200000 ≤ F) {fr0 l o : List Int} (hfm : fr0.length ≤ 300) (hm : l.length ≤ 300) : ∀ (k i : Nat) (r : List Int), l.length < k + i → i ≤ l.length → r.length ≤ i →
    M_R_PartsBlocks_l22 F fr0 l o k (r, (i : Int)) = some (o, r ++ rst fr0 (l.drop i))
  | 0, _, _, _, _, _ => by omega
  | k + 1, i, r, h, hi, hr => by
    show M_R_PartsBlocks_b22 F fr0 l o (M_R_PartsBlocks_l22 F fr0 l o k) r (i : Int) = _
    unfold M_R_PartsBlocks_b22
    by_cases hlt : i < l.length
    · rw [if_pos (by simp; omega), idx_nat, List.getElem?_eq_getElem hlt, List.drop_eq_getElem_cons hlt]
      simp only [Option.bind_some]
      rw [hasInt_eq (by omega) (by omega)]
      simp only [Option.bind_some]
      unfold M_R_PartsBlocks_j23 rst
      rw [List.filter_cons, iadd1_n (by omega)]
      by_cases hc : l[i] ∈ fr0
      · rw [if_neg (by simp [hc]), if_neg (by simp [hasB, hc])]
        exact rpb_rest hF hfm hm k (i + 1) r (by omega) (by omega) (by omega)
      · rw [if_pos (by simp [hc]), if_pos (by simp [hasB, hc]), app_eq (by simp; omega)]
        simp only [Option.bind_some]
        rw [rpb_rest hF hfm hm k (i + 1) _ (by omega) (by omega) (by simp; omega), List.append_assoc]
        rfl
    · rw [if_neg (by simp; omega), List.drop_eq_nil_of_le (by omega)]
      simp [M_R_PartsBlocks_j19, rst]
theorem rpb_l {F : Nat} (hF : 200000 ≤ F) {fr0 l : List Int} (hfm : fr0.length ≤ 300) (hm : l.length ≤ 300) : ∀ (k i : Nat) (o : List Int) (b : Nat), fr0.length < k + i → i ≤ fr0.length → o.length ≤ i → b ≤ i →
    M_R_PartsBlocks_l33 F fr0 l k (o, (b : Int), (i : Int)) = some (o ++ tb (if 0 < i then hasB l (fr0.getD (i - 1) 0) else true) ((i : Int) - b) ((fr0.drop i).map (hasB l)), rst fr0 l)
  | 0, _, _, _, _, _, _, _ => by omega
  | k + 1, i, o, b, h, hi, ho, hb => by
    show M_R_PartsBlocks_b33 F fr0 l (M_R_PartsBlocks_l33 F fr0 l k) o (b : Int) (i : Int) = _
    unfold M_R_PartsBlocks_b33
    by_cases hlt : i < fr0.length
    · have hrec := fun o b h1 h2 => rpb_l hF hfm hm (l := l) k (i + 1) o b (by omega) (by omega) h1 h2
      rw [if_pos (show 0 < i + 1 by omega)] at hrec
      have hg : fr0.getD (i + 1 - 1) 0 = fr0[i] := by simp [List.getD, List.getElem?_eq_getElem hlt]
      rw [hg] at hrec
      have hj : ∀ w : Bool, M_R_PartsBlocks_j36 F (M_R_PartsBlocks_l33 F fr0 l k) fr0 l o (b : Int) (i : Int) w = some (o ++ tb w ((i : Int) - b) ((fr0.drop i).map (hasB l)), rst fr0 l) := by
        intro w
        unfold M_R_PartsBlocks_j36
        rw [idx_nat, List.getElem?_eq_getElem hlt]
        simp only [Option.bind_some]
        rw [hasInt_eq (by omega) (by omega)]
        simp only [Option.bind_some]
        have hb' : decide (fr0[i] ∈ l) = hasB l fr0[i] := rfl
        rw [hb', List.drop_eq_getElem_cons hlt, List.map_cons]
        unfold M_R_PartsBlocks_j35
        by_cases hc : hasB l fr0[i] = w
        · rw [if_neg (by simp [hc]), iadd1_n (by omega), hrec o b (by omega) (by omega), hc, tb_same]
          congr 4; omega
        · rw [if_pos (by simpa using hc), isub_n (by omega) (by omega), app_eq (by simp; omega)]
          simp only [Option.bind_some]
          rw [iadd1_n (by omega), hrec _ i (by simp; omega) (by omega), tb_turn hc, List.append_assoc]
          rw [show ((i + 1 : Nat) : Int) - (i : Int) = 1 from by omega, show ((i - b : Nat) : Int) = (i : Int) - b from by omega]
          rfl
      rw [if_pos (by simp; omega)]
      by_cases h0 : 0 < i
      · have hp : i - 1 < fr0.length := by omega
        rw [if_pos (by simp; omega), isub1_n (by omega) (by omega), idx_nat, List.getElem?_eq_getElem hp]
        simp only [Option.bind_some]
        rw [hasInt_eq (by omega) (by omega)]
        simp only [Option.bind_some]
        rw [hj, if_pos h0]
        have : fr0.getD (i - 1) 0 = fr0[i - 1] := by simp [List.getD, List.getElem?_eq_getElem hp]
        rw [this]; rfl
      · rw [if_neg (by simp; omega), hj, if_neg h0]
    · rw [if_neg (by simp; omega), List.drop_eq_nil_of_le (by omega)]
      unfold M_R_PartsBlocks_j14
      have := rpb_rest hF (fr0 := fr0) (o := o) hfm hm F 0 [] (by omega) (by omega) (by simp)
      rw [List.drop_zero, List.nil_append, show ((0 : Nat) : Int) = 0 from rfl] at this
      rw [this]
      simp [tb]
theorem rblocks_eq {F : Nat} (hF : 200000 ≤ F) {fr0 l : List Int} (hfm : fr0.length ≤ 300) (hm : l.length ≤ 300) : M_R_PartsBlocks F fr0 l = some (tbs fr0 l, rst fr0 l) := by
  unfold M_R_PartsBlocks
  have := rpb_l hF hfm hm F 0 [] 0 (by omega) (by omega) (by simp) (by omega)
  rw [List.drop_zero, List.nil_append, if_neg (by omega), show ((0 : Nat) : Int) = 0 from rfl] at this
  exact this
theorem merged_l {F : Nat} {l r : List Int} (hl : l.Pairwise (· < ·)) (hr : r.Pairwise (· < ·)) (hm : l.length + r.length ≤ 1000000) : ∀ (k i j : Nat) (o : List Int), l.length + r.length < k + (i + j) → i ≤ l.length → j ≤ r.length → o.length + (l.length - i + (r.length - j)) ≤ 2000000 →
    M_R_Merged_l18 F l r k (o, (i : Int), (j : Int)) = some (mrgO o (l.drop i) (r.drop j))
  | 0, _, _, _, _, _, _, _ => by omega
  | k + 1, i, j, o, h, hi, hj, ho => by
    show M_R_Merged_b18 F l r (M_R_Merged_l18 F l r k) o (i : Int) (j : Int) = _
    have hpl : i < l.length → ∀ z ∈ l.drop (i + 1), l[i]! < z := by
      intro hlt
      rw [getElem!_pos l i hlt]
      have := hl.sublist (List.drop_sublist i l)
      rw [List.drop_eq_getElem_cons hlt] at this
      exact (List.pairwise_cons.1 this).1
    have hpr : j < r.length → ∀ z ∈ r.drop (j + 1), r[j]! < z := by
      intro hlt
      rw [getElem!_pos r j hlt]
      have := hr.sublist (List.drop_sublist j r)
      rw [List.drop_eq_getElem_cons hlt] at this
      exact (List.pairwise_cons.1 this).1
    have stepL : i < l.length → (∀ z ∈ r.drop j, l[i]! < z) → M_R_Merged_j21 F (M_R_Merged_l18 F l r k) l r o (i : Int) (j : Int) true = some (mrgO o (l.drop i) (r.drop j)) := by
      intro hlt hz
      unfold M_R_Merged_j21
      rw [if_pos rfl, idx_nat, List.getElem?_eq_getElem hlt]
      simp only [Option.bind_some]
      rw [app_eq (by simp; omega), iadd1_n (by omega)]
      simp only [Option.bind_some]
      rw [merged_l hl hr hm k (i + 1) j _ (by omega) (by omega) hj (by simp; omega), List.drop_eq_getElem_cons hlt, mrgO_l]
      · have := hpl hlt; rwa [getElem!_pos l i hlt] at this
      · rwa [getElem!_pos l i hlt] at hz
    have stepR : j < r.length → (∀ z ∈ l.drop i, r[j]! < z) → M_R_Merged_j21 F (M_R_Merged_l18 F l r k) l r o (i : Int) (j : Int) false = some (mrgO o (l.drop i) (r.drop j)) := by
      intro hlt hz
      unfold M_R_Merged_j21
      rw [if_neg (by simp), idx_nat, List.getElem?_eq_getElem hlt]
      simp only [Option.bind_some]
      rw [app_eq (by simp; omega), iadd1_n (by omega)]
      simp only [Option.bind_some]
      rw [merged_l hl hr hm k i (j + 1) _ (by omega) hi (by omega) (by simp; omega), List.drop_eq_getElem_cons hlt, mrgO_r]
      · rwa [getElem!_pos r j hlt] at hz
      · have := hpr hlt; rwa [getElem!_pos r j hlt] at this
    unfold M_R_Merged_b18
    by_cases h1 : i < l.length
    · have d1 : decide ((i : Int) < (l.length : Int)) = true := by simp; omega
      rw [d1, Bool.true_or, if_pos rfl, if_pos rfl]
      by_cases h2 : j < r.length
      · have d2 : decide ((j : Int) < (r.length : Int)) = true := by simp; omega
        rw [d2, if_pos rfl, idx_nat, idx_nat, List.getElem?_eq_getElem h1, List.getElem?_eq_getElem h2]
        simp only [Option.bind_some]
        unfold M_R_Merged_j20
        by_cases he : l[i] = r[j]
        · rw [if_pos (by simpa using he), List.drop_eq_getElem_cons h1, List.drop_eq_getElem_cons h2, he, mrgO_eq]
        · rw [if_neg (by simpa using he), if_neg (by simp; omega), d1, if_pos rfl, idx_nat, idx_nat, List.getElem?_eq_getElem h1, List.getElem?_eq_getElem h2]
          simp only [Option.bind_some]
          by_cases hlt : l[i] < r[j]
          · rw [decide_eq_true hlt]
            refine stepL h1 fun z hz => ?_
            rw [getElem!_pos l i h1]
            rw [List.drop_eq_getElem_cons h2] at hz
            rcases List.mem_cons.1 hz with rfl | hz
            · exact hlt
            · have := hpr h2 z hz
              rw [getElem!_pos r j h2] at this
              omega
          · rw [decide_eq_false hlt]
            refine stepR h2 fun z hz => ?_
            rw [getElem!_pos r j h2]
            rw [List.drop_eq_getElem_cons h1] at hz
            rcases List.mem_cons.1 hz with rfl | hz
            · omega
            · have := hpl h1 z hz
              rw [getElem!_pos l i h1] at this
              omega
      · have d2 : decide ((j : Int) < (r.length : Int)) = false := by simp; omega
        rw [d2, if_neg (by simp)]
        unfold M_R_Merged_j20
        rw [if_neg (by simp), if_pos (by simp; omega)]
        exact stepL h1 (by rw [List.drop_eq_nil_of_le (by omega)]; simp)
    · have d1 : decide ((i : Int) < (l.length : Int)) = false := by simp; omega
      rw [d1, Bool.false_or]
      by_cases h2 : j < r.length
      · have d2 : decide ((j : Int) < (r.length : Int)) = true := by simp; omega
        rw [d2, if_pos rfl, if_neg (by simp)]
        unfold M_R_Merged_j20
        rw [if_neg (by simp), if_neg (by simp; omega), d1, if_neg (by simp)]
        exact stepR h2 (by rw [List.drop_eq_nil_of_le (by omega)]; simp)
      · have d2 : decide ((j : Int) < (r.length : Int)) = false := by simp; omega
        rw [d2, if_neg (by simp), List.drop_eq_nil_of_le (by omega), List.drop_eq_nil_of_le (by omega)]
        unfold M_R_Merged_j11 mrgO
        rw [if_neg (show ¬ cmn [] [] = true by simp [cmn])]
        by_cases h3 : 300 < o.length
        · rw [if_pos (by simp; omega), if_pos (by simpa using h3)]
        · rw [if_neg (by simp; omega), if_neg (by simpa using h3)]
          simp [srt]
def okB : Bool → List Int → Bool
  | _, [] => true
  | f, n :: bs => decide (0 ≤ n) && (f || decide (1 ≤ n)) && okB false bs
def bsum : List Int → Int
  | [] => 0
  | n :: bs => n + bsum bs
theorem okB_cons (f : Bool) (n : Int) (bs : List Int) : okB f (n :: bs) = (decide (0 ≤ n) && (f || decide (1 ≤ n)) && okB false bs) := rfl
theorem okB_nn : ∀ {f : Bool} {bs : List Int}, okB f bs = true → (∀ n ∈ bs, 0 ≤ n) ∧ 0 ≤ bsum bs
  | _, [], _ => by simp [bsum]
  | f, n :: bs, h => by
    unfold okB at h
    simp only [Bool.and_eq_true, decide_eq_true_eq] at h
    obtain ⟨h1, h2⟩ := okB_nn h.2
    refine ⟨fun m hm => ?_, ?_⟩
    · rcases List.mem_cons.1 hm with rfl | hm
      · exact h.1.1
      · exact h1 m hm
    · unfold bsum; have := h.1.1; omega
/-- What is wrong with blocks, when some have been added already. -/
def ccE (L : Int) (f : Bool) (t : Int) (bs : List Int) : Int := if okB f bs then (if L < t + bsum bs then 8 else 0) else 3
theorem ccE_nil (L : Int) (f : Bool) (t : Int) : ccE L f t [] = if L < t then 8 else 0 := by simp [ccE, okB, bsum]
theorem ccE_bad {L : Int} {f : Bool} {t n : Int} {bs : List Int} (h : n < 0 ∨ (n < 1 ∧ f = false)) : ccE L f t (n :: bs) = 3 := by
  unfold ccE okB
  rw [if_neg]
  simp only [Bool.and_eq_true, Bool.or_eq_true, decide_eq_true_eq]
  rcases h with h | ⟨h, rfl⟩
  · omega
  · simp; omega
theorem ccE_ok {L : Int} {f : Bool} {t n : Int} {bs : List Int} (h : ¬ (n < 0 ∨ (n < 1 ∧ f = false))) : ccE L f t (n :: bs) = ccE L false (t + n) bs := by
  have e : okB f (n :: bs) = okB false bs := by
    rw [okB_cons]
    cases f
    · have h1 : 0 ≤ n := by omega
      have h2 : 1 ≤ n := by
        rcases Int.lt_or_le n 1 with h3 | h3
        · exact absurd (.inr ⟨h3, rfl⟩) h
        · exact h3
      simp [h1, h2]
    · have h1 : 0 ≤ n := by omega
      simp [h1]
  unfold ccE
  rw [e]
  have : t + bsum (n :: bs) = t + n + bsum bs := by show t + (n + bsum bs) = _; omega
  rw [this]
theorem ccE_big {L : Int} {f : Bool} {t t' : Int} {bs : List Int} (h : L < t) (h' : L < t') : ccE L f t bs = ccE L f t' bs := by
  unfold ccE
  by_cases ho : okB f bs = true
  · have := (okB_nn ho).2
    rw [if_pos ho, if_pos ho, if_pos (by omega), if_pos (by omega)]
  · rw [if_neg ho, if_neg ho]
theorem pcheck_l {F : Nat} {bs : List Int} {L : Nat} (hL : L ≤ 300) (hb : bs.length ≤ 301) : ∀ (k i : Nat) (s : Int), bs.length < k + i → i ≤ bs.length → 0 ≤ s ∧ s ≤ L + 1 →
    M_parts_check_l23 F bs (L : Int) k (s, (i : Int)) = some (ccE L (decide (i = 0)) s (bs.drop i))
  | 0, _, _, _, _, _ => by omega
  | k + 1, i, s, h, hi, hs => by
    show M_parts_check_b23 F bs (L : Int) (M_parts_check_l23 F bs (L : Int) k) s (i : Int) = _
    unfold M_parts_check_b23
    by_cases hlt : i < bs.length
    · rw [if_pos (by simp; omega), idx_nat, List.getElem?_eq_getElem hlt, List.drop_eq_getElem_cons hlt]
      simp only [Option.bind_some]
      have hrec := fun s hs => pcheck_l (F := F) hL hb k (i + 1) s (by omega) (by omega) hs
      rw [decide_eq_false (show ¬ i + 1 = 0 by omega)] at hrec
      generalize bs[i] = n at hrec ⊢
      generalize bs.drop (i + 1) = R at hrec ⊢
      unfold M_parts_check_j27
      by_cases h1 : n < 0
      · rw [if_pos (by simpa using h1), if_pos rfl, ccE_bad (.inl h1)]
      · rw [if_neg (by simpa using h1)]
        by_cases h2 : n < 1 ∧ 0 < i
        · rw [if_pos (by simp; omega), ccE_bad (.inr ⟨h2.1, decide_eq_false (by omega)⟩)]
        · have h3 : ¬ (n < 0 ∨ (n < 1 ∧ decide (i = 0) = false)) := by
            rintro (h | ⟨h, hd⟩)
            · exact h1 h
            · have := of_decide_eq_false hd; omega
          rw [if_neg (by simp; omega), ccE_ok h3]
          unfold lett
          have em : imin n (iadd .i64 (L : Int) 1) = if n ≤ L then n else (L : Int) + 1 := by
            rw [iadd_i64 (by omega) (by omega)]
            unfold imin
            by_cases hn : n ≤ L
            · rw [if_pos hn, if_neg (by omega)]
            · rw [if_neg hn]
              by_cases hn2 : (L : Int) + 1 < n
              · rw [if_pos hn2]
              · rw [if_neg hn2]; omega
          rw [em, iadd1_n (by omega)]
          by_cases hn : n ≤ L
          · rw [if_pos hn, iadd_i64 (a := s) (by omega) (by omega), iadd_i64 (by omega) (by omega)]
            unfold imin
            by_cases hc : (L : Int) + 1 < s + n
            · rw [if_pos hc]
              simp only
              rw [hrec _ (by omega), ccE_big (t' := s + n) (by omega) (by omega)]
            · rw [if_neg hc]
              simp only
              rw [hrec _ (by omega)]
          · rw [if_neg hn, iadd_i64 (a := s) (by omega) (by omega), iadd_i64 (by omega) (by omega)]
            unfold imin
            by_cases hc : (L : Int) + 1 < s + (L + 1)
            · rw [if_pos hc]
              simp only
              rw [hrec _ (by omega), ccE_big (t' := s + n) (by omega) (by omega)]
            · rw [if_neg hc]
              simp only
              rw [hrec _ (by omega), ccE_big (t' := s + n) (by omega) (by omega)]
    · rw [if_neg (by simp; omega), List.drop_eq_nil_of_le (by omega), ccE_nil]
      unfold M_parts_check_j14
      by_cases h8 : (L : Int) < s
      · rw [if_pos (by simpa using h8), if_pos h8]
      · rw [if_neg (by simpa using h8), if_neg h8]
def bkE (L : Nat) (bs : List Int) : Int := if L + 1 < bs.length then 2 else ccE L true 0 bs
theorem pcheck_eq {F : Nat} (hF : 200000 ≤ F) {bs : List Int} {L : Nat} (hL : L ≤ 300) : M_parts_check F bs (L : Int) = some (bkE L bs) := by
  unfold M_parts_check bkE
  rw [iadd1_n (by omega)]
  by_cases h : L + 1 < bs.length
  · rw [if_pos (by simp; omega), if_pos h]
  · rw [if_neg (by simp; omega), if_neg h]
    exact pcheck_l hL (by omega) F 0 0 (by omega) (by omega) (by omega)
theorem bkE_ok {L : Nat} {bs : List Int} : bkE L bs = 0 ↔ bs.length ≤ L + 1 ∧ okB true bs = true ∧ bsum bs ≤ L := by
  unfold bkE ccE
  by_cases h : L + 1 < bs.length
  · rw [if_pos h]; simp; omega
  · rw [if_neg h]
    by_cases h2 : okB true bs = true
    · rw [if_pos h2]
      by_cases h3 : (L : Int) < 0 + bsum bs
      · rw [if_pos h3]; simp; omega
      · rw [if_neg h3]; simp [h2]; omega
    · rw [if_neg h2]; simp [h2]
def cp : List Int → List Int → Bool → List Int
  | l, [], c => if c then l else []
  | l, n :: bs, c => (if c then l.take n.toNat else []) ++ cp (l.drop n.toNat) bs (!c)
theorem cp_sub : ∀ (l bs : List Int) (c : Bool), (cp l bs c).Sublist l
  | l, [], c => by unfold cp; split; exact List.Sublist.refl _; exact List.nil_sublist _
  | l, n :: bs, c => by
    unfold cp
    have h := cp_sub (l.drop n.toNat) bs (!c)
    split
    · have := (List.Sublist.refl (l.take n.toNat)).append h
      rwa [List.take_append_drop] at this
    · rw [List.nil_append]; exact h.trans (List.drop_sublist _ _)
theorem copied_l {F : Nat} {bs : List Int} (hbm : bs.length ≤ 1000) : ∀ (k i : Nat) (l o : List Int) (c : Bool), bs.length < k + i → i ≤ bs.length → l.length ≤ 300 → o.length ≤ 300 * i → (∀ n ∈ bs.drop i, 0 ≤ n) → bsum (bs.drop i) ≤ l.length →
    M_parts_copied_l10 F bs k (l, o, c, (i : Int)) = some (o ++ cp l (bs.drop i) c)
  | 0, _, _, _, _, _, _, _, _, _, _ => by omega
  | k + 1, i, l, o, c, h, hi, hl, ho, hn, hs => by
    show M_parts_copied_b10 F bs (M_parts_copied_l10 F bs k) l o c (i : Int) = _
    unfold M_parts_copied_b10
    by_cases hlt : i < bs.length
    · rw [List.drop_eq_getElem_cons hlt] at hn hs ⊢
      have hrec := fun l o c h1 h2 h3 => copied_l (F := F) hbm k (i + 1) l o c (by omega) (by omega) h1 h2 (fun n hn' => hn n (List.mem_cons_of_mem _ hn')) h3
      have hg : idx bs (i : Int) = some bs[i] := by rw [idx_nat, List.getElem?_eq_getElem hlt]
      rw [if_pos (by simp; omega), hg]
      have h0 := hn bs[i] (List.mem_cons_self ..)
      have hsum : 0 ≤ bsum (bs.drop (i + 1)) := by
        have : ∀ (R : List Int), (∀ n ∈ R, 0 ≤ n) → 0 ≤ bsum R := by
          intro R
          induction R with
          | nil => intro _; simp [bsum]
          | cons x R ih => intro h; unfold bsum; have := h x (by simp); have := ih (fun n hn => h n (by simp [hn])); omega
        exact this _ fun n hn' => hn n (List.mem_cons_of_mem _ hn')
      unfold bsum at hs
      generalize bs[i] = n at hrec h0 hs ⊢
      obtain ⟨m, rfl⟩ := Int.eq_ofNat_of_zero_le h0
      have hml : m ≤ l.length := by omega
      have s1 := sub_n (l := l) (i := 0) (j := m) (by omega) hml
      have s2 := sub_n (l := l) (i := m) (j := l.length) hml (Nat.le_refl _)
      rw [List.take_length] at s2
      rw [show ((0 : Nat) : Int) = 0 from rfl, List.drop_zero] at s1
      simp only [Option.bind_some]
      unfold M_parts_copied_j12 cp
      simp only [Int.toNat_natCast]
      cases c
      · rw [if_neg (by simp), if_neg (by simp), s2, iadd1_n (by omega)]
        simp only [Option.bind_some, List.nil_append]
        exact hrec _ _ _ (by simp; omega) (by omega) (by rw [List.length_drop]; omega)
      · rw [if_pos rfl, if_pos rfl, s1]
        simp only [Option.bind_some]
        rw [app_eq (by simp; omega), s2, iadd1_n (by omega)]
        simp only [Option.bind_some]
        rw [hrec _ _ _ (by simp; omega) (by simp; omega) (by rw [List.length_drop]; omega), List.append_assoc]
    · rw [if_neg (by simp; omega), List.drop_eq_nil_of_le (by omega)]
      unfold M_parts_copied_j6 M_parts_copied_j7 cp
      cases c
      · simp
      · rw [if_pos rfl, app_eq (by omega)]; simp
def cpE (l bs : List Int) : Int := if gkc l ≠ 0 then gkc l else bkE l.length bs
def cpy (l bs : List Int) : List Int × Int := if cpE l bs ≠ 0 then ([], cpE l bs) else (cp l bs true, 0)
theorem cpE_ok {l bs : List Int} : cpE l bs = 0 ↔ (l.length ≤ 300 ∧ Ris (-1) l) ∧ bs.length ≤ l.length + 1 ∧ okB true bs = true ∧ bsum bs ≤ l.length := by
  unfold cpE
  rw [← gkc_ris, ← bkE_ok]
  by_cases h : gkc l = 0
  · rw [if_neg (by simp [h])]; simp [h]
  · rw [if_pos h]; simp [h]
theorem cpy_ok {l bs : List Int} (h : cpE l bs = 0) : cpy l bs = (cp l bs true, 0) := by unfold cpy; rw [if_neg (by simp [h])]
theorem cpy_bad {l bs : List Int} (h : cpE l bs ≠ 0) : cpy l bs = ([], cpE l bs) := by unfold cpy; rw [if_pos h]
theorem gkc_len {l : List Int} (h : gkc l = 0) : l.length ≤ 300 := (gkc_ris.1 h).1
theorem copy_eq {F : Nat} (hF : 200000 ≤ F) {l bs : List Int} : M_parts_Copy F l bs = some (cpy l bs) := by
  unfold M_parts_Copy
  rw [gCheck_eq (by omega)]
  simp only [Option.bind_some]
  have hj : M_parts_Copy_j1 F l bs (cpE l bs) = some (cpy l bs) := by
    unfold M_parts_Copy_j1
    by_cases h : cpE l bs = 0
    · obtain ⟨⟨h1, h2⟩, h3, h4, h5⟩ := cpE_ok.1 h
      have := copied_l (F := F) (bs := bs) (by omega) F 0 l [] true (by omega) (by omega) h1 (by simp) (by rw [List.drop_zero]; exact (okB_nn h4).1) (by rw [List.drop_zero]; exact h5)
      rw [List.drop_zero, List.nil_append, show ((0 : Nat) : Int) = 0 from rfl] at this
      rw [if_neg (by simp [h]), cpy_ok h]
      unfold M_parts_copied
      rw [this]; rfl
    · rw [if_pos (by simpa using h), cpy_bad h]
  by_cases h : gkc l = 0
  · have e : cpE l bs = bkE l.length bs := by unfold cpE; rw [if_neg (by simp [h])]
    rw [if_pos (by simpa using h), pcheck_eq hF (gkc_len h)]
    simp only [Option.bind_some]
    rw [← e]; exact hj
  · have e : cpE l bs = gkc l := by unfold cpE; rw [if_pos h]
    rw [if_neg (by simpa using h)]
    rw [e] at hj; exact hj
def pjn (l bs rest : List Int) : List Int × Int := if cpE l bs ≠ 0 then ([], cpE l bs) else if gkc rest ≠ 0 then ([], gkc rest) else mrg (cp l bs true) rest
theorem pjn_1 {l bs rest : List Int} (h : cpE l bs ≠ 0) : pjn l bs rest = ([], cpE l bs) := by unfold pjn; rw [if_pos h]
theorem pjn_2 {l bs rest : List Int} (h : cpE l bs = 0) (h2 : gkc rest ≠ 0) : pjn l bs rest = ([], gkc rest) := by unfold pjn; rw [if_neg (by simp [h]), if_pos h2]
theorem pjn_3 {l bs rest : List Int} (h : cpE l bs = 0) (h2 : gkc rest = 0) : pjn l bs rest = mrg (cp l bs true) rest := by unfold pjn; rw [if_neg (by simp [h]), if_neg (by simp [h2])]
theorem join_eq {F : Nat} (hF : 200000 ≤ F) {l bs rest : List Int} : M_parts_Join F l bs rest = some (pjn l bs rest) := by
  unfold M_parts_Join
  rw [copy_eq hF, gCheck_eq (by omega)]
  simp only [Option.bind_some]
  by_cases h : cpE l bs = 0
  · rw [cpy_ok h, if_pos (by simp)]
    unfold M_parts_Join_j1
    by_cases h2 : gkc rest = 0
    · rw [pjn_3 h h2, if_neg (by simp [h2])]
      obtain ⟨⟨k1, k2⟩, _⟩ := cpE_ok.1 h
      have k4 := gkc_ris.1 h2
      have k5 := (cp_sub l bs true).length_le
      exact joined_eq (by omega) ((ris_pw k2).1.sublist (cp_sub l bs true)) (ris_pw k4.2).1 (by show (cp l bs true).length + rest.length ≤ _; omega)
    · rw [pjn_2 h h2, if_pos (by simpa using h2)]
  · rw [cpy_bad h, pjn_1 h, if_neg (by simpa using h)]
    unfold M_parts_Join_j1
    rw [if_pos (by simpa using h)]
def bo : List Int → Int → Nat
  | [], _ => 0
  | n :: bs, i => if n ≤ i then 1 + bo bs (i - n) else 0
theorem bo_l {F : Nat} {rec181 : (List Int × Int) → Option (List Int × Int)} {l bs o : List Int} {i : Nat} (hi : i ≤ 1000) (hbm : bs.length ≤ 1000) (hn : ∀ n ∈ bs, 0 ≤ n ∧ n ≤ 1000) : ∀ (k b : Nat) (e : Int), bs.length < k + b → b ≤ bs.length → 0 ≤ e ∧ e ≤ i →
    M_R_PartsCopy_l210 F rec181 l bs o (i : Int) k ((b : Int), e) = M_R_PartsCopy_j205 F rec181 l o (i : Int) ((b + bo (bs.drop b) (i - e) : Nat) : Int)
  | 0, _, _, _, _, _ => by omega
  | k + 1, b, e, h, hb, he => by
    show M_R_PartsCopy_b210 F rec181 l bs o (i : Int) (M_R_PartsCopy_l210 F rec181 l bs o (i : Int) k) (b : Int) e = _
    unfold M_R_PartsCopy_b210
    by_cases hlt : b < bs.length
    · have h0 := hn bs[b] (List.getElem_mem hlt)
      have hg : idx bs (b : Int) = some bs[b] := by rw [idx_nat, List.getElem?_eq_getElem hlt]
      have hrec := fun e he => bo_l (F := F) (rec181 := rec181) (l := l) (o := o) hi hbm hn k (b + 1) e (by omega) (by omega) he
      rw [if_pos (by simp; omega), hg, List.drop_eq_getElem_cons hlt]
      generalize bs[b] = n at h0 hg ⊢
      simp only [Option.bind_some]
      unfold M_R_PartsCopy_j212 bo
      rw [iadd_i64 (by omega) (by omega), hg]
      by_cases hc : e + n ≤ i
      · rw [if_pos (by simpa using hc), if_pos (by omega)]
        simp only [Option.bind_some]
        rw [iadd1_n (by omega), iadd_i64 (a := e) (by omega) (by omega), hrec (e + n) (by omega)]
        rw [show b + 1 + bo (bs.drop (b + 1)) (i - (e + n)) = b + (1 + bo (bs.drop (b + 1)) (i - e - n)) from by rw [show (i : Int) - (e + n) = i - e - n from by omega]; omega]
      · rw [if_neg (by simpa using hc), if_neg (by omega)]
        rfl
    · rw [if_neg (by simp; omega), List.drop_eq_nil_of_le (by omega)]
      unfold M_R_PartsCopy_j212
      rw [if_neg (by simp)]
      rfl
def kp (p : Nat → Bool) : Nat → List Int → List Int
  | _, [] => []
  | i, x :: t => if p i then x :: kp p (i + 1) t else kp p (i + 1) t
theorem kp_app (p : Nat → Bool) : ∀ (i : Nat) (a b : List Int), kp p i (a ++ b) = kp p i a ++ kp p (i + a.length) b
  | i, [], b => rfl
  | i, x :: a, b => by
    show (if p i then x :: kp p (i + 1) (a ++ b) else kp p (i + 1) (a ++ b)) = _
    rw [kp_app p (i + 1) a b, List.length_cons, show i + 1 + a.length = i + (a.length + 1) from by omega]
    show _ = (if p i then x :: kp p (i + 1) a else kp p (i + 1) a) ++ _
    split <;> rfl
theorem kp_congr {p q : Nat → Bool} : ∀ (i d : Nat) (l : List Int), (∀ j, i ≤ j → j < i + l.length → p (j + d) = q j) → kp p (i + d) l = kp q i l
  | _, _, [], _ => rfl
  | i, d, x :: t, h => by
    show (if p (i + d) then _ else _) = (if q i then _ else _)
    have h1 := h i (Nat.le_refl _) (by simp)
    have h2 := kp_congr (i + 1) d t (fun j hj1 hj2 => h j (by omega) (by rw [List.length_cons]; omega))
    rw [h1, show i + d + 1 = i + 1 + d from by omega, h2]
theorem kp_const {p : Nat → Bool} {c : Bool} : ∀ (i : Nat) (l : List Int), (∀ j, i ≤ j → j < i + l.length → p j = c) → kp p i l = if c then l else []
  | _, [], _ => by cases c <;> rfl
  | i, x :: t, h => by
    have h1 := h i (Nat.le_refl _) (by simp)
    have h2 := kp_const (p := p) (c := c) (i + 1) t (fun j hj1 hj2 => h j (by omega) (by rw [List.length_cons]; omega))
    show (if p i then _ else _) = _
    rw [h1, h2]
    cases c <;> simp
theorem cp_kp : ∀ (bs l : List Int) (c : Bool), (∀ n ∈ bs, 0 ≤ n) → bsum bs ≤ l.length → cp l bs c = kp (fun i => ((bo bs (i : Int)) % 2 == 0) == c) 0 l
  | [], l, c, _, _ => by
    rw [kp_const (c := c) 0 l (fun j _ _ => by cases c <;> rfl)]
    rfl
  | n :: bs, l, c, hn, hs => by
    have h0 := hn n (by simp)
    have hnn : 0 ≤ bsum bs := by
      have : ∀ (R : List Int), (∀ n ∈ R, 0 ≤ n) → 0 ≤ bsum R := by
        intro R
        induction R with
        | nil => intro _; simp [bsum]
        | cons x R ih => intro h; unfold bsum; have := h x (by simp); have := ih (fun n hn => h n (by simp [hn])); omega
      exact this _ fun m hm => hn m (by simp [hm])
    obtain ⟨m, rfl⟩ := Int.eq_ofNat_of_zero_le h0
    unfold bsum at hs
    have hml : m ≤ l.length := by omega
    have ih := cp_kp bs (l.drop m) (!c) (fun k hk => hn k (by simp [hk])) (by rw [List.length_drop]; omega)
    unfold cp
    simp only [Int.toNat_natCast]
    conv => rhs; rw [← List.take_append_drop m l, kp_app]
    have hlt : (l.take m).length = m := by rw [List.length_take]; omega
    congr 1
    · rw [kp_const (c := c) 0 (l.take m) (fun j _ hj => by
        rw [hlt] at hj
        have : bo ((m : Int) :: bs) (j : Int) = 0 := by unfold bo; rw [if_neg (by omega)]
        rw [this]; cases c <;> rfl)]
    · rw [ih, hlt]
      refine (kp_congr 0 m (l.drop m) fun j _ _ => ?_).symm
      have : bo ((m : Int) :: bs) ((j + m : Nat) : Int) = 1 + bo bs (j : Int) := by
        show (if (m : Int) ≤ ((j + m : Nat) : Int) then 1 + bo bs (((j + m : Nat) : Int) - m) else 0) = _
        rw [if_pos (by omega), show ((j + m : Nat) : Int) - m = (j : Int) from by omega]
      rw [this]
      generalize bo bs (j : Int) = q
      rcases Nat.mod_two_eq_zero_or_one q with h | h
      · rw [h, show (1 + q) % 2 = 1 from by omega]; cases c <;> rfl
      · rw [h, show (1 + q) % 2 = 0 from by omega]; cases c <;> rfl
theorem rcopy_l {F : Nat} (hF : 200000 ≤ F) {l bs : List Int} (hlm : l.length ≤ 300) (hbm : bs.length ≤ 1000) (hn : ∀ n ∈ bs, 0 ≤ n ∧ n ≤ 1000) : ∀ (k i : Nat) (o : List Int), l.length < k + i → i ≤ l.length → o.length ≤ i →
    M_R_PartsCopy_l181 F l bs k (o, (i : Int)) = some (o ++ kp (fun i => ((bo bs (i : Int)) % 2 == 0) == true) i (l.drop i), 0)
  | 0, _, _, _, _, _ => by omega
  | k + 1, i, o, h, hi, ho => by
    show M_R_PartsCopy_b181 F l bs (M_R_PartsCopy_l181 F l bs k) o (i : Int) = _
    unfold M_R_PartsCopy_b181
    by_cases hlt : i < l.length
    · have hb := bo_l (F := F) (rec181 := M_R_PartsCopy_l181 F l bs k) (l := l) (o := o) (i := i) (by omega) hbm hn F 0 0 (by omega) (by omega) (by omega)
      rw [List.drop_zero, Nat.zero_add, Int.sub_zero, show ((0 : Nat) : Int) = 0 from rfl] at hb
      have hrec := fun o h => rcopy_l hF hlm hbm hn k (i + 1) o (by omega) (by omega) h
      rw [if_pos (by simp; omega), hb, List.drop_eq_getElem_cons hlt]
      unfold M_R_PartsCopy_j205 M_R_PartsCopy_j197 kp
      rw [irem2_u (by omega), idx_nat, List.getElem?_eq_getElem hlt, iadd1_n (by omega)]
      simp only [Option.bind_some]
      generalize bo bs (i : Int) = q
      rcases Nat.mod_two_eq_zero_or_one q with hq | hq
      · rw [if_pos (by simp; omega), app_eq (by simp; omega), if_pos (by rw [hq]; rfl)]
        simp only [Option.bind_some]
        rw [hrec _ (by simp; omega), List.append_assoc]
        rfl
      · rw [if_neg (by simp; omega), if_neg (by rw [hq]; decide), hrec _ (by omega)]
    · rw [if_neg (by simp; omega), List.drop_eq_nil_of_le (by omega)]
      simp [M_R_PartsCopy_j118, kp]
theorem rchk_l {F : Nat} {l bs : List Int} (hlm : l.length ≤ 300) (hbm : bs.length ≤ 301) : ∀ (k i : Nat) (s t : Int), bs.length < k + i → i ≤ bs.length → (0 ≤ t ∧ (s = t ∧ t ≤ 2000 ∨ 1000 ≤ s ∧ s ≤ 2000 ∧ (l.length : Int) < t)) →
    M_R_PartsCopy_l227 F l bs k (s, (i : Int)) = if ccE l.length (decide (i = 0)) t (bs.drop i) ≠ 0 then some ([], ccE l.length (decide (i = 0)) t (bs.drop i)) else M_R_PartsCopy_l181 F l bs F ([], 0)
  | 0, _, _, _, _, _, _ => by omega
  | k + 1, i, s, t, h, hi, hs => by
    show M_R_PartsCopy_b227 F l bs (M_R_PartsCopy_l227 F l bs k) s (i : Int) = _
    unfold M_R_PartsCopy_b227
    by_cases hlt : i < bs.length
    · have hg : idx bs (i : Int) = some bs[i] := by rw [idx_nat, List.getElem?_eq_getElem hlt]
      have hrec := fun s t hs => rchk_l (F := F) hlm hbm k (i + 1) s t (by omega) (by omega) hs
      rw [decide_eq_false (show ¬ i + 1 = 0 by omega)] at hrec
      rw [if_pos (by simp; omega), hg, List.drop_eq_getElem_cons hlt]
      generalize bs[i] = n at hg ⊢
      generalize bs.drop (i + 1) = R at hrec ⊢
      simp only [Option.bind_some]
      unfold M_R_PartsCopy_j233
      by_cases h1 : n < 0
      · rw [if_pos (by simpa using h1), if_pos rfl, ccE_bad (.inl h1), if_pos (by decide)]
      · rw [if_neg (by simpa using h1)]
        by_cases h2 : n < 1 ∧ 0 < i
        · rw [if_pos (by simp; omega), ccE_bad (.inr ⟨h2.1, decide_eq_false (by omega)⟩), if_pos (by decide)]
        · have h3 : ¬ (n < 0 ∨ (n < 1 ∧ decide (i = 0) = false)) := by
            rintro (h | ⟨h, hd⟩)
            · exact h1 h
            · have := of_decide_eq_false hd; omega
          rw [if_neg (by simp; omega), ccE_ok h3, hg]
          simp only [Option.bind_some]
          unfold M_R_PartsCopy_j234 M_R_PartsCopy_j231
          rw [hg, iadd1_n (by omega)]
          by_cases hL : (l.length : Int) < n
          · rw [if_pos (by simpa using hL), if_neg (by decide)]
            exact hrec 1000 (t + n) ⟨by omega, .inr ⟨by omega, by omega, by omega⟩⟩
          · rw [if_neg (by simpa using hL)]
            by_cases hs1 : s < 1000
            · rw [if_pos (by simpa using hs1)]
              simp only [Option.bind_some]
              rw [iadd_i64 (by omega) (by omega)]
              exact hrec (s + n) (t + n) ⟨by omega, .inl ⟨by omega, by omega⟩⟩
            · rw [if_neg (by simpa using hs1)]
              exact hrec s (t + n) ⟨by omega, .inr ⟨by omega, by omega, by omega⟩⟩
    · rw [if_neg (by simp; omega), List.drop_eq_nil_of_le (by omega), ccE_nil]
      unfold M_R_PartsCopy_j23
      by_cases h8 : (l.length : Int) < s
      · rw [if_pos (by simpa using h8), if_pos (show (l.length : Int) < t by omega), if_pos (by decide)]
      · rw [if_neg (by simpa using h8), if_neg (show ¬ (l.length : Int) < t by omega), if_neg (by simp)]
theorem rcopy_eq {F : Nat} (hF : 200000 ≤ F) {l bs : List Int} : M_R_PartsCopy F l bs = some (cpy l bs) := by
  unfold M_R_PartsCopy
  rw [rising_eq (by omega)]
  simp only [Option.bind_some]
  by_cases h : gkc l = 0
  · have hlm := gkc_len h
    have e : cpE l bs = bkE l.length bs := by unfold cpE; rw [if_neg (by simp [h])]
    rw [if_neg (by simp [h]), iadd1_n (by omega)]
    by_cases h2 : l.length + 1 < bs.length
    · have e2 : bkE l.length bs = 2 := by unfold bkE; rw [if_pos h2]
      rw [if_pos (by simp; omega), cpy_bad (by rw [e, e2]; decide), e, e2]
    · have e2 : bkE l.length bs = ccE l.length true 0 bs := by unfold bkE; rw [if_neg h2]
      have hc := rchk_l (F := F) (l := l) (bs := bs) hlm (by omega) F 0 0 0 (by omega) (by omega) ⟨by omega, .inl ⟨rfl, by omega⟩⟩
      rw [List.drop_zero, show ((0 : Nat) : Int) = 0 from rfl, decide_eq_true (rfl : 0 = 0), ← e2, ← e] at hc
      rw [if_neg (by simp; omega), hc]
      by_cases h3 : cpE l bs = 0
      · obtain ⟨_, q1, q2, q3⟩ := cpE_ok.1 h3
        obtain ⟨n1, n2⟩ := okB_nn q2
        have hle : ∀ (R : List Int), (∀ n ∈ R, 0 ≤ n) → ∀ n ∈ R, n ≤ bsum R := by
          intro R
          induction R with
          | nil => intro _ n hn; simp at hn
          | cons x R ih =>
            intro h n hn
            have hx := h x (by simp)
            have hR : 0 ≤ bsum R := by
              have : ∀ (R : List Int), (∀ n ∈ R, 0 ≤ n) → 0 ≤ bsum R := by
                intro R
                induction R with
                | nil => intro _; simp [bsum]
                | cons x R ih => intro h; unfold bsum; have := h x (by simp); have := ih (fun n hn => h n (by simp [hn])); omega
              exact this R fun n hn => h n (by simp [hn])
            unfold bsum
            rcases List.mem_cons.1 hn with rfl | hn
            · omega
            · have := ih (fun n hn => h n (by simp [hn])) n hn; omega
        have := rcopy_l hF hlm (bs := bs) (by omega) (fun n hn => ⟨n1 n hn, by have := hle bs n1 n hn; omega⟩) F 0 [] (by omega) (by omega) (by simp)
        rw [List.drop_zero, List.nil_append, show ((0 : Nat) : Int) = 0 from rfl] at this
        rw [if_neg (by simp [h3]), this, cpy_ok h3, cp_kp bs l true n1 q3]
      · rw [if_pos h3, cpy_bad h3]
  · have e : cpE l bs = gkc l := by unfold cpE; rw [if_pos h]
    rw [if_pos (by simpa using h), cpy_bad (by rw [e]; exact h), e]
theorem merged_eq {F : Nat} (hF : 200000 ≤ F) {l r : List Int} (hl : l.Pairwise (· < ·)) (hr : r.Pairwise (· < ·)) (hm : l.length + r.length ≤ 1000) : M_R_Merged F l r = some (mrg l r) := by
  unfold M_R_Merged
  have := merged_l (F := F) hl hr (by omega) F 0 0 [] (by omega) (by omega) (by omega) (by simp; omega)
  rw [List.drop_zero, List.drop_zero, mrgO_nil] at this
  exact this
theorem rjoin_eq {F : Nat} (hF : 200000 ≤ F) {l bs rest : List Int} : M_R_PartsJoin F l bs rest = some (pjn l bs rest) := by
  unfold M_R_PartsJoin
  rw [rcopy_eq hF, rising_eq (by omega)]
  simp only [Option.bind_some]
  by_cases h : cpE l bs = 0
  · rw [cpy_ok h, if_pos (by simp)]
    unfold M_R_PartsJoin_j1
    by_cases h2 : gkc rest = 0
    · obtain ⟨⟨k1, k2⟩, _⟩ := cpE_ok.1 h
      have k4 := gkc_ris.1 h2
      have k5 := (cp_sub l bs true).length_le
      rw [pjn_3 h h2, if_neg (by simp [h2]), merged_eq hF ((ris_pw k2).1.sublist (cp_sub l bs true)) (ris_pw k4.2).1 (by show (cp l bs true).length + rest.length ≤ _; omega)]
      rfl
    · rw [pjn_2 h h2, if_pos (by simpa using h2)]
  · rw [cpy_bad h, pjn_1 h, if_neg (by simpa using h)]
    unfold M_R_PartsJoin_j1
    rw [if_pos (by simpa using h)]
theorem mrg_len {l r : List Int} : (mrg l r).1.length ≤ 300 := by
  unfold mrg
  split
  · simp
  · split
    · simp
    · simp; omega
theorem cp_tb (f : Int → Bool) : ∀ (l pre : List Int) (c : Bool), cp (pre ++ l) (tb c pre.length (l.map f)) c = (if c then pre else []) ++ l.filter f
  | [], pre, c => by
    show cp (pre ++ []) [] c = _
    unfold cp
    simp
  | x :: l, pre, c => by
    rw [List.map_cons, List.filter_cons]
    by_cases h : f x = c
    · have ih := cp_tb f l (pre ++ [x]) c
      rw [List.append_assoc, List.length_append, show ((pre.length + [x].length : Nat) : Int) = (pre.length : Int) + 1 from by simp] at ih
      rw [h, tb_same]
      refine ih.trans ?_
      cases c
      · simp
      · simp
    · have ih := cp_tb f l [x] (f x)
      rw [tb_turn h]
      unfold cp
      have hc : (!c) = f x := by cases c <;> cases hx : f x <;> simp_all
      rw [hc, show ((1 : Int)) = (([x] : List Int).length : Int) from rfl, Int.toNat_natCast, List.take_left, List.drop_left]
      have ih' : cp (x :: l) (tb (f x) (([x] : List Int).length : Int) (l.map f)) (f x) = (if f x then [x] else []) ++ l.filter f := ih
      rw [ih']
      cases f x <;> simp
theorem cp_tbs (l m : List Int) : cp l (tbs l m) true = l.filter (hasB m) := by
  have := cp_tb (hasB m) l [] true
  simpa [tbs] using this
theorem okB_tb : ∀ (bs : List Bool) (f c : Bool) (m : Int), 0 ≤ m → (f = true ∨ 1 ≤ m) → okB f (tb c m bs) = true
  | [], _, _, _, _, _ => rfl
  | b :: bs, f, c, m, h, hf => by
    by_cases hb : b = c
    · subst hb
      rw [tb_same]
      exact okB_tb bs f b (m + 1) (by omega) (.inr (by omega))
    · rw [tb_turn hb, okB_cons, okB_tb bs false b 1 (by omega) (.inr (by omega))]
      rcases hf with hf | hf
      · simp [h, hf]
      · simp [h, hf]
theorem bsum_tb : ∀ (bs : List Bool) (c : Bool) (m : Int), 0 ≤ m → bsum (tb c m bs) ≤ m + bs.length
  | [], _, _, h => by show (0 : Int) ≤ _; simp; omega
  | b :: bs, c, m, h => by
    by_cases hb : b = c
    · subst hb
      rw [tb_same]
      have := bsum_tb bs b (m + 1) (by omega)
      rw [List.length_cons]; omega
    · rw [tb_turn hb]
      have := bsum_tb bs b 1 (by omega)
      show m + bsum _ ≤ _
      rw [List.length_cons]; omega
theorem tbs_len (l m : List Int) : (tbs l m).length ≤ l.length := by
  have := tb_len true 0 (l.map (hasB m))
  rwa [List.length_map] at this
theorem cpE_tbs {l m : List Int} (h : gkc l = 0) : cpE l (tbs l m) = 0 := by
  refine cpE_ok.2 ⟨gkc_ris.1 h, ?_, okB_tb _ _ _ _ (by omega) (.inl rfl), ?_⟩
  · have := tbs_len l m; omega
  · have := bsum_tb (l.map (hasB m)) true 0 (by omega)
    rw [List.length_map] at this
    unfold tbs; omega
theorem cpy_tbs {l m : List Int} (h : gkc l = 0) : cpy l (tbs l m) = (l.filter (hasB m), 0) := by
  rw [cpy_ok (cpE_tbs h), cp_tbs]
theorem sub_gkc {l m : List Int} (h : gkc l = 0) (hs : m.Sublist l) : gkc m = 0 := by
  obtain ⟨h1, h2⟩ := gkc_ris.1 h
  have := hs.length_le
  exact gkc_ris.2 ⟨by omega, pw_ris ((ris_pw h2).1.sublist hs) (fun z hz => (ris_pw h2).2 z (hs.subset hz)) (fun z hz => ris_nd h2 z (hs.subset hz))⟩
theorem gkc_pw {l : List Int} (h : gkc l = 0) : l.Pairwise (· < ·) := (ris_pw (gkc_ris.1 h).2).1
theorem blE_gkc {a l : List Int} : blE a l = 0 ↔ gkc a = 0 ∧ gkc l = 0 := by
  unfold blE
  by_cases h : gkc a = 0
  · rw [if_neg (by simp [h])]; simp [h]
  · rw [if_pos h]; simp [h]
theorem hasB_iff {l : List Int} {x : Int} : hasB l x = true ↔ x ∈ l := by unfold hasB; simp
theorem hasB_not {l : List Int} {x : Int} : hasB l x = false ↔ x ∉ l := by unfold hasB; simp
theorem both_eq {a b : List Int} (ha : gkc a = 0) (hb : gkc b = 0) : a.filter (hasB b) = b.filter (hasB a) := by
  refine pw_ext ((gkc_pw ha).sublist (List.filter_sublist ..)) ((gkc_pw hb).sublist (List.filter_sublist ..)) fun z => ?_
  rw [List.mem_filter, List.mem_filter, hasB_iff, hasB_iff]
  exact And.comm
theorem filt_len (p : Int → Bool) (l : List Int) : (l.filter p).length + (l.filter fun x => !p x).length = l.length := by
  induction l with
  | nil => rfl
  | cons x l ih =>
    rw [List.filter_cons, List.filter_cons]
    cases p x <;> simp <;> omega
theorem filt_perm (p : Int → Bool) (l : List Int) : (l.filter p ++ l.filter fun x => !p x).Perm l := by
  induction l with
  | nil => exact List.Perm.refl _
  | cons x l ih =>
    rw [List.filter_cons, List.filter_cons]
    cases p x
    · simp only [Bool.false_eq_true, if_false, Bool.not_false, if_true]
      exact List.perm_middle.trans (ih.cons x)
    · simp only [if_true, Bool.not_true, Bool.false_eq_true, if_false]
      exact ih.cons x
theorem pjn_merged {l bs rest w : List Int} (h1 : cpE l bs = 0) (h2 : gkc rest = 0) (h3 : cmn (cp l bs true) rest = false) (h4 : (cp l bs true ++ rest).Perm w) (h5 : w.Pairwise (· ≤ ·)) (h6 : w.length ≤ 300) : pjn l bs rest = (w, 0) := by
  have hl := h4.length_eq
  rw [List.length_append] at hl
  rw [pjn_3 h1 h2]
  unfold mrg
  rw [h3, if_neg (by simp), if_neg (by omega), srt_eq h4 h5]
theorem pjn_tbs {a l : List Int} (ha : gkc a = 0) (hl : gkc l = 0) : pjn a (tbs a l) (rst a l) = (l, 0) := by
  refine pjn_merged (cpE_tbs ha) (sub_gkc hl (List.filter_sublist ..)) ?_ ?_ (pw_le (gkc_pw hl)) (gkc_len hl)
  · rw [cp_tbs, cmn_not]
    intro x hx hr
    have h1 := (List.mem_filter.1 hx).1
    have h2 := (List.mem_filter.1 hr).2
    simp [hasB, h1] at h2
  · rw [cp_tbs, both_eq ha hl]
    exact filt_perm (hasB a) l
def pat : Nat → List Int → Bool → List Bool
  | n, [], c => List.replicate n c
  | n, m :: bs, c => List.replicate m.toNat c ++ pat (n - m.toNat) bs (!c)
theorem tb_rep (c : Bool) (R : List Bool) : ∀ (k : Nat) (m : Int), tb c m (List.replicate k c ++ R) = tb c (m + k) R
  | 0, m => by simp
  | k + 1, m => by
    rw [List.replicate_succ, List.cons_append, tb_same, tb_rep c R k (m + 1)]
    congr 1
    omega
theorem bsum_pos : ∀ {bs : List Int}, okB false bs = true → bs ≠ [] → 1 ≤ bsum bs
  | [], _, h => absurd rfl h
  | n :: bs, h, _ => by
    rw [okB_cons] at h
    simp only [Bool.and_eq_true, Bool.false_or, decide_eq_true_eq] at h
    have := (okB_nn h.2).2
    show 1 ≤ n + bsum bs
    omega
theorem pat_head : ∀ {n : Nat} {bs : List Int} (c : Bool), 0 < n → okB false bs = true → ∃ R, pat n bs c = c :: R
  | n, [], c, h, _ => by
    obtain ⟨m, rfl⟩ := Nat.exists_eq_succ_of_ne_zero (by omega : n ≠ 0)
    exact ⟨List.replicate m c, rfl⟩
  | n, m :: bs, c, h, hb => by
    rw [okB_cons] at hb
    simp only [Bool.and_eq_true, Bool.false_or, decide_eq_true_eq] at hb
    obtain ⟨k, hk⟩ := Nat.exists_eq_succ_of_ne_zero (by omega : m.toNat ≠ 0)
    unfold pat
    rw [hk, List.replicate_succ, List.cons_append]
    exact ⟨_, rfl⟩
theorem tb_pat : ∀ {n : Nat} {bs : List Int} (f c : Bool), okB f bs = true → bsum bs ≤ n → tb c 0 (pat n bs c) = if bsum bs < n then bs else bs.dropLast
  | n, [], f, c, _, _ => by
    have := tb_rep c [] n 0
    rw [List.append_nil] at this
    show tb c 0 (List.replicate n c) = _
    rw [this]
    split <;> rfl
  | n, m :: bs, f, c, hb, hs => by
    rw [okB_cons] at hb
    simp only [Bool.and_eq_true, decide_eq_true_eq] at hb
    obtain ⟨⟨h0, _⟩, hb⟩ := hb
    have hp := (okB_nn hb).2
    have hs' : m + bsum bs ≤ n := hs
    have hm : ((m.toNat : Nat) : Int) = m := by omega
    unfold pat
    rw [tb_rep, Int.zero_add, hm]
    show _ = if m + bsum bs < n then _ else _
    by_cases hz : n - m.toNat = 0
    · have hbs : bs = [] := by
        by_cases hn : bs = []
        · exact hn
        · have := bsum_pos hb hn; omega
      subst hbs
      rw [hz]
      show tb c m [] = _
      rw [if_neg (by show ¬ m + 0 < (n : Int); omega)]
      rfl
    · have ih := tb_pat (n := n - m.toNat) (bs := bs) false (!c) hb (by omega)
      obtain ⟨R, hR⟩ := pat_head (n := n - m.toNat) (bs := bs) (!c) (by omega) hb
      rw [hR] at ih ⊢
      rw [tb_turn (by cases c <;> simp), ← Int.zero_add 1, ← tb_same (!c) 0 R, ih]
      by_cases hlt : bsum bs < ((n - m.toNat : Nat) : Int)
      · rw [if_pos hlt, if_pos (by omega)]
      · rw [if_neg hlt, if_neg (by omega)]
        cases bs with
        | nil =>
          exfalso
          apply hlt
          show (0 : Int) < _
          omega
        | cons y bs => rfl
theorem bits_pat : ∀ (bs l : List Int) (c : Bool), l.Nodup → (∀ n ∈ bs, 0 ≤ n) → bsum bs ≤ l.length → l.map (hasB (cp l bs c)) = pat l.length bs c
  | [], l, c, _, _, _ => by
    show l.map (hasB (cp l [] c)) = List.replicate l.length c
    rw [List.eq_replicate_iff]
    refine ⟨by simp, fun b hb => ?_⟩
    obtain ⟨x, hx, rfl⟩ := List.mem_map.1 hb
    unfold cp
    cases c
    · simp [hasB]
    · simp [hasB, hx]
  | n :: bs, l, c, hd, hn, hs => by
    have h0 := hn n (by simp)
    have hnn : ∀ m ∈ bs, 0 ≤ m := fun m hm => hn m (by simp [hm])
    have hsn : 0 ≤ bsum bs := by
      have : ∀ (R : List Int), (∀ n ∈ R, 0 ≤ n) → 0 ≤ bsum R := by
        intro R
        induction R with
        | nil => intro _; simp [bsum]
        | cons x R ih => intro h; unfold bsum; have := h x (by simp); have := ih (fun n hn => h n (by simp [hn])); omega
      exact this _ hnn
    have hs' : n + bsum bs ≤ l.length := hs
    have hml : n.toNat ≤ l.length := by omega
    have ih := bits_pat bs (l.drop n.toNat) (!c) (hd.sublist (List.drop_sublist ..)) hnn (by rw [List.length_drop]; omega)
    have hsub := (cp_sub (l.drop n.toNat) bs (!c)).subset
    have hdis : ∀ x ∈ l.take n.toNat, x ∉ l.drop n.toNat := by
      have := hd
      rw [← List.take_append_drop n.toNat l, List.nodup_append] at this
      intro x hx hy
      exact this.2.2 x hx x hy rfl
    have hA : (l.take n.toNat).map (hasB (cp l (n :: bs) c)) = List.replicate n.toNat c := by
      rw [List.eq_replicate_iff]
      refine ⟨by rw [List.length_map, List.length_take]; omega, fun b hb => ?_⟩
      obtain ⟨x, hx, rfl⟩ := List.mem_map.1 hb
      unfold cp
      cases c
      · rw [hasB_not]
        intro h
        rcases List.mem_append.1 h with h | h
        · simp at h
        · exact hdis x hx (hsub h)
      · rw [hasB_iff]
        exact List.mem_append_left _ (by rw [if_pos rfl]; exact hx)
    have hB : (l.drop n.toNat).map (hasB (cp l (n :: bs) c)) = (l.drop n.toNat).map (hasB (cp (l.drop n.toNat) bs (!c))) := by
      refine List.map_congr_left fun x hx => ?_
      have hn' : x ∉ l.take n.toNat := fun h => hdis x h hx
      show decide (x ∈ (if c then l.take n.toNat else []) ++ cp (l.drop n.toNat) bs (!c)) = decide (x ∈ cp (l.drop n.toNat) bs (!c))
      refine decide_eq_decide.2 ⟨fun h => ?_, fun h => List.mem_append_right _ h⟩
      rcases List.mem_append.1 h with h | h
      · cases c
        · simp at h
        · exact absurd h hn'
      · exact h
    have : l.map (hasB (cp l (n :: bs) c)) = (l.take n.toNat ++ l.drop n.toNat).map (hasB (cp l (n :: bs) c)) := by rw [List.take_append_drop]
    rw [this, List.map_append, hA, hB, ih, List.length_drop]
    rfl
theorem tbs_cp {l bs : List Int} (h : cpE l bs = 0) : tbs l (cp l bs true) = if bsum bs < l.length then bs else bs.dropLast := by
  obtain ⟨⟨k1, k2⟩, k3, k4, k5⟩ := cpE_ok.1 h
  unfold tbs
  rw [bits_pat bs l true (pw_nodup (ris_pw k2).1) (okB_nn k4).1 k5]
  exact tb_pat true true k4 k5
theorem rst_nil {a l : List Int} (h : ∀ x ∈ l, x ∈ a) : rst a l = [] := by
  unfold rst
  rw [List.filter_eq_nil_iff]
  intro x hx
  simp [hasB, h x hx]
theorem tbs_self (l : List Int) : tbs l l = [] := by
  unfold tbs
  have e : l.map (hasB l) = List.replicate l.length true := by
    rw [List.eq_replicate_iff]
    refine ⟨by simp, fun b hb => ?_⟩
    obtain ⟨x, hx, rfl⟩ := List.mem_map.1 hb
    simp [hasB, hx]
  rw [e]
  have := tb_rep true [] l.length 0
  rw [List.append_nil] at this
  rw [this]; rfl
theorem rst_of_nil (l : List Int) : rst [] l = l := by
  unfold rst
  rw [List.filter_eq_self]
  intro x _
  simp [hasB]
theorem cpE_full {l bs : List Int} (h : cpE l bs = 0) : (cp l bs true).length ≤ 300 := by
  have h1 := (cp_sub l bs true).length_le
  have h2 := (cpE_ok.1 h).1.1
  omega
theorem cpy_len {l bs : List Int} : (cpy l bs).1.length ≤ 300 := by
  by_cases h : cpE l bs = 0
  · rw [cpy_ok h]; exact cpE_full h
  · rw [cpy_bad h]; simp
theorem pjn_len {l bs rest : List Int} : (pjn l bs rest).1.length ≤ 300 := by
  unfold pjn
  split
  · simp
  · split
    · simp
    · exact mrg_len
theorem rst_len (a l : List Int) : (rst a l).length ≤ l.length := List.length_filter_le _ _
theorem begun_parts {F : Nat} (hF : 200000 ≤ F) : M_L_partsBegun F = some true := by
  have s1 : bls [1, 2, 5, 7, 9] [1, 2, 3, 9] = ([2, 2], [3], 0) := by decide
  have s2 : cpy [1, 2, 5, 7, 9] [2, 2] = ([1, 2, 9], 0) := by decide
  have s3 : pjn [1, 2, 5, 7, 9] [2, 2] [3] = ([1, 2, 3, 9], 0) := pjn_merged (by decide) (by decide) (by decide) (by decide) (by decide) (by decide)
  have s4 : bls [4] [] = ([0], [], 0) := by decide
  have s5 : cpy [4] [2] = ([], 8) := by decide
  unfold M_L_partsBegun
  rw [blocks_eq hF, s1]
  simp only [Option.bind_some]
  rw [copy_eq hF, s2, join_eq hF, s3, blocks_eq hF, s4, copy_eq hF, s5]
  simp only [Option.bind_some]
  rw [same_intsR (by simp; omega) (by simp)]
  simp only [Option.bind_some, if_true]
  rw [same_intsR (by simp; omega) (by simp)]
  simp only [Option.bind_some]
  unfold M_L_partsBegun_j1
  rw [if_pos (by simp), same_intsR (by simp; omega) (by simp)]
  simp only [Option.bind_some]
  unfold M_L_partsBegun_j2
  rw [if_pos (by simp), same_intsR (by simp; omega) (by simp)]
  simp only [Option.bind_some]
  unfold M_L_partsBegun_j3
  rw [if_pos (by simp), same_intsR (by simp; omega) (by simp)]
  rfl
theorem law_partsTell {F : Nat} (hF : 200000 ≤ F) {a l bs : List Int} : M_L_PartsTell F a l bs = some true := by
  unfold M_L_PartsTell
  rw [blocks_eq hF, copy_eq hF, join_eq hF, rising_eq (by omega)]
  simp only [Option.bind_some]
  have hc := cpy_len (l := a) (bs := bs)
  have hp := pjn_len (l := a) (bs := bs) (rest := l)
  have hj2 : ∀ (e : Int) (x y : List Int), bls a l = (x, y, e) → x.length ≤ 300 → y.length ≤ 300 → M_L_PartsTell_j2 F a l bs (bls a l) (cpy a bs) (pjn a bs l) e x y = some true := by
    intro e x y h hx hy
    unfold M_L_PartsTell_j2
    rw [rcopy_eq hF, rjoin_eq hF, begun_parts hF, h]
    simp only [Option.bind_some, if_true]
    rw [same_intsR (by omega) (by omega)]
    simp only [Option.bind_some, M_L_PartsTell_j3, if_true]
    rw [same_intsR (by omega) (by omega)]
    simp only [Option.bind_some, M_L_PartsTell_j4, beq_self_eq_true, Bool.and_self, if_true]
    rw [same_intsR (by omega) (by omega)]
    simp only [Option.bind_some, M_L_PartsTell_j5, beq_self_eq_true, Bool.and_self, if_true]
    rw [same_intsR (by omega) (by omega)]
    simp [M_L_PartsTell_j6]
  have hj1 : M_L_PartsTell_j1 F a l bs (bls a l) (cpy a bs) (pjn a bs l) (blE a l) = some true := by
    unfold M_L_PartsTell_j1
    by_cases h : blE a l = 0
    · obtain ⟨⟨h1, h2⟩, h3, h4⟩ := blE_ok.1 h
      rw [if_pos (by simpa using h), rblocks_eq hF h1 h3]
      simp only [Option.bind_some]
      have ht := tbs_len a l
      have hr := rst_len a l
      rw [hj2 (blE a l) _ _ (by rw [bls_ok h, h]) (by omega) (by omega)]
    · rw [if_neg (by simpa using h)]
      exact hj2 _ _ _ (bls_bad h) (by simp) (by simp)
  by_cases h : gkc a = 0
  · have e : blE a l = gkc l := by unfold blE; rw [if_neg (by simp [h])]
    rw [if_pos (by simpa using h), rising_eq (by omega)]
    simp only [Option.bind_some]
    rw [← e]; exact hj1
  · have e : blE a l = gkc a := by unfold blE; rw [if_pos h]
    rw [if_neg (by simpa using h)]
    rw [e] at hj1; exact hj1
theorem law_partsBack {F : Nat} (hF : 200000 ≤ F) {a l : List Int} : M_L_PartsBack F a l = some true := by
  unfold M_L_PartsBack
  rw [blocks_eq hF, begun_parts hF]
  simp only [Option.bind_some, Bool.not_true, Bool.false_eq_true, if_false]
  by_cases h : blE a l = 0
  · obtain ⟨ha, hl⟩ := blE_gkc.1 h
    have hl3 := gkc_len hl
    rw [bls_ok h, if_neg (by simp)]
    simp only
    rw [join_eq hF, pjn_tbs ha hl, copy_eq hF, cpy_tbs ha]
    simp only [Option.bind_some]
    rw [if_pos (by simp), same_intsR (by omega) (by omega)]
    simp only [Option.bind_some]
    unfold M_L_PartsBack_j1
    have e := filt_len (hasB a) l
    have e2 : (rst a l).length = (l.filter fun x => !hasB a x).length := rfl
    rw [both_eq ha hl]
    simp only
    rw [iadd_i64 (by omega) (by omega)]
    simp
    omega
  · rw [bls_bad h, if_pos (by simpa using h)]
    rfl
theorem law_partsFew {F : Nat} (hF : 200000 ≤ F) {a bs : List Int} : M_L_PartsFew F a bs = some true := by
  unfold M_L_PartsFew
  rw [copy_eq hF, begun_parts hF]
  simp only [Option.bind_some, Bool.not_true, Bool.false_eq_true, if_false]
  by_cases h : cpE a bs = 0
  · obtain ⟨⟨k1, k2⟩, k3, k4, k5⟩ := cpE_ok.1 h
    have hg : gkc a = 0 := gkc_ris.2 ⟨k1, k2⟩
    have hc := sub_gkc hg (cp_sub a bs true)
    have hb : blE a (cp a bs true) = 0 := blE_gkc.2 ⟨hg, hc⟩
    rw [cpy_ok h, if_neg (by simp)]
    simp only
    rw [blocks_eq hF, bls_ok hb, rst_nil (fun x hx => (cp_sub a bs true).subset hx), tbs_cp h]
    simp only [Option.bind_some]
    by_cases hs : bsum bs < a.length
    · rw [if_pos hs, if_neg (by simp)]
      rw [show (0 : Int) = ((0 : Nat) : Int) from rfl, sub_n (by omega) (Nat.le_refl _)]
      simp only [Option.bind_some, List.take_length, List.drop_zero]
      rw [same_intsR (by omega) (by omega)]
      simp only [Option.bind_some]
      rw [iadd1_n (by omega)]
      simp
      omega
    · have hd : bs.dropLast.length = bs.length - 1 := List.length_dropLast
      rw [if_neg hs, if_neg (by simp)]
      rw [show (0 : Int) = ((0 : Nat) : Int) from rfl, sub_n (by omega) (by omega)]
      simp only [Option.bind_some, List.drop_zero]
      rw [hd, ← List.dropLast_eq_take, same_intsR (by omega) (by omega)]
      simp only [Option.bind_some]
      rw [iadd1_n (by omega)]
      simp
      omega
  · rw [cpy_bad h, if_pos (by simpa using h)]
    rfl
theorem law_partsSelf {F : Nat} (hF : 200000 ≤ F) {l : List Int} : M_L_PartsSelf F l = some true := by
  unfold M_L_PartsSelf
  rw [blocks_eq hF, blocks_eq hF, begun_parts hF]
  simp only [Option.bind_some, Bool.not_true, Bool.false_eq_true, if_false]
  by_cases h : gkc l = 0
  · have h1 : blE l l = 0 := blE_gkc.2 ⟨h, h⟩
    have h2 : blE [] l = 0 := blE_gkc.2 ⟨by decide, h⟩
    have hl := gkc_len h
    have hz : (iadd .i64 (([] : List Int).length : Int) (([] : List Int).length : Int) == 0) = true := by decide
    have ht : tbs [] l = [] := rfl
    rw [bls_ok h1, bls_ok h2, tbs_self, rst_nil (fun _ h => h), rst_of_nil, ht, if_neg (by simp), if_pos (by simp only [hz]; rfl)]
    simp only
    rw [same_intsR (by omega) (by omega)]
    rfl
  · have h1 : blE l l = gkc l := by unfold blE; rw [if_pos h]
    have h2 : blE [] l = gkc l := by unfold blE; rw [if_neg (by decide)]
    rw [bls_bad (by rw [h1]; exact h), bls_bad (by rw [h2]; exact h), if_pos (by simp [h1, h]), h1, h2]
    simp
theorem law_partsSwap {F : Nat} (hF : 200000 ≤ F) {a b : List Int} : M_L_PartsSwap F a b = some true := by
  unfold M_L_PartsSwap
  rw [blocks_eq hF, blocks_eq hF, begun_parts hF]
  simp only [Option.bind_some, Bool.not_true, Bool.false_eq_true, if_false]
  by_cases h : gkc a = 0 ∧ gkc b = 0
  · obtain ⟨ha, hb⟩ := h
    have h1 : blE a b = 0 := blE_gkc.2 ⟨ha, hb⟩
    have h2 : blE b a = 0 := blE_gkc.2 ⟨hb, ha⟩
    have la := gkc_len ha
    have lb := gkc_len hb
    rw [bls_ok h1, bls_ok h2, if_neg (by simp)]
    simp only
    rw [copy_eq hF, copy_eq hF, cpy_tbs ha, cpy_tbs hb]
    simp only [Option.bind_some]
    have e1 := filt_len (hasB a) b
    have e2 := filt_len (hasB b) a
    have e3 : (rst a b).length = (b.filter fun x => !hasB a x).length := rfl
    have e4 : (rst b a).length = (a.filter fun x => !hasB b x).length := rfl
    have e5 := both_eq ha hb
    rw [if_pos (by simp), e5, same_intsR (by omega) (by omega)]
    simp only [Option.bind_some]
    unfold M_L_PartsSwap_j1
    rw [e5] at e2
    simp only
    rw [isub_i64 (by omega) (by omega), isub_i64 (by omega) (by omega)]
    simp
    omega
  · have h1 : blE a b ≠ 0 := fun h1 => h (blE_gkc.1 h1)
    have h2 : blE b a ≠ 0 := fun h2 => h ⟨(blE_gkc.1 h2).2, (blE_gkc.1 h2).1⟩
    rw [bls_bad h1, bls_bad h2, if_pos (by simp [h1])]
    rfl
theorem law_partsApart {F : Nat} (hF : 200000 ≤ F) {a l : List Int} {n : Int} : M_L_PartsApart F a l n = some true := by
  unfold M_L_PartsApart
  rw [blocks_eq hF, begun_parts hF]
  simp only [Option.bind_some, Bool.not_true, Bool.false_eq_true, if_false]
  by_cases h : blE a l = 0
  · obtain ⟨ha, hl⟩ := blE_gkc.1 h
    have la := gkc_len ha
    have ll := gkc_len hl
    have ht := tbs_len a l
    have hr := rst_len a l
    have hf : (a.filter (hasB l)).length ≤ a.length := List.length_filter_le _ _
    have hj2 : M_L_PartsApart_j2 F a l n (a.filter (hasB l), 0) true = some true := by
      unfold M_L_PartsApart_j2
      rw [if_pos rfl, hasInt_eq (by simp only; omega) (by simp only; omega), hasInt_eq (by omega) (by omega)]
      simp only [Option.bind_some]
      have hm : decide (n ∈ a.filter (hasB l)) = (decide (n ∈ a) && decide (n ∈ l)) := by
        rw [← Bool.decide_and]
        refine decide_eq_decide.2 ?_
        rw [List.mem_filter, hasB_iff]
      rw [hm]
      by_cases hn : n ∈ a
      · rw [decide_eq_true hn, if_pos rfl, hasInt_eq (by omega) (by omega)]
        simp [M_L_PartsApart_j5, M_L_PartsApart_j4]
      · rw [decide_eq_false hn, if_neg (by simp)]
        simp [M_L_PartsApart_j5, M_L_PartsApart_j4]
    rw [bls_ok h, if_neg (by simp)]
    simp only
    rw [copy_eq hF, cpy_tbs ha]
    simp only [Option.bind_some]
    rw [if_pos (by simp; omega), hasInt_eq (by omega) (by omega)]
    simp only [Option.bind_some]
    by_cases hn : n ∈ rst a l
    · have hna : n ∉ a := by
        have := (List.mem_filter.1 hn).2
        simpa [hasB] using this
      rw [decide_eq_true hn, if_pos rfl, hasInt_eq (by omega) (by omega)]
      simp only [Option.bind_some]
      rw [decide_eq_false hna]
      exact hj2
    · rw [decide_eq_false hn, if_neg (by simp)]
      exact hj2
  · rw [bls_bad h, if_pos (by simpa using h)]
end Go.Proofs.Ytghkjonlhphcjaa
