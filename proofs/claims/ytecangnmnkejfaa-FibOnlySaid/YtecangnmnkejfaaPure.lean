/- Plain facts of what the functions of this seat compute. -/
import Derived.Test.YtecangnmnkejfaaModels
import Derived.KernelRfl
namespace Go.Proofs.Ytecangnmnkejfaa
open Go SX
theorem same_l (F : Nat) {xs ys : List Int} (hl : xs.length = ys.length) (hm : xs.length ≤ 9223372036854775807) : ∀ (k i : Nat), xs.length < k + i → i ≤ xs.length →
    M_R_SameBytes_l3 F xs ys k (i : Int) = some (decide (xs.drop i = ys.drop i))
  | 0, i, h, _ => by omega
  | k + 1, i, h, hi => by
    show M_R_SameBytes_b3 F xs ys (M_R_SameBytes_l3 F xs ys k) i = _
    unfold M_R_SameBytes_b3
    by_cases hlt : i < xs.length
    · have hlt' : (i : Int) < (xs.length : Int) := by omega
      have hlt2 : i < ys.length := by omega
      have hg : xs[i]? = some xs[i] := by simp [hlt]
      have hg2 : ys[i]? = some ys[i] := by simp [hlt2]
      simp only [hlt', decide_true, if_true, idx_nat, hg, hg2, Option.bind_some]
      have e : (xs.drop i = ys.drop i) ↔ (xs[i] = ys[i] ∧ xs.drop (i + 1) = ys.drop (i + 1)) := by
        rw [List.drop_eq_getElem_cons hlt, List.drop_eq_getElem_cons hlt2, List.cons.injEq]
      simp only [e]
      by_cases he : xs[i] = ys[i]
      · simp only [he, bne_self_eq_false, Bool.false_eq_true, if_false, true_and]
        rw [iadd_i64 (by omega) (by omega), show (i : Int) + 1 = ((i + 1 : Nat) : Int) from by omega, same_l F hl hm k (i + 1) (by omega) (by omega)]
      · have : (xs[i] != ys[i]) = true := by simpa using he
        simp only [this, if_true, he, false_and, decide_false]
    · have hlt' : ¬ (i : Int) < (xs.length : Int) := by omega
      simp only [hlt', decide_false, Bool.false_eq_true, if_false]
      rw [List.drop_eq_nil_of_le (by omega), List.drop_eq_nil_of_le (by omega)]
      rfl
theorem sameBytes_eq {F : Nat} {xs ys : List Int} (hF : xs.length < F) (hm : xs.length ≤ 9223372036854775807) : M_R_SameBytes F xs ys = some (decide (xs = ys)) := by
  unfold M_R_SameBytes
  by_cases hl : xs.length = ys.length
  · have : (((xs.length : Int) : Int) != (ys.length : Int)) = false := by simp [hl]
    simp only [this, Bool.false_eq_true, if_false]
    have := same_l F hl hm F 0 (by omega) (by omega)
    simpa using this
  · have : (((xs.length : Int) : Int) != (ys.length : Int)) = true := by simp; omega
    simp only [this, if_true]
    have : xs ≠ ys := fun e => hl (by rw [e])
    simp [this]
theorem iadd_n {a b : Nat} (h : a + b < 9223372036854775808) : iadd .i64 (a : Int) (b : Int) = ((a + b : Nat) : Int) := by rw [iadd_i64 (by omega) (by omega)]; omega
theorem iadd1_n {a : Nat} (h : a + 1 < 9223372036854775808) : iadd .i64 (a : Int) 1 = ((a + 1 : Nat) : Int) := by rw [iadd_i64 (by omega) (by omega)]; omega
theorem isub1_n {a : Nat} (h : 1 ≤ a) (h2 : a < 9223372036854775808) : isub .i64 (a : Int) 1 = ((a - 1 : Nat) : Int) := by rw [isub_i64 (by omega) (by omega)]; omega
def U64 (n : Int) : Prop := 0 ≤ n ∧ n < 18446744073709551616
theorem sameInts_l (F : Nat) (xs ys : List Int) : ∀ k, M_R_SameInts_l3 F xs ys k = M_R_SameBytes_l3 F xs ys k
  | 0 => rfl
  | k + 1 => by
    funext i
    show M_R_SameInts_b3 F xs ys (M_R_SameInts_l3 F xs ys k) i = M_R_SameBytes_b3 F xs ys (M_R_SameBytes_l3 F xs ys k) i
    rw [sameInts_l F xs ys k]; rfl
theorem sameInts_same (F : Nat) (xs ys : List Int) : M_R_SameInts F xs ys = M_R_SameBytes F xs ys := by
  unfold M_R_SameInts M_R_SameBytes; rw [sameInts_l]
theorem same_ints {F : Nat} {xs ys : List Int} (hF : ys.length < F) (hm : ys.length ≤ 9223372036854775807) : M_R_SameInts F xs ys = some (decide (xs = ys)) := by
  rw [sameInts_same]
  by_cases h : xs.length = ys.length
  · rw [sameBytes_eq (by omega) (by omega)]
  · unfold M_R_SameBytes
    rw [if_pos (by rw [bne_iff_ne]; omega), decide_eq_false (fun e => h (by rw [e]))]
def nup : Nat → Nat × Nat
  | 0 => (1, 2)
  | i + 1 => ((nup i).2, (nup i).1 + (nup i).2)
def nu (i : Nat) : Nat := (nup i).1
theorem nup_2 (i : Nat) : (nup i).2 = nu (i + 1) := rfl
theorem nu_0 : nu 0 = 1 := rfl
theorem nu_s (i : Nat) : nu (i + 2) = nu (i + 1) + nu i := by
  show (nup i).1 + (nup i).2 = _
  rw [nup_2, Nat.add_comm]; rfl
theorem nu_pos : ∀ i, 1 ≤ nu i
  | 0 => Nat.le_refl 1
  | 1 => by decide
  | i + 2 => by rw [nu_s]; have := nu_pos i; omega
theorem nu_lt (i : Nat) : nu i < nu (i + 1) := by
  cases i with
  | zero => decide
  | succ i => rw [nu_s]; have := nu_pos i; omega
theorem nu_mono {i j : Nat} (h : i ≤ j) : nu i ≤ nu j := by
  induction j with
  | zero => rw [show i = 0 from by omega]; exact Nat.le_refl _
  | succ j ih =>
    by_cases e : i = j + 1
    · rw [e]; exact Nat.le_refl _
    · exact Nat.le_trans (ih (by omega)) (Nat.le_of_lt (nu_lt j))
theorem nu_lt_iff {i j : Nat} : nu i < nu j ↔ i < j := by
  constructor
  · intro h
    by_cases e : i < j
    · exact e
    · have := nu_mono (show j ≤ i by omega); omega
  · intro h; exact Nat.lt_of_lt_of_le (nu_lt i) (nu_mono h)
theorem nu_65 : nu 65 = 44945570212853 := by decide +kernel
theorem nu_big {i : Nat} (h : i ≤ 65) : nu i ≤ 44945570212853 := by rw [← nu_65]; exact nu_mono h
def fibs : List Int := [1, 2, 3, 5, 8, 13, 21, 34, 55, 89, 144, 233, 377, 610, 987, 1597, 2584, 4181, 6765, 10946, 17711, 28657, 46368, 75025, 121393, 196418, 317811, 514229, 832040, 1346269, 2178309, 3524578, 5702887, 9227465, 14930352, 24157817, 39088169, 63245986, 102334155, 165580141, 267914296, 433494437, 701408733, 1134903170, 1836311903, 2971215073, 4807526976, 7778742049, 12586269025, 20365011074, 32951280099, 53316291173, 86267571272, 139583862445, 225851433717, 365435296162, 591286729879, 956722026041, 1548008755920, 2504730781961, 4052739537881, 6557470319842, 10610209857723, 17167680177565]
theorem fibs_len : fibs.length = 64 := by decide +kernel
theorem fibs_fin : ∀ i : Fin 64, fibs[i.val]? = some ((nu i.val : Nat) : Int) := by decide +kernel
theorem fibs_get {i : Nat} (h : i < 64) : fibs[i]? = some ((nu i : Nat) : Int) := fibs_fin ⟨i, h⟩
theorem numbers_k (n : Nat) : M_fib_numbers (n + 200) = some fibs := by kernel_rfl
theorem fnumbers_eq {F : Nat} (hF : 20000 ≤ F) : M_fib_numbers F = some fibs := by
  obtain ⟨n, rfl⟩ : ∃ n, F = n + 200 := ⟨F - 200, by omega⟩
  exact numbers_k n
def fnum (i : Int) : Int × Int := if 0 ≤ i ∧ i < 64 then (((nu i.toNat : Nat) : Int), 0) else (0, 3)
theorem fnumber_eq {F : Nat} (hF : 20000 ≤ F) {i : Int} : M_fib_Number F i = some (fnum i) := by
  unfold M_fib_Number fnum
  by_cases h : 0 ≤ i ∧ i < 64
  · obtain ⟨i, rfl⟩ := Int.eq_ofNat_of_zero_le h.1
    rw [if_neg (by simp; omega), if_pos h, fnumbers_eq hF, Int.toNat_natCast]
    simp only [Option.bind_some]
    rw [fibs_len, decide_eq_true rfl, idx_nat, fibs_get (by omega)]
    rfl
  · rw [if_pos (by simp; omega), if_neg h]
theorem iadd_u64_n {a b : Nat} (h : a + b < 18446744073709551616) : iadd .u64 (a : Int) (b : Int) = ((a + b : Nat) : Int) := by
  unfold iadd; rw [← Int.natCast_add]; exact wrap_u64 (by omega) (by omega)
theorem isub_u64_n {a b : Nat} (h : b ≤ a) (h2 : a < 18446744073709551616) : isub .u64 (a : Int) (b : Int) = ((a - b : Nat) : Int) := by
  unfold isub; rw [show (a : Int) - (b : Int) = ((a - b : Nat) : Int) from by omega]; exact wrap_u64 (by omega) (by omega)
def pv : Nat → Nat
  | 0 => 1
  | k + 1 => nu k
theorem nu_pv (k : Nat) : nu (k + 1) = nu k + pv k := by
  cases k with
  | zero => rfl
  | succ k => exact nu_s k
theorem pv_le (k : Nat) : pv k ≤ nu k := by
  cases k with
  | zero => exact Nat.le_refl 1
  | succ k => exact Nat.le_of_lt (nu_lt k)
def gd : Nat → Nat → List Nat
  | 0, _ => []
  | k + 1, n => if nu k ≤ n then gd k (n - nu k) ++ [k] else gd k n
/-- How much parts are together. -/
def sm (l : List Nat) : Nat := (l.map nu).sum
theorem sm_app (l k : List Nat) : sm (l ++ k) = sm l + sm k := by simp [sm]
theorem sm_1 (k : Nat) : sm [k] = nu k := by simp [sm]
theorem sm_mem {l : List Nat} {i : Nat} (h : i ∈ l) : nu i ≤ sm l := by
  induction l with
  | nil => simp at h
  | cons x l ih =>
    have e : sm (x :: l) = nu x + sm l := by simp [sm]
    rcases List.mem_cons.1 h with rfl | h
    · omega
    · have := ih h; omega
/-- Rising, no two next to each other. -/
def Sp : List Nat → Prop
  | [] => True
  | [_] => True
  | a :: b :: l => a + 2 ≤ b ∧ Sp (b :: l)
theorem sp_app {l : List Nat} {k : Nat} (h : Sp l) (hl : ∀ i ∈ l, i + 2 ≤ k) : Sp (l ++ [k]) := by
  induction l with
  | nil => trivial
  | cons a l ih =>
    cases l with
    | nil => exact ⟨hl a List.mem_cons_self, trivial⟩
    | cons b l => exact ⟨h.1, ih h.2 (fun i hi => hl i (List.mem_cons_of_mem _ hi))⟩
theorem gd_spec : ∀ (k n : Nat), n < nu k → sm (gd k n) = n ∧ Sp (gd k n) ∧ ∀ i ∈ gd k n, i < k
  | 0, n, h => by
    have : n = 0 := by rw [nu_0] at h; omega
    subst this; exact ⟨rfl, trivial, fun i hi => by simp [gd] at hi⟩
  | k + 1, n, h => by
    unfold gd
    by_cases hk : nu k ≤ n
    · rw [if_pos hk]
      have h2 : n - nu k < pv k := by rw [nu_pv] at h; omega
      obtain ⟨h3, h4, h5⟩ := gd_spec k (n - nu k) (by have := pv_le k; omega)
      refine ⟨by rw [sm_app, sm_1, h3]; omega, sp_app h4 (fun i hi => ?_), fun i hi => ?_⟩
      · have h6 := sm_mem hi
        rw [h3] at h6
        cases k with
        | zero => have := h5 i hi; omega
        | succ k =>
          have : nu i < nu k := Nat.lt_of_le_of_lt h6 h2
          have := nu_lt_iff.1 this; omega
      · rcases List.mem_append.1 hi with hi | hi
        · have := h5 i hi; omega
        · simp at hi; omega
    · rw [if_neg hk]
      obtain ⟨h3, h4, h5⟩ := gd_spec k n (by omega)
      exact ⟨h3, h4, fun i hi => by have := h5 i hi; omega⟩
/-- More room changes nothing. -/
theorem gd_more {n k : Nat} (h : n < nu k) : ∀ j, gd (k + j) n = gd k n
  | 0 => rfl
  | j + 1 => by
    have := nu_mono (show k ≤ k + j by omega)
    rw [← Nat.add_assoc, gd, if_neg (by omega), gd_more h j]
theorem gd_0 (k : Nat) : gd k 0 = [] := by
  have := gd_more (n := 0) (k := 0) (by decide) k
  rw [Nat.zero_add] at this
  exact this
theorem getRev {α : Type} {l : List α} {i : Nat} (h : i < l.length) : l.reverse[i]? = l[l.length - 1 - i]? := by
  rw [List.getElem?_reverse h]
theorem rev_l {F : Nat} {xs : List Int} (hm : xs.length ≤ 100000) : ∀ (k i : Nat) (ys : List Int), xs.length < k + i → 2 * i ≤ xs.length + 1 → ys.length = xs.length → (∀ p, p < i → ys[p]? = xs[xs.length - 1 - p]?) → (∀ p, p < i → ys[xs.length - 1 - p]? = xs[p]?) → (∀ p, i ≤ p → p + i < xs.length → ys[p]? = xs[p]?) →
    M_slices_Reverse_int_int_l1 F k (ys, (i : Int), (xs.length : Int) - 1 - (i : Int)) = some xs.reverse
  | 0, _, _, _, _, _, _, _, _ => by omega
  | k + 1, i, ys, hk, hi, hl, h1, h2, h3 => by
    show M_slices_Reverse_int_int_b1 F (M_slices_Reverse_int_int_l1 F k) ys (i : Int) ((xs.length : Int) - 1 - (i : Int)) = _
    unfold M_slices_Reverse_int_int_b1
    by_cases hlt : (i : Int) < (xs.length : Int) - 1 - (i : Int)
    · have ej : (xs.length : Int) - 1 - (i : Int) = ((xs.length - 1 - i : Nat) : Int) := by omega
      have hi1 : i < ys.length := by omega
      have hj1 : xs.length - 1 - i < ys.length := by omega
      rw [if_pos (by simpa using hlt), ej, idx_nat, idx_nat, List.getElem?_eq_getElem hj1, List.getElem?_eq_getElem hi1]
      simp only [Option.bind_some, lett, Int.toNat_natCast]
      rw [iadd1_n (by omega), isub1_n (by omega) (by omega)]
      have e2 : ((xs.length - 1 - i - 1 : Nat) : Int) = (xs.length : Int) - 1 - ((i + 1 : Nat) : Int) := by omega
      rw [e2]
      have hyi : ys[i]? = xs[i]? := h3 i (Nat.le_refl _) (by omega)
      have hyj : ys[xs.length - 1 - i]? = xs[xs.length - 1 - i]? := h3 _ (by omega) (by omega)
      rw [List.getElem?_eq_getElem hi1] at hyi
      rw [List.getElem?_eq_getElem hj1] at hyj
      refine rev_l hm k (i + 1) _ (by omega) (by omega) (by rw [List.length_set, List.length_set, hl]) (fun p hp => ?_) (fun p hp => ?_) (fun p hp hp2 => ?_)
      · rw [List.getElem?_set, List.getElem?_set, List.length_set]
        by_cases e : p = i
        · subst e
          rw [if_neg (by omega), if_pos rfl, if_pos hi1, hyj]
        · rw [if_neg (by omega), if_neg (by omega)]
          exact h1 p (by omega)
      · rw [List.getElem?_set, List.getElem?_set, List.length_set]
        by_cases e : p = i
        · subst e
          rw [if_pos rfl, if_pos hj1, hyi]
        · rw [if_neg (by omega), if_neg (by omega)]
          exact h2 p (by omega)
      · rw [List.getElem?_set, List.getElem?_set, List.length_set, if_neg (by omega), if_neg (by omega)]
        exact h3 p (by omega) (by omega)
    · rw [if_neg (by simpa using hlt)]
      congr 1
      apply List.ext_getElem?
      intro p
      by_cases hp : p < xs.length
      · rw [getRev hp]
        by_cases h4 : p < i
        · exact h1 p h4
        · by_cases h5 : p + i < xs.length
          · rw [h3 p (by omega) h5, show xs.length - 1 - p = p from by omega]
          · have := h2 (xs.length - 1 - p) (by omega)
            rwa [show xs.length - 1 - (xs.length - 1 - p) = p from by omega] at this
      · rw [List.getElem?_eq_none (by omega), List.getElem?_eq_none (by rw [List.length_reverse]; omega)]
theorem reverse_eq {F : Nat} {xs : List Int} (hF : xs.length < F) (hm : xs.length ≤ 100000) : M_slices_Reverse_int_int F xs = some xs.reverse := by
  unfold M_slices_Reverse_int_int
  have e : isub .i64 (xs.length : Int) 1 = (xs.length : Int) - 1 - ((0 : Nat) : Int) := by rw [isub_i64 (by omega) (by omega)]; omega
  rw [e]
  exact rev_l hm F 0 xs (by omega) (by omega) rfl (fun p h => by omega) (fun p h => by omega) (fun p _ _ => rfl)
def lci (l : List Nat) : List Int := l.map fun x : Nat => (x : Int)
theorem lci_len (l : List Nat) : (lci l).length = l.length := by simp [lci]
theorem gd_len (k : Nat) : ∀ n, (gd k n).length ≤ k := by
  induction k with
  | zero => intro n; simp [gd]
  | succ k ih =>
    intro n; unfold gd
    split
    · rw [List.length_append]; have := ih (n - nu k); simp; omega
    · have := ih n; omega
theorem parts_l {F : Nat} (hF : 20000 ≤ F) : ∀ (k i n : Nat) (L : List Nat), i < k → i ≤ 64 → n < 18446744073709551616 → L.length + i ≤ 64 →
    M_fib_parts_l8 F fibs k ((n : Int), lci L, (i : Int) - 1) = some (lci (gd i n ++ L.reverse))
  | 0, _, _, _, _, _, _, _ => by omega
  | k + 1, i, n, L, hk, hi, hn, hL => by
    show M_fib_parts_b8 F fibs (M_fib_parts_l8 F fibs k) (n : Int) (lci L) ((i : Int) - 1) = _
    unfold M_fib_parts_b8
    cases i with
    | zero =>
      rw [if_neg (by simp)]
      unfold M_fib_parts_j5
      rw [reverse_eq (by rw [lci_len]; omega) (by rw [lci_len]; omega)]
      simp only [Option.bind_some]
      rw [List.length_reverse, decide_eq_true rfl]
      simp [chk, gd, lci]
    | succ i =>
      rw [show ((i + 1 : Nat) : Int) - 1 = (i : Int) from by omega, if_pos (by simp), idx_nat, fibs_get (by omega)]
      simp only [Option.bind_some]
      have e1 : isub .i64 (i : Int) 1 = (i : Int) - 1 := by rw [isub_i64 (by omega) (by omega)]
      unfold gd
      by_cases h : nu i ≤ n
      · rw [if_pos (by simp only [decide_eq_true_eq]; omega), if_pos h, app_eq (by rw [lci_len]; simp; omega)]
        simp only [Option.bind_some, M_fib_parts_j9]
        rw [isub_u64_n h hn, e1]
        have := parts_l hF k i (n - nu i) (L ++ [i]) (by omega) (by omega) (by omega) (by simp; omega)
        rw [show lci L ++ [(i : Int)] = lci (L ++ [i]) from by simp [lci], this]
        simp
      · rw [if_neg (by simp only [decide_eq_true_eq]; omega), if_neg h]
        simp only [M_fib_parts_j9]
        rw [e1]
        exact parts_l hF k i n L (by omega) (by omega) hn (by omega)
theorem fparts_eq {F n : Nat} (hF : 20000 ≤ F) (hn : n < 18446744073709551616) : M_fib_parts F (n : Int) = some (lci (gd 64 n)) := by
  unfold M_fib_parts
  rw [fnumbers_eq hF]
  simp only [Option.bind_some]
  rw [fibs_len, decide_eq_true rfl]
  simp only [chk, if_true]
  have := parts_l hF F 64 n [] (by omega) (by omega) hn (by simp)
  rw [List.reverse_nil, List.append_nil] at this
  exact this
theorem sp_snoc {l : List Nat} {x : Nat} : Sp (l ++ [x]) ↔ Sp l ∧ ∀ i ∈ l, i + 2 ≤ x := by
  constructor
  · intro h
    induction l with
    | nil => exact ⟨trivial, fun i hi => by simp at hi⟩
    | cons a l ih =>
      cases l with
      | nil => exact ⟨trivial, fun i hi => by simp at hi; rw [hi]; exact h.1⟩
      | cons b l =>
        have h2 := ih h.2
        refine ⟨⟨h.1, h2.1⟩, fun i hi => ?_⟩
        rcases List.mem_cons.1 hi with rfl | hi
        · have := h2.2 b List.mem_cons_self; have := h.1; omega
        · exact h2.2 i hi
  · intro h; exact sp_app h.1 h.2
theorem list_snoc {l : List Nat} (h : l ≠ []) : ∃ k x, l = k ++ [x] := ⟨l.dropLast, l.getLast h, (List.dropLast_concat_getLast h).symm⟩
theorem sp_lt : ∀ (k : Nat) (l : List Nat), Sp l → (∀ i ∈ l, i < k) → sm l < nu k
  | k, l, h, hl => by
    by_cases e : l = []
    · subst e; have := nu_pos k; show 0 < nu k; omega
    · obtain ⟨l, x, rfl⟩ := list_snoc e
      have hx := hl x (by simp)
      obtain ⟨h1, h2⟩ := sp_snoc.1 h
      have h3 : sm l < pv x := by
        cases x with
        | zero =>
          have : l = [] := by
            cases l with
            | nil => rfl
            | cons a l => have := h2 a List.mem_cons_self; omega
          subst this; decide
        | succ x => exact sp_lt x l h1 (fun i hi => by have := h2 i hi; omega)
      have h4 := nu_pv x
      have h5 := nu_mono (show x + 1 ≤ k by omega)
      rw [sm_app, sm_1]; omega
  termination_by k => k
theorem gd_uniq : ∀ {k : Nat} {l : List Nat}, Sp l → (∀ i ∈ l, i < k) → gd k (sm l) = l
  | 0, l, _, hl => by
    cases l with
    | nil => rfl
    | cons a l => have := hl a List.mem_cons_self; omega
  | k + 1, l, h, hl => by
    by_cases e : l = []
    · subst e; exact gd_0 _
    · obtain ⟨l, x, rfl⟩ := list_snoc e
      have hx := hl x (by simp)
      obtain ⟨h1, h2⟩ := sp_snoc.1 h
      by_cases hk : x = k
      · subst hk
        rw [sm_app, sm_1, gd, if_pos (by omega), Nat.add_sub_cancel, gd_uniq h1 (fun i hi => by have := h2 i hi; omega)]
      · have hlt : ∀ i ∈ l ++ [x], i < k := fun i hi => by
          rcases List.mem_append.1 hi with hi | hi
          · have := h2 i hi; omega
          · simp at hi; omega
        have := sp_lt k _ h hlt
        rw [gd, if_neg (by omega)]
        exact gd_uniq h hlt
def fs : Int → Int → List Int → Int × Int
  | _, s, [] => (s, 0)
  | last, s, i :: l => if i < 0 ∨ 64 ≤ i then (0, 3) else if i ≤ last + 1 then (0, 4) else fs i (s + ((nu i.toNat : Nat) : Int)) l
def FI (last s : Int) : Prop := (last = -2 ∧ s = 0) ∨ ∃ a t : Nat, last = (a : Int) ∧ s = (t : Int) ∧ a < 64 ∧ t < nu (a + 1)
theorem fi_step {last s i : Int} (h : FI last s) (h0 : 0 ≤ i) (h1 : i < 64) (h2 : last + 1 < i) : FI i (s + ((nu i.toNat : Nat) : Int)) := by
  obtain ⟨i, rfl⟩ := Int.eq_ofNat_of_zero_le h0
  rw [Int.toNat_natCast]
  right
  rcases h with ⟨rfl, rfl⟩ | ⟨a, t, rfl, rfl, h3, h4⟩
  · exact ⟨i, nu i, rfl, by omega, by omega, nu_lt i⟩
  · refine ⟨i, t + nu i, rfl, by omega, by omega, ?_⟩
    have h5 := nu_pv i
    cases i with
    | zero => omega
    | succ i =>
      have : nu (a + 1) ≤ nu i := nu_mono (by omega)
      have e : pv (i + 1) = nu i := rfl
      omega
theorem fi_s {last s : Int} (h : FI last s) : 0 ≤ s ∧ s ≤ 44945570212853 ∧ -2 ≤ last ∧ last < 64 := by
  rcases h with ⟨rfl, rfl⟩ | ⟨a, t, rfl, rfl, h3, h4⟩
  · omega
  · have := nu_big (i := a + 1) (by omega); omega
theorem nat_add {s : Int} {k : Nat} (h : 0 ≤ s) (h2 : s ≤ 44945570212853) (h3 : k ≤ 44945570212853) : iadd .u64 s (k : Int) = s + (k : Int) := by
  obtain ⟨s, rfl⟩ := Int.eq_ofNat_of_zero_le h
  rw [iadd_u64_n (by omega)]; omega
theorem fsum_l {F : Nat} {l : List Int} (hm : l.length ≤ 9223372036854775807) : ∀ (k i : Nat) (last s : Int), l.length < k + i → i ≤ l.length → FI last s →
    M_fib_Sum_l3 F l fibs k (s, last, (i : Int)) = some (fs last s (l.drop i))
  | 0, _, _, _, _, _, _ => by omega
  | k + 1, i, last, s, hk, hi, hf => by
    show M_fib_Sum_b3 F l fibs (M_fib_Sum_l3 F l fibs k) s last (i : Int) = _
    unfold M_fib_Sum_b3
    by_cases hlt : i < l.length
    · rw [if_pos (by simpa using hlt), idx_nat, List.getElem?_eq_getElem hlt, List.drop_eq_getElem_cons hlt]
      simp only [Option.bind_some]
      have hb := fi_s hf
      generalize l[i] = x
      unfold fs
      by_cases h1 : x < 0 ∨ 64 ≤ x
      · rw [if_pos (by simpa using h1), if_pos h1]
      · rw [if_neg (by simpa using h1), if_neg h1, iadd_i64 (by omega) (by omega)]
        by_cases h2 : x ≤ last + 1
        · rw [if_pos (by simpa using h2), if_pos h2]
        · rw [if_neg (by simpa using h2), if_neg h2]
          have h3 := fi_step hf (i := x) (by omega) (by omega) (by omega)
          obtain ⟨x, rfl⟩ := Int.eq_ofNat_of_zero_le (show 0 ≤ x by omega)
          rw [idx_nat, fibs_get (by omega)]
          simp only [Option.bind_some]
          have := nu_big (i := x) (by omega)
          rw [nat_add hb.1 hb.2.1 this, iadd1_n (by omega)]
          rw [Int.toNat_natCast] at h3 ⊢
          exact fsum_l hm k (i + 1) _ _ (by omega) (by omega) h3
    · rw [if_neg (by simpa using hlt), List.drop_eq_nil_of_le (by omega)]; rfl
theorem fsum_eq {F : Nat} {l : List Int} (hF : 20000 ≤ F) (hl : l.length < F) (hm : l.length ≤ 9223372036854775807) : M_fib_Sum F l = some (fs (-2) 0 l) := by
  unfold M_fib_Sum
  rw [fnumbers_eq hF]
  simp only [Option.bind_some]
  rw [fibs_len, decide_eq_true rfl]
  simp only [chk, if_true]
  exact fsum_l hm F 0 _ _ (by omega) (by omega) (.inl ⟨rfl, rfl⟩)
/-- What is summed without an error. -/
theorem fs_lci : ∀ {l : List Nat} {last s : Int}, (∀ i ∈ l, i < 64) → Sp l → (∀ i : Nat, l[0]? = some i → last + 1 < (i : Int)) → fs last s (lci l) = (s + (sm l : Int), 0)
  | [], last, s, _, _, _ => by simp [lci, fs, sm]
  | a :: l, last, s, h, hs, h0 => by
    have ha := h a List.mem_cons_self
    have h1 := h0 a rfl
    have e : lci (a :: l) = (a : Int) :: lci l := rfl
    rw [e, fs, if_neg (by omega), if_neg (by omega), Int.toNat_natCast, fs_lci (fun i hi => h i (List.mem_cons_of_mem _ hi)) (by
      cases l with
      | nil => trivial
      | cons b l => exact hs.2) (by
      intro i hi
      cases l with
      | nil => simp at hi
      | cons b l => simp at hi; have := hs.1; omega)]
    have e2 : sm (a :: l) = nu a + sm l := by simp [sm]
    rw [e2]; congr 1; omega
theorem fs_inv : ∀ {l : List Int} {last s t : Int}, -2 ≤ last → fs last s l = (t, 0) → ∃ ns, l = lci ns ∧ (∀ i ∈ ns, i < 64) ∧ Sp ns ∧ (∀ i : Nat, ns[0]? = some i → last + 1 < (i : Int)) ∧ t = s + (sm ns : Int)
  | [], last, s, t, _, h => by
    simp [fs] at h
    exact ⟨[], rfl, fun i hi => by simp at hi, trivial, fun i hi => by simp at hi, by simp [sm]; omega⟩
  | i :: l, last, s, t, hla, h => by
    unfold fs at h
    by_cases h1 : i < 0 ∨ 64 ≤ i
    · rw [if_pos h1] at h; simp at h
    · rw [if_neg h1] at h
      by_cases h2 : i ≤ last + 1
      · rw [if_pos h2] at h; simp at h
      · rw [if_neg h2] at h
        obtain ⟨a, rfl⟩ := Int.eq_ofNat_of_zero_le (show 0 ≤ i by omega)
        obtain ⟨ns, rfl, h3, h4, h5, h6⟩ := fs_inv (by omega) h
        refine ⟨a :: ns, rfl, fun j hj => ?_, ?_, fun j hj => ?_, ?_⟩
        · rcases List.mem_cons.1 hj with rfl | hj
          · omega
          · exact h3 j hj
        · cases ns with
          | nil => trivial
          | cons b ns => exact ⟨by have := h5 b rfl; omega, h4⟩
        · simp at hj; omega
        · have e2 : sm (a :: ns) = nu a + sm ns := by simp [sm]
          rw [h6, e2, Int.toNat_natCast]; omega
theorem fs_top {l : List Nat} (h : ∀ i ∈ l, i < 64) (hs : Sp l) : fs (-2) 0 (lci l) = ((sm l : Int), 0) := by
  rw [fs_lci h hs (fun i hi => by omega)]; simp
theorem begun_fib (n : Nat) : M_L_fibBegun (n + 200) = some true := by kernel_rfl
theorem begun_fib' {F : Nat} (hF : 20000 ≤ F) : M_L_fibBegun F = some true := by
  obtain ⟨n, rfl⟩ : ∃ n, F = n + 200 := ⟨F - 200, by omega⟩
  exact begun_fib n
def fprt (n : Nat) : List Int × Int := if 1099511627776 < n then ([], 3) else (lci (gd 64 n), 0)
theorem fParts_eq {F n : Nat} (hF : 20000 ≤ F) (hn : n < 18446744073709551616) : M_fib_Parts F (n : Int) = some (fprt n) := by
  unfold M_fib_Parts fprt
  by_cases h : 1099511627776 < n
  · rw [if_pos (by simp; omega), if_pos h]
  · rw [if_neg (by simp; omega), if_neg h, fparts_eq hF hn]; rfl
theorem nu_60 : nu 60 = 4052739537881 := by decide +kernel
theorem small_lt {n : Nat} (h : n ≤ 1099511627777) : n < nu 60 := by rw [nu_60]; omega
theorem gd_64 {n : Nat} (h : n ≤ 1099511627777) : sm (gd 64 n) = n ∧ Sp (gd 64 n) ∧ ∀ i ∈ gd 64 n, i < 60 := by
  have := gd_more (small_lt h) 4
  rw [this]
  exact gd_spec 60 n (small_lt h)
theorem law_fibonly {F : Nat} (h0 : 20000 ≤ F) {n : Int} {l : List Int} (hn : U64 n) (hl : l.length < F) (hm : l.length ≤ 9223372036854775807) : M_L_FibOnly F n l = some true := by
  obtain ⟨n, rfl⟩ := Int.eq_ofNat_of_zero_le hn.1
  have hn2 : n < 18446744073709551616 := by have := hn.2; omega
  unfold M_L_FibOnly
  rw [fParts_eq h0 hn2, begun_fib' h0]
  simp only [Option.bind_some]
  rw [if_neg (by decide)]
  unfold fprt
  by_cases h : 1099511627776 < n
  · rw [if_pos h, if_pos (show (((3 : Int)) != 0) = true from by decide)]
    simp; omega
  · obtain ⟨g1, g2, g3⟩ := gd_64 (show n ≤ 1099511627777 by omega)
    have hlen := gd_len 64 n
    rw [if_neg h, if_neg (show ¬ (((0 : Int)) != 0) = true from by decide), fsum_eq h0 (by rw [lci_len]; omega) (by rw [lci_len]; omega), fs_top (fun i hi => by have := g3 i hi; omega) g2, g1]
    simp only [Option.bind_some]
    rw [if_neg (by simp), fsum_eq h0 hl hm]
    simp only [Option.bind_some]
    by_cases h2 : (fs (-2) 0 l).2 = 0 ∧ (fs (-2) 0 l).1 = (n : Int)
    · obtain ⟨ns, rfl, h3, h4, _, h6⟩ := fs_inv (l := l) (last := -2) (s := 0) (t := (n : Int)) (by omega) (Prod.ext h2.2 h2.1)
      have e : sm ns = n := by omega
      have := gd_uniq h4 h3
      rw [e] at this
      rw [if_neg (by simp [h2.1, h2.2]), this, same_ints (by rw [lci_len] at *; omega) (by rw [lci_len] at *; omega), decide_eq_true rfl]
      rfl
    · rw [if_pos (by simp only [Bool.or_eq_true, bne_iff_ne]; by_cases e : (fs (-2) 0 l).2 = 0 <;> simp_all)]
      rfl
def ev (r j : Nat) : List Nat := (List.range j).map fun k => r + 2 * k
theorem ev_s (r j : Nat) : ev r (j + 1) = ev r j ++ [r + 2 * j] := by unfold ev; rw [List.range_succ, List.map_append]; rfl
theorem ev_sp (r : Nat) : ∀ j, Sp (ev r j) ∧ ∀ i ∈ ev r j, i + 2 ≤ r + 2 * j
  | 0 => ⟨trivial, fun i hi => by simp [ev] at hi⟩
  | j + 1 => by
    have ih := ev_sp r j
    rw [ev_s]
    refine ⟨sp_app ih.1 (fun i hi => ih.2 i hi), fun i hi => ?_⟩
    rcases List.mem_append.1 hi with hi | hi
    · have := ih.2 i hi; omega
    · simp at hi; omega
theorem ev_sm {r : Nat} (hr : r ≤ 1) : ∀ j, sm (ev r (j + 1)) + 1 = nu (r + 2 * j + 1)
  | 0 => by
    rcases (show r = 0 ∨ r = 1 by omega) with rfl | rfl <;> decide
  | j + 1 => by
    have ih := ev_sm hr j
    rw [ev_s, sm_app, sm_1, show r + 2 * (j + 1) + 1 = (r + 2 * j + 1) + 2 from by omega, nu_s, ← ih, show r + 2 * (j + 1) = r + 2 * j + 1 + 1 from by omega]
    omega
theorem ev_len (r j : Nat) : (ev r j).length = j := by simp [ev]
theorem fnums_l {F i r : Nat} (h0 : 20000 ≤ F) (hr : r ≤ 1) (hi : i ≤ 61) (hir : i % 2 = r) {x y z : Int × Int} : ∀ (k j : Nat), i + 2 < k + 2 * j + r → r + 2 * j ≤ i + 2 →
    M_L_FibNumbers_l3 F (i : Int) x y z k (lci (ev r j), ((r + 2 * j : Nat) : Int)) = M_L_FibNumbers_j2 F x y z (lci (ev r ((i - r) / 2 + 1)))
  | 0, _, _, _ => by omega
  | k + 1, j, hk, hj => by
    show M_L_FibNumbers_b3 F (i : Int) x y z (M_L_FibNumbers_l3 F (i : Int) x y z k) (lci (ev r j)) ((r + 2 * j : Nat) : Int) = _
    unfold M_L_FibNumbers_b3
    by_cases hlt : r + 2 * j ≤ i
    · have e2 : iadd .i64 ((r + 2 * j : Nat) : Int) 2 = ((r + 2 * (j + 1) : Nat) : Int) := by rw [iadd_i64 (by omega) (by omega)]; omega
      rw [if_pos (by simp only [decide_eq_true_eq]; omega), app_eq (by rw [lci_len, ev_len]; simp; omega), e2]
      simp only [Option.bind_some]
      have e3 : lci (ev r j) ++ [((r + 2 * j : Nat) : Int)] = lci (ev r (j + 1)) := by rw [ev_s]; simp [lci]
      rw [e3]
      exact fnums_l h0 hr hi hir k (j + 1) (by omega) (by omega)
    · rw [if_neg (by simp only [decide_eq_true_eq]; omega), show j = (i - r) / 2 + 1 from by omega]
theorem law_fibnumbers {F : Nat} (h0 : 20000 ≤ F) {i : Int} : M_L_FibNumbers F i = some true := by
  unfold M_L_FibNumbers
  rw [begun_fib' h0, fnumber_eq h0]
  simp only [Option.bind_some]
  rw [if_neg (by decide)]
  by_cases h : 0 ≤ i ∧ i ≤ 61
  · obtain ⟨i, rfl⟩ := Int.eq_ofNat_of_zero_le h.1
    have hi : i ≤ 61 := by omega
    have e1 : iadd .i64 (i : Int) 2 = ((i + 2 : Nat) : Int) := iadd_n (b := 2) (by omega)
    have e2 : irem (i : Int) 2 = ((i % 2 + 2 * 0 : Nat) : Int) := by
      unfold irem
      rw [Int.tmod_eq_emod_of_nonneg (by omega)]; omega
    rw [if_neg (by simp; omega), iadd1_n (by omega), e1, fnumber_eq h0, fnumber_eq h0, e2]
    simp only [Option.bind_some]
    have := fnums_l h0 (show i % 2 ≤ 1 by omega) hi rfl (x := fnum (i : Int)) (y := fnum ((i + 1 : Nat) : Int)) (z := fnum ((i + 2 : Nat) : Int)) F 0 (by omega) (by omega)
    rw [show lci (ev (i % 2) 0) = [] from rfl] at this
    rw [this]
    unfold M_L_FibNumbers_j2
    have hs := ev_sp (i % 2) ((i - i % 2) / 2 + 1)
    have hsm := ev_sm (show i % 2 ≤ 1 by omega) ((i - i % 2) / 2)
    rw [show i % 2 + 2 * ((i - i % 2) / 2) + 1 = i + 1 from by omega] at hsm
    rw [fsum_eq h0 (by rw [lci_len, ev_len]; omega) (by rw [lci_len, ev_len]; omega), fs_top (fun a ha => by have := hs.2 a ha; omega) hs.1]
    simp only [Option.bind_some]
    have hb := nu_big (i := i + 1) (by omega)
    have hb0 := nu_big (i := i) (by omega)
    have e4 : iadd .u64 ((sm (ev (i % 2) ((i - i % 2) / 2 + 1)) : Nat) : Int) 1 = ((nu (i + 1) : Nat) : Int) := by
      rw [← hsm]; exact iadd_u64_n (b := 1) (by omega)
    unfold fnum
    rw [if_pos (by omega), if_pos (by omega), if_pos (by omega), e4, Int.toNat_natCast, Int.toNat_natCast, Int.toNat_natCast, iadd_u64_n (by omega), nu_s, Nat.add_comm (nu (i + 1))]
    simp
  · rw [if_pos (by simp; omega)]
    unfold fnum
    by_cases h2 : 0 ≤ i ∧ i < 64
    · rw [if_pos h2]; simp; omega
    · rw [if_neg h2]; simp; omega
end Go.Proofs.Ytecangnmnkejfaa
