/- What the models of this seat's functions answer, in plain terms. -/
import Derived.Test.YtbdaopnokonmpaaModels
import Derived.KernelRfl
namespace Go.Proofs.Ytbdaopnokonmpaa
open Go SX

theorem begun (n : Nat) : M_L_varintBegun (n + 20) = some true := by kernel_rfl

/-! ### The bytes of a number -/
def vb : Nat → Int → List Int
  | 0, n => [n]
  | j + 1, n => if n < 128 then [n] else (n % 128 + 128) :: vb j (n / 128)
theorem vb_small (j : Nat) {n : Int} (h : n < 128) : vb j n = [n] := by cases j <;> simp [vb, h]
theorem vb_big (j : Nat) {n : Int} (h : ¬ n < 128) : vb (j + 1) n = (n % 128 + 128) :: vb j (n / 128) := by simp [vb, h]
theorem vb_pos (j : Nat) (n : Int) : 1 ≤ (vb j n).length := by
  cases j with
  | zero => simp [vb]
  | succ j => unfold vb; split <;> simp
theorem vb_len : ∀ (j : Nat) (n : Int), (vb j n).length ≤ j + 1
  | 0, n => by simp [vb]
  | j + 1, n => by
    unfold vb
    split
    · simp
    · have := vb_len j (n / 128); simp; omega
theorem vb_byte : ∀ (j : Nat) (n : Int), 0 ≤ n → n < 128 ^ (j + 1) → ∀ x ∈ vb j n, 0 ≤ x ∧ x < 256
  | 0, n, h0, h1, x, hx => by simp [vb] at hx; subst hx; simp at h1; omega
  | j + 1, n, h0, h1, x, hx => by
    unfold vb at hx
    split at hx
    · simp at hx; subst hx; omega
    · rcases List.mem_cons.1 hx with rfl | hx
      · omega
      · refine vb_byte j (n / 128) (by omega) ?_ x hx
        rw [Int.pow_succ] at h1
        omega
def vn (n : Int) : List Int := vb 9 n
theorem ior_128 {n : Int} : ior .u8 (iconv .u8 n) 128 = n % 128 + 128 := by
  have h1 : iconv .u8 n = n % 256 := wrap_u8_mod n
  rw [h1]
  by_cases h : n % 256 < 128
  · rw [ior_add (m := 7) (by omega) (by simpa using h) (by decide) (by decide) rfl (by simp [IntKind.bits]; omega)]
    omega
  · have hx : ∃ y : Nat, n % 256 = (y : Int) ∧ 128 ≤ y ∧ y < 256 := ⟨(n % 256).toNat, by omega, by omega, by omega⟩
    obtain ⟨y, hy, h2, h3⟩ := hx
    have key : ∀ y : Fin 256, 128 ≤ y.val → ior .u8 (y.val : Int) 128 = (y.val : Int) := by decide +kernel
    have := key ⟨y, h3⟩ h2
    simp only at this
    rw [hy, this]
    omega
theorem ishr_7 (n : Int) : ishr .u64 n 7 = n / 128 := by
  have := ishr_eq (k := .u64) (a := n) (m := 7) (by decide)
  simpa using this
theorem add_l (F : Nat) : ∀ (j k : Nat) (out : List Int) (n : Int), 0 ≤ n → n < 128 ^ (j + 1) → j < k → out.length + j + 1 ≤ 70368744177664 →
    M_varint_Add_l3 F k (out, n) = some (out ++ vb j n)
  | j, 0, out, n, _, _, h, _ => by omega
  | j, k + 1, out, n, h0, h1, hk, hl => by
    show M_varint_Add_b3 F (M_varint_Add_l3 F k) out n = _
    unfold M_varint_Add_b3
    by_cases hn : 128 ≤ n
    · cases j with
      | zero => simp at h1; omega
      | succ j =>
        simp only [hn, decide_true, if_true]
        rw [ior_128, ishr_7, app_eq (by simp; omega)]
        simp only [Option.bind_some]
        rw [add_l F j k _ _ (by omega) (by rw [Int.pow_succ] at h1; omega) (by omega) (by simp; omega), vb_big j (by omega)]
        simp
    · simp only [hn, decide_false, Bool.false_eq_true, if_false]
      unfold M_varint_Add_j2
      rw [app_eq (by simp; omega), vb_small j (by omega)]
      have : iconv .u8 n = n := wrap_u8 h0 (by omega)
      simp [this]
theorem add_eq {F : Nat} (hF : 10 ≤ F) {out : List Int} {n : Int} (h0 : 0 ≤ n) (h1 : n < 18446744073709551616) (hl : out.length ≤ 1000000) : M_varint_Add F out n = some (out ++ vn n) := by
  unfold M_varint_Add
  exact add_l F 9 F out n h0 (Int.lt_of_lt_of_le h1 (by decide)) (by omega) (by omega)
theorem bytes_l : ∀ (j F : Nat) (n : Int), 0 ≤ n → n < 128 ^ (j + 1) → n < 18446744073709551616 → j < F → j ≤ 100 → M_R_VarintBytes F n = some (vb j n)
  | j, 0, n, _, _, _, h, _ => by omega
  | j, F + 1, n, h0, h1, hu, hk, hj => by
    unfold M_R_VarintBytes
    simp only
    by_cases hn : n < 128
    · simp only [hn, decide_true, if_true]
      have : iconv .u8 n = n := wrap_u8 h0 (by omega)
      rw [vb_small j hn, this]
    · cases j with
      | zero => simp at h1; omega
      | succ j =>
        simp only [hn, decide_false, Bool.false_eq_true, if_false]
        have hq : iquo .u64 n 128 = n / 128 := by
          unfold iquo
          rw [Int.tdiv_eq_ediv_of_nonneg h0, wrap_u64 (by omega) (by omega)]
        have hr : iconv .u8 (iadd .u64 (irem n 128) 128) = n % 128 + 128 := by
          unfold irem iadd iconv
          rw [Int.tmod_eq_emod_of_nonneg h0, wrap_u64 (by omega) (by omega), wrap_u8 (by omega) (by omega)]
        rw [hq, hr, bytes_l j F (n / 128) (by omega) (by rw [Int.pow_succ] at h1; omega) (by omega) (by omega) (by omega)]
        simp only [Option.bind_some]
        have := vb_len j (n / 128)
        rw [app_eq (by simp; omega), vb_big j hn]
        simp
theorem bytes_eq {F : Nat} (hF : 10 ≤ F) {n : Int} (h0 : 0 ≤ n) (h1 : n < 18446744073709551616) : M_R_VarintBytes F n = some (vn n) :=
  bytes_l 9 F n h0 (Int.lt_of_lt_of_le h1 (by decide)) h1 (by omega) (by omega)
/-! ### Writing -/
def U64s (l : List Int) : Prop := ∀ n ∈ l, 0 ≤ n ∧ n < 18446744073709551616
def U8s (l : List Int) : Prop := ∀ n ∈ l, 0 ≤ n ∧ n < 256
def fin (ys : List Int) : List Int × Int := if 4096 < ys.length then ([], 2) else (ys, 0)
theorem write_l {F : Nat} (hF : 10 ≤ F) {l : List Int} (hu : U64s l) (hm : l.length ≤ 9223372036854775807) : ∀ (k i : Nat) (acc : List Int), l.length < k + i → i ≤ l.length → acc.length ≤ 4096 →
    M_varint_Write_l3 F l k (acc, (i : Int)) = some (fin (acc ++ (l.drop i).flatMap vn))
  | 0, i, acc, h, hi, _ => by omega
  | k + 1, i, acc, h, hi, ha => by
    show M_varint_Write_b3 F l (M_varint_Write_l3 F l k) acc i = _
    unfold M_varint_Write_b3
    by_cases hlt : i < l.length
    · have hlt' : (i : Int) < (l.length : Int) := by omega
      have hg : l[i]? = some l[i] := by simp [hlt]
      have hx := hu l[i] (List.getElem_mem hlt)
      rw [List.drop_eq_getElem_cons hlt]
      simp only [hlt', decide_true, if_true, idx_nat, hg, Option.bind_some, List.flatMap_cons]
      rw [add_eq hF hx.1 hx.2 (by omega)]
      simp only [Option.bind_some]
      by_cases hb : 4096 < ((acc ++ vn l[i]).length : Int)
      · simp only [hb, decide_true, if_true]
        unfold fin
        rw [if_pos (by simp at hb ⊢; omega)]
      · simp only [hb, decide_false, Bool.false_eq_true, if_false]
        rw [iadd_i64 (by omega) (by omega), show (i : Int) + 1 = ((i + 1 : Nat) : Int) from by omega, write_l hF hu hm k (i + 1) _ (by omega) (by omega) (by omega)]
        simp
    · have hlt' : ¬ (i : Int) < (l.length : Int) := by omega
      simp only [hlt', decide_false, Bool.false_eq_true, if_false]
      have : l.drop i = [] := List.drop_eq_nil_of_le (by omega)
      rw [this]
      unfold M_varint_Write_j2 fin
      rw [if_neg (by simp; omega)]
      simp
theorem write_eq {F : Nat} {l : List Int} (hF : 10 ≤ F) (hl : l.length < F) (hu : U64s l) (hm : l.length ≤ 9223372036854775807) : M_varint_Write F l = some (fin (l.flatMap vn)) := by
  unfold M_varint_Write
  have := write_l hF hu hm F 0 [] (by omega) (by omega) (by simp)
  simpa using this
theorem same_l (F : Nat) {xs ys : List Int} (hl : xs.length = ys.length) (hm : xs.length ≤ 9223372036854775807) : ∀ (k i : Nat), xs.length < k + i → i ≤ xs.length →
    M_R_SameBytes_l3 F xs ys k (i : Int) = some (decide (xs.drop i = ys.drop i))
  | 0, i, h, _ => by omega
  | k + 1, i, h, hi => by
    show M_R_SameBytes_b3 F xs ys (M_R_SameBytes_l3 F xs ys k) i = _
    unfold M_R_SameBytes_b3
    by_cases hlt : i < xs.length
    · have hlt' : (i : Int) < (xs.length : Int) := by omega
      have hlt2 : i < ys.length := by omega
      have hg : xs[i]? = some xs[i] := by simp [hlt]
      have hg2 : ys[i]? = some ys[i] := by simp [hlt2]
      simp only [hlt', decide_true, if_true, idx_nat, hg, hg2, Option.bind_some]
      have e : (xs.drop i = ys.drop i) ↔ (xs[i] = ys[i] ∧ xs.drop (i + 1) = ys.drop (i + 1)) := by
        rw [List.drop_eq_getElem_cons hlt, List.drop_eq_getElem_cons hlt2, List.cons.injEq]
      simp only [e]
      by_cases he : xs[i] = ys[i]
      · simp only [he, bne_self_eq_false, Bool.false_eq_true, if_false, true_and]
        rw [iadd_i64 (by omega) (by omega), show (i : Int) + 1 = ((i + 1 : Nat) : Int) from by omega, same_l F hl hm k (i + 1) (by omega) (by omega)]
      · have : (xs[i] != ys[i]) = true := by simpa using he
        simp only [this, if_true, he, false_and, decide_false]
    · have hlt' : ¬ (i : Int) < (xs.length : Int) := by omega
      simp only [hlt', decide_false, Bool.false_eq_true, if_false]
      rw [List.drop_eq_nil_of_le (by omega), List.drop_eq_nil_of_le (by omega)]
      rfl
theorem sameBytes_eq {F : Nat} {xs ys : List Int} (hF : xs.length < F) (hm : xs.length ≤ 9223372036854775807) : M_R_SameBytes F xs ys = some (decide (xs = ys)) := by
  unfold M_R_SameBytes
  by_cases hl : xs.length = ys.length
  · have : (((xs.length : Int) : Int) != (ys.length : Int)) = false := by simp [hl]
    simp only [this, Bool.false_eq_true, if_false]
    have := same_l F hl hm F 0 (by omega) (by omega)
    simpa using this
  · have : (((xs.length : Int) : Int) != (ys.length : Int)) = true := by simp; omega
    simp only [this, if_true]
    have : xs ≠ ys := fun e => hl (by rw [e])
    simp [this]
theorem sameNums_is : @M_R_SameNums = @M_R_SameBytes := by
  have h1 : ∀ F xs ys k s, M_R_SameNums_l3 F xs ys k s = M_R_SameBytes_l3 F xs ys k s := by
    intro F xs ys k
    induction k with
    | zero => intro s; rfl
    | succ k ih =>
      intro s
      have : M_R_SameNums_l3 F xs ys k = M_R_SameBytes_l3 F xs ys k := funext ih
      show M_R_SameNums_b3 F xs ys (M_R_SameNums_l3 F xs ys k) s = M_R_SameBytes_b3 F xs ys (M_R_SameBytes_l3 F xs ys k) s
      rw [this]
      rfl
  funext F xs ys
  unfold M_R_SameNums M_R_SameBytes
  rw [h1]
theorem sameNums_eq {F : Nat} {xs ys : List Int} (hF : xs.length < F) (hm : xs.length ≤ 9223372036854775807) : M_R_SameNums F xs ys = some (decide (xs = ys)) := by
  rw [sameNums_is]; exact sameBytes_eq hF hm
/-! ### Reading -/
/-- What is read from a place on: value, how many bytes, what is wrong. -/
def rd : List Int → Nat → Int → Int × Nat × Int
  | [], _, _ => (0, 0, 7)
  | x :: s, i, n => if i = 9 ∧ 1 < x then (0, 0, 3) else if 0 < i ∧ x = 0 then (0, 0, 1) else
    if x < 128 then (n + x % 128 * 128 ^ i, i + 1, 0) else rd s (i + 1) (n + x % 128 * 128 ^ i)
def out (at' : Nat) (r : Int × Nat × Int) : Int × Int × Int := if r.2.2 = 0 then (r.1, (at' : Int) + (r.2.1 : Int), 0) else (0, 0, r.2.2)
theorem pow128 : ∀ i : Fin 10, ((128 : Int) ^ i.val = 2 ^ (7 * i.val)) := by decide
theorem pow_le9 {i : Nat} (hi : i ≤ 9) : (128 : Int) ^ i ≤ 9223372036854775808 ∧ 1 ≤ (128 : Int) ^ i := by
  have key : ∀ i : Fin 10, (128 : Int) ^ i.val ≤ 9223372036854775808 ∧ 1 ≤ (128 : Int) ^ i.val := by decide
  exact key ⟨i, by omega⟩
/-- A byte's part, at its place. -/
theorem part_lt {i : Nat} {x : Int} (hi : i ≤ 9) (hx : 0 ≤ x) (h9 : i = 9 → x ≤ 1) : 0 ≤ x % 128 * 128 ^ i ∧ x % 128 * 128 ^ i + 128 ^ i ≤ 18446744073709551616 := by
  have hp := pow_le9 hi
  have h1 : 0 ≤ x % 128 := by omega
  have h2 : 0 ≤ x % 128 * 128 ^ i := Int.mul_nonneg h1 (by omega)
  refine ⟨h2, ?_⟩
  by_cases h : i = 9
  · subst h
    have := h9 rfl
    have h3 : x = 0 ∨ x = 1 := by omega
    rcases h3 with rfl | rfl <;> decide
  · have h4 : i ≤ 8 := by omega
    have key : ∀ i : Fin 9, (128 : Int) ^ i.val ≤ 72057594037927936 := by decide
    have h5 := key ⟨i, by omega⟩
    simp only at h5
    have h6 : x % 128 * 128 ^ i ≤ 127 * 128 ^ i := Int.mul_le_mul_of_nonneg_right (by omega) (by omega)
    omega
theorem iand_127 {x : Int} (h0 : 0 ≤ x) (h1 : x < 256) : iand .u8 x 127 = x % 128 := by
  have := iand_mask (k := .u8) (a := x) (m := 7) h0 (by simpa [IntKind.bits] using h1) (by decide) rfl
  simpa using this
theorem from_l (F : Nat) {b : List Int} (hb : U8s b) (hm : b.length ≤ 4611686018427387904) {at' : Nat} (hat : at' ≤ b.length) : ∀ (k i : Nat) (n : Int), 9 < k + i → i ≤ 9 → at' + i ≤ b.length → 0 ≤ n → n < 128 ^ i →
    M_varint_From_l1 F b at' k (n, (i : Int)) = some (out at' (rd (b.drop (at' + i)) i n))
  | 0, i, n, h, hi, _, _, _ => by omega
  | k + 1, i, n, h, hi, hai, hn0, hn1 => by
    show M_varint_From_b1 F b at' (M_varint_From_l1 F b at' k) n i = _
    unfold M_varint_From_b1
    have e1 : iadd .i64 (at' : Int) (i : Int) = ((at' + i : Nat) : Int) := by rw [iadd_i64 (by omega) (by omega)]; omega
    have e2 : imul .i64 7 (i : Int) = ((7 * i : Nat) : Int) := by rw [imul_i64 (by omega) (by omega)]; omega
    rw [e1, e2]
    by_cases hlt : at' + i < b.length
    · have h1 : ¬ ((b.length : Int) ≤ ((at' + i : Nat) : Int)) := by omega
      have hg : b[at' + i]? = some b[at' + i] := by simp [hlt]
      have hx := hb b[at' + i] (List.getElem_mem hlt)
      rw [List.drop_eq_getElem_cons hlt]
      simp only [h1, decide_false, Bool.false_eq_true, if_false, idx_nat, hg, Option.bind_some]
      generalize b[at' + i] = x at hx
      unfold rd
      by_cases c1 : i = 9 ∧ 1 < x
      · have : (((i : Int) == 9) && decide (1 < x)) = true := by simp [c1.1, c1.2]
        rw [if_pos this, if_pos c1]
        rfl
      · have hc1 : (((i : Int) == 9) && decide (1 < x)) = false := by
          rw [Bool.eq_false_iff]; intro h; apply c1; simp at h; exact ⟨by omega, h.2⟩
        simp only [hc1, Bool.false_eq_true, if_false, c1]
        by_cases c2 : 0 < i ∧ x = 0
        · have : (decide ((0 : Int) < i) && (x == 0)) = true := by simp [c2.2]; omega
          rw [if_pos this, if_pos c2]
          rfl
        · have hc2 : (decide ((0 : Int) < i) && (x == 0)) = false := by
            rw [Bool.eq_false_iff]; intro h; apply c2; simp at h; exact ⟨by omega, h.2⟩
          simp only [hc2, Bool.false_eq_true, if_false, c2]
          have hch : decide ((0 : Int) ≤ ((7 * i : Nat) : Int)) = true := decide_eq_true (by omega)
          simp only [hch, chk, if_true, lett]
          have hpl := part_lt (x := x) hi hx.1 (fun e => by omega)
          have hpw : (128 : Int) ^ i = 2 ^ (7 * i) := pow128 ⟨i, by omega⟩
          have hv : ior .u64 n (ishl .u64 (iconv .u64 (iand .u8 x 127)) ((7 * i : Nat) : Int)) = n + x % 128 * 128 ^ i := by
            rw [iand_127 hx.1 hx.2, ishl_u64 (by omega)]
            have h1 : iconv .u64 (x % 128) = x % 128 := wrap_u64 (by omega) (by omega)
            rw [h1, ← hpw, Int.emod_eq_of_lt hpl.1 (by omega)]
            refine ior_add (m := 7 * i) hn0 (by rw [← hpw]; exact hn1) hpl.1 ?_ rfl ?_
            · rw [← hpw]; exact Int.mul_emod_left _ _
            · simp only [IntKind.bits]
              have : (2 : Int) ^ 64 = 18446744073709551616 := by decide
              omega
          rw [hv]
          by_cases c3 : x < 128
          · simp only [c3, decide_true, if_true]
            have e3 : iadd .i64 ((at' + i : Nat) : Int) 1 = ((at' + (i + 1) : Nat) : Int) := by rw [iadd_i64 (by omega) (by omega)]; omega
            rw [e3]
            unfold out
            simp
          · simp only [c3, decide_false, Bool.false_eq_true, if_false]
            have hi9 : i ≠ 9 := by intro e; apply c1; exact ⟨e, by omega⟩
            rw [iadd_i64 (by omega) (by omega), show (i : Int) + 1 = ((i + 1 : Nat) : Int) from by omega,
              from_l F hb hm hat k (i + 1) _ (by omega) (by omega) (by omega) (by omega) (by rw [Int.pow_succ]; have : x % 128 * 128 ^ i ≤ 127 * 128 ^ i := Int.mul_le_mul_of_nonneg_right (by omega) (by omega); omega)]
            rw [show at' + (i + 1) = at' + i + 1 from by omega]
    · have h1 : ((b.length : Int) ≤ ((at' + i : Nat) : Int)) := by omega
      simp only [h1, decide_true, if_true]
      rw [List.drop_eq_nil_of_le (by omega)]
      rfl
theorem from_eq {F : Nat} (hF : 10 ≤ F) {b : List Int} (hb : U8s b) (hm : b.length ≤ 4611686018427387904) {at' : Nat} (hat : at' ≤ b.length) : M_varint_From F b at' = some (out at' (rd (b.drop at') 0 0)) := by
  unfold M_varint_From
  have := from_l F hb hm hat F 0 0 (by omega) (by omega) (by omega) (by omega) (by decide)
  simpa using this
theorem rread_l (F : Nat) {b : List Int} (hb : U8s b) (hm : b.length ≤ 4611686018427387904) {at' : Nat} (hat : at' ≤ b.length) : ∀ (k i : Nat) (n : Int), 9 < k + i → i ≤ 9 → at' + i ≤ b.length → 0 ≤ n → n < 128 ^ i →
    M_R_VarintRead_l3 F b at' k (n, 128 ^ i, ((at' + i : Nat) : Int)) = some (out at' (rd (b.drop (at' + i)) i n))
  | 0, i, n, h, hi, _, _, _ => by omega
  | k + 1, i, n, h, hi, hai, hn0, hn1 => by
    show M_R_VarintRead_b3 F b at' (M_R_VarintRead_l3 F b at' k) n (128 ^ i) ((at' + i : Nat) : Int) = _
    unfold M_R_VarintRead_b3
    by_cases hlt : at' + i < b.length
    · have h1 : (((at' + i : Nat) : Int) < (b.length : Int)) := by omega
      have hg : b[at' + i]? = some b[at' + i] := by simp [hlt]
      have hx := hb b[at' + i] (List.getElem_mem hlt)
      have e2 : isub .i64 ((at' + i : Nat) : Int) (at' : Int) = (i : Int) := by rw [isub_i64 (by omega) (by omega)]; omega
      rw [List.drop_eq_getElem_cons hlt]
      simp only [h1, decide_true, if_true, idx_nat, hg, Option.bind_some, e2]
      generalize b[at' + i] = x at hx
      have hcx : iconv .u64 x = x := wrap_u64 hx.1 (by omega)
      rw [hcx]
      unfold rd
      by_cases c1 : i = 9 ∧ 1 < x
      · have : (((i : Int) == 9) && decide (1 < x)) = true := by simp [c1.1, c1.2]
        rw [if_pos this, if_pos c1]
        rfl
      · have hc1 : (((i : Int) == 9) && decide (1 < x)) = false := by
          rw [Bool.eq_false_iff]; intro h; apply c1; simp at h; exact ⟨by omega, h.2⟩
        simp only [hc1, Bool.false_eq_true, if_false, c1]
        by_cases c2 : 0 < i ∧ x = 0
        · have : (decide ((at' : Int) < ((at' + i : Nat) : Int)) && (x == 0)) = true := by simp [c2.2]; omega
          rw [if_pos this, if_pos c2]
          rfl
        · have hc2 : (decide ((at' : Int) < ((at' + i : Nat) : Int)) && (x == 0)) = false := by
            rw [Bool.eq_false_iff]; intro h; apply c2; simp at h; exact ⟨by omega, h.2⟩
          simp only [hc2, Bool.false_eq_true, if_false, c2, lett]
          have hpl := part_lt (x := x) hi hx.1 (fun e => by omega)
          have hp9 := pow_le9 hi
          have hv : iadd .u64 n (imul .u64 (irem x 128) (128 ^ i)) = n + x % 128 * 128 ^ i := by
            unfold irem imul iadd
            rw [Int.tmod_eq_emod_of_nonneg hx.1, wrap_u64 hpl.1 (by omega), wrap_u64 (by omega) (by omega)]
          rw [hv]
          by_cases c3 : x < 128
          · simp only [c3, decide_true, if_true]
            have e3 : iadd .i64 ((at' + i : Nat) : Int) 1 = ((at' + (i + 1) : Nat) : Int) := by rw [iadd_i64 (by omega) (by omega)]; omega
            rw [e3]
            unfold out
            simp
          · simp only [c3, decide_false, Bool.false_eq_true, if_false]
            have hi9 : i ≠ 9 := by intro e; apply c1; exact ⟨e, by omega⟩
            have key : ∀ i : Fin 9, imul .u64 ((128 : Int) ^ i.val) 128 = 128 ^ (i.val + 1) := by decide
            have e4 := key ⟨i, by omega⟩
            simp only at e4
            rw [iadd_i64 (by omega) (by omega), show ((at' + i : Nat) : Int) + 1 = ((at' + (i + 1) : Nat) : Int) from by omega, e4,
              rread_l F hb hm hat k (i + 1) _ (by omega) (by omega) (by omega) (by omega) (by rw [Int.pow_succ]; have : x % 128 * 128 ^ i ≤ 127 * 128 ^ i := Int.mul_le_mul_of_nonneg_right (by omega) (by omega); omega)]
            rw [show at' + (i + 1) = at' + i + 1 from by omega]
    · have h1 : ¬ (((at' + i : Nat) : Int) < (b.length : Int)) := by omega
      simp only [h1, decide_false, Bool.false_eq_true, if_false]
      rw [List.drop_eq_nil_of_le (by omega)]
      rfl
theorem rread_eq {F : Nat} (hF : 10 ≤ F) {b : List Int} (hb : U8s b) (hm : b.length ≤ 4611686018427387904) {at' : Nat} (hat : at' ≤ b.length) : M_R_VarintRead F b at' = some (out at' (rd (b.drop at') 0 0)) := by
  unfold M_R_VarintRead
  have := rread_l F hb hm hat F 0 0 (by omega) (by omega) (by omega) (by omega) (by decide)
  simpa using this

/-! ### What is read is what was written -/
theorem rd_vb : ∀ (j i : Nat) (m n : Int) (t : List Int), i + j = 9 → 0 ≤ m → m * 128 ^ i < 18446744073709551616 → (0 < i → m ≠ 0) →
    rd (vb j m ++ t) i n = (n + m * 128 ^ i, i + (vb j m).length, 0)
  | j, i, m, n, t, hij, h0, hm, hz => by
    by_cases hs : m < 128
    · rw [vb_small j hs]
      simp only [List.cons_append, List.nil_append, rd, List.length_cons, List.length_nil]
      have h9 : ¬ (i = 9 ∧ 1 < m) := by
        rintro ⟨rfl, h⟩
        have : (128 : Int) ^ 9 = 9223372036854775808 := by decide
        rw [this] at hm; omega
      have h2 : ¬ (0 < i ∧ m = 0) := fun h => hz h.1 h.2
      rw [if_neg h9, if_neg h2, if_pos hs, Int.emod_eq_of_lt h0 hs]
    · cases j with
      | zero =>
        have : i = 9 := by omega
        subst this
        have h9 : (128 : Int) ^ 9 = 9223372036854775808 := by decide
        rw [h9] at hm; omega
      | succ j =>
        rw [vb_big j hs]
        have hi : i ≤ 8 := by omega
        simp only [List.cons_append, rd, List.length_cons]
        have h9 : ¬ (i = 9 ∧ 1 < m % 128 + 128) := by rintro ⟨rfl, h⟩; omega
        have h2 : ¬ (0 < i ∧ m % 128 + 128 = 0) := by rintro ⟨_, h⟩; omega
        have h3 : ¬ (m % 128 + 128 < 128) := by omega
        rw [if_neg h9, if_neg h2, if_neg h3]
        have e1 : (m % 128 + 128) % 128 = m % 128 := by omega
        have e2 : m % 128 * 128 ^ i + m / 128 * 128 ^ (i + 1) = m * 128 ^ i := by
          rw [Int.pow_succ, Int.mul_comm ((128 : Int) ^ i) 128, ← Int.mul_assoc, ← Int.add_mul]
          congr 1
          omega
        have hp := pow_le9 (i := i) (by omega)
        have e3 : 0 ≤ m % 128 * 128 ^ i := Int.mul_nonneg (by omega) (by omega)
        rw [rd_vb j (i + 1) (m / 128) _ t (by omega) (by omega) (by omega) (by omega), e1, ← e2]
        simp only [Prod.mk.injEq, and_true]
        exact ⟨by omega, by omega⟩
theorem rd_vn {x : Int} (h0 : 0 ≤ x) (h1 : x < 18446744073709551616) (t : List Int) : rd (vn x ++ t) 0 0 = (x, (vn x).length, 0) := by
  have := rd_vb 9 0 x 0 t (by omega) h0 (by simpa using h1) (by omega)
  simpa [vn] using this
theorem rd_ok : ∀ (s : List Int) (i : Nat) (n v : Int) (c : Nat), U8s s → i ≤ 9 → rd s i n = (v, c, 0) →
    ∃ m, 0 ≤ m ∧ v = n + m * 128 ^ i ∧ m * 128 ^ i < 18446744073709551616 ∧ (0 < i → m ≠ 0) ∧ c = i + (vb (9 - i) m).length ∧ s = vb (9 - i) m ++ s.drop (c - i)
  | [], i, n, v, c, _, _, h => by simp [rd] at h
  | x :: s, i, n, v, c, hu, hi, h => by
    have hx := hu x (by simp)
    have hp := pow_le9 hi
    unfold rd at h
    by_cases c1 : i = 9 ∧ 1 < x
    · rw [if_pos c1] at h; simp at h
    · rw [if_neg c1] at h
      by_cases c2 : 0 < i ∧ x = 0
      · rw [if_pos c2] at h; simp at h
      · rw [if_neg c2] at h
        by_cases c3 : x < 128
        · rw [if_pos c3] at h
          simp only [Prod.mk.injEq, and_true] at h
          obtain ⟨rfl, rfl⟩ := h
          have hpl := part_lt (x := x) hi hx.1 (fun e => by omega)
          have hxe : x % 128 = x := Int.emod_eq_of_lt hx.1 c3
          refine ⟨x, hx.1, by rw [hxe], by rw [hxe] at hpl; omega, fun h0 hz => c2 ⟨h0, hz⟩, by rw [vb_small _ c3]; simp, ?_⟩
          rw [vb_small _ c3, show i + 1 - i = 1 from by omega]
          simp
        · rw [if_neg c3] at h
          have hi8 : i ≤ 8 := by omega
          obtain ⟨m, h0, hv, hm, hz, hc, hs⟩ := rd_ok s (i + 1) _ v c (fun y hy => hu y (List.mem_cons_of_mem _ hy)) (by omega) h
          have hz' := hz (by omega)
          have hj : 9 - i = (9 - (i + 1)) + 1 := by omega
          have e2 : x % 128 * 128 ^ i + m * 128 ^ (i + 1) = (x % 128 + 128 * m) * 128 ^ i := by
            rw [Int.pow_succ, Int.add_mul, Int.mul_comm 128 m, Int.mul_assoc m, Int.mul_comm 128 ((128 : Int) ^ i)]
          refine ⟨x % 128 + 128 * m, by omega, ?_, ?_, fun _ => by omega, ?_, ?_⟩
          · rw [← e2]; omega
          · rw [← e2]
            have : m * 128 ^ (i + 1) ≤ 18446744073709551616 - 128 ^ (i + 1) := by
              have hd : (18446744073709551616 : Int) = 18446744073709551616 / 128 ^ (i + 1) * 128 ^ (i + 1) := by
                have key : ∀ i : Fin 9, (18446744073709551616 : Int) = 18446744073709551616 / 128 ^ (i.val + 1) * 128 ^ (i.val + 1) := by decide
                exact key ⟨i, by omega⟩
              generalize (18446744073709551616 : Int) / 128 ^ (i + 1) = q at hd
              have hp1 := (pow_le9 (i := i + 1) (by omega)).2
              rw [hd] at hm ⊢
              have hmq : m < q := Int.lt_of_mul_lt_mul_right hm (by omega)
              have : (m + 1) * 128 ^ (i + 1) ≤ q * 128 ^ (i + 1) := Int.mul_le_mul_of_nonneg_right (by omega) (by omega)
              rw [Int.add_mul] at this
              omega
            have hx2 : x % 128 * 128 ^ i ≤ 127 * 128 ^ i := Int.mul_le_mul_of_nonneg_right (by omega) (by omega)
            rw [Int.pow_succ] at this ⊢
            omega
          · rw [hj, vb_big _ (by omega), show (x % 128 + 128 * m) / 128 = m from by omega]
            simp only [List.length_cons]
            omega
          · rw [hj, vb_big _ (by omega), show (x % 128 + 128 * m) / 128 = m from by omega, show (x % 128 + 128 * m) % 128 + 128 = x from by omega]
            rw [show c - i = (c - (i + 1)) + 1 from by omega, List.drop_succ_cons, List.cons_append, ← hs]
theorem rd_ok0 {s : List Int} {v : Int} {c : Nat} (hu : U8s s) (h : rd s 0 0 = (v, c, 0)) : 0 ≤ v ∧ v < 18446744073709551616 ∧ c = (vn v).length ∧ s = vn v ++ s.drop c := by
  obtain ⟨m, h0, hv, hm, _, hc, hs⟩ := rd_ok s 0 0 v c hu (by omega) h
  simp at hv hm hc hs
  subst hv
  exact ⟨h0, hm, hc, hs⟩
/-! ### All numbers -/
def al : Nat → List Int → List Int × Int
  | 0, _ => ([], 0)
  | k + 1, s => if s = [] then ([], 0) else if (rd s 0 0).2.2 ≠ 0 then ([], (rd s 0 0).2.2) else
    if (al k (s.drop (rd s 0 0).2.1)).2 ≠ 0 then ([], (al k (s.drop (rd s 0 0).2.1)).2) else ((rd s 0 0).1 :: (al k (s.drop (rd s 0 0).2.1)).1, 0)
theorem rd_cnt {s : List Int} (hu : U8s s) (h : (rd s 0 0).2.2 = 0) : 1 ≤ (rd s 0 0).2.1 ∧ (rd s 0 0).2.1 ≤ s.length := by
  have hr : rd s 0 0 = ((rd s 0 0).1, (rd s 0 0).2.1, 0) := Prod.ext rfl (Prod.ext rfl h)
  obtain ⟨_, _, hc, hs⟩ := rd_ok0 hu hr
  have hp : 1 ≤ (vn (rd s 0 0).1).length := vb_pos 9 (rd s 0 0).1
  have hl : s.length = (vn (rd s 0 0).1 ++ s.drop (rd s 0 0).2.1).length := by rw [← hs]
  rw [List.length_append] at hl
  omega
theorem U8s.drop {s : List Int} (h : U8s s) (n : Nat) : U8s (s.drop n) := fun x hx => h x (List.mem_of_mem_drop hx)
theorem al_app : ∀ (k : Nat) (l : List Int), U64s l → (l.flatMap vn).length < k → al k (l.flatMap vn) = (l, 0)
  | 0, l, _, h => by omega
  | k + 1, [], _, _ => by simp [al]
  | k + 1, x :: l, hu, h => by
    have hx := hu x (by simp)
    have hr := rd_vn hx.1 hx.2 (l.flatMap vn)
    have hp : 1 ≤ (vn x).length := vb_pos 9 x
    rw [List.flatMap_cons] at h ⊢
    unfold al
    have hne : vn x ++ l.flatMap vn ≠ [] := by
      intro e
      have := congrArg List.length e
      rw [List.length_append] at this
      simp only [List.length_nil] at this
      omega
    rw [if_neg hne, hr]
    simp only [ne_eq, not_true_eq_false, if_false, List.drop_left]
    rw [al_app k l (fun y hy => hu y (List.mem_cons_of_mem _ hy)) (by rw [List.length_append] at h; omega)]
    simp
theorem al_ok : ∀ (k : Nat) (s : List Int), U8s s → s.length < k → (al k s).2 = 0 → s = (al k s).1.flatMap vn ∧ U64s (al k s).1
  | 0, s, _, h, _ => by omega
  | k + 1, s, hu, h, he => by
    unfold al at he ⊢
    by_cases hs : s = []
    · rw [if_pos hs]; subst hs; exact ⟨rfl, fun x hx => by simp at hx⟩
    · rw [if_neg hs] at he ⊢
      by_cases h1 : (rd s 0 0).2.2 ≠ 0
      · rw [if_pos h1] at he; exact absurd he h1
      · rw [if_neg h1] at he ⊢
        have h1' : (rd s 0 0).2.2 = 0 := by simpa using h1
        have hc := rd_cnt hu h1'
        by_cases h2 : (al k (s.drop (rd s 0 0).2.1)).2 ≠ 0
        · rw [if_pos h2] at he; exact absurd he h2
        · rw [if_neg h2]
          have h2' : (al k (s.drop (rd s 0 0).2.1)).2 = 0 := by simpa using h2
          obtain ⟨h3, h4⟩ := al_ok k _ (hu.drop _) (by rw [List.length_drop]; omega) h2'
          obtain ⟨h5, h6, _, h7⟩ := rd_ok0 hu (show rd s 0 0 = ((rd s 0 0).1, (rd s 0 0).2.1, 0) from Prod.ext rfl (Prod.ext rfl h1'))
          refine ⟨?_, fun y hy => ?_⟩
          · rw [List.flatMap_cons, ← h3, ← h7]
          · rcases List.mem_cons.1 hy with rfl | hy
            · exact ⟨h5, h6⟩
            · exact h4 y hy
theorem al_err : ∀ (k : Nat) (s : List Int), (al k s).2 ≠ 0 → (al k s).1 = []
  | 0, s, h => by simp [al] at h
  | k + 1, s, h => by
    unfold al at h ⊢
    split
    · rfl
    · split
      · rfl
      · split
        · rfl
        · rename_i h1 h2 h3
          rw [if_neg h1, if_neg h2, if_neg h3] at h
          simp at h
/-- What 'All' tells. -/
def alr (b : List Int) : List Int × Int := if 4096 < b.length then ([], 2) else al (b.length + 1) b
def kSum (acc : List Int) (p : List Int × Int) (q : Option (List Int ⊕ (List Int × Int))) : Prop :=
  (p.2 = 0 ∧ q = some (.inl (acc ++ p.1))) ∨ (p.2 ≠ 0 ∧ ∃ a, q = some (.inr (a, p.2)))
theorem each_l {F : Nat} (hF : 10 ≤ F) {yy : List Int → Int × Int → Option (List Int ⊕ (List Int × Int))} (hy : ∀ a p, yy a p = M_varint_All_r2 F a p.1 p.2) {b : List Int} (hb : U8s b) (hm : b.length ≤ 4096) : ∀ (k at' : Nat) (acc : List Int), b.length - at' < k → at' ≤ b.length → acc.length + (b.length - at') ≤ 10000 →
    kSum acc (al k (b.drop at')) (M_varint_each_1_l1 F yy b k ((at' : Int), acc))
  | 0, at', acc, h, _, _ => by omega
  | k + 1, at', acc, h, hat, hl => by
    show kSum acc (al (k + 1) (b.drop at')) (M_varint_each_1_b1 F yy b (M_varint_each_1_l1 F yy b k) at' acc)
    unfold M_varint_each_1_b1 al
    by_cases hlt : at' < b.length
    · have h1 : ((at' : Int) < (b.length : Int)) := by omega
      have hne : b.drop at' ≠ [] := by intro e; rw [List.drop_eq_nil_iff] at e; omega
      simp only [h1, decide_true, if_true]
      rw [from_eq hF hb (by omega) hat, if_neg hne]
      simp only [Option.bind_some]
      by_cases he : (rd (b.drop at') 0 0).2.2 = 0
      · have hc := rd_cnt (hb.drop at') he
        have ho : out at' (rd (b.drop at') 0 0) = ((rd (b.drop at') 0 0).1, ((at' + (rd (b.drop at') 0 0).2.1 : Nat) : Int), 0) := by
          unfold out; rw [if_pos he]; simp
        rw [ho]
        simp only [hy, M_varint_All_r2, bne_self_eq_false, Bool.false_eq_true, if_false]
        rw [app_eq (by simp; omega)]
        simp only [Option.bind_some, Sum.elim_inl]
        rw [List.length_drop] at hc
        have ih := each_l hF hy hb hm k (at' + (rd (b.drop at') 0 0).2.1) (acc ++ [(rd (b.drop at') 0 0).1]) (by omega) (by omega) (by simp; omega)
        rw [← List.drop_drop] at ih
        generalize al k ((b.drop at').drop (rd (b.drop at') 0 0).2.1) = p at ih
        simp only [he, ne_eq, not_true_eq_false, if_false]
        rcases ih with ⟨e1, e2⟩ | ⟨e1, a, e2⟩
        · left
          rw [e2]
          simp [e1]
        · right
          rw [e2]
          simp [e1]
      · have ho : out at' (rd (b.drop at') 0 0) = (0, 0, (rd (b.drop at') 0 0).2.2) := by unfold out; rw [if_neg he]
        rw [ho]
        have hb2 : ((rd (b.drop at') 0 0).2.2 != 0) = true := by simpa using he
        simp only [hy, M_varint_All_r2, hb2, if_true, Option.bind_some, Sum.elim_inr]
        right
        simp [he]
    · have h1 : ¬ ((at' : Int) < (b.length : Int)) := by omega
      simp only [h1, decide_false, Bool.false_eq_true, if_false]
      rw [if_pos (List.drop_eq_nil_of_le (by omega))]
      left
      simp
theorem al_fuel : ∀ (k k' : Nat) (s : List Int), U8s s → s.length < k → s.length < k' → al k s = al k' s
  | 0, _, s, _, h, _ => by omega
  | _ + 1, 0, s, _, _, h => by omega
  | k + 1, k' + 1, s, hu, h, h' => by
    unfold al
    by_cases hs : s = []
    · rw [if_pos hs, if_pos hs]
    · rw [if_neg hs, if_neg hs]
      by_cases h1 : (rd s 0 0).2.2 ≠ 0
      · rw [if_pos h1, if_pos h1]
      · have hc := rd_cnt hu (by simpa using h1)
        have : al k (s.drop (rd s 0 0).2.1) = al k' (s.drop (rd s 0 0).2.1) := al_fuel k k' _ (hu.drop _) (by rw [List.length_drop]; omega) (by rw [List.length_drop]; omega)
        rw [if_neg h1, if_neg h1, this]
theorem all_eq {F : Nat} (hF : 5000 ≤ F) {b : List Int} (hb : U8s b) : M_varint_All F b = some (alr b) := by
  unfold M_varint_All alr
  by_cases hl : 4096 < b.length
  · have : (4096 : Int) < (b.length : Int) := by omega
    simp [this, hl]
  · have h1 : ¬ (4096 : Int) < (b.length : Int) := by omega
    simp only [h1, decide_false, Bool.false_eq_true, if_false, hl, M_varint_each, Option.bind_some, M_varint_each_1]
    have := each_l (F := F) (by omega) (yy := fun (x57 : List Int) ((x71, x72) : (Int × Int)) => M_varint_All_r2 F x57 x71 x72) (fun _ _ => rfl) hb (by omega) F 0 [] (by omega) (by omega) (by simp; omega)
    rw [List.drop_zero, al_fuel F (b.length + 1) b hb (by omega) (by omega), show ((0 : Nat) : Int) = 0 from rfl] at this
    rcases this with ⟨e1, e2⟩ | ⟨e1, a, e2⟩
    · rw [e2]
      simp only [Option.bind_some, Sum.elim_inl, List.nil_append]
      rw [← e1]
    · rw [e2]
      have := al_err _ _ e1
      simp only [Option.bind_some, Sum.elim_inr]
      rw [← this]
theorem rall_l {F : Nat} (hF : 10 ≤ F) {b : List Int} (hb : U8s b) (hm : b.length ≤ 4096) : ∀ (k at' : Nat) (acc : List Int), b.length - at' < k → at' ≤ b.length → acc.length + (b.length - at') ≤ 10000 →
    M_R_VarintAll_l3 F b k (acc, (at' : Int)) = some (if (al k (b.drop at')).2 = 0 then (acc ++ (al k (b.drop at')).1, 0) else ([], (al k (b.drop at')).2))
  | 0, at', acc, h, _, _ => by omega
  | k + 1, at', acc, h, hat, hl => by
    show M_R_VarintAll_b3 F b (M_R_VarintAll_l3 F b k) acc at' = _
    unfold M_R_VarintAll_b3 al
    by_cases hlt : at' < b.length
    · have h1 : ((at' : Int) < (b.length : Int)) := by omega
      have hne : b.drop at' ≠ [] := by intro e; rw [List.drop_eq_nil_iff] at e; omega
      simp only [h1, decide_true, if_true]
      rw [rread_eq hF hb (by omega) hat, if_neg hne]
      simp only [Option.bind_some]
      by_cases he : (rd (b.drop at') 0 0).2.2 = 0
      · have hc := rd_cnt (hb.drop at') he
        have ho : out at' (rd (b.drop at') 0 0) = ((rd (b.drop at') 0 0).1, ((at' + (rd (b.drop at') 0 0).2.1 : Nat) : Int), 0) := by
          unfold out; rw [if_pos he]; simp
        rw [ho]
        simp only [bne_self_eq_false, Bool.false_eq_true, if_false]
        rw [app_eq (by simp; omega)]
        simp only [Option.bind_some]
        rw [List.length_drop] at hc
        have ih := rall_l hF hb hm k (at' + (rd (b.drop at') 0 0).2.1) (acc ++ [(rd (b.drop at') 0 0).1]) (by omega) (by omega) (by simp; omega)
        rw [← List.drop_drop] at ih
        rw [ih]
        generalize al k ((b.drop at').drop (rd (b.drop at') 0 0).2.1) = p
        simp only [he, ne_eq, not_true_eq_false, if_false]
        by_cases hp : p.2 = 0 <;> simp [hp]
      · have ho : out at' (rd (b.drop at') 0 0) = (0, 0, (rd (b.drop at') 0 0).2.2) := by unfold out; rw [if_neg he]
        rw [ho]
        have hb2 : ((rd (b.drop at') 0 0).2.2 != 0) = true := by simpa using he
        simp only [hb2, if_true]
        simp [he]
    · have h1 : ¬ ((at' : Int) < (b.length : Int)) := by omega
      simp only [h1, decide_false, Bool.false_eq_true, if_false]
      rw [if_pos (List.drop_eq_nil_of_le (by omega))]
      simp [M_R_VarintAll_j2]
theorem rall_eq {F : Nat} (hF : 5000 ≤ F) {b : List Int} (hb : U8s b) : M_R_VarintAll F b = some (alr b) := by
  unfold M_R_VarintAll alr
  by_cases hl : 4096 < b.length
  · have : (4096 : Int) < (b.length : Int) := by omega
    simp [this, hl]
  · have h1 : ¬ (4096 : Int) < (b.length : Int) := by omega
    simp only [h1, decide_false, Bool.false_eq_true, if_false, hl]
    have := rall_l (F := F) (by omega) hb (by omega) F 0 [] (by omega) (by omega) (by simp; omega)
    rw [List.drop_zero, al_fuel F (b.length + 1) b hb (by omega) (by omega)] at this
    rw [show ((0 : Nat) : Int) = 0 from rfl] at this
    rw [this]
    by_cases hp : (al (b.length + 1) b).2 = 0
    · rw [if_pos hp]; exact congrArg some (Prod.ext rfl hp.symm)
    · rw [if_neg hp]; exact congrArg some (Prod.ext (al_err _ _ hp).symm rfl)

/-! ### Folding -/
def foldOf (x : Int) : Int := if x < 0 then 2 * (-(x + 1)) + 1 else 2 * x
theorem wrap_u64_neg {x : Int} (h1 : -9223372036854775808 ≤ x) (h2 : x < 0) : IntKind.wrap .u64 x = x + 18446744073709551616 := by
  rw [wrap_u64_mod]; omega
theorem xor_ones (n : Nat) (h : n < 18446744073709551616) : ixor .u64 (n : Int) 18446744073709551615 = 18446744073709551615 - (n : Int) := by
  unfold ixor
  have h1 : (BitVec.ofInt (IntKind.bits .u64) (n : Int)) = BitVec.ofNat 64 n := by simp [IntKind.bits]
  have h2 : (BitVec.ofInt (IntKind.bits .u64) (18446744073709551615 : Int)) = BitVec.allOnes 64 := by show BitVec.ofInt 64 _ = _; decide
  rw [h1, h2]
  have h3 : (BitVec.ofNat 64 n ^^^ BitVec.allOnes 64) = ~~~ (BitVec.ofNat 64 n) := BitVec.xor_allOnes
  have h4 : (BitVec.ofNat 64 n ^^^ BitVec.allOnes 64).toNat = 18446744073709551615 - n := by
    rw [h3, BitVec.toNat_not, BitVec.toNat_ofNat]
    omega
  show IntKind.wrap .u64 ((BitVec.ofNat 64 n ^^^ BitVec.allOnes 64).toNat : Int) = _
  rw [h4, wrap_u64 (by omega) (by omega)]
  omega
theorem xor_zero_u (n : Nat) (h : n < 18446744073709551616) : ixor .u64 (n : Int) 0 = (n : Int) := by
  unfold ixor
  have h1 : (BitVec.ofInt (IntKind.bits .u64) (n : Int)) = BitVec.ofNat 64 n := by simp [IntKind.bits]
  have h2 : (BitVec.ofInt (IntKind.bits .u64) (0 : Int)) = 0#64 := by show BitVec.ofInt 64 _ = _; decide
  rw [h1, h2]
  show IntKind.wrap .u64 ((BitVec.ofNat 64 n ^^^ 0#64).toNat : Int) = _
  rw [BitVec.xor_zero, BitVec.toNat_ofNat, Nat.mod_eq_of_lt (by omega), wrap_u64 (by omega) (by omega)]
theorem xor_ones_i (n : Nat) (h : n < 9223372036854775808) : ixor .i64 (n : Int) (-1) = -(n : Int) - 1 := by
  unfold ixor
  have h1 : (BitVec.ofInt (IntKind.bits .i64) (n : Int)) = BitVec.ofNat 64 n := by simp [IntKind.bits]
  have h2 : (BitVec.ofInt (IntKind.bits .i64) (-1 : Int)) = BitVec.allOnes 64 := by show BitVec.ofInt 64 _ = _; decide
  rw [h1, h2]
  have h3 : (BitVec.ofNat 64 n ^^^ BitVec.allOnes 64) = ~~~ (BitVec.ofNat 64 n) := BitVec.xor_allOnes
  have h4 : (BitVec.ofNat 64 n ^^^ BitVec.allOnes 64).toNat = 18446744073709551615 - n := by
    rw [h3, BitVec.toNat_not, BitVec.toNat_ofNat]
    omega
  show IntKind.wrap .i64 ((BitVec.ofNat 64 n ^^^ BitVec.allOnes 64).toNat : Int) = _
  rw [h4]
  unfold IntKind.wrap
  simp only [IntKind.bits, IntKind.signed, show (2 ^ 64 : Int) = 18446744073709551616 from by decide, show (2 ^ (64 - 1) : Int) = 9223372036854775808 from by decide]
  rw [if_pos (by simp; omega)]
  omega
theorem xor_zero_i (n : Nat) (h : n < 9223372036854775808) : ixor .i64 (n : Int) 0 = (n : Int) := by
  unfold ixor
  have h1 : (BitVec.ofInt (IntKind.bits .i64) (n : Int)) = BitVec.ofNat 64 n := by simp [IntKind.bits]
  have h2 : (BitVec.ofInt (IntKind.bits .i64) (0 : Int)) = 0#64 := by show BitVec.ofInt 64 _ = _; decide
  rw [h1, h2]
  show IntKind.wrap .i64 ((BitVec.ofNat 64 n ^^^ 0#64).toNat : Int) = _
  rw [BitVec.xor_zero, BitVec.toNat_ofNat, Nat.mod_eq_of_lt (by omega), wrap_i64 (by omega) (by omega)]
theorem fold_eq (F : Nat) {x : Int} (h1 : -9223372036854775808 ≤ x) (h2 : x < 9223372036854775808) : M_varint_Fold F x = some (foldOf x) := by
  unfold M_varint_Fold lett foldOf
  have hs : ishr .i64 x 63 = x / 9223372036854775808 := by
    have := ishr_eq (k := .i64) (a := x) (m := 63) (by decide)
    rw [show ((63 : Nat) : Int) = 63 from rfl, show (2 : Int) ^ 63 = 9223372036854775808 from by decide] at this
    exact this
  have hl : ∀ y : Int, ishl .u64 y 1 = (y * 2) % 18446744073709551616 := fun y => ishl_u64 (a := y) (m := 1) (by decide)
  rw [hs, hl]
  by_cases hx : x < 0
  · rw [if_pos hx, show x / 9223372036854775808 = -1 from by omega]
    have e1 : iconv .u64 x = x + 18446744073709551616 := wrap_u64_neg h1 hx
    have e2 : iconv .u64 (-1) = 18446744073709551615 := by decide
    rw [e1, e2, show (x + 18446744073709551616) * 2 % 18446744073709551616 = (((2 * x + 18446744073709551616).toNat : Nat) : Int) from by omega, xor_ones _ (by omega)]
    congr 1
    omega
  · rw [if_neg hx, show x / 9223372036854775808 = 0 from by omega]
    have e1 : iconv .u64 x = x := wrap_u64 (by omega) (by omega)
    have e2 : iconv .u64 0 = 0 := by decide
    rw [e1, e2, show x * 2 % 18446744073709551616 = ((2 * x).toNat : Int) from by omega, xor_zero_u _ (by omega)]
    congr 1
    omega
theorem foldOf_eq (F : Nat) {x : Int} (h1 : -9223372036854775808 ≤ x) (h2 : x < 9223372036854775808) : M_R_FoldOf F x = some (foldOf x) := by
  unfold M_R_FoldOf lett foldOf
  by_cases hx : x < 0
  · simp only [hx, decide_true, if_true]
    have e1 : iadd .i64 x 1 = x + 1 := iadd_i64 (by omega) (by omega)
    have e2 : isub .i64 0 (x + 1) = -(x + 1) := by rw [isub_i64 (by omega) (by omega)]; omega
    have e3 : iconv .u64 (-(x + 1)) = -(x + 1) := wrap_u64 (by omega) (by omega)
    rw [e1, e2, e3]
    unfold imul iadd
    rw [wrap_u64 (n := 2 * -(x + 1)) (by omega) (by omega), wrap_u64 (by omega) (by omega)]
  · simp only [hx, decide_false, Bool.false_eq_true, if_false]
    have e3 : iconv .u64 x = x := wrap_u64 (by omega) (by omega)
    rw [e3]
    unfold imul
    rw [wrap_u64 (by omega) (by omega)]
theorem foldOf_range {x : Int} (h1 : -9223372036854775808 ≤ x) (h2 : x < 9223372036854775808) : 0 ≤ foldOf x ∧ foldOf x < 18446744073709551616 := by
  unfold foldOf; split <;> omega
def unfoldOf (n : Int) : Int := if n % 2 = 0 then n / 2 else -(n / 2) - 1
theorem unfold_eq (F : Nat) {n : Int} (h1 : 0 ≤ n) (h2 : n < 18446744073709551616) : M_varint_Unfold F n = some (unfoldOf n) := by
  unfold M_varint_Unfold lett unfoldOf
  have hs : ishr .u64 n 1 = n / 2 := by
    have := ishr_eq (k := .u64) (a := n) (m := 1) (by decide)
    simpa using this
  have ha : iand .u64 n 1 = n % 2 := by
    have := iand_mask (k := .u64) (a := n) (m := 1) h1 (by simpa [IntKind.bits] using h2) (by decide) rfl
    simpa using this
  have e1 : iconv .i64 (n / 2) = n / 2 := wrap_i64 (by omega) (by omega)
  have e2 : iconv .i64 (n % 2) = n % 2 := wrap_i64 (by omega) (by omega)
  rw [hs, ha, e1, e2]
  by_cases h : n % 2 = 0
  · rw [if_pos h, h, show isub .i64 0 0 = 0 from by decide, show n / 2 = ((n / 2).toNat : Int) from by omega, xor_zero_i _ (by omega)]
  · rw [if_neg h, show n % 2 = 1 from by omega, show isub .i64 0 1 = -1 from by decide, show n / 2 = ((n / 2).toNat : Int) from by omega, xor_ones_i _ (by omega)]
theorem unfold_fold (x : Int) : unfoldOf (foldOf x) = x := by
  unfold unfoldOf foldOf
  split <;> split <;> omega
theorem fold_unfold {n : Int} (h : 0 ≤ n) : foldOf (unfoldOf n) = n := by
  unfold unfoldOf foldOf
  split <;> split <;> omega

/-! ### The laws -/
theorem begun' {F : Nat} (hF : 5000 ≤ F) : M_L_varintBegun F = some true := by
  obtain ⟨n, rfl⟩ : ∃ n, F = n + 20 := ⟨F - 20, by omega⟩
  exact begun n
theorem law_fold {a b n : Int} (a1 : -9223372036854775808 ≤ a) (a2 : a < 9223372036854775808) (b1 : -9223372036854775808 ≤ b) (b2 : b < 9223372036854775808) (n1 : 0 ≤ n) (n2 : n < 18446744073709551616) :
    M_L_VarintFold 5000 a b n = some true := by
  have hf : ∀ {x : Int}, -9223372036854775808 ≤ x → x < 9223372036854775808 → M_L_VarintFold_1 5000 x = some (if x < 0 then -x else x) := by
    intro x h1 h2
    unfold M_L_VarintFold_1 lett
    by_cases hx : x < 0
    · simp only [hx, decide_true, if_true]
      have e1 : iadd .i64 x 1 = x + 1 := iadd_i64 (by omega) (by omega)
      have e2 : isub .i64 0 (x + 1) = -(x + 1) := by rw [isub_i64 (by omega) (by omega)]; omega
      have e3 : iconv .u64 (-(x + 1)) = -(x + 1) := wrap_u64 (by omega) (by omega)
      have e4 : iadd .u64 (-(x + 1)) 1 = -x := by unfold iadd; rw [wrap_u64 (by omega) (by omega)]; omega
      rw [e1, e2, e3, e4]
    · simp only [hx, decide_false, Bool.false_eq_true, if_false]
      have e3 : iconv .u64 x = x := wrap_u64 (by omega) (by omega)
      rw [e3]
  have r1 := foldOf_range a1 a2
  have hu : -9223372036854775808 ≤ unfoldOf n ∧ unfoldOf n < 9223372036854775808 := by unfold unfoldOf; split <;> omega
  unfold M_L_VarintFold
  rw [begun' (by omega)]
  simp only [Option.bind_some, Bool.not_true, Bool.false_eq_true, if_false]
  rw [fold_eq _ a1 a2]
  simp only [Option.bind_some]
  rw [unfold_eq _ r1.1 r1.2, unfold_fold]
  simp only [Option.bind_some, bne_self_eq_false, Bool.false_eq_true, if_false]
  rw [unfold_eq _ n1 n2]
  simp only [Option.bind_some]
  rw [fold_eq _ hu.1 hu.2, fold_unfold n1]
  simp only [Option.bind_some, bne_self_eq_false, M_L_VarintFold_j2, Bool.false_eq_true, if_false]
  rw [hf a1 a2, hf b1 b2]
  simp only [Option.bind_some, M_L_VarintFold_j3]
  rw [fold_eq _ a1 a2, fold_eq _ b1 b2]
  simp only [Option.bind_some]
  by_cases h : (if b < 0 then -b else b) ≤ (if a < 0 then -a else a)
  · simp [h]
  · simp only [h, decide_false, Bool.false_eq_true, if_false]
    congr 1
    simp only [decide_eq_true_eq]
    unfold foldOf
    split <;> split <;> simp_all <;> omega
theorem fin_ok {l : List Int} (h : (fin (l.flatMap vn)).2 = 0) : fin (l.flatMap vn) = (l.flatMap vn, 0) ∧ (l.flatMap vn).length ≤ 4096 := by
  unfold fin at h ⊢
  split at h
  · simp at h
  · rename_i h1
    rw [if_neg h1]
    exact ⟨rfl, by omega⟩
theorem U8s_vn {l : List Int} (hu : U64s l) : U8s (l.flatMap vn) := by
  intro x hx
  obtain ⟨n, hn, hx⟩ := List.mem_flatMap.1 hx
  have := hu n hn
  exact vb_byte 9 n this.1 (Int.lt_of_lt_of_le this.2 (by decide)) x hx
theorem alr_vn {l : List Int} (hu : U64s l) (h : (l.flatMap vn).length ≤ 4096) : alr (l.flatMap vn) = (l, 0) := by
  unfold alr
  rw [if_neg (by omega)]
  exact al_app _ l hu (by omega)
theorem alr_ok {b : List Int} (hb : U8s b) (h : (alr b).2 = 0) : b = (alr b).1.flatMap vn ∧ U64s (alr b).1 ∧ b.length ≤ 4096 := by
  unfold alr at h ⊢
  split at h
  · simp at h
  · rename_i h1
    rw [if_neg h1]
    obtain ⟨h2, h3⟩ := al_ok _ b hb (by omega) h
    exact ⟨h2, h3, by omega⟩
theorem alr_err {b : List Int} (h : (alr b).2 ≠ 0) : (alr b).1 = [] := by
  unfold alr at h ⊢
  split
  · rfl
  · rename_i h1
    rw [if_neg h1] at h
    exact al_err _ _ h
theorem vn_many : ∀ (l : List Int), l.length ≤ (l.flatMap vn).length
  | [] => by simp
  | x :: l => by
    have := vn_many l
    have hp : 1 ≤ (vn x).length := vb_pos 9 x
    simp only [List.flatMap_cons, List.length_append, List.length_cons]
    omega
theorem law_back {l b : List Int} (hl : U64s l) (hb : U8s b) (hm : l.length ≤ 9223372036854775807) (hm2 : b.length ≤ 9223372036854775807) :
    M_L_VarintBack (5000 + l.length + b.length) l b = some true := by
  generalize hF : 5000 + l.length + b.length = F
  unfold M_L_VarintBack
  rw [write_eq (by omega) (by omega) hl hm]
  simp only [Option.bind_some]
  rw [all_eq (by omega) hb]
  simp only [Option.bind_some]
  rw [begun' (by omega)]
  simp only [Option.bind_some, Bool.not_true, Bool.false_eq_true, if_false]
  have hj2 : M_L_VarintBack_j2 F b (alr b) = some true := by
    unfold M_L_VarintBack_j2
    by_cases he : (alr b).2 = 0
    · obtain ⟨h1, h2, h3⟩ := alr_ok hb he
      have hn : ((alr b).2 != 0) = false := by simp [he]
      simp only [hn, Bool.false_eq_true, if_false]
      have h4 := vn_many (alr b).1
      rw [← h1] at h4
      rw [write_eq (by omega) (by omega) h2 (by omega), ← h1]
      have h5 : fin b = (b, 0) := by unfold fin; rw [if_neg (by omega)]
      rw [h5]
      simp only [Option.bind_some, beq_self_eq_true, if_true]
      rw [sameBytes_eq (by omega) hm2]
      simp [M_L_VarintBack_j3]
    · have hn : ((alr b).2 != 0) = true := by simpa using he
      simp only [hn, if_true]
      rw [alr_err he]
      rfl
  by_cases hf : (fin (l.flatMap vn)).2 = 0
  · obtain ⟨h1, h2⟩ := fin_ok hf
    rw [h1]
    simp only [beq_self_eq_true, if_true]
    rw [all_eq (by omega) (U8s_vn hl), alr_vn hl h2]
    simp only [Option.bind_some, bne_self_eq_false, Bool.false_eq_true, if_false]
    rw [sameNums_eq (by omega) hm]
    simp only [Option.bind_some, decide_true, Bool.not_true, M_L_VarintBack_j4, Bool.false_eq_true, if_false]
    exact hj2
  · have : ((fin (l.flatMap vn)).2 == 0) = false := by simpa using hf
    simp only [this, Bool.false_eq_true, if_false]
    exact hj2

theorem fin_one {x : Int} : fin (([x] : List Int).flatMap vn) = (vn x, 0) := by
  have : (vn x).length ≤ 10 := vb_len 9 x
  have h2 : ([x] : List Int).flatMap vn = vn x := by simp
  rw [h2]
  unfold fin
  rw [if_neg (by omega)]
theorem write_one {F : Nat} (hF : 10 ≤ F) {x : Int} (h0 : 0 ≤ x) (h1 : x < 18446744073709551616) : M_varint_Write F [x] = some (vn x, 0) := by
  rw [write_eq hF (by simp; omega) (fun y hy => by simp at hy; subst hy; exact ⟨h0, h1⟩) (by simp), fin_one]
theorem vb_mono : ∀ (j : Nat) (a b : Int), a ≤ b → (vb j a).length ≤ (vb j b).length
  | 0, a, b, _ => by simp [vb]
  | j + 1, a, b, h => by
    by_cases ha : a < 128
    · rw [vb_small _ ha]
      exact vb_pos (j + 1) b
    · rw [vb_big _ ha, vb_big _ (by omega)]
      have := vb_mono j (a / 128) (b / 128) (by omega)
      simp only [List.length_cons]
      omega
theorem law_long {a b : Int} (a1 : 0 ≤ a) (a2 : a < 18446744073709551616) (b1 : 0 ≤ b) (b2 : b < 18446744073709551616) : M_L_VarintLong 5000 a b = some true := by
  unfold M_L_VarintLong
  rw [write_one (by omega) a1 a2]
  simp only [Option.bind_some]
  rw [write_one (by omega) b1 b2]
  simp only [Option.bind_some]
  rw [begun' (by omega)]
  have h1 : (1 : Int) ≤ ((vn a).length : Int) := by have : 1 ≤ (vn a).length := vb_pos 9 a; omega
  have h2 : ((vn b).length : Int) ≤ 10 := by have : (vn b).length ≤ 10 := vb_len 9 b; omega
  simp only [Option.bind_some, beq_self_eq_true, Bool.and_true, h1, h2, decide_true, if_true, M_L_VarintLong_j1]
  by_cases h : b < a
  · simp [h]
  · have h3 : (vn a).length ≤ (vn b).length := vb_mono 9 a b (by omega)
    have h4 : ((vn a).length : Int) ≤ ((vn b).length : Int) := by omega
    simp [h4]
theorem rd_cut : ∀ (j i c : Nat) (m n : Int), i + j = 9 → 0 ≤ m → m * 128 ^ i < 18446744073709551616 → (0 < i → m ≠ 0) → c < (vb j m).length →
    rd ((vb j m).take c) i n = (0, 0, 7)
  | j, i, 0, m, n, _, _, _, _, _ => by simp [rd]
  | j, i, c + 1, m, n, hij, h0, hm, hz, hc => by
    by_cases hs : m < 128
    · rw [vb_small j hs] at hc; simp at hc
    · cases j with
      | zero =>
        have : i = 9 := by omega
        subst this
        have h9 : (128 : Int) ^ 9 = 9223372036854775808 := by decide
        rw [h9] at hm; omega
      | succ j =>
        rw [vb_big j hs] at hc ⊢
        have hi : i ≤ 8 := by omega
        simp only [List.take_succ_cons, rd]
        simp only [List.length_cons] at hc
        have h9 : ¬ (i = 9 ∧ 1 < m % 128 + 128) := by rintro ⟨rfl, h⟩; omega
        have h2 : ¬ (0 < i ∧ m % 128 + 128 = 0) := by rintro ⟨_, h⟩; omega
        have h3 : ¬ (m % 128 + 128 < 128) := by omega
        rw [if_neg h9, if_neg h2, if_neg h3]
        have e2 : m % 128 * 128 ^ i + m / 128 * 128 ^ (i + 1) = m * 128 ^ i := by
          rw [Int.pow_succ, Int.mul_comm ((128 : Int) ^ i) 128, ← Int.mul_assoc, ← Int.add_mul]
          congr 1
          omega
        have hp := pow_le9 (i := i) (by omega)
        have e3 : 0 ≤ m % 128 * 128 ^ i := Int.mul_nonneg (by omega) (by omega)
        exact rd_cut j (i + 1) c (m / 128) _ (by omega) (by omega) (by omega) (by omega) (by omega)
theorem read_eq {F : Nat} (hF : 10 ≤ F) {b : List Int} (hb : U8s b) (hm : b.length ≤ 4096) : M_varint_Read F b 0 = some (out 0 (rd b 0 0)) := by
  unfold M_varint_Read
  have h1 : ¬ (4096 : Int) < (b.length : Int) := by omega
  have h2 : ¬ ((b.length : Int) < 0) := by omega
  simp only [h1, h2, decide_false, Bool.false_eq_true, if_false, Int.lt_irrefl, Bool.or_self]
  have := from_eq hF hb (by omega) (at' := 0) (by omega)
  rw [show ((0 : Nat) : Int) = 0 from rfl, List.drop_zero] at this
  rw [this]
  rfl
theorem vn_u8 {x : Int} (h0 : 0 ≤ x) (h1 : x < 18446744073709551616) : U8s (vn x) := fun y hy => vb_byte 9 x h0 (Int.lt_of_lt_of_le h1 (by decide)) y hy
theorem law_cut {x k : Int} (h0 : 0 ≤ x) (h1 : x < 18446744073709551616) : M_L_VarintCut 5000 x k = some true := by
  unfold M_L_VarintCut
  rw [write_one (by omega) h0 h1]
  simp only [Option.bind_some]
  rw [begun' (by omega)]
  simp only [Option.bind_some, Bool.not_true, bne_self_eq_false, Bool.or_self, Bool.false_eq_true, if_false]
  by_cases hk : k < 0 ∨ ((vn x).length : Int) ≤ k
  · have : (decide (k < 0) || decide (((vn x).length : Int) ≤ k)) = true := by simpa using hk
    simp [this]
  · have : (decide (k < 0) || decide (((vn x).length : Int) ≤ k)) = false := by simpa using hk
    have hk' : 0 ≤ k ∧ k < ((vn x).length : Int) := by omega
    have hl : (vn x).length ≤ 10 := vb_len 9 x
    simp only [this, Bool.false_eq_true, if_false]
    have hs : sub (vn x) 0 k = some ((vn x).take k.toNat) := by
      unfold sub
      rw [if_pos (by omega)]
      simp
    rw [hs]
    simp only [Option.bind_some]
    rw [read_eq (by omega) (fun y hy => vn_u8 h0 h1 y (List.mem_of_mem_take hy)) (by rw [List.length_take]; omega),
      read_eq (by omega) (vn_u8 h0 h1) (by omega)]
    have hc : rd ((vn x).take k.toNat) 0 0 = (0, 0, 7) := rd_cut 9 0 k.toNat x 0 (by omega) h0 (by simpa using h1) (by omega) (by unfold vn at hk'; omega)
    have hr := rd_vn h0 h1 []
    rw [List.append_nil] at hr
    rw [hc, hr]
    simp [out]
theorem law_joins {a b : List Int} (ha : U8s a) (hb : U8s b) (hm : a.length ≤ 9223372036854775807) : M_L_VarintJoins (20000 + a.length) a b = some true := by
  generalize hF : 20000 + a.length = F
  unfold M_L_VarintJoins
  rw [all_eq (by omega) ha]
  simp only [Option.bind_some]
  rw [all_eq (by omega) hb]
  simp only [Option.bind_some]
  rw [begun' (by omega)]
  simp only [Option.bind_some, Bool.not_true, Bool.false_eq_true, if_false]
  by_cases h1 : (alr a).2 = 0
  · by_cases h2 : (alr b).2 = 0
    · obtain ⟨a1, a2, a3⟩ := alr_ok ha h1
      obtain ⟨b1, b2, b3⟩ := alr_ok hb h2
      have m1 := vn_many (alr a).1
      have m2 := vn_many (alr b).1
      rw [← a1] at m1
      rw [← b1] at m2
      simp only [h1, h2, bne_self_eq_false, Bool.or_self, Bool.false_eq_true, if_false]
      rw [app_eq (by simp; omega)]
      simp only [Option.bind_some, List.nil_append]
      rw [app_eq (by omega)]
      simp only [Option.bind_some]
      have hab : U8s (a ++ b) := by
        intro x hx
        rcases List.mem_append.1 hx with h | h
        · exact ha x h
        · exact hb x h
      rw [all_eq (by omega) hab]
      simp only [Option.bind_some]
      by_cases hl : 4096 < (a ++ b).length
      · have : alr (a ++ b) = ([], 2) := by unfold alr; rw [if_pos hl]
        rw [this]
        rfl
      · have hj : a ++ b = ((alr a).1 ++ (alr b).1).flatMap vn := by rw [List.flatMap_append, ← a1, ← b1]
        have hu : U64s ((alr a).1 ++ (alr b).1) := by
          intro x hx
          rcases List.mem_append.1 hx with h | h
          · exact a2 x h
          · exact b2 x h
        have : alr (a ++ b) = ((alr a).1 ++ (alr b).1, 0) := by
          rw [hj, alr_vn hu (by rw [← hj]; omega)]
        rw [this]
        simp only [show ((0 : Int) == 2) = false from rfl, Bool.false_eq_true, if_false, beq_self_eq_true, if_true]
        rw [app_eq (by simp; omega)]
        simp only [Option.bind_some, List.nil_append]
        rw [app_eq (by omega)]
        simp only [Option.bind_some]
        rw [sameNums_eq (by rw [List.length_append]; omega) (by rw [List.length_append]; omega)]
        simp [M_L_VarintJoins_j3, M_L_VarintJoins_j2]
    · have : ((alr b).2 != 0) = true := by simpa using h2
      simp only [this, Bool.or_true, if_true]
      simp [h1]
  · have : ((alr a).2 != 0) = true := by simpa using h1
    simp only [this, Bool.true_or, if_true]
    rw [alr_err h1]
    simp
/-! ### The reference's own writing -/
theorem tells_l (F : Nat) (hF : 10 ≤ F) (x1 : Int) {l : List Int} (hu : U64s l) (hm : l.length ≤ 9223372036854775807) (x5 : List Int) (x8 : Int) (x9 : List Int × Int) (x12 : Int × Int × Int) (x13 : List Int × Int) :
    ∀ (k i : Nat) (acc : List Int), l.length < k + i → i ≤ l.length → acc.length ≤ 6000 →
      ∃ W, M_L_VarintTells_l9 F x1 l x5 x8 x9 x12 x13 k (acc, (i : Int)) = M_L_VarintTells_j2 F x1 x5 x8 x9 x12 x13 W ∧ fin W = fin (acc ++ (l.drop i).flatMap vn)
  | 0, i, acc, h, hi, _ => by omega
  | k + 1, i, acc, h, hi, ha => by
    have hstep : M_L_VarintTells_l9 F x1 l x5 x8 x9 x12 x13 (k + 1) (acc, (i : Int)) = M_L_VarintTells_b9 F x1 l x5 x8 x9 x12 x13 (M_L_VarintTells_l9 F x1 l x5 x8 x9 x12 x13 k) acc i := rfl
    rw [hstep]
    unfold M_L_VarintTells_b9
    by_cases hlt : i < l.length ∧ acc.length < 5000
    · have hlt' : (decide ((i : Int) < (l.length : Int)) && decide ((acc.length : Int) < 5000)) = true := by simp; omega
      have hg : l[i]? = some l[i] := by simp [hlt.1]
      have hx := hu l[i] (List.getElem_mem hlt.1)
      simp only [hlt', if_true, idx_nat, hg, Option.bind_some]
      rw [bytes_eq hF hx.1 hx.2]
      have hv : (vn l[i]).length ≤ 10 := vb_len 9 l[i]
      simp only [Option.bind_some]
      rw [app_eq (by omega)]
      simp only [Option.bind_some]
      rw [iadd_i64 (by omega) (by omega), show (i : Int) + 1 = ((i + 1 : Nat) : Int) from by omega]
      obtain ⟨W, h1, h2⟩ := tells_l F hF x1 hu hm x5 x8 x9 x12 x13 k (i + 1) (acc ++ vn l[i]) (by omega) (by omega) (by rw [List.length_append]; omega)
      refine ⟨W, h1, ?_⟩
      rw [h2, List.drop_eq_getElem_cons hlt.1, List.flatMap_cons, List.append_assoc]
    · have hlt' : (decide ((i : Int) < (l.length : Int)) && decide ((acc.length : Int) < 5000)) = false := by
        rw [Bool.eq_false_iff]; intro h; apply hlt; simp at h; omega
      simp only [hlt', Bool.false_eq_true, if_false]
      refine ⟨acc, rfl, ?_⟩
      by_cases h1 : i < l.length
      · unfold fin
        rw [if_pos (by omega), if_pos (by rw [List.length_append]; omega)]
      · rw [List.drop_eq_nil_of_le (by omega)]
        simp
theorem law_tells {n : Int} {l b : List Int} {k : Int} (n1 : -9223372036854775808 ≤ n) (n2 : n < 9223372036854775808) (hl : U64s l) (hb : U8s b) (hm : l.length ≤ 9223372036854775807) (k1 : -9223372036854775808 ≤ k) (k2 : k < 9223372036854775808) :
    M_L_VarintTells (20000 + l.length) n l b k = some true := by
  generalize hF : 20000 + l.length = F
  unfold M_L_VarintTells
  rw [write_eq (by omega) (by omega) hl hm]
  simp only [Option.bind_some]
  -- what is read from a place on
  have hr : ∃ r : Int × Int × Int, M_varint_Read F b k = some r ∧ ∀ x9 x13 x93 x94, M_L_VarintTells_j3 F n b k x9 r x13 x93 x94 = M_L_VarintTells_j4 F n b x9 r x13 x93 x94 r.2.2 r.1 r.2.1 := by
    unfold M_varint_Read
    by_cases h1 : (4096 : Int) < (b.length : Int)
    · simp only [h1, decide_true, if_true]
      refine ⟨_, rfl, fun x9 x13 x93 x94 => ?_⟩
      unfold M_L_VarintTells_j3
      simp only [h1, decide_true, if_true]
    · simp only [h1, decide_false, Bool.false_eq_true, if_false]
      by_cases h2 : (decide (k < 0) || decide ((b.length : Int) < k)) = true
      · simp only [h2, if_true]
        refine ⟨_, rfl, fun x9 x13 x93 x94 => ?_⟩
        unfold M_L_VarintTells_j3
        simp only [h1, h2, decide_false, Bool.false_eq_true, if_false, if_true]
      · have h2' : (decide (k < 0) || decide ((b.length : Int) < k)) = false := by simpa using h2
        have hk : 0 ≤ k ∧ k ≤ (b.length : Int) := by simp at h2'; omega
        obtain ⟨kk, rfl⟩ := Int.eq_ofNat_of_zero_le hk.1
        simp only [h2', Bool.false_eq_true, if_false]
        rw [from_eq (by omega) hb (by omega) (by omega)]
        simp only [Option.bind_some]
        refine ⟨_, rfl, fun x9 x13 x93 x94 => ?_⟩
        unfold M_L_VarintTells_j3
        simp only [h1, h2', decide_false, Bool.false_eq_true, if_false]
        rw [rread_eq (by omega) hb (by omega) (by omega)]
        rfl
  obtain ⟨r, hr1, hr2⟩ := hr
  rw [hr1]
  simp only [Option.bind_some]
  rw [all_eq (by omega) hb]
  simp only [Option.bind_some]
  obtain ⟨W, hW1, hW2⟩ := tells_l F (by omega) n hl hm b k (fin (l.flatMap vn)) r (alr b) F 0 [] (by omega) (by omega) (by simp)
  rw [show ((0 : Nat) : Int) = 0 from rfl] at hW1
  rw [hW1]
  simp only [List.nil_append, List.drop_zero] at hW2
  have hj2 : M_L_VarintTells_j2 F n b k (fin (l.flatMap vn)) r (alr b) W = M_L_VarintTells_j3 F n b k (fin (l.flatMap vn)) r (alr b) (fin (l.flatMap vn)).1 (fin (l.flatMap vn)).2 := by
    rw [← hW2]
    unfold M_L_VarintTells_j2
    by_cases h : 4096 < W.length
    · have h' : (4096 : Int) < (W.length : Int) := by omega
      have : fin W = ([], 2) := by unfold fin; rw [if_pos h]
      simp only [h', decide_true, if_true, this]
    · have h' : ¬ (4096 : Int) < (W.length : Int) := by omega
      have : fin W = (W, 0) := by unfold fin; rw [if_neg h]
      simp only [h', decide_false, Bool.false_eq_true, if_false, this]
  rw [hj2, hr2]
  unfold M_L_VarintTells_j4
  rw [rall_eq (by omega) hb]
  simp only [Option.bind_some]
  rw [begun' (by omega)]
  simp only [Option.bind_some, if_true]
  rw [fold_eq _ n1 n2]
  simp only [Option.bind_some]
  rw [foldOf_eq _ n1 n2]
  simp only [Option.bind_some, beq_self_eq_true, M_L_VarintTells_j5, if_true]
  rw [foldOf_eq _ n1 n2]
  have fr := foldOf_range n1 n2
  simp only [Option.bind_some]
  rw [unfold_eq _ fr.1 fr.2, unfold_fold]
  simp only [Option.bind_some, beq_self_eq_true, M_L_VarintTells_j6, if_true]
  have hfl : (fin (l.flatMap vn)).1.length ≤ 4096 := by
    unfold fin; split
    · simp
    · show (l.flatMap vn).length ≤ 4096
      omega
  rw [sameBytes_eq (by omega) (by omega)]
  simp only [Option.bind_some, decide_true, M_L_VarintTells_j7, beq_self_eq_true, Bool.and_true, if_true]
  have hal : (alr b).1.length ≤ 4096 := by
    by_cases he : (alr b).2 = 0
    · obtain ⟨a1, _, a3⟩ := alr_ok hb he
      have := vn_many (alr b).1
      rw [← a1] at this
      omega
    · rw [alr_err he]; simp
  rw [sameNums_eq (by omega) (by omega)]
  simp [M_L_VarintTells_j8]

end Go.Proofs.Ytbdaopnokonmpaa
