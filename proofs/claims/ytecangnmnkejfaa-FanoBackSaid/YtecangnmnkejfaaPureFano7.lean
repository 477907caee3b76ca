/- Plain facts of what the functions of this seat compute. -/
import Derived.Test.YtecangnmnkejfaaModels
import Derived.KernelRfl
namespace Go.Proofs.Ytecangnmnkejfaa
open Go SX
variable {F : Nat} {n t w lw hw : Int} {lb hb : List Int} {l : List Nat}
/-- The byte at place k of a list of bits. -/
def byt (l : List Int) (k : Nat) : Int :=
  l.getD (8 * k) 0 * 128 + l.getD (8 * k + 1) 0 * 64 + l.getD (8 * k + 2) 0 * 32 + l.getD (8 * k + 3) 0 * 16 + l.getD (8 * k + 4) 0 * 8 + l.getD (8 * k + 5) 0 * 4 + l.getD (8 * k + 6) 0 * 2 + l.getD (8 * k + 7) 0
def pk (l : List Int) : List Int := (List.range ((l.length + 7) / 8)).map (byt l)
def Bit (l : List Int) : Prop := ∀ x ∈ l, x = 0 ∨ x = 1
theorem Bit.getD {l : List Int} (h : Bit l) (i : Nat) : l.getD i 0 = 0 ∨ l.getD i 0 = 1 := by
  by_cases hi : i < l.length
  · have := h l[i] (List.getElem_mem hi)
    simpa [List.getD, hi] using this
  · left
    simp [List.getD, List.getElem?_eq_none (Nat.le_of_not_lt hi)]
theorem getD_ge {l : List Int} {i : Nat} (h : l.length ≤ i) : l.getD i 0 = 0 := by simp [List.getD, List.getElem?_eq_none h]
theorem getD_snoc (l : List Int) (x : Int) (i : Nat) : (l ++ [x]).getD i 0 = if i = l.length then x else l.getD i 0 := by
  by_cases h : i = l.length
  · subst h; simp [List.getD]
  · rw [if_neg h]
    by_cases h2 : i < l.length
    · simp [List.getD, List.getElem?_append_left h2]
    · rw [getD_ge (by simp; omega), getD_ge (by omega)]
theorem byt_range {l : List Int} (h : Bit l) (k : Nat) : 0 ≤ byt l k ∧ byt l k < 256 := by
  have h0 := h.getD (8 * k); have h1 := h.getD (8 * k + 1); have h2 := h.getD (8 * k + 2); have h3 := h.getD (8 * k + 3)
  have h4 := h.getD (8 * k + 4); have h5 := h.getD (8 * k + 5); have h6 := h.getD (8 * k + 6); have h7 := h.getD (8 * k + 7)
  unfold byt
  omega
theorem byt_snoc_other {l : List Int} {x : Int} {k : Nat} (h : k ≠ l.length / 8) : byt (l ++ [x]) k = byt l k := by
  unfold byt
  simp only [getD_snoc]
  rw [if_neg (by omega), if_neg (by omega), if_neg (by omega), if_neg (by omega), if_neg (by omega), if_neg (by omega), if_neg (by omega), if_neg (by omega)]
theorem byt_snoc_at {l : List Int} {x : Int} : byt (l ++ [x]) (l.length / 8) = byt l (l.length / 8) + x * 2 ^ (7 - l.length % 8) := by
  obtain ⟨k, hk⟩ : ∃ k, k = l.length / 8 := ⟨_, rfl⟩
  obtain ⟨r, hr⟩ : ∃ r, r = l.length % 8 := ⟨_, rfl⟩
  have hl : l.length = 8 * k + r := by omega
  have hr8 : r < 8 := by omega
  rw [← hk, ← hr]
  unfold byt
  simp only [getD_snoc, hl]
  have hg : ∀ j, r ≤ j → l.getD (8 * k + j) 0 = 0 := fun j hj => getD_ge (by omega)
  have g0 := hg 0; have g1 := hg 1; have g2 := hg 2; have g3 := hg 3; have g4 := hg 4; have g5 := hg 5; have g6 := hg 6; have g7 := hg 7
  rw [Nat.add_zero] at g0
  rcases (by omega : r = 0 ∨ r = 1 ∨ r = 2 ∨ r = 3 ∨ r = 4 ∨ r = 5 ∨ r = 6 ∨ r = 7) with rfl | rfl | rfl | rfl | rfl | rfl | rfl | rfl
  · rw [show (2 : Int) ^ (7 - 0) = 128 from by decide]
    rw [if_pos (by omega), if_neg (by omega), if_neg (by omega), if_neg (by omega), if_neg (by omega), if_neg (by omega), if_neg (by omega), if_neg (by omega)]
    have e0 := g0 (by omega)
    have e1 := g1 (by omega)
    have e2 := g2 (by omega)
    have e3 := g3 (by omega)
    have e4 := g4 (by omega)
    have e5 := g5 (by omega)
    have e6 := g6 (by omega)
    have e7 := g7 (by omega)
    omega
  · rw [show (2 : Int) ^ (7 - 1) = 64 from by decide]
    rw [if_neg (by omega), if_pos (by omega), if_neg (by omega), if_neg (by omega), if_neg (by omega), if_neg (by omega), if_neg (by omega), if_neg (by omega)]
    have e1 := g1 (by omega)
    have e2 := g2 (by omega)
    have e3 := g3 (by omega)
    have e4 := g4 (by omega)
    have e5 := g5 (by omega)
    have e6 := g6 (by omega)
    have e7 := g7 (by omega)
    omega
  · rw [show (2 : Int) ^ (7 - 2) = 32 from by decide]
    rw [if_neg (by omega), if_neg (by omega), if_pos (by omega), if_neg (by omega), if_neg (by omega), if_neg (by omega), if_neg (by omega), if_neg (by omega)]
    have e2 := g2 (by omega)
    have e3 := g3 (by omega)
    have e4 := g4 (by omega)
    have e5 := g5 (by omega)
    have e6 := g6 (by omega)
    have e7 := g7 (by omega)
    omega
  · rw [show (2 : Int) ^ (7 - 3) = 16 from by decide]
    rw [if_neg (by omega), if_neg (by omega), if_neg (by omega), if_pos (by omega), if_neg (by omega), if_neg (by omega), if_neg (by omega), if_neg (by omega)]
    have e3 := g3 (by omega)
    have e4 := g4 (by omega)
    have e5 := g5 (by omega)
    have e6 := g6 (by omega)
    have e7 := g7 (by omega)
    omega
  · rw [show (2 : Int) ^ (7 - 4) = 8 from by decide]
    rw [if_neg (by omega), if_neg (by omega), if_neg (by omega), if_neg (by omega), if_pos (by omega), if_neg (by omega), if_neg (by omega), if_neg (by omega)]
    have e4 := g4 (by omega)
    have e5 := g5 (by omega)
    have e6 := g6 (by omega)
    have e7 := g7 (by omega)
    omega
  · rw [show (2 : Int) ^ (7 - 5) = 4 from by decide]
    rw [if_neg (by omega), if_neg (by omega), if_neg (by omega), if_neg (by omega), if_neg (by omega), if_pos (by omega), if_neg (by omega), if_neg (by omega)]
    have e5 := g5 (by omega)
    have e6 := g6 (by omega)
    have e7 := g7 (by omega)
    omega
  · rw [show (2 : Int) ^ (7 - 6) = 2 from by decide]
    rw [if_neg (by omega), if_neg (by omega), if_neg (by omega), if_neg (by omega), if_neg (by omega), if_neg (by omega), if_pos (by omega), if_neg (by omega)]
    have e6 := g6 (by omega)
    have e7 := g7 (by omega)
    omega
  · rw [show (2 : Int) ^ (7 - 7) = 1 from by decide]
    rw [if_neg (by omega), if_neg (by omega), if_neg (by omega), if_neg (by omega), if_neg (by omega), if_neg (by omega), if_neg (by omega), if_pos (by omega)]
    have e7 := g7 (by omega)
    omega
theorem irem8 (n : Nat) : irem (n : Int) 8 = ((n % 8 : Nat) : Int) := by
  unfold irem; rw [Int.tmod_eq_emod_of_nonneg (by omega)]; omega
theorem iquo8 {n : Nat} (h : n ≤ 9223372036854775807) : iquo .i64 (n : Int) 8 = ((n / 8 : Nat) : Int) := by
  unfold iquo; rw [Int.tdiv_eq_ediv_of_nonneg (by omega), wrap_i64 (by omega) (by omega)]; omega
/-- A byte has nothing yet behind the last bit. -/
theorem byt_low {l : List Int} : byt l (l.length / 8) % 2 ^ (8 - l.length % 8) = 0 := by
  obtain ⟨k, hk⟩ : ∃ k, k = l.length / 8 := ⟨_, rfl⟩
  obtain ⟨r, hr⟩ : ∃ r, r = l.length % 8 := ⟨_, rfl⟩
  have hl : l.length = 8 * k + r := by omega
  have hr8 : r < 8 := by omega
  rw [← hk, ← hr]
  unfold byt
  have hg : ∀ j, r ≤ j → l.getD (8 * k + j) 0 = 0 := fun j hj => getD_ge (by omega)
  have g0 := hg 0; have g1 := hg 1; have g2 := hg 2; have g3 := hg 3; have g4 := hg 4; have g5 := hg 5; have g6 := hg 6; have g7 := hg 7
  rw [Nat.add_zero] at g0
  rcases (by omega : r = 0 ∨ r = 1 ∨ r = 2 ∨ r = 3 ∨ r = 4 ∨ r = 5 ∨ r = 6 ∨ r = 7) with rfl | rfl | rfl | rfl | rfl | rfl | rfl | rfl
  · have e0 := g0 (by omega); have e1 := g1 (by omega); have e2 := g2 (by omega); have e3 := g3 (by omega); have e4 := g4 (by omega); have e5 := g5 (by omega); have e6 := g6 (by omega); have e7 := g7 (by omega)
    rw [show (2 : Int) ^ (8 - 0) = 256 from by decide]; omega
  · have e1 := g1 (by omega); have e2 := g2 (by omega); have e3 := g3 (by omega); have e4 := g4 (by omega); have e5 := g5 (by omega); have e6 := g6 (by omega); have e7 := g7 (by omega)
    rw [show (2 : Int) ^ (8 - 1) = 128 from by decide]; omega
  · have e2 := g2 (by omega); have e3 := g3 (by omega); have e4 := g4 (by omega); have e5 := g5 (by omega); have e6 := g6 (by omega); have e7 := g7 (by omega)
    rw [show (2 : Int) ^ (8 - 2) = 64 from by decide]; omega
  · have e3 := g3 (by omega); have e4 := g4 (by omega); have e5 := g5 (by omega); have e6 := g6 (by omega); have e7 := g7 (by omega)
    rw [show (2 : Int) ^ (8 - 3) = 32 from by decide]; omega
  · have e4 := g4 (by omega); have e5 := g5 (by omega); have e6 := g6 (by omega); have e7 := g7 (by omega)
    rw [show (2 : Int) ^ (8 - 4) = 16 from by decide]; omega
  · have e5 := g5 (by omega); have e6 := g6 (by omega); have e7 := g7 (by omega)
    rw [show (2 : Int) ^ (8 - 5) = 8 from by decide]; omega
  · have e6 := g6 (by omega); have e7 := g7 (by omega)
    rw [show (2 : Int) ^ (8 - 6) = 4 from by decide]; omega
  · have e7 := g7 (by omega)
    rw [show (2 : Int) ^ (8 - 7) = 2 from by decide]; omega
theorem byt_end {l : List Int} (h : l.length % 8 = 0) : byt l (l.length / 8) = 0 := by
  unfold byt
  rw [getD_ge (by omega), getD_ge (by omega), getD_ge (by omega), getD_ge (by omega), getD_ge (by omega), getD_ge (by omega), getD_ge (by omega), getD_ge (by omega)]
  rfl
theorem ior_comm (k : IntKind) (a b : Int) : ior k a b = ior k b a := by unfold ior; rw [BitVec.or_comm]
/-- The room for one more bit. -/
def room (l : List Int) : List Int := (List.range (l.length / 8 + 1)).map (byt l)
theorem room_j1 {F : Nat} {l : List Int} (hl : Bit l) {x : Int} (hx : x = 0 ∨ x = 1) (hn : l.length ≤ 1000000) : M_bits_writer_bit_j1 F (l.length : Int) x (room l) = some (((l.length + 1 : Nat) : Int), pk (l ++ [x])) := by
  unfold M_bits_writer_bit_j1
  rw [iquo8 (by omega), irem8]
  have hg : (room l)[l.length / 8]? = some (byt l (l.length / 8)) := by simp [room]
  rw [idx_nat, hg]
  simp only [Option.bind_some]
  have hc : decide ((0 : Int) ≤ ((l.length % 8 : Nat) : Int)) = true := decide_eq_true (by omega)
  rw [hc]
  simp only [chk, if_true, lett, Int.toNat_natCast]
  have hb := byt_range hl (l.length / 8)
  have hr8 : l.length % 8 < 8 := Nat.mod_lt _ (by decide)
  have e1 : ishl .u64 x 7 = x * 128 := by
    have := ishl_u64 (a := x) (m := 7) (by decide)
    rw [show ((7 : Nat) : Int) = 7 from rfl] at this
    rw [this]
    rcases hx with rfl | rfl <;> decide
  have e2 : iconv .u8 (x * 128) = x * 128 := wrap_u8 (by omega) (by omega)
  have e3 : ishr .u8 (x * 128) ((l.length % 8 : Nat) : Int) = x * 2 ^ (7 - l.length % 8) := by
    rw [ishr_eq (by simp only [IntKind.bits]; omega)]
    have key : ∀ r : Fin 8, ((0 : Int) * 128 / 2 ^ r.val = 0 * 2 ^ (7 - r.val)) ∧ ((1 : Int) * 128 / 2 ^ r.val = 1 * 2 ^ (7 - r.val)) := by decide
    have := key ⟨l.length % 8, hr8⟩
    rcases hx with rfl | rfl
    · exact this.1
    · exact this.2
  have key2 : ∀ r : Fin 8, (1 : Int) ≤ 2 ^ (7 - r.val) ∧ (2 : Int) ^ (8 - r.val) = 2 * 2 ^ (7 - r.val) ∧ (2 : Int) ^ (7 - r.val) ≤ 128 ∧ (256 : Int) % 2 ^ (8 - r.val) = 0 ∧ (2 : Int) ^ (8 - r.val) ≤ 256 := by decide
  have hk2 := key2 ⟨l.length % 8, hr8⟩
  simp only at hk2
  have hat := byt_snoc_at (l := l) (x := x)
  have hb2 : Bit (l ++ [x]) := by
    intro y hy
    rcases List.mem_append.1 hy with h | h
    · exact hl y h
    · simp at h; subst h; exact hx
  have hbb := byt_range hb2 (l.length / 8)
  have e4 : ior .u8 (byt l (l.length / 8)) (x * 2 ^ (7 - l.length % 8)) = byt (l ++ [x]) (l.length / 8) := by
    rw [ior_comm, ior_add (m := 8 - l.length % 8) ?_ ?_ hb.1 byt_low rfl ?_]
    · rw [hat]; omega
    · rcases hx with rfl | rfl <;> omega
    · rcases hx with rfl | rfl <;> omega
    · simp only [IntKind.bits]
      rw [show (2 : Int) ^ 8 = 256 from by decide]
      omega
  rw [e1, e2, e3, e4, iadd_i64 (by omega) (by omega)]
  congr 2
  unfold room pk
  have hlen : ((l ++ [x]).length + 7) / 8 = l.length / 8 + 1 := by simp; omega
  rw [hlen]
  apply List.ext_getElem?
  intro k
  rw [List.getElem?_set]
  by_cases hk : l.length / 8 = k
  · subst hk; simp
  · rw [if_neg hk]
    simp only [List.getElem?_map]
    by_cases h3 : k < l.length / 8 + 1
    · rw [List.getElem?_range h3]
      simp only [Option.map_some]
      rw [byt_snoc_other (fun e => hk e.symm)]
    · rw [List.getElem?_eq_none (by simpa using h3)]
      rfl
theorem bit_eq {F : Nat} {l : List Int} (hl : Bit l) {x : Int} (hx : x = 0 ∨ x = 1) (hn : l.length ≤ 1000000) : M_bits_writer_bit F (l.length : Int) (pk l) x = some (((l.length + 1 : Nat) : Int), pk (l ++ [x])) := by
  unfold M_bits_writer_bit
  rw [irem8]
  by_cases h : l.length % 8 = 0
  · have h1 : ((((l.length % 8 : Nat) : Int) : Int) == 0) = true := by simp [h]
    simp only [h1, if_true]
    rw [app_eq (by simp [pk]; omega)]
    simp only [Option.bind_some]
    have : pk l ++ [0] = room l := by
      unfold pk room
      rw [show (l.length + 7) / 8 = l.length / 8 from by omega, List.range_succ, List.map_append]
      simp [byt_end h]
    rw [this]
    exact room_j1 hl hx hn
  · have h1 : ((((l.length % 8 : Nat) : Int) : Int) == 0) = false := by simp; omega
    simp only [h1, Bool.false_eq_true, if_false]
    have : pk l = room l := by
      unfold pk room
      rw [show (l.length + 7) / 8 = l.length / 8 + 1 from by omega]
    rw [this]
    exact room_j1 hl hx hn
def bitAt (b : List Int) (i : Nat) : Int := b.getD (i / 8) 0 / 2 ^ (7 - i % 8) % 2
def bl (b : List Int) (n : Nat) : List Int := (List.range n).map (bitAt b)
theorem bitAt_bit (b : List Int) (i : Nat) : bitAt b i = 0 ∨ bitAt b i = 1 := by unfold bitAt; omega
theorem bl_bit (b : List Int) (n : Nat) : Bit (bl b n) := by
  intro x hx
  obtain ⟨i, _, rfl⟩ := List.mem_map.1 hx
  exact bitAt_bit b i
theorem bl_len (b : List Int) (n : Nat) : (bl b n).length = n := by simp [bl]
def U8s (l : List Int) : Prop := ∀ n ∈ l, 0 ≤ n ∧ n < 256
theorem at_eq {F : Nat} {n : Int} {b : List Int} (hb : U8s b) {i : Nat} (hi : i / 8 < b.length) (hm : i ≤ 1000000) : M_bits_At F n b (i : Int) = some (bitAt b i) := by
  unfold M_bits_At
  rw [iquo8 (by omega), irem8, idx_nat]
  have hg : b[i / 8]? = some b[i / 8] := by simp [hi]
  rw [hg]
  simp only [Option.bind_some]
  have e1 : isub .i64 7 ((i % 8 : Nat) : Int) = ((7 - i % 8 : Nat) : Int) := by rw [isub_i64 (by omega) (by omega)]; omega
  rw [e1]
  have hc : decide ((0 : Int) ≤ ((7 - i % 8 : Nat) : Int)) = true := decide_eq_true (by omega)
  rw [hc]
  simp only [chk, if_true, lett]
  have hx := hb b[i / 8] (List.getElem_mem hi)
  rw [ishr_eq (by simp only [IntKind.bits]; omega)]
  have hp : (1 : Int) ≤ 2 ^ (7 - i % 8) := by
    have key : ∀ r : Fin 8, (1 : Int) ≤ 2 ^ (7 - r.val) := by decide
    exact key ⟨i % 8, Nat.mod_lt _ (by decide)⟩
  have h1 : 0 ≤ b[i / 8] / 2 ^ (7 - i % 8) := Int.ediv_nonneg hx.1 (by omega)
  have h2 : b[i / 8] / 2 ^ (7 - i % 8) ≤ b[i / 8] := Int.ediv_le_self _ hx.1
  have e2 : iconv .u64 (b[i / 8] / 2 ^ (7 - i % 8)) = b[i / 8] / 2 ^ (7 - i % 8) := wrap_u64 h1 (by omega)
  rw [e2]
  have e3 := iand_mask (k := .u64) (a := b[i / 8] / 2 ^ (7 - i % 8)) (m := 1) h1 (by simp only [IntKind.bits]; rw [show (2 : Int) ^ 64 = 18446744073709551616 from by decide]; omega) (by decide) rfl
  rw [show ((2 ^ 1 - 1 : Nat) : Int) = 1 from rfl, show (2 : Int) ^ 1 = 2 from rfl] at e3
  rw [e3]
  unfold bitAt
  simp [List.getD, hg]
theorem bl_succ (b : List Int) (n : Nat) : bl b (n + 1) = bl b n ++ [bitAt b n] := by simp [bl, List.range_succ]
structure Ok (n : Nat) (b : List Int) : Prop where
  max : n ≤ 8192
  len : b.length = (n + 7) / 8
  low : n % 8 ≠ 0 → b.getD (n / 8) 0 % 2 ^ (8 - n % 8) = 0
theorem bl_getD {b : List Int} {n i : Nat} : (bl b n).getD i 0 = if i < n then bitAt b i else 0 := by
  by_cases h : i < n
  · rw [if_pos h]; simp [bl, List.getD, h]
  · rw [if_neg h]; exact getD_ge (by rw [bl_len]; omega)
theorem bits8 {x : Int} (h0 : 0 ≤ x) (h1 : x < 256) : x / 128 % 2 * 128 + x / 64 % 2 * 64 + x / 32 % 2 * 32 + x / 16 % 2 * 16 + x / 8 % 2 * 8 + x / 4 % 2 * 4 + x / 2 % 2 * 2 + x / 1 % 2 = x := by omega
theorem bitAt_8 (b : List Int) (k : Nat) : bitAt b (8 * k) = b.getD k 0 / 128 % 2 ∧ bitAt b (8 * k + 1) = b.getD k 0 / 64 % 2 ∧ bitAt b (8 * k + 2) = b.getD k 0 / 32 % 2 ∧ bitAt b (8 * k + 3) = b.getD k 0 / 16 % 2 ∧
    bitAt b (8 * k + 4) = b.getD k 0 / 8 % 2 ∧ bitAt b (8 * k + 5) = b.getD k 0 / 4 % 2 ∧ bitAt b (8 * k + 6) = b.getD k 0 / 2 % 2 ∧ bitAt b (8 * k + 7) = b.getD k 0 / 1 % 2 := by
  unfold bitAt
  rw [show 8 * k / 8 = k from by omega, show (8 * k + 1) / 8 = k from by omega, show (8 * k + 2) / 8 = k from by omega, show (8 * k + 3) / 8 = k from by omega, show (8 * k + 4) / 8 = k from by omega, show (8 * k + 5) / 8 = k from by omega, show (8 * k + 6) / 8 = k from by omega, show (8 * k + 7) / 8 = k from by omega,
    show 8 * k % 8 = 0 from by omega, show (8 * k + 1) % 8 = 1 from by omega, show (8 * k + 2) % 8 = 2 from by omega, show (8 * k + 3) % 8 = 3 from by omega, show (8 * k + 4) % 8 = 4 from by omega, show (8 * k + 5) % 8 = 5 from by omega, show (8 * k + 6) % 8 = 6 from by omega, show (8 * k + 7) % 8 = 7 from by omega]
  exact ⟨rfl, rfl, rfl, rfl, rfl, rfl, rfl, rfl⟩
theorem byt_bl {n : Nat} {b : List Int} (hb : U8s b) (h : Ok n b) {k : Nat} (hk : k < (n + 7) / 8) : byt (bl b n) k = b.getD k 0 := by
  have hx : 0 ≤ b.getD k 0 ∧ b.getD k 0 < 256 := by
    have hlt : k < b.length := by rw [h.len]; exact hk
    have := hb b[k] (List.getElem_mem hlt)
    simpa [List.getD, hlt] using this
  obtain ⟨c0, c1, c2, c3, c4, c5, c6, c7⟩ := bitAt_8 b k
  unfold byt
  simp only [bl_getD]
  rw [c0, c1, c2, c3, c4, c5, c6, c7]
  by_cases hf : 8 * k + 8 ≤ n
  · rw [if_pos (by omega), if_pos (by omega), if_pos (by omega), if_pos (by omega), if_pos (by omega), if_pos (by omega), if_pos (by omega), if_pos (by omega)]
    exact bits8 hx.1 hx.2
  · have hkn : n / 8 = k := by omega
    obtain ⟨r, hr⟩ : ∃ r, r = n % 8 := ⟨_, rfl⟩
    have hn : n = 8 * k + r := by omega
    have hlow := h.low (by omega)
    rw [hkn, ← hr] at hlow
    generalize b.getD k 0 = x at hx hlow
    rcases (by omega : r = 1 ∨ r = 2 ∨ r = 3 ∨ r = 4 ∨ r = 5 ∨ r = 6 ∨ r = 7) with rfl | rfl | rfl | rfl | rfl | rfl | rfl
    · rw [if_pos (by omega), if_neg (by omega), if_neg (by omega), if_neg (by omega), if_neg (by omega), if_neg (by omega), if_neg (by omega), if_neg (by omega)]
      rw [show (2 : Int) ^ (8 - 1) = 128 from by decide] at hlow
      omega
    · rw [if_pos (by omega), if_pos (by omega), if_neg (by omega), if_neg (by omega), if_neg (by omega), if_neg (by omega), if_neg (by omega), if_neg (by omega)]
      rw [show (2 : Int) ^ (8 - 2) = 64 from by decide] at hlow
      omega
    · rw [if_pos (by omega), if_pos (by omega), if_pos (by omega), if_neg (by omega), if_neg (by omega), if_neg (by omega), if_neg (by omega), if_neg (by omega)]
      rw [show (2 : Int) ^ (8 - 3) = 32 from by decide] at hlow
      omega
    · rw [if_pos (by omega), if_pos (by omega), if_pos (by omega), if_pos (by omega), if_neg (by omega), if_neg (by omega), if_neg (by omega), if_neg (by omega)]
      rw [show (2 : Int) ^ (8 - 4) = 16 from by decide] at hlow
      omega
    · rw [if_pos (by omega), if_pos (by omega), if_pos (by omega), if_pos (by omega), if_pos (by omega), if_neg (by omega), if_neg (by omega), if_neg (by omega)]
      rw [show (2 : Int) ^ (8 - 5) = 8 from by decide] at hlow
      omega
    · rw [if_pos (by omega), if_pos (by omega), if_pos (by omega), if_pos (by omega), if_pos (by omega), if_pos (by omega), if_neg (by omega), if_neg (by omega)]
      rw [show (2 : Int) ^ (8 - 6) = 4 from by decide] at hlow
      omega
    · rw [if_pos (by omega), if_pos (by omega), if_pos (by omega), if_pos (by omega), if_pos (by omega), if_pos (by omega), if_pos (by omega), if_neg (by omega)]
      rw [show (2 : Int) ^ (8 - 7) = 2 from by decide] at hlow
      omega
theorem pk_bl {n : Nat} {b : List Int} (hb : U8s b) (h : Ok n b) : pk (bl b n) = b := by
  unfold pk
  rw [bl_len]
  apply List.ext_getElem?
  intro k
  by_cases hk : k < (n + 7) / 8
  · rw [List.getElem?_map, List.getElem?_range hk]
    simp only [Option.map_some]
    rw [byt_bl hb h hk]
    have hlt : k < b.length := by rw [h.len]; exact hk
    simp [List.getD, hlt]
  · rw [List.getElem?_eq_none (by simpa using hk), List.getElem?_eq_none (by rw [h.len]; omega)]
/-- What 'Check' tells. -/
def chkOf (n : Int) (b : List Int) : Int :=
  if n < 0 ∨ 8192 < n then 3 else if (b.length : Int) ≠ (n + 7) / 8 then 1 else if n % 8 ≠ 0 ∧ b.getD (n.toNat / 8) 0 % 2 ^ (8 - n.toNat % 8) ≠ 0 then 1 else 0
theorem chkOf_ok {n : Int} {b : List Int} (h : chkOf n b = 0) : ∃ m : Nat, n = m ∧ Ok m b := by
  unfold chkOf at h
  split at h
  · simp at h
  · rename_i h1
    split at h
    · simp at h
    · rename_i h2
      split at h
      · simp at h
      · rename_i h3
        obtain ⟨m, rfl⟩ := Int.eq_ofNat_of_zero_le (show 0 ≤ n by omega)
        refine ⟨m, rfl, by omega, by omega, fun hm => ?_⟩
        simp only [Int.toNat_natCast] at h3
        by_cases hz : b.getD (m / 8) 0 % 2 ^ (8 - m % 8) = 0
        · exact hz
        · exact absurd ⟨by omega, hz⟩ h3
theorem check_eq {F : Nat} {n : Int} {b : List Int} (hb : U8s b) (h1 : -9223372036854775808 ≤ n) (h2 : n < 9223372036854775808) (hm : b.length ≤ 9223372036854775807) : M_bits_Check F n b = some (chkOf n b) := by
  unfold M_bits_Check chkOf
  by_cases c1 : n < 0 ∨ 8192 < n
  · have : (decide (n < 0) || decide (8192 < n)) = true := by simpa using c1
    rw [if_pos this, if_pos c1]
  · have : (decide (n < 0) || decide (8192 < n)) = false := by simpa using c1
    rw [this, if_neg c1]
    simp only [Bool.false_eq_true, if_false]
    obtain ⟨m, rfl⟩ := Int.eq_ofNat_of_zero_le (show 0 ≤ n by omega)
    have e1 : iquo .i64 (iadd .i64 (m : Int) 7) 8 = ((m : Int) + 7) / 8 := by
      rw [iadd_i64 (by omega) (by omega), show (m : Int) + 7 = ((m + 7 : Nat) : Int) from by omega, iquo8 (by omega)]
      omega
    rw [e1, irem8]
    by_cases c2 : (b.length : Int) ≠ ((m : Int) + 7) / 8
    · have : ((b.length : Int) != ((m : Int) + 7) / 8) = true := by simpa using c2
      rw [if_pos this, if_pos c2]
    · have : ((b.length : Int) != ((m : Int) + 7) / 8) = false := by simpa using c2
      rw [this, if_neg c2]
      simp only [Bool.false_eq_true, if_false]
      by_cases c3 : m % 8 = 0
      · have : ((((m % 8 : Nat) : Int)) != 0) = false := by simp [c3]
        have hn : ¬ ((m : Int) % 8 ≠ 0 ∧ b.getD ((m : Int).toNat / 8) 0 % 2 ^ (8 - (m : Int).toNat % 8) ≠ 0) := fun h => h.1 (by omega)
        rw [this, if_neg hn]
        simp [M_bits_Check_j2]
      · have : ((((m % 8 : Nat) : Int)) != 0) = true := by simp; omega
        rw [this]
        simp only [if_true]
        have hlen : b.length = m / 8 + 1 := by omega
        have e2 : isub .i64 (b.length : Int) 1 = ((m / 8 : Nat) : Int) := by rw [isub_i64 (by omega) (by omega)]; omega
        have hg : b[m / 8]? = some b[m / 8] := by simp [hlen]
        rw [e2, idx_nat, hg]
        simp only [Option.bind_some]
        have hc : decide ((0 : Int) ≤ ((m % 8 : Nat) : Int)) = true := decide_eq_true (by omega)
        rw [hc]
        simp only [chk, if_true]
        have hx := hb b[m / 8] (List.getElem_mem (by omega))
        have hgd : b.getD (m / 8) 0 = b[m / 8] := by simp [List.getD, hg]
        rw [Int.toNat_natCast, hgd]
        generalize b[m / 8] = x at hx
        have e3 : (ishl .u8 x ((m % 8 : Nat) : Int) != 0) = decide (x % 2 ^ (8 - m % 8) ≠ 0) := by
          have key : ishl .u8 x ((m % 8 : Nat) : Int) = (x * 2 ^ (m % 8)) % 256 := by
            unfold ishl
            have h : min (((m % 8 : Nat) : Int).toNat) (IntKind.bits .u8) = m % 8 := by simp [IntKind.bits]; omega
            rw [h, wrap_u8_mod]
          rw [key]
          rcases (by omega : m % 8 = 1 ∨ m % 8 = 2 ∨ m % 8 = 3 ∨ m % 8 = 4 ∨ m % 8 = 5 ∨ m % 8 = 6 ∨ m % 8 = 7) with h | h | h | h | h | h | h <;> rw [h]
          · rw [show (2 : Int) ^ 1 = 2 from rfl, show (2 : Int) ^ (8 - 1) = 128 from by decide]; by_cases hz : x % 128 = 0 <;> simp [hz] <;> omega
          · rw [show (2 : Int) ^ 2 = 4 from rfl, show (2 : Int) ^ (8 - 2) = 64 from by decide]; by_cases hz : x % 64 = 0 <;> simp [hz] <;> omega
          · rw [show (2 : Int) ^ 3 = 8 from rfl, show (2 : Int) ^ (8 - 3) = 32 from by decide]; by_cases hz : x % 32 = 0 <;> simp [hz] <;> omega
          · rw [show (2 : Int) ^ 4 = 16 from by decide]; try rw [show (2 : Int) ^ (8 - 4) = 16 from by decide]
            by_cases hz : x % 16 = 0 <;> simp [hz] <;> omega
          · rw [show (2 : Int) ^ 5 = 32 from by decide, show (2 : Int) ^ (8 - 5) = 8 from by decide]; by_cases hz : x % 8 = 0 <;> simp [hz] <;> omega
          · rw [show (2 : Int) ^ 6 = 64 from by decide, show (2 : Int) ^ (8 - 6) = 4 from by decide]; by_cases hz : x % 4 = 0 <;> simp [hz] <;> omega
          · rw [show (2 : Int) ^ 7 = 128 from by decide, show (2 : Int) ^ (8 - 7) = 2 from by decide]; by_cases hz : x % 2 = 0 <;> simp [hz] <;> omega
        rw [e3]
        unfold M_bits_Check_j2
        by_cases hz : x % 2 ^ (8 - m % 8) = 0
        · rw [if_neg (by simp [hz]), if_neg (by simp [hz])]
        · rw [if_pos (by simp [hz]), if_pos ⟨by omega, hz⟩]
theorem clone_eq {F : Nat} {x : List Int} (h : x.length ≤ 1000000) : M_slices_Clone_byte_byte F x = some x := by
  unfold M_slices_Clone_byte_byte
  rw [app_eq (by simp; omega)]
  rfl
theorem own_eq {F : Nat} {n : Int} {b : List Int} (h : b.length ≤ 1000000) : M_bits_own F n b = some (n, b) := by
  unfold M_bits_own
  rw [clone_eq h]
  rfl
def I64 (n : Int) : Prop := -9223372036854775808 ≤ n ∧ n < 9223372036854775808
theorem pk_getD {l : List Int} {k : Nat} (hk : k < (l.length + 7) / 8) : (pk l).getD k 0 = byt l k := by
  unfold pk
  simp [List.getD, hk]
theorem pk_u8 {l : List Int} (h : Bit l) : U8s (pk l) := by
  intro x hx
  obtain ⟨k, _, rfl⟩ := List.mem_map.1 hx
  exact byt_range h k
theorem pk_len (l : List Int) : (pk l).length = (l.length + 7) / 8 := by simp [pk]
theorem ok_pk {l : List Int} (hm : l.length ≤ 8192) : Ok l.length (pk l) where
  max := hm
  len := pk_len l
  low := fun h => by
    rw [pk_getD (by omega)]
    exact byt_low
theorem bitAt_pk {l : List Int} (h : Bit l) {i : Nat} (hi : i < l.length) : bitAt (pk l) i = l.getD i 0 := by
  obtain ⟨k, hk⟩ : ∃ k, k = i / 8 := ⟨_, rfl⟩
  obtain ⟨r, hr⟩ : ∃ r, r = i % 8 := ⟨_, rfl⟩
  have hl : i = 8 * k + r := by omega
  have hr8 : r < 8 := by omega
  obtain ⟨c0, c1, c2, c3, c4, c5, c6, c7⟩ := bitAt_8 (pk l) k
  have hb : (pk l).getD k 0 = byt l k := pk_getD (by omega)
  rw [hb] at c0 c1 c2 c3 c4 c5 c6 c7
  have hbd : ∀ q, 0 ≤ l.getD q 0 ∧ l.getD q 0 ≤ 1 := fun q => by have := h.getD q; omega
  have h0 := hbd (8 * k); have h1 := hbd (8 * k + 1); have h2 := hbd (8 * k + 2); have h3 := hbd (8 * k + 3)
  have h4 := hbd (8 * k + 4); have h5 := hbd (8 * k + 5); have h6 := hbd (8 * k + 6); have h7 := hbd (8 * k + 7)
  clear hbd hb
  unfold byt at c0 c1 c2 c3 c4 c5 c6 c7
  rcases (by omega : r = 0 ∨ r = 1 ∨ r = 2 ∨ r = 3 ∨ r = 4 ∨ r = 5 ∨ r = 6 ∨ r = 7) with rfl | rfl | rfl | rfl | rfl | rfl | rfl | rfl
  · rw [hl, Nat.add_zero, c0]; clear c0 c1 c2 c3 c4 c5 c6 c7; generalize l.getD (8 * k) 0 = y0 at *; generalize l.getD (8 * k + 1) 0 = y1 at *; generalize l.getD (8 * k + 2) 0 = y2 at *; generalize l.getD (8 * k + 3) 0 = y3 at *; generalize l.getD (8 * k + 4) 0 = y4 at *; generalize l.getD (8 * k + 5) 0 = y5 at *; generalize l.getD (8 * k + 6) 0 = y6 at *; generalize l.getD (8 * k + 7) 0 = y7 at *; clear h hi hl hr hk hr8; omega
  · rw [hl, c1]; clear c0 c1 c2 c3 c4 c5 c6 c7; generalize l.getD (8 * k) 0 = y0 at *; generalize l.getD (8 * k + 1) 0 = y1 at *; generalize l.getD (8 * k + 2) 0 = y2 at *; generalize l.getD (8 * k + 3) 0 = y3 at *; generalize l.getD (8 * k + 4) 0 = y4 at *; generalize l.getD (8 * k + 5) 0 = y5 at *; generalize l.getD (8 * k + 6) 0 = y6 at *; generalize l.getD (8 * k + 7) 0 = y7 at *; clear h hi hl hr hk hr8; omega
  · rw [hl, c2]; clear c0 c1 c2 c3 c4 c5 c6 c7; generalize l.getD (8 * k) 0 = y0 at *; generalize l.getD (8 * k + 1) 0 = y1 at *; generalize l.getD (8 * k + 2) 0 = y2 at *; generalize l.getD (8 * k + 3) 0 = y3 at *; generalize l.getD (8 * k + 4) 0 = y4 at *; generalize l.getD (8 * k + 5) 0 = y5 at *; generalize l.getD (8 * k + 6) 0 = y6 at *; generalize l.getD (8 * k + 7) 0 = y7 at *; clear h hi hl hr hk hr8; omega
  · rw [hl, c3]; clear c0 c1 c2 c3 c4 c5 c6 c7; generalize l.getD (8 * k) 0 = y0 at *; generalize l.getD (8 * k + 1) 0 = y1 at *; generalize l.getD (8 * k + 2) 0 = y2 at *; generalize l.getD (8 * k + 3) 0 = y3 at *; generalize l.getD (8 * k + 4) 0 = y4 at *; generalize l.getD (8 * k + 5) 0 = y5 at *; generalize l.getD (8 * k + 6) 0 = y6 at *; generalize l.getD (8 * k + 7) 0 = y7 at *; clear h hi hl hr hk hr8; omega
  · rw [hl, c4]; clear c0 c1 c2 c3 c4 c5 c6 c7; generalize l.getD (8 * k) 0 = y0 at *; generalize l.getD (8 * k + 1) 0 = y1 at *; generalize l.getD (8 * k + 2) 0 = y2 at *; generalize l.getD (8 * k + 3) 0 = y3 at *; generalize l.getD (8 * k + 4) 0 = y4 at *; generalize l.getD (8 * k + 5) 0 = y5 at *; generalize l.getD (8 * k + 6) 0 = y6 at *; generalize l.getD (8 * k + 7) 0 = y7 at *; clear h hi hl hr hk hr8; omega
  · rw [hl, c5]; clear c0 c1 c2 c3 c4 c5 c6 c7; generalize l.getD (8 * k) 0 = y0 at *; generalize l.getD (8 * k + 1) 0 = y1 at *; generalize l.getD (8 * k + 2) 0 = y2 at *; generalize l.getD (8 * k + 3) 0 = y3 at *; generalize l.getD (8 * k + 4) 0 = y4 at *; generalize l.getD (8 * k + 5) 0 = y5 at *; generalize l.getD (8 * k + 6) 0 = y6 at *; generalize l.getD (8 * k + 7) 0 = y7 at *; clear h hi hl hr hk hr8; omega
  · rw [hl, c6]; clear c0 c1 c2 c3 c4 c5 c6 c7; generalize l.getD (8 * k) 0 = y0 at *; generalize l.getD (8 * k + 1) 0 = y1 at *; generalize l.getD (8 * k + 2) 0 = y2 at *; generalize l.getD (8 * k + 3) 0 = y3 at *; generalize l.getD (8 * k + 4) 0 = y4 at *; generalize l.getD (8 * k + 5) 0 = y5 at *; generalize l.getD (8 * k + 6) 0 = y6 at *; generalize l.getD (8 * k + 7) 0 = y7 at *; clear h hi hl hr hk hr8; omega
  · rw [hl, c7]; clear c0 c1 c2 c3 c4 c5 c6 c7; generalize l.getD (8 * k) 0 = y0 at *; generalize l.getD (8 * k + 1) 0 = y1 at *; generalize l.getD (8 * k + 2) 0 = y2 at *; generalize l.getD (8 * k + 3) 0 = y3 at *; generalize l.getD (8 * k + 4) 0 = y4 at *; generalize l.getD (8 * k + 5) 0 = y5 at *; generalize l.getD (8 * k + 6) 0 = y6 at *; generalize l.getD (8 * k + 7) 0 = y7 at *; clear h hi hl hr hk hr8; omega
theorem bl_pk {l : List Int} (h : Bit l) : bl (pk l) l.length = l := by
  apply List.ext_getElem?
  intro i
  by_cases hi : i < l.length
  · have h1 : (bl (pk l) l.length)[i]? = some (bitAt (pk l) i) := by simp [bl, hi]
    rw [h1, bitAt_pk h hi]
    simp [List.getD, hi]
  · rw [List.getElem?_eq_none (by rw [bl_len]; omega), List.getElem?_eq_none (by omega)]
theorem same_l (F : Nat) {xs ys : List Int} (hl : xs.length = ys.length) (hm : xs.length ≤ 9223372036854775807) : ∀ (k i : Nat), xs.length < k + i → i ≤ xs.length →
    M_R_SameBytes_l3 F xs ys k (i : Int) = some (decide (xs.drop i = ys.drop i))
  | 0, i, h, _ => by omega
  | k + 1, i, h, hi => by
    show M_R_SameBytes_b3 F xs ys (M_R_SameBytes_l3 F xs ys k) i = _
    unfold M_R_SameBytes_b3
    by_cases hlt : i < xs.length
    · have hlt' : (i : Int) < (xs.length : Int) := by omega
      have hlt2 : i < ys.length := by omega
      have hg : xs[i]? = some xs[i] := by simp [hlt]
      have hg2 : ys[i]? = some ys[i] := by simp [hlt2]
      simp only [hlt', decide_true, if_true, idx_nat, hg, hg2, Option.bind_some]
      have e : (xs.drop i = ys.drop i) ↔ (xs[i] = ys[i] ∧ xs.drop (i + 1) = ys.drop (i + 1)) := by
        rw [List.drop_eq_getElem_cons hlt, List.drop_eq_getElem_cons hlt2, List.cons.injEq]
      simp only [e]
      by_cases he : xs[i] = ys[i]
      · simp only [he, bne_self_eq_false, Bool.false_eq_true, if_false, true_and]
        rw [iadd_i64 (by omega) (by omega), show (i : Int) + 1 = ((i + 1 : Nat) : Int) from by omega, same_l F hl hm k (i + 1) (by omega) (by omega)]
      · have : (xs[i] != ys[i]) = true := by simpa using he
        simp only [this, if_true, he, false_and, decide_false]
    · have hlt' : ¬ (i : Int) < (xs.length : Int) := by omega
      simp only [hlt', decide_false, Bool.false_eq_true, if_false]
      rw [List.drop_eq_nil_of_le (by omega), List.drop_eq_nil_of_le (by omega)]
      rfl
theorem sameBytes_eq {F : Nat} {xs ys : List Int} (hF : xs.length < F) (hm : xs.length ≤ 9223372036854775807) : M_R_SameBytes F xs ys = some (decide (xs = ys)) := by
  unfold M_R_SameBytes
  by_cases hl : xs.length = ys.length
  · have : (((xs.length : Int) : Int) != (ys.length : Int)) = false := by simp [hl]
    simp only [this, Bool.false_eq_true, if_false]
    have := same_l F hl hm F 0 (by omega) (by omega)
    simpa using this
  · have : (((xs.length : Int) : Int) != (ys.length : Int)) = true := by simp; omega
    simp only [this, if_true]
    have : xs ≠ ys := fun e => hl (by rw [e])
    simp [this]
theorem sameBits_eq {F : Nat} {n m : Int} {xs ys : List Int} (hF : xs.length < F) (hm : xs.length ≤ 9223372036854775807) : M_R_SameBits F n xs m ys = some (decide (n = m ∧ xs = ys)) := by
  unfold M_R_SameBits
  by_cases h : n = m
  · have hb : (n == m) = true := by simp [h]
    rw [if_pos hb, sameBytes_eq hF hm]
    simp [M_R_SameBits_j1, h]
  · have hb : (n == m) = false := by simpa using h
    rw [hb]
    simp [M_R_SameBits_j1, h]
theorem chkOf_of_ok {n : Nat} {b : List Int} (h : Ok n b) : chkOf (n : Int) b = 0 := by
  unfold chkOf
  have := h.max
  have := h.len
  rw [if_neg (by omega), if_neg (by omega), if_neg]
  rintro ⟨h1, h2⟩
  rw [Int.toNat_natCast] at h2
  exact h2 (h.low (by omega))
theorem bit_app {l k : List Int} (h : Bit l) (h2 : Bit k) : Bit (l ++ k) := by
  intro x hx
  rcases List.mem_append.1 hx with h3 | h3
  · exact h x h3
  · exact h2 x h3
theorem two64 : (2 : Nat) ^ 64 = 18446744073709551616 := by decide
theorem ishr_n {n k : Nat} (hn : n < 18446744073709551616) : ishr .u64 (n : Int) (k : Int) = ((n / 2 ^ k : Nat) : Int) := by
  unfold ishr
  rw [Int.fdiv_eq_ediv_of_nonneg _ (by exact_mod_cast Nat.zero_le _), Int.toNat_natCast]
  simp only [IntKind.bits]
  by_cases h : k ≤ 64
  · rw [Nat.min_eq_left h]; norm_cast
  · rw [Nat.min_eq_right (by omega)]
    have h1 : n / 2 ^ 64 = 0 := Nat.div_eq_of_lt (by omega)
    have h2 : n / 2 ^ k = 0 := Nat.div_eq_of_lt (Nat.lt_of_lt_of_le hn (by rw [← two64]; exact Nat.pow_le_pow_right (by decide) (by omega)))
    rw [h2]
    have : ((n : Int) / 2 ^ 64) = ((n / 2 ^ 64 : Nat) : Int) := by norm_cast
    rw [this, h1]
theorem iand1_n {n : Nat} (hn : n < 18446744073709551616) : iand .u64 (n : Int) 1 = ((n % 2 : Nat) : Int) := by
  have e := iand_mask (k := .u64) (a := (n : Int)) (m := 1) (by omega) (by simp only [IntKind.bits]; rw [show (2 : Int) ^ 64 = 18446744073709551616 from by decide]; omega) (by decide) rfl
  rw [show ((2 ^ 1 - 1 : Nat) : Int) = 1 from rfl, show (2 : Int) ^ 1 = 2 from rfl] at e
  rw [e]; omega
theorem ishl_n {n k : Nat} (hk : k ≤ 64) : ishl .u64 (n : Int) (k : Int) = ((n * 2 ^ k % 18446744073709551616 : Nat) : Int) := by
  rw [ishl_u64 hk, Int.natCast_emod, Int.natCast_mul, Int.natCast_pow]; rfl
theorem ior_n {a b m : Nat} (ha : a < 2 ^ m) (hb : b % 2 ^ m = 0) (h : a + b < 18446744073709551616) : ior .u64 (b : Int) (a : Int) = ((b + a : Nat) : Int) := by
  rw [ior_comm, ior_add (m := m) (by omega) (by exact_mod_cast ha) (by omega) (by exact_mod_cast hb) rfl (by simp only [IntKind.bits]; rw [show (2 : Int) ^ 64 = 18446744073709551616 from by decide]; omega)]
  omega
theorem iadd_n {a b : Nat} (h : a + b < 9223372036854775808) : iadd .i64 (a : Int) (b : Int) = ((a + b : Nat) : Int) := by rw [iadd_i64 (by omega) (by omega)]; omega
theorem iadd1_n {a : Nat} (h : a + 1 < 9223372036854775808) : iadd .i64 (a : Int) 1 = ((a + 1 : Nat) : Int) := by rw [iadd_i64 (by omega) (by omega)]; omega
theorem isub_n {a b : Nat} (h : b ≤ a) (h2 : a < 9223372036854775808) : isub .i64 (a : Int) (b : Int) = ((a - b : Nat) : Int) := by rw [isub_i64 (by omega) (by omega)]; omega
theorem isub1_n {a : Nat} (h : 1 ≤ a) (h2 : a < 9223372036854775808) : isub .i64 (a : Int) 1 = ((a - 1 : Nat) : Int) := by rw [isub_i64 (by omega) (by omega)]; omega
/-- The bits of a number, in so many places, the highest one first. -/
def nb (n : Nat) : Nat → List Int
  | 0 => []
  | w + 1 => ((n / 2 ^ w % 2 : Nat) : Int) :: nb n w
theorem nb_len (n : Nat) : ∀ w, (nb n w).length = w
  | 0 => rfl
  | w + 1 => by simp [nb, nb_len n w]
theorem nb_bit (n : Nat) : ∀ w, Bit (nb n w)
  | 0 => by intro x hx; simp [nb] at hx
  | w + 1 => by
    intro x hx
    rcases List.mem_cons.1 hx with rfl | h
    · omega
    · exact nb_bit n w x h
/-- The number of bits. -/
def bv (l : List Int) : Nat := l.foldl (fun n b => 2 * n + b.toNat) 0
theorem bv_from (l : List Int) : ∀ m, l.foldl (fun n b => 2 * n + b.toNat) m = m * 2 ^ l.length + bv l := by
  induction l with
  | nil => intro m; simp [bv]
  | cons x l ih =>
    intro m
    show l.foldl _ _ = _
    rw [ih]
    show _ = _ + l.foldl _ _
    rw [ih, List.length_cons, Nat.pow_succ]
    generalize 2 ^ l.length = p
    rw [Nat.add_mul, Nat.add_mul]
    have : 2 * m * p = m * (p * 2) := by rw [Nat.mul_comm 2 m, Nat.mul_assoc, Nat.mul_comm 2 p]
    omega
theorem bv_app (l k : List Int) : bv (l ++ k) = bv l * 2 ^ k.length + bv k := by
  unfold bv
  rw [List.foldl_append, bv_from k]; rfl
theorem bv_cons (x : Int) (l : List Int) : bv (x :: l) = x.toNat * 2 ^ l.length + bv l := by
  have := bv_app [x] l
  simpa [bv] using this
theorem bv_lt {l : List Int} (h : Bit l) : bv l < 2 ^ l.length := by
  induction l with
  | nil => simp [bv]
  | cons x l ih =>
    have h1 := ih (fun y hy => h y (List.mem_cons_of_mem _ hy))
    rw [bv_cons, List.length_cons, Nat.pow_succ]
    rcases h x List.mem_cons_self with rfl | rfl
    · simp; omega
    · simp; omega
theorem bv_nb (n : Nat) : ∀ w, bv (nb n w) = n % 2 ^ w
  | 0 => by simp [nb, bv, Nat.mod_one]
  | w + 1 => by
    rw [nb, bv_cons, nb_len, bv_nb n w, Int.toNat_natCast, Nat.pow_succ, Nat.mod_mul, Nat.mul_comm, Nat.add_comm]
theorem nb_app (n a : Nat) : ∀ b, nb n (b + a) = nb (n / 2 ^ a) b ++ nb n a
  | 0 => by simp [nb]
  | b + 1 => by
    rw [show b + 1 + a = (b + a) + 1 from by omega, nb, nb_app n a b, nb, List.cons_append]
    congr 3
    rw [Nat.div_div_eq_div_mul, ← Nat.pow_add, Nat.add_comm]
theorem nb_snoc (n w : Nat) : nb n (w + 1) = nb (n / 2) w ++ [((n % 2 : Nat) : Int)] := by
  have := nb_app n 1 w
  simpa [nb] using this
theorem number_l {F : Nat} {n : Nat} (hn : n < 18446744073709551616) : ∀ (w k : Nat) (l : List Int), w < k → Bit l → l.length + w ≤ 100000 →
    M_bits_writer_number_l1 F (n : Int) k ((w : Int) - 1, (l.length : Int), pk l) = some (((l.length + w : Nat) : Int), pk (l ++ nb n w))
  | _, 0, _, h, _, _ => by omega
  | 0, k + 1, l, _, _, _ => by
    show M_bits_writer_number_b1 F (n : Int) _ (((0 : Nat) : Int) - 1) (l.length : Int) (pk l) = _
    unfold M_bits_writer_number_b1
    rw [if_neg (by simp)]
    simp [nb]
  | w + 1, k + 1, l, h, hl, hm => by
    show M_bits_writer_number_b1 F (n : Int) (M_bits_writer_number_l1 F (n : Int) k) (((w + 1 : Nat) : Int) - 1) (l.length : Int) (pk l) = _
    unfold M_bits_writer_number_b1
    rw [show ((w + 1 : Nat) : Int) - 1 = (w : Int) from by omega, if_pos (by simp)]
    have hc : decide ((0 : Int) ≤ (w : Int)) = true := decide_eq_true (by omega)
    rw [hc]
    simp only [chk, if_true]
    rw [ishr_n hn, iand1_n (by have := Nat.div_le_self n (2 ^ w); omega)]
    have hx : ((n / 2 ^ w % 2 : Nat) : Int) = 0 ∨ ((n / 2 ^ w % 2 : Nat) : Int) = 1 := by omega
    rw [bit_eq hl hx (by omega)]
    simp only [Option.bind_some]
    rw [isub_i64 (by omega) (by omega)]
    have := number_l (F := F) hn w k (l ++ [((n / 2 ^ w % 2 : Nat) : Int)]) (by omega) (bit_app hl (by intro y hy; simp only [List.mem_singleton] at hy; rw [hy]; exact hx)) (by simp; omega)
    rw [show (l ++ [((n / 2 ^ w % 2 : Nat) : Int)]).length = l.length + 1 from by simp] at this
    rw [this, List.append_assoc, show l.length + 1 + w = l.length + (w + 1) from by omega]
    rfl
theorem number_eq {F : Nat} {n w : Nat} {l : List Int} (hn : n < 18446744073709551616) (hF : w < F) (hl : Bit l) (hm : l.length + w ≤ 100000) :
    M_bits_writer_number F (l.length : Int) (pk l) (n : Int) (w : Int) = some (((l.length + w : Nat) : Int), pk (l ++ nb n w)) := by
  unfold M_bits_writer_number
  rw [isub_i64 (by omega) (by omega)]
  exact number_l hn w F l hF hl hm
theorem add_eq {F : Nat} {n w m : Nat} {b : List Int} (hn : n < 18446744073709551616) (hF : w < F) (hb : U8s b) (ob : Ok m b) (hw : w ≤ 10000) :
    M_bits_Add F (m : Int) b (n : Int) (w : Int) = some (((m + w : Nat) : Int), pk (bl b m ++ nb n w)) := by
  unfold M_bits_Add
  have := ob.max
  rw [own_eq (by rw [ob.len]; omega)]
  simp only [Option.bind_some]
  have h := number_eq (F := F) (l := bl b m) hn hF (bl_bit _ _) (by rw [bl_len]; omega)
  rw [bl_len, pk_bl hb ob] at h
  rw [h]; rfl
theorem bl_get {b : List Int} {n i : Nat} (h : i < n) : (bl b n)[i]? = some (bitAt b i) := by simp [bl, h]
theorem read_l {F : Nat} {n : Int} {m a w : Nat} {b : List Int} (hb : U8s b) (hlen : m ≤ 8 * b.length) (hm : m ≤ 10000) (ha : a + w ≤ m) (hw : w ≤ 64) : ∀ (k i v : Nat), w < k + i → i ≤ w → v < 2 ^ i →
    M_bits_Read_l3 F n b (a : Int) (w : Int) k ((v : Int), (i : Int)) = some (((v * 2 ^ (w - i) + bv (((bl b m).drop (a + i)).take (w - i)) : Nat) : Int), true)
  | 0, _, _, _, _, _ => by omega
  | k + 1, i, v, h, hi, hv => by
    show M_bits_Read_b3 F n b (a : Int) (w : Int) (M_bits_Read_l3 F n b (a : Int) (w : Int) k) (v : Int) (i : Int) = _
    unfold M_bits_Read_b3
    by_cases hlt : i < w
    · rw [if_pos (by simp; omega), iadd_n (by omega), at_eq hb (by omega) (by omega)]
      simp only [Option.bind_some]
      have hx := bitAt_bit b (a + i)
      have hv64 : 2 * v + 1 < 18446744073709551616 := by
        have : 2 ^ (i + 1) ≤ 2 ^ 64 := Nat.pow_le_pow_right (by decide) (by omega)
        rw [Nat.pow_succ, two64] at this
        omega
      obtain ⟨x, hxe⟩ : ∃ x : Nat, bitAt b (a + i) = (x : Int) := Int.eq_ofNat_of_zero_le (by omega)
      have hx1 : x < 2 := by omega
      have e1 : ishl .u64 (v : Int) 1 = ((v * 2 : Nat) : Int) := by
        have := ishl_n (n := v) (k := 1) (by decide)
        rw [show ((1 : Nat) : Int) = 1 from rfl] at this
        rw [this]; omega
      have e2 : ior .u64 ((v * 2 : Nat) : Int) (x : Int) = ((v * 2 + x : Nat) : Int) := ior_n (m := 1) (by omega) (by omega) (by omega)
      rw [hxe, e1, e2, iadd1_n (by omega)]
      rw [read_l hb hlen hm ha hw k (i + 1) (v * 2 + x) (by omega) (by omega) (by rw [Nat.pow_succ]; omega)]
      have hd : ((bl b m).drop (a + i)).take (w - i) = (x : Int) :: ((bl b m).drop (a + (i + 1))).take (w - (i + 1)) := by
        rw [List.drop_eq_getElem_cons (by rw [bl_len]; omega), show w - i = (w - (i + 1)) + 1 from by omega, List.take_succ_cons, show a + i + 1 = a + (i + 1) from by omega]
        congr 1
        have := bl_get (b := b) (n := m) (i := a + i) (by omega)
        rw [List.getElem?_eq_getElem (by rw [bl_len]; omega)] at this
        rw [← hxe]; exact Option.some.inj this
      rw [hd, bv_cons, Int.toNat_natCast]
      have hl : (((bl b m).drop (a + (i + 1))).take (w - (i + 1))).length = w - (i + 1) := by simp [bl_len]; omega
      rw [hl, show w - i = (w - (i + 1)) + 1 from by omega, Nat.pow_succ, Nat.add_mul]
      congr 3
      rw [Nat.mul_assoc, Nat.mul_comm 2, Nat.add_assoc]
    · rw [if_neg (by simp; omega)]
      rw [show w - i = 0 from by omega]
      simp [M_bits_Read_j2, bv]
theorem read_eq {F : Nat} {m a w : Nat} {b : List Int} (hF : 100 ≤ F) (hb : U8s b) (ob : Ok m b) (ha : a ≤ m) (hw : w ≤ 64) :
    M_bits_Read F (m : Int) b (a : Int) (w : Int) = some (if a + w ≤ m then (((bv (((bl b m).drop a).take w) : Nat) : Int), true) else (0, false)) := by
  unfold M_bits_Read
  have hmx := ob.max
  rw [isub_n ha (by omega)]
  by_cases h : a + w ≤ m
  · rw [if_neg (by simp; omega), if_pos h]
    have := read_l (F := F) (n := (m : Int)) (m := m) (a := a) (w := w) hb (by rw [ob.len]; omega) (by omega) h hw F 0 0 (by omega) (by omega) (by decide)
    simpa using this
  · rw [if_pos (by simp; omega), if_neg h]
theorem irem2_n (n : Nat) : irem (n : Int) 2 = ((n % 2 : Nat) : Int) := by
  unfold irem; rw [Int.tmod_eq_emod_of_nonneg (by omega)]; omega
theorem iquo2_n {n : Nat} (h : n ≤ 9223372036854775807) : iquo .i64 (n : Int) 2 = ((n / 2 : Nat) : Int) := by
  unfold iquo; rw [Int.tdiv_eq_ediv_of_nonneg (by omega), wrap_i64 (by omega) (by omega)]; omega
theorem iquo2_u {n : Nat} (h : n < 18446744073709551616) : iquo .u64 (n : Int) 2 = ((n / 2 : Nat) : Int) := by
  unfold iquo; rw [Int.tdiv_eq_ediv_of_nonneg (by omega), wrap_u64 (by omega) (by omega)]; omega
theorem iconv_i64_n {n : Nat} (h : n < 9223372036854775808) : iconv .i64 (n : Int) = (n : Int) := wrap_i64 (by omega) (by omega)
theorem iconv_u64_n {n : Nat} (h : n < 18446744073709551616) : iconv .u64 (n : Int) = (n : Int) := wrap_u64 (by omega) (by omega)
theorem div_pow_succ (x k : Nat) : x / 2 ^ (k + 1) = x / 2 / 2 ^ k := by rw [Nat.pow_succ, Nat.mul_comm, Nat.div_div_eq_div_mul]
theorem bitList_in {F : Nat} {rec38 : (List Int × Int) → Option (List Int)} {l : List Int} {i : Nat} (hm : i ≤ 100000) : ∀ (k j x : Nat), 7 - i % 8 < k + j → j ≤ 7 - i % 8 → x < 256 →
    M_R_BitList_l45 F rec38 l (i : Int) k ((x : Int), (j : Int)) = M_R_BitList_j44 F rec38 l (i : Int) ((x / 2 ^ (7 - i % 8 - j) : Nat) : Int)
  | 0, _, _, _, _, _ => by omega
  | k + 1, j, x, h, hj, hx => by
    show M_R_BitList_b45 F rec38 l (i : Int) (M_R_BitList_l45 F rec38 l (i : Int) k) (x : Int) (j : Int) = _
    unfold M_R_BitList_b45
    rw [irem8, isub_i64 (by omega) (by omega)]
    by_cases hlt : j < 7 - i % 8
    · rw [if_pos (by simp; omega), iquo2_n (by omega), iadd1_n (by omega), bitList_in hm k (j + 1) (x / 2) (by omega) (by omega) (by omega)]
      rw [show 7 - i % 8 - j = (7 - i % 8 - (j + 1)) + 1 from by omega, div_pow_succ]
    · rw [if_neg (by simp; omega), show 7 - i % 8 - j = 0 from by omega]
      simp
theorem bitList_l {F : Nat} (hF : 100 ≤ F) {b : List Int} (hb : U8s b) {n : Nat} (hn : n ≤ 8 * b.length) (hm : n ≤ 100000) : ∀ (k i : Nat), n < k + i → i ≤ n →
    M_R_BitList_l38 F (n : Int) b k (bl b i, (i : Int)) = some (bl b n)
  | 0, _, _, _ => by omega
  | k + 1, i, h, hi => by
    show M_R_BitList_b38 F (n : Int) b (M_R_BitList_l38 F (n : Int) b k) (bl b i) (i : Int) = _
    unfold M_R_BitList_b38
    by_cases hlt : i < n
    · rw [if_pos (by simp; omega), iquo8 (by omega), idx_nat]
      have hg : b[i / 8]? = some b[i / 8] := by rw [List.getElem?_eq_getElem (by omega)]
      rw [hg]
      simp only [Option.bind_some]
      have hx := hb b[i / 8] (List.getElem_mem (by omega))
      obtain ⟨x, hxe⟩ := Int.eq_ofNat_of_zero_le hx.1
      rw [hxe, iconv_i64_n (by omega)]
      rw [show ((0 : Int)) = ((0 : Nat) : Int) from rfl, bitList_in (by omega) F 0 x (by omega) (by omega) (by omega)]
      unfold M_R_BitList_j44
      rw [irem2_n, app_eq (by rw [bl_len]; simp; omega)]
      simp only [Option.bind_some, M_R_BitList_j42]
      rw [iadd1_n (by omega)]
      have e : bl b i ++ [((x / 2 ^ (7 - i % 8 - 0) % 2 : Nat) : Int)] = bl b (i + 1) := by
        rw [bl_succ]
        congr 2
        unfold bitAt
        simp only [List.getD, hg, Option.getD_some, hxe, Nat.sub_zero]
        norm_cast
      rw [e]
      exact bitList_l hF hb hn hm k (i + 1) (by omega) (by omega)
    · rw [if_neg (by simp; omega)]
      obtain rfl : i = n := by omega
      rfl
theorem bitList_eq {F : Nat} (hF : 20000 ≤ F) {b : List Int} (hb : U8s b) {n : Nat} (hn : n ≤ 8 * b.length) (hm : n ≤ 10000) : M_R_BitList F (n : Int) b = some (bl b n) := by
  unfold M_R_BitList
  exact bitList_l (by omega) hb hn (by omega) F 0 (by omega) (by omega)
theorem bit_n {l : List Int} (h : Bit l) {i : Nat} (hi : i < l.length) : ∃ x : Nat, l[i]? = some (x : Int) ∧ x < 2 := by
  have := h l[i] (List.getElem_mem hi)
  obtain ⟨x, hx⟩ := Int.eq_ofNat_of_zero_le (show 0 ≤ l[i] by omega)
  exact ⟨x, by rw [List.getElem?_eq_getElem hi, hx], by omega⟩
theorem imul2_n {n : Nat} (h : n < 4611686018427387904) : imul .i64 2 (n : Int) = ((2 * n : Nat) : Int) := by rw [imul_i64 (by omega) (by omega)]; omega
/-- The first so many of eight bits from a place on, as a number. -/
def byN (l : List Int) (i : Nat) : Nat → Nat
  | 0 => 0
  | k + 1 => 2 * byN l i k + (l.getD (i + k) 0).toNat
theorem byN_lt {l : List Int} (h : Bit l) (i : Nat) : ∀ k, byN l i k < 2 ^ k
  | 0 => by simp [byN]
  | k + 1 => by
    have := byN_lt h i k
    have h2 := h.getD (i + k)
    unfold byN
    rw [Nat.pow_succ]
    omega
theorem byN_8 {l : List Int} (h : Bit l) (i : Nat) : ((byN l (8 * i) 8 : Nat) : Int) = byt l i := by
  have h0 := h.getD (8 * i); have h1 := h.getD (8 * i + 1); have h2 := h.getD (8 * i + 2); have h3 := h.getD (8 * i + 3)
  have h4 := h.getD (8 * i + 4); have h5 := h.getD (8 * i + 5); have h6 := h.getD (8 * i + 6); have h7 := h.getD (8 * i + 7)
  unfold byt
  simp only [byN, Nat.add_zero]
  omega
theorem packBits_in {F : Nat} {rec98 : (Int × List Int) → Option (Int × List Int)} {l o : List Int} (hl : Bit l) {i : Nat} (hm : i ≤ 100000) (hlm : l.length ≤ 100000) : ∀ (k j : Nat), 8 < k + j → j ≤ 8 →
    M_R_PackBits_l116 F rec98 l (i : Int) o k ((byN l i j : Nat), (j : Int)) = M_R_PackBits_j113 F rec98 (i : Int) o ((byN l i 8 : Nat) : Int)
  | 0, _, _, _ => by omega
  | k + 1, j, h, hj => by
    show M_R_PackBits_b116 F rec98 l (i : Int) o (M_R_PackBits_l116 F rec98 l (i : Int) o k) ((byN l i j : Nat) : Int) (j : Int) = _
    unfold M_R_PackBits_b116
    by_cases hlt : j < 8
    · have hb := byN_lt hl i j
      have hp : 2 ^ j ≤ 2 ^ 8 := Nat.pow_le_pow_right (by decide) hj
      rw [show 2 ^ 8 = 256 from by decide] at hp
      rw [if_pos (by simp; omega), iadd_n (by omega)]
      by_cases h2 : i + j < l.length
      · rw [if_pos (by simp; omega), idx_nat]
        obtain ⟨x, hx, hx2⟩ := bit_n hl h2
        rw [hx]
        simp only [Option.bind_some, M_R_PackBits_j117]
        rw [imul2_n (by omega), iadd_n (by omega), iadd1_n (by omega)]
        have e : 2 * byN l i j + x = byN l i (j + 1) := by
          simp [byN, List.getD, hx]
        rw [e]
        exact packBits_in hl hm hlm k (j + 1) (by omega) (by omega)
      · rw [if_neg (by simp; omega)]
        simp only [M_R_PackBits_j117]
        rw [imul2_n (by omega), iadd1_n (by omega)]
        have e : 2 * byN l i j = byN l i (j + 1) := by
          show _ = 2 * _ + (l.getD (i + j) 0).toNat
          rw [getD_ge (by omega)]; rfl
        rw [e]
        exact packBits_in hl hm hlm k (j + 1) (by omega) (by omega)
    · rw [if_neg (by simp; omega)]
      obtain rfl : j = 8 := by omega
      rfl
theorem packBits_l {F : Nat} (hF : 100 ≤ F) {l : List Int} (hl : Bit l) (hm : l.length ≤ 90000) : ∀ (k i : Nat), (l.length + 7) / 8 < k + i → i ≤ (l.length + 7) / 8 →
    M_R_PackBits_l98 F l k (((8 * i : Nat) : Int), (List.range i).map (byt l)) = some ((l.length : Int), pk l)
  | 0, _, _, _ => by omega
  | k + 1, i, h, hi => by
    show M_R_PackBits_b98 F l (M_R_PackBits_l98 F l k) ((8 * i : Nat) : Int) ((List.range i).map (byt l)) = _
    unfold M_R_PackBits_b98
    by_cases hlt : 8 * i < l.length
    · rw [if_pos (by simp; omega)]
      have := packBits_in (F := F) (rec98 := M_R_PackBits_l98 F l k) (o := (List.range i).map (byt l)) hl (i := 8 * i) (by omega) (by omega) F 0 (by omega) (by omega)
      rw [show ((byN l (8 * i) 0 : Nat) : Int) = 0 from rfl, show ((0 : Nat) : Int) = 0 from rfl] at this
      rw [this]
      unfold M_R_PackBits_j113
      rw [byN_8 hl]
      have hr := byt_range hl i
      rw [show iconv .u8 (byt l i) = byt l i from wrap_u8 hr.1 hr.2, app_eq (by simp; omega)]
      simp only [Option.bind_some, M_R_PackBits_j108]
      rw [show ((8 : Int)) = ((8 : Nat) : Int) from rfl, iadd_n (by omega), show 8 * i + 8 = 8 * (i + 1) from by omega]
      have e : (List.range i).map (byt l) ++ [byt l i] = (List.range (i + 1)).map (byt l) := by rw [List.range_succ, List.map_append]; rfl
      rw [e]
      exact packBits_l hF hl hm k (i + 1) (by omega) (by omega)
    · rw [if_neg (by simp; omega)]
      obtain rfl : i = (l.length + 7) / 8 := by omega
      rfl
theorem packBits_eq {F : Nat} (hF : 20000 ≤ F) {l : List Int} (hl : Bit l) (hm : l.length ≤ 90000) : M_R_PackBits F l = some ((l.length : Int), pk l) := by
  unfold M_R_PackBits
  exact packBits_l (by omega) hl hm F 0 (by omega) (by omega)
theorem between_eq {F : Nat} {a b c : Int} : M_R_between F a b c = some (decide (b ≤ a ∧ a ≤ c)) := by
  unfold M_R_between
  congr 1
  by_cases h : b ≤ a <;> by_cases h2 : a ≤ c <;> simp [h, h2]
theorem numBits_l {F w : Nat} (hw : w ≤ 100000) : ∀ (k i n : Nat) (t : List Int), i < k → i ≤ w → n < 18446744073709551616 →
    M_R_NumBits_l3 F k ((n : Int), List.replicate i 0 ++ t, (i : Int) - 1) = some (nb n i ++ t)
  | 0, _, _, _, h, _, _ => by omega
  | k + 1, 0, n, t, h, _, _ => by
    show M_R_NumBits_b3 F (M_R_NumBits_l3 F k) (n : Int) _ _ = _
    unfold M_R_NumBits_b3
    rw [if_neg (by simp)]
    simp [M_R_NumBits_j2, nb]
  | k + 1, i + 1, n, t, h, hi, hn => by
    show M_R_NumBits_b3 F (M_R_NumBits_l3 F k) (n : Int) (List.replicate (i + 1) 0 ++ t) (((i + 1 : Nat) : Int) - 1) = _
    unfold M_R_NumBits_b3
    rw [show ((i + 1 : Nat) : Int) - 1 = (i : Int) from by omega, if_pos (by simp), idx_nat]
    have hg : (List.replicate (i + 1) (0 : Int) ++ t)[i]? = some 0 := by
      rw [List.getElem?_append_left (by simp)]; simp
    rw [hg]
    simp only [Option.bind_some, lett]
    rw [irem2_n, iconv_i64_n (by omega), iquo2_u hn, isub_i64 (by omega) (by omega), Int.toNat_natCast]
    have e : (List.replicate (i + 1) (0 : Int) ++ t).set i ((n % 2 : Nat) : Int) = List.replicate i 0 ++ (((n % 2 : Nat) : Int) :: t) := by
      rw [List.replicate_succ', List.append_assoc, List.set_append_right _ _ (by simp)]
      simp
    rw [e, numBits_l hw k i (n / 2) _ (by omega) (by omega) (by omega), nb_snoc]
    simp
theorem numBits_eq {F w n : Nat} (hF : w < F) (hw : w ≤ 100000) (hn : n < 18446744073709551616) : M_R_NumBits F (n : Int) (w : Int) = some (nb n w) := by
  unfold M_R_NumBits
  have hmk : mk 17592186044416 (0 : Int) (w : Int) = some (List.replicate w 0) := by
    unfold mk
    rw [if_pos (by simp; omega)]; simp
  rw [hmk]
  simp only [Option.bind_some]
  rw [isub_i64 (by omega) (by omega)]
  have := numBits_l (F := F) hw F w n [] hF (by omega) hn
  simpa using this
theorem bitsCheck_l {F : Nat} {l : List Int} (hm : l.length ≤ 100000) : ∀ (k i : Nat), l.length < k + i → i ≤ l.length →
    M_R_BitsCheck_l4 F l k (i : Int) = some (if (l.drop i).all (· == 0) then 0 else 1)
  | 0, _, _, _ => by omega
  | k + 1, i, h, hi => by
    show M_R_BitsCheck_b4 F l (M_R_BitsCheck_l4 F l k) (i : Int) = _
    unfold M_R_BitsCheck_b4
    by_cases hlt : i < l.length
    · rw [if_pos (by simp; omega), idx_nat, List.getElem?_eq_getElem hlt, List.drop_eq_getElem_cons hlt, List.all_cons]
      simp only [Option.bind_some]
      by_cases h0 : l[i] = 0
      · rw [h0, if_neg (by simp), iadd1_n (by omega), bitsCheck_l hm k (i + 1) (by omega) (by omega)]
        simp
      · rw [if_pos (by simpa using h0)]
        simp [h0]
    · rw [if_neg (by simp; omega), List.drop_eq_nil_of_le (by omega)]
      rfl
theorem all_low {b : List Int} (hb : U8s b) {m : Nat} (hlen : b.length = (m + 7) / 8) (hr : m % 8 ≠ 0) : ((bl b (8 * ((m + 7) / 8))).drop m).all (· == 0) = decide (b.getD (m / 8) 0 % 2 ^ (8 - m % 8) = 0) := by
  obtain ⟨q, hq⟩ : ∃ q, q = m / 8 := ⟨_, rfl⟩
  obtain ⟨r, hrr⟩ : ∃ r, r = m % 8 := ⟨_, rfl⟩
  have hm : m = 8 * q + r := by omega
  have hx : 0 ≤ b.getD q 0 ∧ b.getD q 0 < 256 := by
    have hlt : q < b.length := by omega
    have := hb b[q] (List.getElem_mem hlt)
    simpa [List.getD, hlt] using this
  have hc : (m + 7) / 8 = q + 1 := by omega
  obtain ⟨c0, c1, c2, c3, c4, c5, c6, c7⟩ := bitAt_8 b q
  have hall : ((bl b (8 * (q + 1))).drop m).all (· == 0) = true ↔ (∀ i, m ≤ i → i < 8 * q + 8 → bitAt b i = 0) := by
    rw [List.all_eq_true]
    constructor
    · intro h i h1 h2
      have hg : ((bl b (8 * (q + 1))).drop m)[i - m]? = some (bitAt b i) := by
        rw [List.getElem?_drop, show m + (i - m) = i from by omega]; exact bl_get (by omega)
      have := h _ (List.mem_of_getElem? hg)
      simpa using this
    · intro h x hx
      obtain ⟨j, hj⟩ := List.getElem?_of_mem hx
      rw [List.getElem?_drop] at hj
      have hjl : m + j < 8 * (q + 1) := by
        have := (List.getElem?_eq_some_iff.1 hj).1; rwa [bl_len] at this
      rw [bl_get hjl] at hj
      rw [← Option.some.inj hj, h _ (by omega) (by omega)]; rfl
  rw [hc, ← hq, ← hrr, Bool.eq_iff_iff, decide_eq_true_iff, hall]
  have hall2 : (∀ i, m ≤ i → i < 8 * q + 8 → bitAt b i = 0) ↔ (∀ j, r ≤ j → j < 8 → bitAt b (8 * q + j) = 0) := by
    constructor
    · intro h j h1 h2; exact h _ (by omega) (by omega)
    · intro h i h1 h2
      have := h (i - 8 * q) (by omega) (by omega)
      rwa [show 8 * q + (i - 8 * q) = i from by omega] at this
  rw [hall2]
  generalize b.getD q 0 = x at *
  have mk : ∀ j, j < 8 → (∀ j', r ≤ j' → j' < 8 → bitAt b (8 * q + j') = 0) → r ≤ j → bitAt b (8 * q + j) = 0 := fun j h1 h h2 => h j h2 h1
  constructor
  · intro h
    have g1 := mk 1 (by omega) h; have g2 := mk 2 (by omega) h; have g3 := mk 3 (by omega) h; have g4 := mk 4 (by omega) h
    have g5 := mk 5 (by omega) h; have g6 := mk 6 (by omega) h; have g7 := mk 7 (by omega) h
    rw [c1] at g1; rw [c2] at g2; rw [c3] at g3; rw [c4] at g4; rw [c5] at g5; rw [c6] at g6; rw [c7] at g7
    clear c0 c1 c2 c3 c4 c5 c6 c7 mk hall hall2 h
    rcases (by omega : r = 1 ∨ r = 2 ∨ r = 3 ∨ r = 4 ∨ r = 5 ∨ r = 6 ∨ r = 7) with h | h | h | h | h | h | h <;> subst h <;> simp only [Nat.reduceSub, Int.reducePow] <;> omega
  · intro h j h1 h2
    clear mk hall hall2
    rcases (by omega : r = 1 ∨ r = 2 ∨ r = 3 ∨ r = 4 ∨ r = 5 ∨ r = 6 ∨ r = 7) with hh | hh | hh | hh | hh | hh | hh <;> subst hh <;> simp only [Nat.reduceSub, Int.reducePow] at h <;>
      rcases (by omega : j = 1 ∨ j = 2 ∨ j = 3 ∨ j = 4 ∨ j = 5 ∨ j = 6 ∨ j = 7) with g | g | g | g | g | g | g <;> subst g <;> first | (exfalso; omega) | (rw [c1]; omega) | (rw [c2]; omega) | (rw [c3]; omega) | (rw [c4]; omega) | (rw [c5]; omega) | (rw [c6]; omega) | (rw [c7]; omega)
theorem bitsCheck_eq {F : Nat} (hF : 20000 ≤ F) {n : Int} {b : List Int} (hb : U8s b) : M_R_BitsCheck F n b = some (chkOf n b) := by
  unfold M_R_BitsCheck chkOf
  rw [between_eq]
  simp only [Option.bind_some]
  by_cases c1 : n < 0 ∨ 8192 < n
  · rw [if_pos (by simp; omega), if_pos c1]
  · rw [if_neg (by simp; omega), if_neg c1]
    obtain ⟨m, rfl⟩ := Int.eq_ofNat_of_zero_le (show 0 ≤ n by omega)
    have hj : ∀ c : Nat, c = (m + 7) / 8 → M_R_BitsCheck_j1 F (m : Int) b (c : Int) = some (if (b.length : Int) ≠ ((m : Int) + 7) / 8 then 1 else if (m : Int) % 8 ≠ 0 ∧ b.getD ((m : Int).toNat / 8) 0 % 2 ^ (8 - (m : Int).toNat % 8) ≠ 0 then 1 else 0) := by
      intro c hc
      unfold M_R_BitsCheck_j1
      by_cases c2 : b.length = c
      · rw [if_neg (by simp [c2]), if_neg (by omega)]
        rw [imul_i64 (by omega) (by omega), show (8 : Int) * (c : Int) = ((8 * c : Nat) : Int) from by omega, bitList_eq hF hb (by omega) (by omega)]
        simp only [Option.bind_some]
        rw [bitsCheck_l (by rw [bl_len]; omega) F m (by rw [bl_len]; omega) (by rw [bl_len]; omega), Int.toNat_natCast]
        by_cases hr : m % 8 = 0
        · rw [List.drop_eq_nil_of_le (by rw [bl_len]; omega), List.all_nil, if_pos rfl, if_neg (by omega)]
        · rw [hc, all_low hb (by omega) hr]
          by_cases hz : b.getD (m / 8) 0 % 2 ^ (8 - m % 8) = 0
          · rw [if_pos (decide_eq_true hz), if_neg (fun h => h.2 hz)]
          · rw [if_neg (by simp only [decide_eq_true_eq]; exact hz), if_pos ⟨by omega, hz⟩]
      · rw [if_pos (by rw [bne_iff_ne]; omega), if_pos (by omega)]
    rw [irem8, iquo8 (by omega)]
    by_cases h8 : 0 < m % 8
    · rw [if_pos (by simp; omega), iadd1_n (by omega)]
      exact hj _ (by omega)
    · rw [if_neg (by simp; omega)]
      exact hj _ (by omega)
theorem chk_form {n : Int} {b : List Int} (hb : U8s b) : chkOf n b ≠ 0 ∨ ∃ l : List Int, Bit l ∧ l.length ≤ 8192 ∧ n = (l.length : Int) ∧ b = pk l := by
  by_cases h : chkOf n b = 0
  · obtain ⟨m, rfl, ob⟩ := chkOf_ok h
    exact .inr ⟨bl b m, bl_bit _ _, by rw [bl_len]; exact ob.max, by rw [bl_len], (pk_bl hb ob).symm⟩
  · exact .inl h
theorem chk_pk {l : List Int} (hm : l.length ≤ 8192) : chkOf (l.length : Int) (pk l) = 0 := chkOf_of_ok (ok_pk hm)
theorem pk_len9 {l : List Int} (h : l.length ≤ 8192) : (pk l).length ≤ 9223372036854775807 := by rw [pk_len]; omega
theorem pk_small {l : List Int} (h : l.length ≤ 8192) : (pk l).length ≤ 2000 := by rw [pk_len]; omega
theorem pk_inj {l k : List Int} (hl : Bit l) (hk : Bit k) (h : l.length = k.length) (e : pk l = pk k) : l = k := by
  rw [← bl_pk hl, ← bl_pk hk, h, e]
theorem sameInts_l (F : Nat) (xs ys : List Int) : ∀ k, M_R_SameInts_l3 F xs ys k = M_R_SameBytes_l3 F xs ys k
  | 0 => rfl
  | k + 1 => by
    funext i
    show M_R_SameInts_b3 F xs ys (M_R_SameInts_l3 F xs ys k) i = M_R_SameBytes_b3 F xs ys (M_R_SameBytes_l3 F xs ys k) i
    rw [sameInts_l F xs ys k]; rfl
theorem sameInts_same (F : Nat) (xs ys : List Int) : M_R_SameInts F xs ys = M_R_SameBytes F xs ys := by
  unfold M_R_SameInts M_R_SameBytes; rw [sameInts_l]
theorem bit_rep (n : Nat) : Bit (List.replicate n 0) := by intro x hx; left; exact (List.mem_replicate.1 hx).2
theorem bit_one : Bit [1] := by intro x hx; right; simpa using hx
theorem add_pk {F : Nat} {n w : Nat} {l : List Int} (hn : n < 18446744073709551616) (hF : w < F) (hl : Bit l) (hm : l.length ≤ 8192) (hw : w ≤ 10000) :
    M_bits_Add F (l.length : Int) (pk l) (n : Int) (w : Int) = some (((l ++ nb n w).length : Int), pk (l ++ nb n w)) := by
  rw [add_eq hn hF (pk_u8 hl) (ok_pk hm) hw, bl_pk hl, List.length_append, nb_len]
theorem at_pk {F : Nat} {m : Int} {l : List Int} (hl : Bit l) (hm : l.length ≤ 90000) {i : Nat} (hi : i < l.length) : M_bits_At F m (pk l) (i : Int) = some l[i] := by
  rw [at_eq (pk_u8 hl) (by rw [pk_len]; omega) (by omega), bitAt_pk hl hi]
  simp [List.getD, hi]
/-- How many bits a number has. -/
def len (x : Nat) : Nat := if x = 0 then 0 else x.log2 + 1
theorem len_le {x k : Nat} : len x ≤ k ↔ x < 2 ^ k := by
  unfold len
  by_cases h : x = 0
  · rw [if_pos h, h]; simp [Nat.pow_pos]
  · rw [if_neg h]; exact Nat.log2_lt h
theorem nb_mod {n k w : Nat} (h : w ≤ k) : nb (n % 2 ^ k) w = nb n w := by
  induction w with
  | zero => rfl
  | succ w ih =>
    rw [nb, nb, ih (by omega)]
    congr 2
    have hp : 2 ^ k = 2 ^ w * 2 ^ (k - w) := by rw [← Nat.pow_add]; congr 1; omega
    rw [hp, Nat.mod_mul_right_div_self]
    have hp2 : 2 ^ (k - w) = 2 * 2 ^ (k - w - 1) := by rw [← Nat.pow_succ']; congr 1; omega
    rw [hp2, Nat.mod_mul_right_mod]
/-- The place of the one behind so many of a kind. -/
def plc (bit : Int) : List Int → Nat → Option Nat
  | [], _ => none
  | x :: l, i => if x = bit then (match i with | 0 => some 0 | i + 1 => (plc bit l i).map (· + 1)) else (plc bit l i).map (· + 1)
theorem plc_cons (bit x : Int) (l : List Int) (i : Nat) : plc bit (x :: l) i = if x = bit then (match i with | 0 => some 0 | i + 1 => (plc bit l i).map (· + 1)) else (plc bit l i).map (· + 1) := rfl
theorem place_l {F : Nat} {l : List Int} (hl : Bit l) (hm : l.length ≤ 10000) (bit : Int) : ∀ (k j i : Nat), l.length < k + j → j ≤ l.length → i < 9223372036854775808 →
    (∃ s, plc bit (l.drop j) i = none ∧ M_rank_places_1_l3 F (fun (x31 : Int) (x37 : Int) => M_rank_Place_r2 F x31 x37) (l.length : Int) (pk l) bit k ((j : Int), (i : Int)) = some (.inl s)) ∨
    (∃ a q, plc bit (l.drop j) i = some a ∧ M_rank_places_1_l3 F (fun (x31 : Int) (x37 : Int) => M_rank_Place_r2 F x31 x37) (l.length : Int) (pk l) bit k ((j : Int), (i : Int)) = some (.inr (((j + a : Nat) : Int), q)))
  | 0, _, _, _, _, _ => by omega
  | k + 1, j, i, h, hj, hi => by
    have e : M_rank_places_1_l3 F (fun (x31 : Int) (x37 : Int) => M_rank_Place_r2 F x31 x37) (l.length : Int) (pk l) bit (k + 1) ((j : Int), (i : Int)) =
      M_rank_places_1_b3 F (fun (x31 : Int) (x37 : Int) => M_rank_Place_r2 F x31 x37) (l.length : Int) (pk l) bit (M_rank_places_1_l3 F (fun (x31 : Int) (x37 : Int) => M_rank_Place_r2 F x31 x37) (l.length : Int) (pk l) bit k) (j : Int) (i : Int) := rfl
    rw [e]
    unfold M_rank_places_1_b3
    by_cases hlt : j < l.length
    · rw [if_pos (by simp; omega), at_pk hl (by omega) hlt, List.drop_eq_getElem_cons hlt, plc_cons]
      simp only [Option.bind_some]
      by_cases h1 : l[j] = bit
      · rw [if_pos h1, if_pos (by simpa using h1)]
        cases i with
        | zero =>
          right
          exact ⟨0, 0, rfl, rfl⟩
        | succ i =>
          have : M_rank_Place_r2 F ((i + 1 : Nat) : Int) (j : Int) = some (.inl (i : Int)) := by
            unfold M_rank_Place_r2
            rw [if_neg (by simp; omega), isub1_n (by omega) (by omega), Nat.add_sub_cancel]
          rw [this]
          simp only [Option.bind_some, Sum.elim_inl, M_rank_places_1_j4]
          rw [iadd1_n (by omega)]
          rcases place_l (F := F) hl hm bit k (j + 1) i (by omega) (by omega) (by omega) with ⟨s, h2, h3⟩ | ⟨a, q, h2, h3⟩
          · left; exact ⟨s, by rw [h2]; rfl, h3⟩
          · right; exact ⟨a + 1, q, by rw [h2]; rfl, by rw [h3, show j + 1 + a = j + (a + 1) from by omega]⟩
      · rw [if_neg h1, if_neg (by simpa using h1)]
        simp only [M_rank_places_1_j4]
        rw [iadd1_n (by omega)]
        rcases place_l (F := F) hl hm bit k (j + 1) i (by omega) (by omega) hi with ⟨s, h2, h3⟩ | ⟨a, q, h2, h3⟩
        · left; exact ⟨s, by rw [h2]; rfl, h3⟩
        · right; exact ⟨a + 1, q, by rw [h2]; rfl, by rw [h3, show j + 1 + a = j + (a + 1) from by omega]⟩
    · rw [if_neg (by simp; omega), List.drop_eq_nil_of_le (by omega)]
      left; exact ⟨_, rfl, rfl⟩
theorem place_eq {F : Nat} (hF : 20000 ≤ F) {l : List Int} (hl : Bit l) (hm : l.length ≤ 10000) {bit : Int} {i : Nat} (hi : i < 9223372036854775808) :
    M_rank_Place F (l.length : Int) (pk l) bit (i : Int) = some (match plc bit l i with | none => -1 | some a => (a : Int)) := by
  unfold M_rank_Place
  simp only [M_rank_places, Option.bind_some, M_rank_places_1]
  rcases place_l (F := F) hl hm bit F 0 i (by omega) (by omega) hi with ⟨s, h2, h3⟩ | ⟨a, q, h2, h3⟩
  · rw [List.drop_zero] at h2
    rw [show ((0 : Nat) : Int) = 0 from rfl] at h3
    rw [h3, h2]; rfl
  · rw [List.drop_zero] at h2
    rw [show ((0 : Nat) : Int) = 0 from rfl] at h3
    rw [h3, h2, Nat.zero_add]; rfl
theorem bit_nil' : Bit [] := by intro x hx; simp at hx
theorem ishl_i {n m : Nat} (hm : m ≤ 62) (h : n * 2 ^ m < 9223372036854775808) : ishl .i64 (n : Int) (m : Int) = ((n * 2 ^ m : Nat) : Int) := by
  unfold ishl
  have h1 : min ((m : Int).toNat) (IntKind.bits .i64) = m := by simp [IntKind.bits]; omega
  rw [h1]
  have e : (n : Int) * 2 ^ m = ((n * 2 ^ m : Nat) : Int) := by rw [Int.natCast_mul, Int.natCast_pow]; rfl
  rw [e]
  generalize n * 2 ^ m = q at h
  exact wrap_i64 (by omega) (by omega)
theorem ishr_i {n m : Nat} (hm : m ≤ 62) : ishr .i64 (n : Int) (m : Int) = ((n / 2 ^ m : Nat) : Int) := by
  rw [ishr_eq (by simp only [IntKind.bits]; omega)]
  norm_cast
theorem iand_i {n m : Nat} (hm : m ≤ 62) (hn : n < 9223372036854775808) : iand .i64 (n : Int) ((2 ^ m - 1 : Nat) : Int) = ((n % 2 ^ m : Nat) : Int) := by
  unfold iand
  have h1 : (BitVec.ofInt (IntKind.bits .i64) (n : Int)) = BitVec.ofNat 64 n := by simp [IntKind.bits]
  have h2 : (BitVec.ofInt (IntKind.bits .i64) ((2 ^ m - 1 : Nat) : Int)) = BitVec.ofNat 64 (2 ^ m - 1) := by simp [IntKind.bits]
  have h3 : 2 ^ m ≤ 2 ^ 62 := Nat.pow_le_pow_right (by decide) hm
  rw [show (2 : Nat) ^ 62 = 4611686018427387904 from by decide] at h3
  rw [h1, h2]
  have h4 : (BitVec.ofNat 64 n &&& BitVec.ofNat 64 (2 ^ m - 1)).toNat = n % 2 ^ m := by
    rw [BitVec.toNat_and, BitVec.toNat_ofNat, BitVec.toNat_ofNat, Nat.mod_eq_of_lt (a := n) (by omega), Nat.mod_eq_of_lt (a := 2 ^ m - 1) (by omega), Nat.and_two_pow_sub_one_eq_mod]
  show IntKind.wrap .i64 ((BitVec.ofNat 64 n &&& BitVec.ofNat 64 (2 ^ m - 1)).toNat : Int) = _
  rw [h4]
  have := Nat.mod_le n (2 ^ m)
  generalize n % 2 ^ m = q at this
  exact wrap_i64 (by omega) (by omega)
theorem imul_n {a b : Nat} (h : a * b < 9223372036854775808) : imul .i64 (a : Int) (b : Int) = ((a * b : Nat) : Int) := by
  unfold imul
  rw [← Int.natCast_mul]
  generalize a * b = q at h
  exact wrap_i64 (by omega) (by omega)
def wd (n t : Nat) : Nat := if n = 0 then 0 else len ((t + 1) / n) - 1
theorem wd_step {n t w : Nat} (hn : n ≠ 0) : n * 2 ^ (w + 1) ≤ t + 1 ↔ w < wd n t := by
  unfold wd
  rw [if_neg hn]
  have h1 := len_le (x := (t + 1) / n) (k := w + 1)
  have h2 := Nat.le_div_iff_mul_le (x := 2 ^ (w + 1)) (y := t + 1) (k := n) (by omega)
  rw [Nat.mul_comm] at h2
  omega
theorem wd_20 {n t : Nat} (ht : t ≤ 1048576) : wd n t ≤ 20 := by
  unfold wd
  split
  · omega
  · have h1 : (t + 1) / n ≤ t + 1 := Nat.div_le_self _ _
    have h2 : len ((t + 1) / n) ≤ 21 := len_le.2 (by omega)
    omega
theorem width_l {F n t : Nat} (hn : n ≤ 300) (ht : t ≤ 1048576) : ∀ (k w : Nat), wd n t < k + w → w ≤ wd n t →
    M_fano_width_l13 F (n : Int) (t : Int) k (w : Int) = some ((wd n t : Nat) : Int)
  | 0, _, _, _ => by omega
  | k + 1, w, h, hw => by
    show M_fano_width_b13 F (n : Int) (t : Int) (M_fano_width_l13 F (n : Int) (t : Int) k) (w : Int) = _
    unfold M_fano_width_b13
    have h20 := wd_20 (n := n) ht
    by_cases h0 : n = 0
    · subst h0
      have : wd 0 t = 0 := rfl
      rw [if_neg (by simp)]
      unfold M_fano_width_j15
      rw [if_neg (by simp)]
      obtain rfl : w = 0 := by omega
      rw [this]; rfl
    · have hp : 2 ^ (w + 1) ≤ 2 ^ 21 := Nat.pow_le_pow_right (by decide) (by omega)
      have hm : n * 2 ^ (w + 1) ≤ 300 * 2 ^ 21 := Nat.mul_le_mul hn hp
      rw [show (300 : Nat) * 2 ^ 21 = 629145600 from by decide] at hm
      have hc : decide ((0 : Int) ≤ ((w + 1 : Nat) : Int)) = true := decide_eq_true (by omega)
      rw [if_pos (by simp; omega), iadd1_n (by omega), hc]
      simp only [chk, if_true]
      rw [ishl_i (by omega) (by omega), iadd1_n (by omega)]
      unfold M_fano_width_j15
      have hs := wd_step (n := n) (t := t) (w := w) h0
      by_cases hlt : w < wd n t
      · rw [if_pos (by simp only [decide_eq_true_eq]; have := hs.2 hlt; omega), iadd1_n (by omega)]
        exact width_l hn ht k (w + 1) (by omega) (by omega)
      · rw [if_neg (by simp only [decide_eq_true_eq]; intro hh; exact hlt (hs.1 (by omega)))]
        obtain rfl : w = wd n t := by omega
        rfl
theorem width_eq {F n t : Nat} (hF : 20000 ≤ F) (hn : n ≤ 300) (ht : t ≤ 1048576) : M_fano_width F (n : Int) (t : Int) = some ((wd n t : Nat) : Int) := by
  unfold M_fano_width
  have := wd_20 (n := n) ht
  exact width_l hn ht F 0 (by omega) (by omega)
theorem fwidth_l {F n t : Nat} (hn : n ≤ 300) (h0 : n ≠ 0) (ht : t ≤ 1048576) : ∀ (k w : Nat), wd n t < k + w → w ≤ wd n t →
    M_R_FanoWidth_l3 F (n : Int) (t : Int) k ((w : Int), ((2 ^ (w + 1) : Nat) : Int)) = some ((wd n t : Nat) : Int)
  | 0, _, _, _ => by omega
  | k + 1, w, h, hw => by
    show M_R_FanoWidth_b3 F (n : Int) (t : Int) (M_R_FanoWidth_l3 F (n : Int) (t : Int) k) (w : Int) ((2 ^ (w + 1) : Nat) : Int) = _
    unfold M_R_FanoWidth_b3
    have h20 := wd_20 (n := n) ht
    have hp : 2 ^ (w + 1) ≤ 2 ^ 21 := Nat.pow_le_pow_right (by decide) (by omega)
    have hm : n * 2 ^ (w + 1) ≤ 300 * 2 ^ 21 := Nat.mul_le_mul hn hp
    rw [show (300 : Nat) * 2 ^ 21 = 629145600 from by decide] at hm
    rw [show (2 : Nat) ^ 21 = 2097152 from by decide] at hp
    rw [imul_n (by omega), iadd1_n (by omega)]
    have hs := wd_step (n := n) (t := t) (w := w) h0
    by_cases hlt : w < wd n t
    · have e : 2 * 2 ^ (w + 1) = 2 ^ (w + 1 + 1) := by rw [Nat.pow_succ 2 (w + 1)]; omega
      rw [if_pos (by simp only [decide_eq_true_eq]; have := hs.2 hlt; omega), iadd1_n (by omega), imul2_n (by omega), e]
      exact fwidth_l hn h0 ht k (w + 1) (by omega) (by omega)
    · rw [if_neg (by simp only [decide_eq_true_eq]; intro hh; exact hlt (hs.1 (by omega)))]
      obtain rfl : w = wd n t := by omega
      rfl
theorem fwidth_eq {F n t : Nat} (hF : 20000 ≤ F) (hn : n ≤ 300) (ht : t ≤ 1048576) : M_R_FanoWidth F (n : Int) (t : Int) = some ((wd n t : Nat) : Int) := by
  unfold M_R_FanoWidth
  have h20 := wd_20 (n := n) ht
  by_cases h0 : n = 0
  · subst h0; rw [if_pos (by simp)]; rfl
  · rw [if_neg (by simp; omega)]
    have := fwidth_l (F := F) hn h0 ht F 0 (by omega) (by omega)
    rw [Nat.zero_add, Nat.pow_one] at this
    exact this
def fk (t : Int) : Int → List Int → Int
  | _, [] => 0
  | last, n :: l => if 0 ≤ n ∧ n ≤ t then (if n < last then 4 else fk t n l) else 3
def fkc (l : List Int) (t : Int) : Int := if 0 ≤ t ∧ t ≤ 1048576 then (if 300 < l.length then 2 else fk t 0 l) else 3
theorem fcheck_l {F : Nat} {t : Int} {l : List Int} (hm : l.length ≤ 300) : ∀ (k i : Nat) (last : Int), l.length < k + i → i ≤ l.length →
    M_fano_check_l3 F l t k (last, (i : Int)) = some (fk t last (l.drop i))
  | 0, _, _, _, _ => by omega
  | k + 1, i, last, h, hi => by
    show M_fano_check_b3 F l t (M_fano_check_l3 F l t k) last (i : Int) = _
    unfold M_fano_check_b3
    by_cases hlt : i < l.length
    · rw [if_pos (by simp; omega), idx_nat, List.getElem?_eq_getElem hlt, List.drop_eq_getElem_cons hlt, fk]
      simp only [Option.bind_some]
      by_cases h1 : 0 ≤ l[i] ∧ l[i] ≤ t
      · rw [if_pos h1, if_neg (by simp; omega)]
        by_cases h2 : l[i] < last
        · rw [if_pos h2, if_pos (by simpa using h2)]
        · rw [if_neg h2, if_neg (by simpa using h2), iadd1_n (by omega)]
          exact fcheck_l hm k (i + 1) _ (by omega) (by omega)
      · rw [if_neg h1, if_pos (by simp; omega)]
    · rw [if_neg (by simp; omega), List.drop_eq_nil_of_le (by omega)]
      rfl
theorem fcheck_eq {F : Nat} (hF : 20000 ≤ F) {l : List Int} {t : Int} : M_fano_check F l t = some (fkc l t) := by
  unfold M_fano_check fkc
  by_cases h1 : 0 ≤ t ∧ t ≤ 1048576
  · rw [if_pos h1, if_neg (by simp; omega)]
    by_cases h : 300 < l.length
    · rw [if_pos h, if_pos (by simp; omega)]
    · rw [if_neg h, if_neg (by simp; omega)]
      exact fcheck_l (by omega) F 0 0 (by omega) (by omega)
  · rw [if_neg h1, if_pos (by simp; omega)]
theorem ferr_l {F : Nat} {t : Int} {l : List Int} (hm : l.length ≤ 300) : ∀ (k i : Nat) (last : Int), l.length < k + i → i ≤ l.length → (i = 0 ∧ last = 0 ∨ 0 < i ∧ l[i - 1]? = some last) →
    M_R_FanoErr_l13 F l t k (i : Int) = some (fk t last (l.drop i))
  | 0, _, _, _, _, _ => by omega
  | k + 1, i, last, h, hi, hlast => by
    show M_R_FanoErr_b13 F l t (M_R_FanoErr_l13 F l t k) (i : Int) = _
    unfold M_R_FanoErr_b13
    by_cases hlt : i < l.length
    · rw [if_pos (by simp; omega), idx_nat, List.getElem?_eq_getElem hlt, List.drop_eq_getElem_cons hlt, fk]
      simp only [Option.bind_some]
      rw [between_eq]
      simp only [Option.bind_some]
      by_cases h1 : 0 ≤ l[i] ∧ l[i] ≤ t
      · rw [decide_eq_true h1, if_pos h1, if_neg (by simp)]
        have hrec : M_R_FanoErr_l13 F l t k ((i + 1 : Nat) : Int) = some (fk t l[i] (l.drop (i + 1))) :=
          ferr_l hm k (i + 1) _ (by omega) (by omega) (.inr ⟨by omega, by rw [Nat.add_sub_cancel, List.getElem?_eq_getElem hlt]⟩)
        rcases hlast with ⟨rfl, rfl⟩ | ⟨h0, hl⟩
        · rw [if_neg (by simp)]
          unfold M_R_FanoErr_j15
          rw [if_neg (by simp), if_neg (show ¬ l[0] < 0 by omega), iadd1_n (by omega)]
          exact hrec
        · rw [if_pos (by simp; omega), isub1_n (by omega) (by omega), idx_nat, hl]
          simp only [Option.bind_some, M_R_FanoErr_j15]
          by_cases h2 : l[i] < last
          · rw [if_pos h2, if_pos (by simpa using h2)]
          · rw [if_neg h2, if_neg (by simpa using h2), iadd1_n (by omega)]
            exact hrec
      · rw [decide_eq_false h1, if_neg h1, if_pos (by simp)]
    · rw [if_neg (by simp; omega), List.drop_eq_nil_of_le (by omega)]
      rfl
theorem ferr_eq {F : Nat} (hF : 20000 ≤ F) {l : List Int} {t : Int} : M_R_FanoErr F l t = some (fkc l t) := by
  unfold M_R_FanoErr fkc
  rw [between_eq]
  simp only [Option.bind_some]
  by_cases h1 : 0 ≤ t ∧ t ≤ 1048576
  · rw [if_pos h1, decide_eq_true h1, if_neg (by simp)]
    by_cases h : 300 < l.length
    · rw [if_pos h, if_pos (by simp; omega)]
    · rw [if_neg h, if_neg (by simp; omega)]
      exact ferr_l (by omega) F 0 0 (by omega) (by omega) (.inl ⟨rfl, rfl⟩)
  · rw [if_neg h1, decide_eq_false h1, if_pos (by simp)]
/-- Numbers that do not fall, none above a top. -/
def Up (t : Nat) : Nat → List Nat → Prop
  | _, [] => True
  | last, n :: l => last ≤ n ∧ n ≤ t ∧ Up t n l
def lc (l : List Nat) : List Int := l.map fun x : Nat => (x : Int)
theorem lc_len (l : List Nat) : (lc l).length = l.length := by simp [lc]
theorem fk_up {t : Nat} : ∀ {l : List Int} {last : Nat}, fk (t : Int) (last : Int) l = 0 ↔ ∃ ns, l = lc ns ∧ Up t last ns
  | [], last => by
    constructor
    · intro _; exact ⟨[], rfl, trivial⟩
    · intro _; rfl
  | n :: l, last => by
    unfold fk
    by_cases h1 : 0 ≤ n ∧ n ≤ (t : Int)
    · rw [if_pos h1]
      obtain ⟨n, rfl⟩ := Int.eq_ofNat_of_zero_le h1.1
      by_cases h2 : (n : Int) < (last : Int)
      · rw [if_pos h2]
        constructor
        · intro h; simp at h
        · rintro ⟨ns, e, hu⟩
          cases ns with
          | nil => simp [lc] at e
          | cons m ns => simp [lc] at e; have := hu.1; omega
      · rw [if_neg h2, fk_up]
        constructor
        · rintro ⟨ns, rfl, hu⟩; exact ⟨n :: ns, rfl, by omega, by omega, hu⟩
        · rintro ⟨ns, e, hu⟩
          cases ns with
          | nil => simp [lc] at e
          | cons m ns =>
            simp [lc] at e
            obtain ⟨e1, rfl⟩ := e
            obtain rfl : n = m := by omega
            exact ⟨ns, rfl, hu.2.2⟩
    · rw [if_neg h1]
      constructor
      · intro h; simp at h
      · rintro ⟨ns, e, hu⟩
        cases ns with
        | nil => simp [lc] at e
        | cons m ns =>
          simp [lc] at e
          have := hu.2.1
          exact absurd ⟨by omega, by omega⟩ h1
theorem fkc_ok {l : List Int} {t : Int} : fkc l t = 0 ↔ ∃ (ns : List Nat) (k : Nat), t = k ∧ k ≤ 1048576 ∧ l = lc ns ∧ ns.length ≤ 300 ∧ Up k 0 ns := by
  unfold fkc
  by_cases h1 : 0 ≤ t ∧ t ≤ 1048576
  · rw [if_pos h1]
    obtain ⟨t, rfl⟩ := Int.eq_ofNat_of_zero_le h1.1
    by_cases h : 300 < l.length
    · rw [if_pos h]
      constructor
      · intro h; simp at h
      · rintro ⟨ns, k, _, _, rfl, h3, _⟩; rw [lc_len] at h; omega
    · rw [if_neg h]
      have := fk_up (t := t) (l := l) (last := 0)
      rw [show ((0 : Nat) : Int) = 0 from rfl] at this
      rw [this]
      constructor
      · rintro ⟨ns, rfl, hu⟩; exact ⟨ns, t, rfl, by omega, rfl, by rw [lc_len] at h; omega, hu⟩
      · rintro ⟨ns, k, e, _, rfl, _, hu⟩
        obtain rfl : t = k := by omega
        exact ⟨ns, rfl, hu⟩
  · rw [if_neg h1]
    constructor
    · intro h; simp at h
    · rintro ⟨ns, k, rfl, h2, _⟩; exact absurd ⟨by omega, by omega⟩ h1
theorem up_le {t : Nat} : ∀ {l : List Nat} {a : Nat}, Up t a l → ∀ x ∈ l, a ≤ x ∧ x ≤ t
  | [], _, _ => by intro x hx; simp at hx
  | n :: l, a, h => by
    intro x hx
    rcases List.mem_cons.1 hx with rfl | hx
    · exact ⟨h.1, h.2.1⟩
    · have := up_le h.2.2 x hx; have := h.1; omega
def lo' (w : Nat) (l : List Nat) : List Int := l.flatMap fun x => nb x w
theorem lo'_cons (w x : Nat) (l : List Nat) : lo' w (x :: l) = nb x w ++ lo' w l := rfl
theorem lo'_app (w : Nat) (l k : List Nat) : lo' w (l ++ k) = lo' w l ++ lo' w k := by unfold lo'; rw [List.flatMap_append]
theorem lo'_len (w : Nat) : ∀ l : List Nat, (lo' w l).length = l.length * w
  | [] => by simp [lo']
  | x :: l => by rw [lo'_cons, List.length_append, nb_len, lo'_len w l, List.length_cons, Nat.add_mul, Nat.one_mul, Nat.add_comm]
theorem lo'_bit (w : Nat) : ∀ l : List Nat, Bit (lo' w l)
  | [] => by intro x hx; simp [lo'] at hx
  | x :: l => by rw [lo'_cons]; exact bit_app (nb_bit _ _) (lo'_bit w l)
def hp (w last : Nat) : Nat → List Nat → List Int
  | a, [] => List.replicate (last - a) 0
  | a, x :: l => List.replicate (x / 2 ^ w - a) 0 ++ (1 :: hp w last (x / 2 ^ w) l)
theorem hp_bit (w last : Nat) : ∀ (a : Nat) (l : List Nat), Bit (hp w last a l)
  | a, [] => bit_rep _
  | a, x :: l => by
    rw [hp]
    exact bit_app (bit_rep _) (by
      intro y hy
      rcases List.mem_cons.1 hy with rfl | hy
      · right; rfl
      · exact hp_bit w last _ l y hy)
theorem hp_len {w t : Nat} : ∀ {a : Nat} {l : List Nat}, Up t a l → (hp w (t / 2 ^ w + 1) (a / 2 ^ w) l).length = l.length + (t / 2 ^ w + 1 - a / 2 ^ w)
  | a, [], _ => by simp [hp]
  | a, x :: l, h => by
    have h1 : a / 2 ^ w ≤ x / 2 ^ w := Nat.div_le_div_right h.1
    have h2 : x / 2 ^ w ≤ t / 2 ^ w := Nat.div_le_div_right h.2.1
    have := hp_len (w := w) h.2.2
    rw [hp, List.length_append, List.length_replicate, List.length_cons, List.length_cons, this]
    omega
/-- What is written: the low part, and the high one. -/
def loF (t : Nat) (l : List Nat) : List Int := lo' (wd l.length t) l
def hiF (t : Nat) (l : List Nat) : List Int := hp (wd l.length t) (t / 2 ^ wd l.length t + 1) 0 l
theorem loF_len (t : Nat) (l : List Nat) : (loF t l).length = l.length * wd l.length t := lo'_len _ _
theorem hiF_len {t : Nat} {l : List Nat} (h : Up t 0 l) : (hiF t l).length = l.length + (t / 2 ^ wd l.length t + 1) := by
  have := hp_len (w := wd l.length t) h
  rw [Nat.zero_div, Nat.sub_zero] at this
  exact this
def Fits (t : Nat) (l : List Nat) : Prop := l.length * wd l.length t ≤ 8192 ∧ l.length + (t / 2 ^ wd l.length t + 1) ≤ 8192
instance fitsDec (t : Nat) (l : List Nat) : Decidable (Fits t l) := inferInstanceAs (Decidable (_ ∧ _))
theorem rise_l {F : Nat} (hF : 20000 ≤ F) {to : Nat} (hto : to ≤ 10000) : ∀ (k a : Nat) (l : List Int), to < k + a → a ≤ to → Bit l → l.length + (to - a) ≤ 8192 →
    M_fano_writer_rise_l1 F (to : Int) k ((l.length : Int), pk l, (a : Int)) = some (((l ++ List.replicate (to - a) 0).length : Int), pk (l ++ List.replicate (to - a) 0), (to : Int))
  | 0, _, _, _, _, _, _ => by omega
  | k + 1, a, l, h, ha, hl, hm => by
    show M_fano_writer_rise_b1 F (to : Int) (M_fano_writer_rise_l1 F (to : Int) k) (l.length : Int) (pk l) (a : Int) = _
    unfold M_fano_writer_rise_b1
    by_cases hlt : a < to
    · have hadd := add_pk (F := F) (n := 0) (w := 1) (l := l) (by decide) (by omega) hl (by omega) (by decide)
      rw [show ((0 : Nat) : Int) = 0 from rfl, show ((1 : Nat) : Int) = 1 from rfl, show nb 0 1 = [0] from rfl] at hadd
      rw [if_pos (by simp; omega), hadd]
      simp only [Option.bind_some]
      rw [iadd1_n (by omega), rise_l hF hto k (a + 1) (l ++ [0]) (by omega) (by omega) (bit_app hl (bit_rep 1)) (by rw [List.length_append]; simp; omega)]
      have e : l ++ [0] ++ List.replicate (to - (a + 1)) 0 = l ++ List.replicate (to - a) 0 := by
        rw [List.append_assoc, show to - a = (to - (a + 1)) + 1 from by omega, List.replicate_succ]; rfl
      rw [e]
    · rw [if_neg (by simp; omega), show to - a = 0 from by omega]
      obtain rfl : a = to := by omega
      simp
theorem rise_eq {F : Nat} (hF : 20000 ≤ F) {to a : Nat} {l : List Int} (ha : a ≤ to) (hto : to ≤ 10000) (hl : Bit l) (hm : l.length + (to - a) ≤ 8192) :
    M_fano_writer_rise F (l.length : Int) (pk l) (a : Int) (to : Int) = some (((l ++ List.replicate (to - a) 0).length : Int), pk (l ++ List.replicate (to - a) 0), (to : Int)) := by
  unfold M_fano_writer_rise
  exact rise_l hF hto F a l (by omega) ha hl hm
def T8 (t : Nat) (l : List Nat) (e : Bool) : Int × Int × Int × Int × List Int × Int × List Int × Bool :=
  ((l.length : Int), (t : Int), (wd l.length t : Int), ((loF t l).length : Int), pk (loF t l), ((hiF t l).length : Int), pk (hiF t l), e)
theorem raw_l {F w t : Nat} (hF : 20000 ≤ F) (hw : w ≤ 20) (ht : t ≤ 1048576) {l : List Nat} (hlm : l.length ≤ 300) (f1 : l.length * w ≤ 8192) (f2 : l.length + (t / 2 ^ w + 1) ≤ 8192) : ∀ (k i : Nat) (q : Nat) (L H : List Int), l.length < k + i → i ≤ l.length → Up t q (l.drop i) → Bit L → Bit H → L.length + (l.length - i) * w ≤ 8192 → H.length + (l.length - i) + (t / 2 ^ w + 1 - q / 2 ^ w) ≤ 8192 → q ≤ t →
    M_fano_Raw_l3 F (lc l) (t : Int) (w : Int) k ((i : Int), (H.length : Int), pk H, ((q / 2 ^ w : Nat) : Int), (L.length : Int), pk L) =
      some ((l.length : Int), (t : Int), (w : Int), ((L ++ lo' w (l.drop i)).length : Int), pk (L ++ lo' w (l.drop i)), ((H ++ hp w (t / 2 ^ w + 1) (q / 2 ^ w) (l.drop i)).length : Int), pk (H ++ hp w (t / 2 ^ w + 1) (q / 2 ^ w) (l.drop i)), true)
  | 0, _, _, _, _, _, _, _, _, _, _, _, _ => by omega
  | k + 1, i, q, L, H, h, hi, hu, hL, hH, hLm, hHm, hq => by
    show M_fano_Raw_b3 F (lc l) (t : Int) (w : Int) (M_fano_Raw_l3 F (lc l) (t : Int) (w : Int) k) (i : Int) (H.length : Int) (pk H) ((q / 2 ^ w : Nat) : Int) (L.length : Int) (pk L) = _
    unfold M_fano_Raw_b3
    have hqt : q / 2 ^ w ≤ t / 2 ^ w := Nat.div_le_div_right hq
    by_cases hlt : i < l.length
    · rw [List.drop_eq_getElem_cons hlt] at hu ⊢
      have hx1 := hu.1; have hx2 := hu.2.1; have hx3 := hu.2.2
      have hg : (lc l)[i]? = some ((l[i] : Nat) : Int) := by simp [lc, hlt]
      have hc : decide ((0 : Int) ≤ (w : Int)) = true := decide_eq_true (by omega)
      have hp20 : 2 ^ w ≤ 2 ^ 20 := Nat.pow_le_pow_right (by decide) hw
      rw [show (2 : Nat) ^ 20 = 1048576 from by decide] at hp20
      have hp0 : 0 < 2 ^ w := Nat.pow_pos (by decide)
      have e1 : ishl .i64 1 (w : Int) = ((2 ^ w : Nat) : Int) := by
        have := ishl_i (n := 1) (m := w) (by omega) (by rw [Nat.one_mul]; omega)
        rwa [Nat.one_mul] at this
      have hd1 : q / 2 ^ w ≤ l[i] / 2 ^ w := Nat.div_le_div_right hx1
      have hd2 : l[i] / 2 ^ w ≤ t / 2 ^ w := Nat.div_le_div_right hx2
      have hsplit : (l.length - i) * w = w + (l.length - (i + 1)) * w := by
        rw [show l.length - i = (l.length - (i + 1)) + 1 from by omega, Nat.add_mul, Nat.one_mul, Nat.add_comm]
      rw [lc_len, if_pos (by simp; omega), idx_nat, hg]
      simp only [Option.bind_some]
      rw [hc]
      simp only [chk, if_true]
      have hmod : l[i] % 2 ^ w < 18446744073709551616 := by have := Nat.mod_le l[i] (2 ^ w); omega
      rw [e1, isub1_n (by omega) (by omega), iand_i (by omega) (by omega), iconv_u64_n hmod, add_pk hmod (by omega) hL (by omega) (by omega), nb_mod (Nat.le_refl _)]
      simp only [Option.bind_some]
      rw [ishr_i (by omega), rise_eq hF hd1 (by omega) hH (by omega)]
      simp only [Option.bind_some]
      have hadd := add_pk (F := F) (n := 1) (w := 1) (l := H ++ List.replicate (l[i] / 2 ^ w - q / 2 ^ w) 0) (by decide) (by omega) (bit_app hH (bit_rep _)) (by rw [List.length_append, List.length_replicate]; omega) (by decide)
      rw [show ((1 : Nat) : Int) = 1 from rfl, show nb 1 1 = [1] from rfl] at hadd
      rw [hadd]
      simp only [Option.bind_some]
      rw [iadd1_n (by omega)]
      rw [raw_l hF hw ht hlm f1 f2 k (i + 1) l[i] (L ++ nb l[i] w) (H ++ List.replicate (l[i] / 2 ^ w - q / 2 ^ w) 0 ++ [1]) (by omega) (by omega) hx3 (bit_app hL (nb_bit _ _)) (bit_app (bit_app hH (bit_rep _)) bit_one) (by rw [List.length_append, nb_len]; omega) (by rw [List.length_append, List.length_append, List.length_replicate]; simp; omega) hx2]
      rw [hp, lo'_cons]
      simp [List.append_assoc]
    · rw [lc_len, if_neg (by simp; omega), List.drop_eq_nil_of_le (by omega)]
      unfold M_fano_Raw_j2
      rw [ishr_i (by omega), iadd1_n (by omega), rise_eq hF (by omega) (by omega) hH (by omega)]
      simp [lo', hp, lc_len]
theorem fraw_eq {F t : Nat} (hF : 20000 ≤ F) (ht : t ≤ 1048576) {l : List Nat} (hlm : l.length ≤ 300) (hu : Up t 0 l) :
    M_fano_Raw F (lc l) (t : Int) = some (if Fits t l then T8 t l true else (0, 0, 0, 0, [], 0, [], false)) := by
  unfold M_fano_Raw
  have hw := wd_20 (n := l.length) ht
  have hc : decide ((0 : Int) ≤ ((wd l.length t : Nat) : Int)) = true := decide_eq_true (by omega)
  have hdt : t / 2 ^ wd l.length t ≤ t := Nat.div_le_self _ _
  have hmul : l.length * wd l.length t ≤ 300 * 20 := Nat.mul_le_mul hlm hw
  rw [lc_len, width_eq hF hlm ht]
  simp only [Option.bind_some]
  rw [hc]
  simp only [chk, if_true]
  rw [imul_n (by omega), ishr_i (by omega), iadd1_n (by omega), iadd_n (by omega)]
  by_cases hf : Fits t l
  · rw [if_neg (by have h1 := hf.1; have h2 := hf.2; simp only [Bool.or_eq_true, decide_eq_true_eq]; omega), if_pos hf]
    have := raw_l (F := F) hF hw ht hlm hf.1 hf.2 F 0 0 [] [] (by omega) (by omega) (by rw [List.drop_zero]; exact hu) bit_nil' bit_nil' (by simp; exact hf.1) (by simp; exact hf.2) (by omega)
    rw [List.drop_zero, List.nil_append, List.nil_append, Nat.zero_div] at this
    exact this
  · rw [if_pos (by unfold Fits at hf; simp only [Bool.or_eq_true, decide_eq_true_eq]; omega), if_neg hf]
theorem read_pk {F a w : Nat} {l : List Int} (hF : 100 ≤ F) (hl : Bit l) (hm : l.length ≤ 8192) (ha : a ≤ l.length) (hw : w ≤ 64) :
    M_bits_Read F (l.length : Int) (pk l) (a : Int) (w : Int) = some (if a + w ≤ l.length then (((bv ((l.drop a).take w) : Nat) : Int), true) else (0, false)) := by
  have := read_eq hF (pk_u8 hl) (ok_pk hm) ha hw
  rwa [bl_pk hl] at this
theorem same_ints {F : Nat} {xs ys : List Int} (hF : ys.length < F) (hm : ys.length ≤ 9223372036854775807) : M_R_SameInts F xs ys = some (decide (xs = ys)) := by
  rw [sameInts_same]
  by_cases h : xs.length = ys.length
  · rw [sameBytes_eq (by omega) (by omega)]
  · unfold M_R_SameBytes
    rw [if_pos (by rw [bne_iff_ne]; omega), decide_eq_false (fun e => h (by rw [e]))]
def nl (l : List Int) : List Nat := l.map Int.toNat
theorem nl_lc (l : List Nat) : nl (lc l) = l := by
  induction l with
  | nil => rfl
  | cons x l ih => simp only [nl, lc, List.map_cons, Int.toNat_natCast] at ih ⊢; rw [ih]
abbrev F8 := Int × Int × Int × Int × List Int × Int × List Int × Int
def fz8 (e : Int) : F8 := (0, 0, 0, 0, [], 0, [], e)
def fo8 (t : Nat) (l : List Nat) : F8 := ((l.length : Int), (t : Int), (wd l.length t : Int), ((loF t l).length : Int), pk (loF t l), ((hiF t l).length : Int), pk (hiF t l), 0)
def fw (l : List Int) (t : Int) : F8 := if fkc l t ≠ 0 then fz8 (fkc l t) else if Fits t.toNat (nl l) then fo8 t.toNat (nl l) else fz8 8
theorem fw_bad {l : List Int} {t : Int} (h : fkc l t ≠ 0) : fw l t = fz8 (fkc l t) := by unfold fw; rw [if_pos h]
theorem fw_form {l : List Nat} {t : Nat} (ht : t ≤ 1048576) (hlm : l.length ≤ 300) (hu : Up t 0 l) : fkc (lc l) (t : Int) = 0 ∧ fw (lc l) (t : Int) = if Fits t l then fo8 t l else fz8 8 := by
  have h : fkc (lc l) (t : Int) = 0 := fkc_ok.2 ⟨l, t, rfl, ht, rfl, hlm, hu⟩
  refine ⟨h, ?_⟩
  unfold fw
  rw [h, if_neg (by simp), Int.toNat_natCast, nl_lc]
theorem fwrite_eq {F : Nat} (hF : 20000 ≤ F) {l : List Int} {t : Int} : M_fano_Write F l t = some (fw l t) := by
  unfold M_fano_Write
  rw [fcheck_eq hF]
  simp only [Option.bind_some]
  by_cases h : fkc l t = 0
  · obtain ⟨ns, k, rfl, hk, rfl, hm, hu⟩ := fkc_ok.1 h
    rw [(fw_form hk hm hu).2, h, if_neg (by simp), fraw_eq hF hk hm hu]
    simp only [Option.bind_some]
    by_cases hf : Fits k ns
    · rw [if_pos hf, if_pos hf]; rfl
    · rw [if_neg hf, if_neg hf]; rfl
  · rw [if_pos (by simpa using h), fw_bad h]; rfl
theorem plc_rep (k : Nat) (r : List Int) (i : Nat) : plc 1 (List.replicate k 0 ++ r) i = (plc 1 r i).map (· + k) := by
  induction k with
  | zero => simp
  | succ k ih =>
    rw [List.replicate_succ, List.cons_append, plc_cons, if_neg (by decide), ih, Option.map_map]
    congr 1
theorem plc_hp {w last : Nat} : ∀ {l : List Nat} {a i : Nat}, (∀ x ∈ l, a ≤ x / 2 ^ w) → (∀ j x, l[j]? = some x → ∀ y ∈ l.drop (j + 1), x / 2 ^ w ≤ y / 2 ^ w) →
    plc 1 (hp w last a l) i = (l[i]?).map fun x => x / 2 ^ w - a + i
  | [], a, i, _, _ => by
    have := plc_rep (last - a) [] i
    rw [List.append_nil] at this
    rw [hp, this]; rfl
  | x :: l, a, i, h, hs => by
    have hx := h x List.mem_cons_self
    rw [hp, plc_rep, plc_cons, if_pos rfl]
    cases i with
    | zero => simp
    | succ i =>
      simp only
      have h0 := hs 0 x rfl
      rw [List.drop_succ_cons, List.drop_zero] at h0
      rw [plc_hp (a := x / 2 ^ w) h0 (fun j y hj => by
        have := hs (j + 1) y (by simpa using hj)
        rwa [List.drop_succ_cons] at this)]
      simp only [List.getElem?_cons_succ, Option.map_map]
      cases hl : l[i]? with
      | none => rfl
      | some y =>
        have := h0 y (List.mem_of_getElem? hl)
        simp only [Option.map_some, Function.comp]
        congr 1
        omega
theorem up_mono {t w : Nat} : ∀ {l : List Nat} {a : Nat}, Up t a l → ∀ j x, l[j]? = some x → ∀ y ∈ l.drop (j + 1), x / 2 ^ w ≤ y / 2 ^ w
  | [], _, _, j, x, h => by simp at h
  | n :: l, a, h, 0, x, hx => by
    simp at hx; subst hx
    intro y hy
    rw [List.drop_succ_cons, List.drop_zero] at hy
    exact Nat.div_le_div_right (up_le h.2.2 y hy).1
  | n :: l, a, h, j + 1, x, hx => by
    intro y hy
    rw [List.drop_succ_cons] at hy
    exact up_mono h.2.2 j x (by simpa using hx) y hy
theorem plc_hiF {t : Nat} {l : List Nat} (h : Up t 0 l) (i : Nat) : plc 1 (hiF t l) i = (l[i]?).map fun x => x / 2 ^ wd l.length t + i := by
  unfold hiF
  rw [plc_hp (fun x _ => Nat.zero_le _) (up_mono h)]
  simp
theorem lo_get {w : Nat} : ∀ {l : List Nat} {i x : Nat}, l[i]? = some x → ((lo' w l).drop (i * w)).take w = nb x w
  | [], i, x, h => by simp at h
  | y :: l, 0, x, h => by
    simp at h; subst h
    rw [Nat.zero_mul, List.drop_zero, lo'_cons, List.take_left' (nb_len _ _)]
  | y :: l, i + 1, x, h => by
    rw [lo'_cons, Nat.add_mul, Nat.one_mul, Nat.add_comm, ← List.drop_drop, List.drop_left' (nb_len _ _)]
    exact lo_get (by simpa using h)
theorem ior_i {a b m : Nat} (ha : a < 2 ^ m) (hb : b % 2 ^ m = 0) (h : a + b < 9223372036854775808) : ior .i64 (b : Int) (a : Int) = ((b + a : Nat) : Int) := by
  unfold ior
  have h1 : (BitVec.ofInt (IntKind.bits .i64) (b : Int)) = BitVec.ofNat 64 b := by simp [IntKind.bits]
  have h2 : (BitVec.ofInt (IntKind.bits .i64) (a : Int)) = BitVec.ofNat 64 a := by simp [IntKind.bits]
  rw [h1, h2]
  have h3 : b ||| a = b + a := by
    have hy2 : b = 2 ^ m * (b / 2 ^ m) := by have := Nat.div_add_mod b (2 ^ m); omega
    have h4 := Nat.two_pow_add_eq_or_of_lt ha (b / 2 ^ m)
    rw [← hy2] at h4
    rw [← h4]
  have h4 : (BitVec.ofNat 64 b ||| BitVec.ofNat 64 a).toNat = b + a := by
    rw [BitVec.toNat_or, BitVec.toNat_ofNat, BitVec.toNat_ofNat, Nat.mod_eq_of_lt (a := b) (by omega), Nat.mod_eq_of_lt (a := a) (by omega), h3]
  show IntKind.wrap .i64 ((BitVec.ofNat 64 b ||| BitVec.ofNat 64 a).toNat : Int) = _
  rw [h4]
  exact wrap_i64 (by omega) (by omega)
theorem fat_eq {F t i x : Nat} (hF : 20000 ≤ F) (ht : t ≤ 1048576) {l : List Nat} (hlm : l.length ≤ 300) (hu : Up t 0 l) (hf : Fits t l) (hx : l[i]? = some x) :
    M_fano_at F (l.length : Int) (t : Int) (wd l.length t : Int) ((loF t l).length : Int) (pk (loF t l)) ((hiF t l).length : Int) (pk (hiF t l)) (i : Int) = some (x : Int) := by
  unfold M_fano_at
  have hw := wd_20 (n := l.length) ht
  have hi : i < l.length := (List.getElem?_eq_some_iff.1 hx).1
  have hL : (loF t l).length ≤ 8192 := by rw [loF_len]; exact hf.1
  have hH : (hiF t l).length ≤ 8192 := by rw [hiF_len hu]; exact hf.2
  have hxt := (up_le hu x (List.mem_of_getElem? hx)).2
  have hmul : i * wd l.length t + wd l.length t ≤ (loF t l).length := by
    rw [loF_len, ← Nat.succ_mul]; exact Nat.mul_le_mul_right _ hi
  rw [place_eq hF (l := hiF t l) (hp_bit _ _ _ _) (by omega) (by omega), plc_hiF hu, hx]
  simp only [Option.map_some, Option.bind_some]
  have hdx : x / 2 ^ wd l.length t ≤ x := Nat.div_le_self _ _
  have hz : 0 ≤ x / 2 ^ wd l.length t := Nat.zero_le _
  rw [imul_n (by omega), read_pk (l := loF t l) (by omega) (lo'_bit _ _) hL (by omega) (by omega), if_pos hmul]
  simp only [Option.bind_some]
  have hc : decide ((0 : Int) ≤ ((wd l.length t : Nat) : Int)) = true := decide_eq_true (by omega)
  rw [hc]
  simp only [chk, if_true, lett]
  have hg : ((loF t l).drop (i * wd l.length t)).take (wd l.length t) = nb x (wd l.length t) := lo_get hx
  have hp20 : 2 ^ wd l.length t ≤ 2 ^ 20 := Nat.pow_le_pow_right (by decide) hw
  rw [show (2 : Nat) ^ 20 = 1048576 from by decide] at hp20
  have hml := Nat.mod_lt x (show 0 < 2 ^ wd l.length t from Nat.pow_pos (by decide))
  have hdm := Nat.div_add_mod x (2 ^ wd l.length t)
  have hdm2 : x / 2 ^ wd l.length t * 2 ^ wd l.length t ≤ x := Nat.div_mul_le_self _ _
  rw [hg, bv_nb, isub_n (by omega) (by omega), Nat.add_sub_cancel, ishl_i (by omega) (by omega), iconv_i64_n (by omega), ior_i (m := wd l.length t) hml (Nat.mul_mod_left _ _) (by omega)]
  rw [Nat.mul_comm] at hdm
  rw [hdm]
theorem place_neg {F : Nat} {l : List Int} (hl : Bit l) (hm : l.length ≤ 10000) (bit : Int) : ∀ (k j c : Nat), l.length < k + j → j ≤ l.length → 1 ≤ c → c + (l.length - j) ≤ 100000 →
    ∃ s, M_rank_places_1_l3 F (fun (x31 : Int) (x37 : Int) => M_rank_Place_r2 F x31 x37) (l.length : Int) (pk l) bit k ((j : Int), -(c : Int)) = some (.inl s)
  | 0, _, _, _, _, _, _ => by omega
  | k + 1, j, c, h, hj, hc, hcm => by
    have e : M_rank_places_1_l3 F (fun (x31 : Int) (x37 : Int) => M_rank_Place_r2 F x31 x37) (l.length : Int) (pk l) bit (k + 1) ((j : Int), -(c : Int)) =
      M_rank_places_1_b3 F (fun (x31 : Int) (x37 : Int) => M_rank_Place_r2 F x31 x37) (l.length : Int) (pk l) bit (M_rank_places_1_l3 F (fun (x31 : Int) (x37 : Int) => M_rank_Place_r2 F x31 x37) (l.length : Int) (pk l) bit k) (j : Int) (-(c : Int)) := rfl
    rw [e]
    unfold M_rank_places_1_b3
    by_cases hlt : j < l.length
    · rw [if_pos (by simp; omega), at_pk hl (by omega) hlt]
      simp only [Option.bind_some]
      have hr : M_rank_Place_r2 F (-(c : Int)) (j : Int) = some (.inl (-((c + 1 : Nat) : Int))) := by
        unfold M_rank_Place_r2
        rw [if_neg (by simp; omega), isub_i64 (by omega) (by omega)]
        congr 2; omega
      by_cases h1 : l[j] = bit
      · rw [if_pos (by simpa using h1), hr]
        simp only [Option.bind_some, Sum.elim_inl, M_rank_places_1_j4]
        rw [iadd1_n (by omega)]
        exact place_neg hl hm bit k (j + 1) (c + 1) (by omega) (by omega) (by omega) (by omega)
      · rw [if_neg (by simpa using h1)]
        simp only [M_rank_places_1_j4]
        rw [iadd1_n (by omega)]
        exact place_neg hl hm bit k (j + 1) c (by omega) (by omega) hc (by omega)
    · rw [if_neg (by simp; omega)]
      exact ⟨_, rfl⟩
theorem place_m1 {F : Nat} (hF : 20000 ≤ F) {l : List Int} (hl : Bit l) (hm : l.length ≤ 10000) {bit : Int} : M_rank_Place F (l.length : Int) (pk l) bit (-1) = some (-1) := by
  unfold M_rank_Place
  simp only [M_rank_places, Option.bind_some, M_rank_places_1]
  obtain ⟨s, hs⟩ := place_neg (F := F) hl hm bit F 0 1 (by omega) (by omega) (by omega) (by omega)
  have h2 : M_rank_places_1_l3 F (fun (x31 : Int) (x37 : Int) => M_rank_Place_r2 F x31 x37) (l.length : Int) (pk l) bit F (0, -1) = some (.inl s) := hs
  rw [h2]
  rfl
theorem equalBytes_l (F : Nat) (xs ys : List Int) : ∀ k, M_slices_Equal_byte_byte_l3 F xs ys k = M_R_SameBytes_l3 F xs ys k
  | 0 => rfl
  | k + 1 => by
    funext i
    show M_slices_Equal_byte_byte_b3 F xs ys (M_slices_Equal_byte_byte_l3 F xs ys k) i = M_R_SameBytes_b3 F xs ys (M_R_SameBytes_l3 F xs ys k) i
    rw [equalBytes_l F xs ys k]; rfl
theorem equalBytes_same (F : Nat) (xs ys : List Int) : M_slices_Equal_byte_byte F xs ys = M_R_SameBytes F xs ys := by
  unfold M_slices_Equal_byte_byte M_R_SameBytes; rw [equalBytes_l]
theorem fsame_eq {F : Nat} {n m : Int} {xs ys : List Int} (hF : xs.length < F) (hm : xs.length ≤ 9223372036854775807) : M_fano_same F n xs m ys = some (decide (n = m ∧ xs = ys)) := by
  unfold M_fano_same
  by_cases h : n = m
  · have hb : (n == m) = true := by simp [h]
    rw [if_pos hb, equalBytes_same, sameBytes_eq hF hm]
    simp [M_fano_same_j1, h]
  · have hb : (n == m) = false := by simpa using h
    rw [hb]
    simp [M_fano_same_j1, h]
/-- Is a fano what is written of these numbers (but for how many, its top and its width)? -/
def Wr (t : Nat) (ns : List Nat) (lw : Int) (lb : List Int) (hw : Int) (hb : List Int) : Prop :=
  ns.length ≤ 300 ∧ Up t 0 ns ∧ Fits t ns ∧ lw = ((loF t ns).length : Int) ∧ lb = pk (loF t ns) ∧ hw = ((hiF t ns).length : Int) ∧ hb = pk (hiF t ns)
theorem j4_eq {F t : Nat} (hF : 20000 ≤ F) (ht : t ≤ 1048576) {lw hw : Int} {lb hb out : List Int} :
    (∃ ns, out = lc ns ∧ Wr t ns lw lb hw hb ∧ M_fano_numbers_j4 F (t : Int) lw lb hw hb out = some (out, 0)) ∨
    ((¬ ∃ ns, out = lc ns ∧ Wr t ns lw lb hw hb) ∧ M_fano_numbers_j4 F (t : Int) lw lb hw hb out = some ([], 1)) := by
  unfold M_fano_numbers_j4
  rw [fcheck_eq hF]
  simp only [Option.bind_some]
  by_cases h : fkc out (t : Int) = 0
  · obtain ⟨ns, k, e, hk, rfl, hm, hu⟩ := fkc_ok.1 h
    obtain rfl : t = k := by omega
    rw [h, if_neg (by simp), fraw_eq hF hk hm hu]
    simp only [Option.bind_some]
    have huniq : ∀ ns', lc ns = lc ns' → ns = ns' := fun ns' e => by have := congrArg nl e; rwa [nl_lc, nl_lc] at this
    by_cases hf : Fits t ns
    · have hL : (loF t ns).length ≤ 8192 := by rw [loF_len]; exact hf.1
      have hH : (hiF t ns).length ≤ 8192 := by rw [hiF_len hu]; exact hf.2
      have hpL := pk_small hL
      have hpH := pk_small hH
      rw [if_pos hf]
      simp only [T8, Bool.not_true, Bool.false_eq_true, if_false]
      rw [fsame_eq (by omega) (by omega)]
      simp only [Option.bind_some]
      by_cases h1 : ((loF t ns).length : Int) = lw ∧ pk (loF t ns) = lb
      · rw [decide_eq_true h1]
        simp only [Bool.not_true, M_fano_numbers_j7, Bool.false_eq_true, if_false]
        rw [fsame_eq (by omega) (by omega)]
        simp only [Option.bind_some]
        by_cases h2 : ((hiF t ns).length : Int) = hw ∧ pk (hiF t ns) = hb
        · rw [decide_eq_true h2]
          left
          exact ⟨ns, rfl, ⟨hm, hu, hf, h1.1.symm, h1.2.symm, h2.1.symm, h2.2.symm⟩, rfl⟩
        · rw [decide_eq_false h2]
          right
          refine ⟨?_, rfl⟩
          rintro ⟨ns', e1, w⟩
          rw [← huniq ns' e1] at w
          exact h2 ⟨w.2.2.2.2.2.1.symm, w.2.2.2.2.2.2.symm⟩
      · rw [decide_eq_false h1]
        right
        refine ⟨?_, rfl⟩
        rintro ⟨ns', e1, w⟩
        rw [← huniq ns' e1] at w
        exact h1 ⟨w.2.2.2.1.symm, w.2.2.2.2.1.symm⟩
    · rw [if_neg hf]
      right
      refine ⟨?_, rfl⟩
      rintro ⟨ns', e1, w⟩
      rw [← huniq ns' e1] at w
      exact hf w.2.2.1
  · rw [if_pos (by simpa using h)]
    right
    refine ⟨?_, rfl⟩
    rintro ⟨ns, rfl, w⟩
    exact h (fkc_ok.2 ⟨ns, t, rfl, ht, rfl, w.1, w.2.1⟩)
/-- A fano that is right: it is what is written of its numbers. -/
def Good (l : List Nat) (n t w lw : Int) (lb : List Int) (hw : Int) (hb : List Int) : Prop :=
  ∃ k : Nat, t = k ∧ k ≤ 1048576 ∧ n = (l.length : Int) ∧ w = ((wd l.length k : Nat) : Int) ∧ Wr k l lw lb hw hb
def Rg (n t : Int) : Prop := 0 ≤ n ∧ n ≤ 300 ∧ 0 ≤ t ∧ t ≤ 1048576
instance rgDec (n t : Int) : Decidable (Rg n t) := inferInstanceAs (Decidable (_ ∧ _))
theorem good_rg {l : List Nat} {n t w lw hw : Int} {lb hb : List Int} (h : Good l n t w lw lb hw hb) : Rg n t := by
  obtain ⟨k, rfl, hk, rfl, _, h1, _⟩ := h
  exact ⟨by omega, by omega, by omega, by omega⟩
theorem nums_l {F t n w : Nat} {lw hw : Int} {lb hb : List Int} (f : Nat → Int) (hn : n ≤ 300) (hat : ∀ i, i < n → M_fano_at F (n : Int) (t : Int) (w : Int) lw lb hw hb (i : Int) = some (f i)) : ∀ (k i : Nat), n < k + i → i ≤ n →
    M_fano_numbers_l9 F (n : Int) (t : Int) (w : Int) lw lb hw hb k ((List.range i).map f, (i : Int)) = M_fano_numbers_j4 F (t : Int) lw lb hw hb ((List.range n).map f)
  | 0, _, _, _ => by omega
  | k + 1, i, h, hi => by
    show M_fano_numbers_b9 F (n : Int) (t : Int) (w : Int) lw lb hw hb (M_fano_numbers_l9 F (n : Int) (t : Int) (w : Int) lw lb hw hb k) ((List.range i).map f) (i : Int) = _
    unfold M_fano_numbers_b9
    by_cases hlt : i < n
    · rw [if_pos (by simp; omega), hat i hlt]
      simp only [Option.bind_some]
      rw [app_eq (by simp; omega), iadd1_n (by omega)]
      simp only [Option.bind_some]
      have e : (List.range i).map f ++ [f i] = (List.range (i + 1)).map f := by rw [List.range_succ, List.map_append]; rfl
      rw [e]
      exact nums_l f hn hat k (i + 1) (by omega) (by omega)
    · rw [if_neg (by simp; omega)]
      obtain rfl : i = n := by omega
      rfl
theorem numbers_cases {F : Nat} (hF : 20000 ≤ F) {n t w lw hw : Int} {lb hb : List Int} (ul : U8s lb) (uh : U8s hb) (il : I64 lw) (ih : I64 hw) (ll : lb.length ≤ 9223372036854775807) (lh : hb.length ≤ 9223372036854775807) :
    (∃ l, Good l n t w lw lb hw hb ∧ M_fano_numbers F n t w lw lb hw hb = some (lc l, 0)) ∨
    ((¬ ∃ l, Good l n t w lw lb hw hb) ∧ M_fano_numbers F n t w lw lb hw hb = some ([], if Rg n t then 1 else 3)) := by
  unfold M_fano_numbers
  by_cases hr : Rg n t
  · obtain ⟨n, rfl⟩ := Int.eq_ofNat_of_zero_le hr.1
    obtain ⟨t, rfl⟩ := Int.eq_ofNat_of_zero_le hr.2.2.1
    have hn : n ≤ 300 := by have := hr.2.1; omega
    have ht : t ≤ 1048576 := by have := hr.2.2.2; omega
    have hw20 := wd_20 (n := n) ht
    rw [if_neg (by simp; omega), if_pos hr, width_eq hF hn ht]
    simp only [Option.bind_some]
    by_cases hw1 : w = ((wd n t : Nat) : Int)
    · subst hw1
      rw [if_neg (by simp), check_eq ul il.1 il.2 ll]
      simp only [Option.bind_some]
      rcases chk_form ul (n := lw) with h1 | ⟨L, hL, hLm, rfl, rfl⟩
      · right
        refine ⟨?_, by rw [if_pos (by simpa using h1)]; rfl⟩
        rintro ⟨l, k, e, hk, e2, _, g1, g2, g3, rfl, rfl, _⟩
        exact h1 (chk_pk (by rw [loF_len]; exact g3.1))
      rw [chk_pk hLm, if_neg (by simp), check_eq uh ih.1 ih.2 lh]
      simp only [Option.bind_some]
      rcases chk_form uh (n := hw) with h1 | ⟨H, hH, hHm, rfl, rfl⟩
      · right
        refine ⟨?_, by rw [if_pos (by simpa using h1)]; rfl⟩
        rintro ⟨l, k, e, hk, e2, _, g1, g2, g3, _, _, rfl, rfl⟩
        exact h1 (chk_pk (by rw [hiF_len g2]; exact g3.2))
      have hmul : n * wd n t ≤ 300 * 20 := Nat.mul_le_mul hn hw20
      rw [chk_pk hHm, if_neg (by simp), imul_n (by omega)]
      by_cases hl1 : L.length = n * wd n t
      · rw [if_neg (by rw [hl1]; simp)]
        -- where a 1 stands for each number
        have hfin : (n = 0 ∨ ∃ q, plc 1 H (n - 1) = some q) →
            (∃ l, Good l (n : Int) (t : Int) ((wd n t : Nat) : Int) (L.length : Int) (pk L) (H.length : Int) (pk H) ∧ M_fano_numbers_j2 F (n : Int) (t : Int) ((wd n t : Nat) : Int) (L.length : Int) (pk L) (H.length : Int) (pk H) false = some (lc l, 0)) ∨
            ((¬ ∃ l, Good l (n : Int) (t : Int) ((wd n t : Nat) : Int) (L.length : Int) (pk L) (H.length : Int) (pk H)) ∧ M_fano_numbers_j2 F (n : Int) (t : Int) ((wd n t : Nat) : Int) (L.length : Int) (pk L) (H.length : Int) (pk H) false = some ([], 1)) := by
          intro hpl
          unfold M_fano_numbers_j2
          rw [if_neg (by simp)]
          have hat : ∃ f : Nat → Int, ∀ i, i < n → M_fano_at F (n : Int) (t : Int) ((wd n t : Nat) : Int) (L.length : Int) (pk L) (H.length : Int) (pk H) (i : Int) = some (f i) := by
            have h1 : ∀ i, ∃ v : Int, i < n → M_fano_at F (n : Int) (t : Int) ((wd n t : Nat) : Int) (L.length : Int) (pk L) (H.length : Int) (pk H) (i : Int) = some v := by
              intro i
              by_cases hi : i < n
              · unfold M_fano_at
                have hm2 : i * wd n t + wd n t ≤ L.length := by rw [hl1, ← Nat.succ_mul]; exact Nat.mul_le_mul_right _ hi
                have hc : decide ((0 : Int) ≤ ((wd n t : Nat) : Int)) = true := decide_eq_true (by omega)
                rw [place_eq hF hH (by omega) (by omega)]
                simp only [Option.bind_some]
                rw [imul_n (by omega), read_pk (by omega) hL hLm (by omega) (by omega)]
                simp only [Option.bind_some]
                rw [hc]
                simp only [chk, if_true, lett]
                exact ⟨_, fun _ => rfl⟩
              · exact ⟨0, fun h => absurd h hi⟩
            exact ⟨fun i => Classical.choose (h1 i), fun i hi => Classical.choose_spec (h1 i) hi⟩
          obtain ⟨f, hat⟩ := hat
          have hl9 := nums_l (F := F) (t := t) (n := n) (w := wd n t) f hn hat F 0 (by omega) (by omega)
          rw [show (List.range 0).map f = [] from rfl, show ((0 : Nat) : Int) = 0 from rfl] at hl9
          rw [hl9]
          rcases j4_eq (F := F) (t := t) hF ht (lw := (L.length : Int)) (lb := pk L) (hw := (H.length : Int)) (hb := pk H) (out := (List.range n).map f) with ⟨ns, e, w, hM⟩ | ⟨hno, hM⟩
          · have hnl : ns.length = n := by have := congrArg List.length e; rw [lc_len] at this; simp at this; omega
            left
            exact ⟨ns, ⟨t, rfl, ht, by rw [hnl], by rw [hnl], w⟩, by rw [hM, e]⟩
          · right
            refine ⟨?_, hM⟩
            rintro ⟨l, k, e1, hk, e2, e3, w⟩
            obtain rfl : t = k := by omega
            have hnl : n = l.length := by omega
            apply hno
            refine ⟨l, ?_, w⟩
            obtain ⟨w1, w2, w3, w4, w5, w6, w7⟩ := w
            apply List.ext_getElem?
            intro i
            by_cases hi : i < n
            · have hx : l[i]? = some l[i] := List.getElem?_eq_getElem (by omega)
              have h2 := fat_eq hF ht w1 w2 w3 hx
              have h3 := hat i hi
              rw [hnl, w4, w5, w6, w7, h2] at h3
              have h4 : (lc l)[i]? = some ((l[i] : Nat) : Int) := by simp [lc, show i < l.length by omega]
              rw [h4, List.getElem?_map, List.getElem?_range hi]
              exact h3.symm
            · rw [List.getElem?_eq_none (by simp; omega), List.getElem?_eq_none (by rw [lc_len]; omega)]
        have hnoform : n ≠ 0 → plc 1 H (n - 1) = none → ¬ ∃ l, Good l (n : Int) (t : Int) ((wd n t : Nat) : Int) (L.length : Int) (pk L) (H.length : Int) (pk H) := by
          rintro h0 hp ⟨l, k, e1, hk, e2, e3, w1, w2, w3, w4, w5, w6, w7⟩
          obtain rfl : t = k := by omega
          have hnl : n = l.length := by omega
          have hHe : H = hiF t l := pk_inj hH (hp_bit _ _ _ _) (by omega) w7
          rw [hHe, plc_hiF w2, List.getElem?_eq_getElem (show n - 1 < l.length by omega)] at hp
          simp at hp
        by_cases h0 : n = 0
        · subst h0
          have : isub .i64 ((0 : Nat) : Int) 1 = -1 := by decide
          rw [this, place_m1 hF hH (by omega)]
          simp only [Option.bind_some]
          rw [if_pos (by simp)]
          exact hfin (.inl rfl)
        · rw [isub1_n (by omega) (by omega), place_eq hF hH (by omega) (by omega)]
          simp only [Option.bind_some]
          cases hp : plc 1 H (n - 1) with
          | none =>
            right
            refine ⟨hnoform h0 hp, ?_⟩
            simp only
            rw [if_pos (by simp), decide_eq_true (show (0 : Int) < (n : Int) by omega)]
            rfl
          | some q =>
            simp only
            rw [if_neg (by simp)]
            exact hfin (.inr ⟨q, hp⟩)
      · right
        refine ⟨?_, by rw [if_pos (by rw [bne_iff_ne]; omega)]; rfl⟩
        rintro ⟨l, k, e1, hk, e2, e3, w1, w2, w3, w4, _⟩
        obtain rfl : t = k := by omega
        have hnl : n = l.length := by omega
        rw [loF_len] at w4
        rw [hnl] at hl1
        omega
    · right
      refine ⟨?_, by rw [if_pos (by simpa using hw1)]; rfl⟩
      rintro ⟨l, k, e1, hk, e2, e3, _⟩
      obtain rfl : t = k := by omega
      have hnl : n = l.length := by omega
      rw [← hnl] at e3
      exact hw1 e3
  · right
    refine ⟨fun ⟨l, h⟩ => hr (good_rg h), ?_⟩
    rw [if_pos (by unfold Rg at hr; simp only [Bool.or_eq_true, decide_eq_true_eq]; omega), if_neg hr]
theorem urem_n {a b : Nat} : irem (a : Int) (b : Int) = ((a % b : Nat) : Int) := by
  unfold irem; rw [Int.tmod_eq_emod_of_nonneg (by omega)]; norm_cast
def cq (w h : Nat) (l : List Nat) : Nat := (l.filter fun x => x / 2 ^ w = h).length
theorem cq_cons (w h x : Nat) (l : List Nat) : cq w h (x :: l) = (if x / 2 ^ w = h then 1 else 0) + cq w h l := by
  unfold cq
  by_cases e : x / 2 ^ w = h <;> simp [e] <;> omega
theorem cq_0 {w h : Nat} {l : List Nat} (hl : ∀ x ∈ l, h < x / 2 ^ w) : cq w h l = 0 := by
  induction l with
  | nil => rfl
  | cons x l ih =>
    have := hl x List.mem_cons_self
    rw [cq_cons, if_neg (by omega), ih (fun y hy => hl y (List.mem_cons_of_mem _ hy))]
/-- From a high part on, so many of them: as many ones as numbers have it, and a nought. -/
def seg (w : Nat) (l : List Nat) (a : Nat) : Nat → List Int
  | 0 => []
  | m + 1 => List.replicate (cq w a l) 1 ++ 0 :: seg w l (a + 1) m
theorem seg_skip {w x : Nat} {l : List Nat} : ∀ {m a : Nat}, x / 2 ^ w < a → seg w (x :: l) a m = seg w l a m
  | 0, _, _ => rfl
  | m + 1, a, h => by rw [seg, seg, cq_cons, if_neg (by omega), Nat.zero_add, seg_skip (by omega)]
theorem seg_nil {w : Nat} : ∀ {m a : Nat}, seg w [] a m = List.replicate m 0
  | 0, _ => rfl
  | m + 1, a => by rw [seg, seg_nil, List.replicate_succ]; rfl
theorem seg_snoc {w : Nat} {l : List Nat} : ∀ {m a : Nat}, seg w l a (m + 1) = seg w l a m ++ (List.replicate (cq w (a + m) l) 1 ++ [0])
  | 0, a => by simp [seg]
  | m + 1, a => by
    rw [seg, seg_snoc (m := m) (a := a + 1), seg, show a + 1 + m = a + (m + 1) from by omega]
    simp [List.append_assoc]
theorem hp_seg {w last : Nat} : ∀ {m : Nat} {l : List Nat} {a : Nat}, a + m = last → (∀ x ∈ l, a ≤ x / 2 ^ w ∧ x / 2 ^ w < last) → (∀ j x, l[j]? = some x → ∀ y ∈ l.drop (j + 1), x / 2 ^ w ≤ y / 2 ^ w) → hp w last a l = seg w l a m
  | 0, l, a, ha, hl, _ => by
    cases l with
    | nil => rw [hp, show last - a = 0 from by omega]; rfl
    | cons x l => have := hl x List.mem_cons_self; omega
  | m + 1, [], a, ha, _, _ => by rw [hp, seg_nil, show last - a = m + 1 from by omega]
  | m + 1, x :: l, a, ha, hl, hs => by
    have hx := hl x List.mem_cons_self
    have h0 := hs 0 x rfl
    rw [List.drop_succ_cons, List.drop_zero] at h0
    have hs' : ∀ j y, l[j]? = some y → ∀ z ∈ l.drop (j + 1), y / 2 ^ w ≤ z / 2 ^ w := fun j y hj => by
      have := hs (j + 1) y (by simpa using hj)
      rwa [List.drop_succ_cons] at this
    by_cases he : x / 2 ^ w = a
    · have ih := hp_seg (m := m + 1) (l := l) (a := a) ha (fun y hy => ⟨by have := h0 y hy; omega, (hl y (List.mem_cons_of_mem _ hy)).2⟩) hs'
      rw [hp, he, Nat.sub_self, List.replicate_zero, List.nil_append, ih, seg, seg, cq_cons, if_pos he, seg_skip (by omega), Nat.add_comm 1, List.replicate_succ]
      rfl
    · have ih := hp_seg (w := w) (last := last) (m := m) (l := x :: l) (a := a + 1) (by omega) (fun y hy => by
        have ⟨u1, u2⟩ := hx
        rcases List.mem_cons.1 hy with rfl | hy
        · constructor
          · omega
          · exact u2
        · have u3 := h0 y hy
          have u4 := (hl y (List.mem_cons_of_mem _ hy)).2
          constructor
          · omega
          · exact u4) hs
      rw [seg, cq_0 (by
        intro y hy
        have u1 := hx.1
        rcases List.mem_cons.1 hy with rfl | hy
        · omega
        · have u3 := h0 y hy
          omega), ← ih, hp, hp, show x / 2 ^ w - a = (x / 2 ^ w - (a + 1)) + 1 from by omega, List.replicate_succ]
      rfl
  termination_by m l _ => (m, l.length)
theorem hiF_seg {t : Nat} {l : List Nat} (hu : Up t 0 l) : hiF t l = seg (wd l.length t) l 0 (t / 2 ^ wd l.length t + 1) := by
  unfold hiF
  refine hp_seg (by omega) (fun x hx => ⟨Nat.zero_le _, ?_⟩) (up_mono hu)
  have := Nat.div_le_div_right (c := 2 ^ wd l.length t) (up_le hu x hx).2
  omega
theorem iquo_n {a b : Nat} (ha : a < 9223372036854775808) : iquo .i64 (a : Int) (b : Int) = ((a / b : Nat) : Int) := by
  unfold iquo
  rw [Int.tdiv_eq_ediv_of_nonneg (by omega), ← Int.natCast_ediv]
  have := Nat.div_le_self a b
  generalize a / b = q at this
  exact wrap_i64 (by omega) (by omega)
theorem lc_get {l : List Nat} {i : Nat} (hi : i < l.length) : (lc l)[i]? = some ((l[i] : Nat) : Int) := by simp [lc, hi]
theorem fwhi_in {F w : Nat} {rec104 : (List Int × Int) → Option F8} {l : List Nat} {h : Nat} (hw : w ≤ 20) (hl : ∀ x ∈ l, x ≤ 1048576) (hlm : l.length ≤ 300) : ∀ (k i : Nat) (o : List Int), l.length < k + i → i ≤ l.length → o.length + (l.length - i) ≤ 100000 →
    M_R_FanoWrite_l122 F rec104 (lc l) ((2 ^ w : Nat) : Int) (h : Int) k (o, (i : Int)) = M_R_FanoWrite_j119 F rec104 (h : Int) (o ++ List.replicate (cq w h (l.drop i)) 1)
  | 0, _, _, _, _, _ => by omega
  | k + 1, i, o, hk, hi, ho => by
    show M_R_FanoWrite_b122 F rec104 (lc l) ((2 ^ w : Nat) : Int) (h : Int) (M_R_FanoWrite_l122 F rec104 (lc l) ((2 ^ w : Nat) : Int) (h : Int) k) o (i : Int) = _
    unfold M_R_FanoWrite_b122
    have hp0 : 0 < 2 ^ w := Nat.pow_pos (by decide)
    have hc : (((2 ^ w : Nat) : Int) != 0) = true := by rw [bne_iff_ne]; omega
    by_cases hlt : i < l.length
    · have hx := hl _ (List.getElem_mem hlt)
      rw [lc_len, if_pos (by simp; omega), idx_nat, lc_get hlt, List.drop_eq_getElem_cons hlt, cq_cons]
      simp only [Option.bind_some]
      rw [hc]
      simp only [chk, if_true]
      rw [iquo_n (by omega)]
      by_cases he : l[i] / 2 ^ w = h
      · rw [if_pos he, if_pos (by rw [he]; simp), app_eq (by simp; omega)]
        simp only [Option.bind_some, M_R_FanoWrite_j123]
        rw [iadd1_n (by omega), fwhi_in hw hl hlm k (i + 1) _ (by omega) (by omega) (by simp; omega)]
        rw [Nat.add_comm 1, List.replicate_succ, List.append_assoc]; rfl
      · rw [if_neg he, if_neg (by rw [beq_iff_eq]; omega)]
        simp only [M_R_FanoWrite_j123]
        rw [iadd1_n (by omega), fwhi_in hw hl hlm k (i + 1) _ (by omega) (by omega) (by omega), Nat.zero_add]
    · rw [lc_len, if_neg (by simp; omega), List.drop_eq_nil_of_le (by omega)]
      have : cq w h [] = 0 := rfl
      rw [this]; simp
theorem seg_mono {w : Nat} {l : List Nat} {a m : Nat} : ∀ k, (seg w l a m).length ≤ (seg w l a (m + k)).length
  | 0 => Nat.le_refl _
  | k + 1 => by
    have := seg_mono (w := w) (l := l) (a := a) (m := m) k
    rw [← Nat.add_assoc, seg_snoc, List.length_append]; omega
theorem fwhi_l {F t : Nat} (hF : 20000 ≤ F) {l : List Nat} {L : List Int} (hL : Bit L) (hLm : L.length ≤ 8192) (ht : t ≤ 1048576) (hlm : l.length ≤ 300) (hu : Up t 0 l) (hf : Fits t l) : ∀ (k h : Nat), t / 2 ^ wd l.length t + 1 < k + h → h ≤ t / 2 ^ wd l.length t + 1 →
    M_R_FanoWrite_l104 F (lc l) (t : Int) ((wd l.length t : Nat) : Int) ((2 ^ wd l.length t : Nat) : Int) L k (seg (wd l.length t) l 0 h, (h : Int)) =
      some ((l.length : Int), (t : Int), ((wd l.length t : Nat) : Int), (L.length : Int), pk L, ((hiF t l).length : Int), pk (hiF t l), 0)
  | 0, _, _, _ => by omega
  | k + 1, h, hk, hh => by
    show M_R_FanoWrite_b104 F (lc l) (t : Int) ((wd l.length t : Nat) : Int) ((2 ^ wd l.length t : Nat) : Int) L (M_R_FanoWrite_l104 F (lc l) (t : Int) ((wd l.length t : Nat) : Int) ((2 ^ wd l.length t : Nat) : Int) L k) (seg (wd l.length t) l 0 h) (h : Int) = _
    unfold M_R_FanoWrite_b104
    have hw := wd_20 (n := l.length) ht
    have hp0 : 0 < 2 ^ wd l.length t := Nat.pow_pos (by decide)
    have hc : (((2 ^ wd l.length t : Nat) : Int) != 0) = true := by rw [bne_iff_ne]; omega
    have f2 := hf.2
    rw [hc]
    simp only [chk, if_true]
    rw [iquo_n (by omega)]
    by_cases hlt : h ≤ t / 2 ^ wd l.length t
    · have hH : (hiF t l).length ≤ 8192 := by rw [hiF_len hu]; exact hf.2
      have hs1 := seg_mono (w := wd l.length t) (l := l) (a := 0) (m := h + 1) (t / 2 ^ wd l.length t + 1 - (h + 1))
      rw [show h + 1 + (t / 2 ^ wd l.length t + 1 - (h + 1)) = t / 2 ^ wd l.length t + 1 from by omega, ← hiF_seg hu, seg_snoc, List.length_append, List.length_append, List.length_replicate, Nat.zero_add] at hs1
      rw [if_pos (by simp only [decide_eq_true_eq]; omega)]
      have := fwhi_in (F := F) (rec104 := M_R_FanoWrite_l104 F (lc l) (t : Int) ((wd l.length t : Nat) : Int) ((2 ^ wd l.length t : Nat) : Int) L k) (h := h) hw (fun x hx => by have := (up_le hu x hx).2; omega) hlm F 0 (seg (wd l.length t) l 0 h) (by omega) (by omega) (by omega)
      rw [List.drop_zero] at this
      rw [show ((0 : Nat) : Int) = 0 from rfl] at this
      rw [this]
      unfold M_R_FanoWrite_j119
      rw [app_eq (by rw [List.length_append, List.length_replicate]; simp; omega)]
      simp only [Option.bind_some, M_R_FanoWrite_j114]
      have e : seg (wd l.length t) l 0 h ++ List.replicate (cq (wd l.length t) h l) 1 ++ [0] = seg (wd l.length t) l 0 (h + 1) := by
        rw [seg_snoc, Nat.zero_add, List.append_assoc]
      rw [e, iadd1_n (by omega)]
      exact fwhi_l hF hL hLm ht hlm hu hf k (h + 1) (by omega) (by omega)
    · obtain rfl : h = t / 2 ^ wd l.length t + 1 := by omega
      rw [if_neg (by simp only [decide_eq_true_eq]; omega)]
      unfold M_R_FanoWrite_j65
      have hH : (hiF t l).length ≤ 8192 := by rw [hiF_len hu]; exact hf.2
      rw [packBits_eq hF hL (by omega), ← hiF_seg hu]
      simp only [Option.bind_some]
      rw [packBits_eq hF (l := hiF t l) (hp_bit _ _ _ _) (by omega)]
      simp only [Option.bind_some, lc_len]
theorem fwlo_l {F t w : Nat} (hw : w ≤ 20) {l : List Nat} (ht : t ≤ 1048576) (hlm : l.length ≤ 300) (hu : Up t 0 l) : ∀ (k i : Nat), l.length < k + i → i ≤ l.length → F ≥ 20000 →
    M_R_FanoWrite_l124 F (lc l) (t : Int) (w : Int) ((2 ^ w : Nat) : Int) k (lo' w (l.take i), (i : Int)) = M_R_FanoWrite_j6 F (lc l) (t : Int) (w : Int) ((2 ^ w : Nat) : Int) (lo' w l)
  | 0, _, _, _, _ => by omega
  | k + 1, i, h, hi, hF => by
    show M_R_FanoWrite_b124 F (lc l) (t : Int) (w : Int) ((2 ^ w : Nat) : Int) (M_R_FanoWrite_l124 F (lc l) (t : Int) (w : Int) ((2 ^ w : Nat) : Int) k) (lo' w (l.take i)) (i : Int) = _
    unfold M_R_FanoWrite_b124
    have hp0 : 0 < 2 ^ w := Nat.pow_pos (by decide)
    have hc : (((2 ^ w : Nat) : Int) != 0) = true := by rw [bne_iff_ne]; omega
    by_cases hlt : i < l.length
    · have hx := (up_le hu _ (List.getElem_mem hlt)).2
      have hml := Nat.mod_le l[i] (2 ^ w)
      rw [lc_len, if_pos (by simp; omega), idx_nat, lc_get hlt]
      simp only [Option.bind_some]
      rw [hc]
      simp only [chk, if_true]
      have hl2 : (lo' w (l.take i)).length ≤ 300 * 20 := by
        rw [lo'_len]
        exact Nat.mul_le_mul (by simp; omega) hw
      rw [urem_n, iconv_u64_n (by omega), numBits_eq (by omega) (by omega) (by omega), nb_mod (Nat.le_refl _)]
      simp only [Option.bind_some]
      rw [app_eq (by rw [nb_len]; omega), iadd1_n (by omega)]
      simp only [Option.bind_some]
      have e : lo' w (l.take i) ++ nb l[i] w = lo' w (l.take (i + 1)) := by
        rw [List.take_add_one, List.getElem?_eq_getElem hlt, lo'_app]
        simp [lo']
      rw [e]
      exact fwlo_l hw ht hlm hu k (i + 1) (by omega) (by omega) hF
    · rw [lc_len, if_neg (by simp; omega)]
      obtain rfl : i = l.length := by omega
      rw [List.take_length]
theorem fanoWrite_eq {F : Nat} (hF : 20000 ≤ F) {l : List Int} {t : Int} : M_R_FanoWrite F l t = some (fw l t) := by
  unfold M_R_FanoWrite
  rw [ferr_eq hF]
  simp only [Option.bind_some]
  by_cases h : fkc l t = 0
  · obtain ⟨ns, k, rfl, hk, rfl, hm, hu⟩ := fkc_ok.1 h
    have hw := wd_20 (n := ns.length) hk
    have hp20 : 2 ^ wd ns.length k ≤ 2 ^ 20 := Nat.pow_le_pow_right (by decide) hw
    rw [show (2 : Nat) ^ 20 = 1048576 from by decide] at hp20
    have hp0 : 0 < 2 ^ wd ns.length k := Nat.pow_pos (by decide)
    have hc : (((2 ^ wd ns.length k : Nat) : Int) != 0) = true := by rw [bne_iff_ne]; omega
    rw [(fw_form hk hm hu).2, h, if_neg (by simp), lc_len, fwidth_eq hF hm hk]
    simp only [Option.bind_some]
    -- the power of two
    have hpw : ∀ (j i : Nat), wd ns.length k < j + i → i ≤ wd ns.length k → M_R_FanoWrite_l125 F (lc ns) (k : Int) ((wd ns.length k : Nat) : Int) j (((2 ^ i : Nat) : Int), (i : Int)) = M_R_FanoWrite_j2 F (lc ns) (k : Int) ((wd ns.length k : Nat) : Int) ((2 ^ wd ns.length k : Nat) : Int) := by
      intro j
      induction j with
      | zero => intro i h1 h2; omega
      | succ j ih =>
        intro i h1 h2
        show M_R_FanoWrite_b125 F (lc ns) (k : Int) ((wd ns.length k : Nat) : Int) (M_R_FanoWrite_l125 F (lc ns) (k : Int) ((wd ns.length k : Nat) : Int) j) ((2 ^ i : Nat) : Int) (i : Int) = _
        unfold M_R_FanoWrite_b125
        by_cases hlt : i < wd ns.length k
        · have hpi : 2 ^ i ≤ 2 ^ 20 := Nat.pow_le_pow_right (by decide) (by omega)
          rw [show (2 : Nat) ^ 20 = 1048576 from by decide] at hpi
          rw [if_pos (by simp; omega), imul2_n (by omega), iadd1_n (by omega), show 2 * 2 ^ i = 2 ^ (i + 1) from by rw [Nat.pow_succ]; omega]
          exact ih (i + 1) (by omega) (by omega)
        · obtain rfl : i = wd ns.length k := by omega
          rw [if_neg (by simp)]
    have hp := hpw F 0 (by omega) (by omega)
    rw [Nat.pow_zero] at hp
    rw [show (((1 : Nat) : Int), ((0 : Nat) : Int)) = ((1 : Int), (0 : Int)) from rfl] at hp
    rw [hp]
    unfold M_R_FanoWrite_j2
    have hmul : ns.length * wd ns.length k ≤ 300 * 20 := Nat.mul_le_mul hm hw
    have hdt : k / 2 ^ wd ns.length k ≤ k := Nat.div_le_self _ _
    have hd0 : 0 ≤ k / 2 ^ wd ns.length k := Nat.zero_le _
    rw [lc_len, imul_n (by omega), if_neg (by simp only [decide_eq_true_eq]; omega), hc]
    simp only [chk, if_true]
    rw [iquo_n (by omega), iadd_n (by omega), iadd1_n (by omega)]
    unfold M_R_FanoWrite_j4
    by_cases hf : Fits k ns
    · have f2 := hf.2
      rw [if_pos hf, if_neg (by simp only [decide_eq_true_eq]; omega)]
      have h1 := fwlo_l (F := F) hw hk hm hu F 0 (by omega) (by omega) hF
      rw [List.take_zero, show lo' (wd ns.length k) [] = [] from rfl, show ((0 : Nat) : Int) = 0 from rfl] at h1
      rw [h1]
      unfold M_R_FanoWrite_j6
      have h2 := fwhi_l hF (L := loF k ns) (lo'_bit _ _) (by rw [loF_len]; exact hf.1) hk hm hu hf F 0 (by omega) (by omega)
      exact h2
    · rw [if_neg hf, if_pos (by unfold Fits at hf; simp only [decide_eq_true_eq]; omega)]
      rfl
  · rw [if_pos (by simpa using h), fw_bad h]; rfl
def rdn (w : Nat) (L : List Int) : List Int → Nat → Nat → Nat → List Nat
  | [], _, _, _ => []
  | _ :: _, _, 0, _ => []
  | b :: H, h, m + 1, k => if b = 0 then rdn w L H (h + 1) (m + 1) k else (h * 2 ^ w + bv ((L.drop (k * w)).take w)) :: rdn w L H h m (k + 1)
theorem rdn_0 {w : Nat} {L X : List Int} {h k : Nat} : rdn w L X h 0 k = [] := by cases X <;> rfl
theorem rdn_rep {w : Nat} {L X : List Int} {m k : Nat} : ∀ {c h : Nat}, rdn w L (List.replicate c 0 ++ X) h (m + 1) k = rdn w L X (h + c) (m + 1) k
  | 0, h => by simp
  | c + 1, h => by
    rw [List.replicate_succ, List.cons_append, rdn, if_pos rfl, rdn_rep, show h + 1 + c = h + (c + 1) from by omega]
theorem rdn_hp {w last : Nat} {L : List Int} : ∀ {l : List Nat} {a k : Nat}, (∀ x ∈ l, a ≤ x / 2 ^ w) → (∀ j x, l[j]? = some x → ∀ y ∈ l.drop (j + 1), x / 2 ^ w ≤ y / 2 ^ w) →
    (∀ i x, l[i]? = some x → (L.drop ((k + i) * w)).take w = nb x w) → rdn w L (hp w last a l) a l.length k = l
  | [], a, k, _, _, _ => rdn_0
  | x :: l, a, k, h, hs, hL => by
    have hx := h x List.mem_cons_self
    have h0 := hs 0 x rfl
    rw [List.drop_succ_cons, List.drop_zero] at h0
    have h1 := hL 0 x rfl
    rw [Nat.add_zero] at h1
    have ih := rdn_hp (w := w) (last := last) (L := L) (l := l) (a := x / 2 ^ w) (k := k + 1) h0 (fun j y hj => by
        have := hs (j + 1) y (by simpa using hj)
        rwa [List.drop_succ_cons] at this) (fun i y hy => by
        have := hL (i + 1) y (by simpa using hy)
        rwa [show k + 1 + i = k + (i + 1) from by omega])
    have hdm := Nat.div_add_mod x (2 ^ w)
    rw [hp, List.length_cons, rdn_rep, rdn, if_neg (by decide), h1, bv_nb, show a + (x / 2 ^ w - a) = x / 2 ^ w from by omega, Nat.mul_comm, hdm, ih]
theorem bit_get {L : List Int} (hL : Bit L) {i : Nat} (hi : i < L.length) : ∃ b : Nat, L[i] = (b : Int) ∧ b ≤ 1 := by
  rcases hL _ (List.getElem_mem hi) with h | h
  · exact ⟨0, h, by omega⟩
  · exact ⟨1, h, by omega⟩
theorem bv_take {L : List Int} {o j : Nat} (h : o + j < L.length) : bv ((L.drop o).take (j + 1)) = 2 * bv ((L.drop o).take j) + (L[o + j]).toNat := by
  have e : (L.drop o).take (j + 1) = (L.drop o).take j ++ [L[o + j]] := by
    rw [List.take_add_one, List.getElem?_drop, List.getElem?_eq_getElem h]; rfl
  rw [e, bv_app]
  simp [bv, Nat.mul_comm]
theorem frd_in {F w n : Nat} {rec46 : (Int × List Int × Int) → Option (List Int × Int)} {L ns : List Int} {h i : Nat} (hL : Bit L) (hw : w ≤ 21) (hh : h ≤ 8192) (hn : ns.length < n) (hn3 : n ≤ 300) (hl : n * w = L.length) : ∀ (k j : Nat), w < k + j → j ≤ w →
    M_R_FanoRead_l53 F rec46 (w : Int) L (h : Int) ns (i : Int) k (((h * 2 ^ j + bv ((L.drop (ns.length * w)).take j) : Nat) : Int), (j : Int)) = M_R_FanoRead_j52 F rec46 (h : Int) ns (i : Int) ((h * 2 ^ w + bv ((L.drop (ns.length * w)).take w) : Nat) : Int)
  | 0, _, _, _ => by omega
  | k + 1, j, hk, hj => by
    show M_R_FanoRead_b53 F rec46 (w : Int) L (h : Int) ns (i : Int) (M_R_FanoRead_l53 F rec46 (w : Int) L (h : Int) ns (i : Int) k) ((h * 2 ^ j + bv ((L.drop (ns.length * w)).take j) : Nat) : Int) (j : Int) = _
    unfold M_R_FanoRead_b53
    by_cases hlt : j < w
    · have hm1 : ns.length * w ≤ 300 * 21 := Nat.mul_le_mul (by omega) hw
      have hm2 : ns.length * w + w ≤ L.length := by rw [← hl, ← Nat.succ_mul]; exact Nat.mul_le_mul_right _ hn
      have hb : bv ((L.drop (ns.length * w)).take j) < 2 ^ 21 := by
        have h1 : Bit ((L.drop (ns.length * w)).take j) := fun x hx => hL x (List.mem_of_mem_drop (List.mem_of_mem_take hx))
        refine Nat.lt_of_lt_of_le (bv_lt h1) (Nat.pow_le_pow_right (by decide) ?_)
        rw [List.length_take]; omega
      have hp : 2 ^ j ≤ 2 ^ 21 := Nat.pow_le_pow_right (by decide) (by omega)
      have hhp : h * 2 ^ j ≤ 8192 * 2 ^ 21 := Nat.mul_le_mul hh hp
      rw [show (8192 : Nat) * 2 ^ 21 = 17179869184 from by decide] at hhp
      rw [show (2 : Nat) ^ 21 = 2097152 from by decide] at hb
      have hlt2 : ns.length * w + j < L.length := by omega
      rw [if_pos (by simp; omega), imul_n (by omega), iadd_n (by omega), idx_nat, List.getElem?_eq_getElem hlt2]
      simp only [Option.bind_some]
      obtain ⟨b, e, hb1⟩ := bit_get hL hlt2
      have ht := bv_take hlt2
      rw [e, Int.toNat_natCast] at ht
      rw [e, imul2_n (by omega), iadd_n (by omega), iadd1_n (by omega)]
      have e2 : 2 * (h * 2 ^ j + bv ((L.drop (ns.length * w)).take j)) + b = h * 2 ^ (j + 1) + bv ((L.drop (ns.length * w)).take (j + 1)) := by
        rw [ht, Nat.pow_succ, ← Nat.mul_assoc]; omega
      rw [e2]
      exact frd_in hL hw hh hn hn3 hl k (j + 1) (by omega) (by omega)
    · obtain rfl : j = w := by omega
      rw [if_neg (by simp)]
theorem frd_l {F w n : Nat} (hF : 20000 ≤ F) {t lw hw : Int} {lb hb : List Int} {H L : List Int} (hH : Bit H) (hHm : H.length ≤ 8192) (hL : Bit L) (hw21 : w ≤ 21) (hn3 : n ≤ 300) (hl : n * w = L.length) : ∀ (k i h : Nat) (ns : List Int), H.length < k + i → i ≤ H.length → h ≤ i → ns.length ≤ n →
    M_R_FanoRead_l46 F (n : Int) t (w : Int) lw lb hw hb H L k ((h : Int), ns, (i : Int)) = M_R_FanoRead_j29 F (n : Int) t (w : Int) lw lb hw hb (ns ++ lc (rdn w L (H.drop i) h (n - ns.length) ns.length))
  | 0, _, _, _, _, _, _, _ => by omega
  | k + 1, i, h, ns, hk, hi, hh, hn => by
    show M_R_FanoRead_b46 F (n : Int) t (w : Int) lw lb hw hb H L (M_R_FanoRead_l46 F (n : Int) t (w : Int) lw lb hw hb H L k) (h : Int) ns (i : Int) = _
    unfold M_R_FanoRead_b46
    by_cases hlt : i < H.length
    · by_cases hnl : ns.length < n
      · rw [if_pos (by simp; omega), idx_nat, List.getElem?_eq_getElem hlt, List.drop_eq_getElem_cons hlt, show n - ns.length = (n - ns.length - 1) + 1 from by omega, rdn]
        simp only [Option.bind_some]
        by_cases h0 : H[i] = 0
        · rw [if_pos (by simpa using h0), if_pos h0]
          unfold M_R_FanoRead_j50
          rw [iadd1_n (by omega), iadd1_n (by omega), frd_l hF hH hHm hL hw21 hn3 hl k (i + 1) (h + 1) ns (by omega) (by omega) (by omega) hn, show n - ns.length - 1 + 1 = n - ns.length from by omega]
        · have hin := frd_in (F := F) (rec46 := M_R_FanoRead_l46 F (n : Int) t (w : Int) lw lb hw hb H L k) (h := h) (i := i) hL hw21 (by omega) hnl hn3 hl F 0 (by omega) (by omega)
          rw [Nat.pow_zero, Nat.mul_one, List.take_zero, show bv [] = 0 from rfl, Nat.add_zero, show ((0 : Nat) : Int) = 0 from rfl] at hin
          rw [if_neg (by simpa using h0), if_neg h0, hin]
          unfold M_R_FanoRead_j52
          rw [app_eq (by simp; omega)]
          simp only [Option.bind_some, M_R_FanoRead_j50]
          rw [iadd1_n (by omega), frd_l hF hH hHm hL hw21 hn3 hl k (i + 1) h (ns ++ [((h * 2 ^ w + bv ((L.drop (ns.length * w)).take w) : Nat) : Int)]) (by omega) (by omega) (by omega) (by simp; omega)]
          rw [List.length_append, List.length_singleton, show n - (ns.length + 1) = n - ns.length - 1 from by omega, List.append_assoc]
          rfl
      · rw [if_neg (by simp; omega), show n - ns.length = 0 from by omega, rdn_0]
        simp [lc]
    · rw [if_neg (by simp; omega), List.drop_eq_nil_of_le (by omega)]
      simp [lc, rdn]
theorem sameFano_eq {F : Nat} {n t w lw hw n' t' w' lw' hw' : Int} {lb hb lb' hb' : List Int} (h1 : lb.length < F) (h2 : hb.length < F) (h3 : lb.length ≤ 9223372036854775807) (h4 : hb.length ≤ 9223372036854775807) :
    M_R_SameFano F n t w lw lb hw hb n' t' w' lw' lb' hw' hb' = some (decide (n = n' ∧ t = t' ∧ w = w' ∧ lw = lw' ∧ lb = lb' ∧ hw = hw' ∧ hb = hb')) := by
  unfold M_R_SameFano
  have hj : ∀ b : Bool, M_R_SameFano_j1 F hw hb hw' hb' b = some (b && decide (hw = hw' ∧ hb = hb')) := by
    intro b
    unfold M_R_SameFano_j1
    cases b with
    | true => rw [if_pos rfl, sameBits_eq h2 h4]; simp [M_R_SameFano_j2]
    | false => rw [if_neg (by decide)]; rfl
  by_cases h : (n = n' ∧ t = t') ∧ w = w'
  · rw [if_pos (by simpa using h), sameBits_eq h1 h3]
    simp only [Option.bind_some]
    rw [hj]
    obtain ⟨⟨rfl, rfl⟩, rfl⟩ := h
    congr 1
    rw [← Bool.decide_and, decide_eq_decide]
    constructor
    · rintro ⟨⟨a, b⟩, c, d⟩; exact ⟨rfl, rfl, rfl, a, b, c, d⟩
    · rintro ⟨_, _, _, a, b, c, d⟩; exact ⟨⟨a, b⟩, c, d⟩
  · rw [if_neg (by simpa using h), hj, Bool.false_and, decide_eq_false (by rintro ⟨a, b, c, _⟩; exact h ⟨⟨a, b⟩, c⟩)]
/-- What is written is either of right numbers that fit, or nothing. -/
theorem fw_cases {l : List Int} {t : Int} : (∃ (ns : List Nat) (k : Nat), l = lc ns ∧ t = k ∧ k ≤ 1048576 ∧ ns.length ≤ 300 ∧ Up k 0 ns ∧ Fits k ns ∧ fw l t = fo8 k ns) ∨ (∃ e : Int, e ≠ 0 ∧ fw l t = fz8 e ∧ ¬ ∃ (ns : List Nat) (k : Nat), l = lc ns ∧ t = k ∧ k ≤ 1048576 ∧ ns.length ≤ 300 ∧ Up k 0 ns ∧ Fits k ns) := by
  by_cases h : fkc l t = 0
  · obtain ⟨ns, k, rfl, hk, rfl, hm, hu⟩ := fkc_ok.1 h
    have hf2 := (fw_form hk hm hu).2
    by_cases hf : Fits k ns
    · left; exact ⟨ns, k, rfl, rfl, hk, hm, hu, hf, by rw [hf2, if_pos hf]⟩
    · right
      refine ⟨8, by decide, by rw [hf2, if_neg hf], ?_⟩
      rintro ⟨ns', k', e1, e2, _, _, _, f⟩
      obtain rfl : k = k' := by omega
      have := congrArg nl e1
      rw [nl_lc, nl_lc] at this
      rw [← this] at f
      exact hf f
  · right
    refine ⟨fkc l t, h, fw_bad h, ?_⟩
    rintro ⟨ns', k', e1, e2, h1, h2, h3, f⟩
    exact h (fkc_ok.2 ⟨ns', k', e2, h1, e1, h2, h3⟩)
theorem rj29 {F : Nat} (hF : 20000 ≤ F) {n t w lw hw : Int} {lb hb out : List Int} (h1 : lb.length ≤ 8192) (h2 : hb.length ≤ 8192) :
    (∃ l, out = lc l ∧ Good l n t w lw lb hw hb ∧ M_R_FanoRead_j29 F n t w lw lb hw hb out = some (out, 0)) ∨ ((¬ ∃ l, out = lc l ∧ Good l n t w lw lb hw hb) ∧ M_R_FanoRead_j29 F n t w lw lb hw hb out = some ([], 1)) := by
  unfold M_R_FanoRead_j29
  rw [fanoWrite_eq hF]
  simp only [Option.bind_some]
  rcases fw_cases (l := out) (t := t) with ⟨ns, k, rfl, rfl, hk, hm, hu, hf, e⟩ | ⟨e, he, hf, hno⟩
  · rw [e, if_neg (show ¬ ((fo8 k ns).2.2.2.2.2.2.2 != 0) = true from by simp [fo8])]
    simp only [fo8]
    rw [sameFano_eq (by omega) (by omega) (by omega) (by omega)]
    simp only [Option.bind_some]
    by_cases hs : n = (ns.length : Int) ∧ True ∧ w = (wd ns.length k : Int) ∧ lw = ((loF k ns).length : Int) ∧ lb = pk (loF k ns) ∧ hw = ((hiF k ns).length : Int) ∧ hb = pk (hiF k ns)
    · left
      rw [decide_eq_true hs]
      obtain ⟨a1, _, a3, a4, a5, a6, a7⟩ := hs
      exact ⟨ns, rfl, ⟨k, rfl, hk, a1, a3, hm, hu, hf, a4, a5, a6, a7⟩, rfl⟩
    · right
      rw [decide_eq_false hs]
      refine ⟨?_, rfl⟩
      rintro ⟨l, e1, k', e2, _, g1, g2, g3, g4, g5, g6, g7, g8, g9⟩
      obtain rfl : k = k' := by omega
      have := congrArg nl e1
      rw [nl_lc, nl_lc] at this
      subst this
      exact hs ⟨g1, trivial, g2, g6, g7, g8, g9⟩
  · right
    rw [hf, if_pos (show ((fz8 e).2.2.2.2.2.2.2 != 0) = true from by simpa [fz8] using he)]
    refine ⟨?_, rfl⟩
    rintro ⟨l, e1, k', e2, g0, g1, g2, g3, g4, g5, _⟩
    exact hno ⟨l, k', e1, e2, g0, g3, g4, g5⟩
theorem good_rdn {l : List Nat} {t : Nat} (hu : Up t 0 l) : rdn (wd l.length t) (loF t l) (hiF t l) 0 l.length 0 = l := by
  unfold hiF
  refine rdn_hp (fun x _ => Nat.zero_le _) (up_mono hu) (fun i x hx => ?_)
  rw [Nat.zero_add]
  exact lo_get hx
theorem good_uniq {l l' : List Nat} {n t w lw hw : Int} {lb hb : List Int} (g : Good l n t w lw lb hw hb) (g' : Good l' n t w lw lb hw hb) : l = l' := by
  obtain ⟨k, rfl, hk, a1, a2, a3, a4, a5, a6, a7, a8, a9⟩ := g
  obtain ⟨k', e, hk', b1, b2, b3, b4, b5, b6, b7, b8, b9⟩ := g'
  obtain rfl : k = k' := by omega
  have hlen : l.length = l'.length := by omega
  have e1 : loF k l = loF k l' := pk_inj (lo'_bit _ _) (lo'_bit _ _) (by omega) (by rw [← a7, ← b7])
  have e2 : hiF k l = hiF k l' := pk_inj (hp_bit _ _ _ _) (hp_bit _ _ _ _) (by omega) (by rw [← a9, ← b9])
  rw [← good_rdn a4, ← good_rdn b4, e1, e2, hlen]
theorem fread_cases {F : Nat} (hF : 20000 ≤ F) {n t w lw hw : Int} {lb hb : List Int} (ul : U8s lb) (uh : U8s hb) :
    (∃ l, Good l n t w lw lb hw hb ∧ M_R_FanoRead F n t w lw lb hw hb = some (lc l, 0)) ∨
    ((¬ ∃ l, Good l n t w lw lb hw hb) ∧ M_R_FanoRead F n t w lw lb hw hb = some ([], if Rg n t then 1 else 3)) := by
  unfold M_R_FanoRead
  rw [between_eq]
  simp only [Option.bind_some]
  by_cases hr1 : 0 ≤ n ∧ n ≤ 300
  rotate_left
  · right
    have hr : ¬ Rg n t := fun h => hr1 ⟨h.1, h.2.1⟩
    refine ⟨fun ⟨l, g⟩ => hr (good_rg g), ?_⟩
    rw [decide_eq_false hr1, if_neg hr]; rfl
  rw [decide_eq_true hr1, if_neg (by decide), between_eq]
  simp only [Option.bind_some]
  by_cases hr2 : 0 ≤ t ∧ t ≤ 1048576
  rotate_left
  · right
    have hr : ¬ Rg n t := fun h => hr2 ⟨h.2.2.1, h.2.2.2⟩
    refine ⟨fun ⟨l, g⟩ => hr (good_rg g), ?_⟩
    rw [decide_eq_false hr2, if_neg hr]; rfl
  have hr : Rg n t := ⟨hr1.1, hr1.2, hr2.1, hr2.2⟩
  rw [decide_eq_true hr2, if_pos hr]
  unfold M_R_FanoRead_j2
  rw [if_neg (by decide), bitsCheck_eq hF ul]
  simp only [Option.bind_some]
  obtain ⟨n, rfl⟩ := Int.eq_ofNat_of_zero_le hr1.1
  obtain ⟨t, rfl⟩ := Int.eq_ofNat_of_zero_le hr2.1
  have hn : n ≤ 300 := by omega
  have ht : t ≤ 1048576 := by omega
  have hbad : M_R_FanoRead_j5 F (n : Int) (t : Int) w lw lb hw hb true = some ([], 1) := rfl
  rcases chk_form ul (n := lw) with h1 | ⟨L, hL, hLm, rfl, rfl⟩
  · right
    refine ⟨?_, by rw [if_pos (by simpa using h1), hbad]⟩
    rintro ⟨l, k, e, hk, e2, _, g1, g2, g3, rfl, rfl, _⟩
    exact h1 (chk_pk (by rw [loF_len]; exact g3.1))
  rw [chk_pk hLm, if_neg (by simp), bitsCheck_eq hF uh]
  simp only [Option.bind_some]
  rcases chk_form uh (n := hw) with h1 | ⟨H, hH, hHm, rfl, rfl⟩
  · right
    refine ⟨?_, by rw [show ((chkOf hw hb != 0) = true) from by simpa using h1, hbad]⟩
    rintro ⟨l, k, e, hk, e2, _, g1, g2, g3, _, _, rfl, rfl⟩
    exact h1 (chk_pk (by rw [hiF_len g2]; exact g3.2))
  rw [chk_pk hHm, show (((0 : Int) != 0) = false) from rfl]
  unfold M_R_FanoRead_j5
  rw [if_neg (by decide), between_eq]
  simp only [Option.bind_some]
  by_cases hw1 : 0 ≤ w ∧ w ≤ 21
  rotate_left
  · right
    refine ⟨?_, by rw [decide_eq_false hw1]; rfl⟩
    rintro ⟨l, k, e, hk, e2, e3, _⟩
    have := wd_20 (n := l.length) hk
    exact hw1 ⟨by omega, by omega⟩
  obtain ⟨w, rfl⟩ := Int.eq_ofNat_of_zero_le hw1.1
  have hw21 : w ≤ 21 := by omega
  have hnw : n * w ≤ 300 * 21 := Nat.mul_le_mul hn hw21
  rw [decide_eq_true hw1]
  unfold M_R_FanoRead_j6
  rw [imul_n (by omega)]
  by_cases hl1 : L.length = n * w
  rotate_left
  · right
    refine ⟨?_, by rw [if_pos (by simp only [Bool.not_true, Bool.false_or]; rw [bne_iff_ne]; omega)]⟩
    rintro ⟨l, k, e1, hk, e2, e3, w1, w2, w3, w4, _⟩
    obtain rfl : t = k := by omega
    obtain rfl : n = l.length := by omega
    obtain rfl : w = wd l.length t := by omega
    rw [loF_len] at w4
    exact hl1 (by omega)
  have hup := pk_small hHm
  rw [if_neg (by rw [hl1]; simp), bitList_eq hF uh (by rw [pk_len]; omega) (by omega), bitList_eq hF ul (by rw [pk_len]; omega) (by omega), bl_pk hH, bl_pk hL]
  simp only [Option.bind_some]
  have hfr := frd_l (F := F) (n := n) (w := w) (t := (t : Int)) (lw := (L.length : Int)) (hw := (H.length : Int)) (lb := pk L) (hb := pk H) hF hH hHm hL hw21 hn hl1.symm F 0 0 [] (by omega) (by omega) (by omega) (by simp)
  rw [List.drop_zero, List.nil_append, show ((0 : Nat) : Int) = 0 from rfl, List.length_nil, Nat.sub_zero] at hfr
  rw [hfr]
  have hpl := pk_small hLm
  rcases rj29 (F := F) hF (n := (n : Int)) (t := (t : Int)) (w := (w : Int)) (lw := (L.length : Int)) (hw := (H.length : Int)) (lb := pk L) (hb := pk H) (out := lc (rdn w L H 0 n 0)) (by omega) (by omega) with ⟨l, e, g, r⟩ | ⟨hno, r⟩
  · left
    exact ⟨l, g, by rw [r, e]⟩
  · right
    refine ⟨?_, r⟩
    rintro ⟨l, g⟩
    have g0 := g
    obtain ⟨k, e1, hk, e2, e3, w1, w2, w3, w4, w5, w6, w7⟩ := g
    obtain rfl : t = k := by omega
    obtain rfl : n = l.length := by omega
    obtain rfl : w = wd l.length t := by omega
    have e4 : L = loF t l := pk_inj hL (lo'_bit _ _) (by omega) w5
    have e5 : H = hiF t l := pk_inj hH (hp_bit _ _ _ _) (by omega) w7
    apply hno
    refine ⟨l, ?_, g0⟩
    rw [e4, e5, good_rdn w2]
theorem begun_fano (n : Nat) : M_L_fanoBegun (n + 200) = some true := by kernel_rfl
theorem begun_fano' {F : Nat} (hF : 20000 ≤ F) : M_L_fanoBegun F = some true := by
  obtain ⟨n, rfl⟩ : ∃ n, F = n + 200 := ⟨F - 200, by omega⟩
  exact begun_fano n
theorem up_sort {t : Nat} : ∀ {l : List Nat} {a : Nat}, Up t a l → ∀ {i j x y : Nat}, i ≤ j → l[i]? = some x → l[j]? = some y → x ≤ y
  | [], _, _, i, j, x, y, _, h, _ => by simp at h
  | n :: l, a, h, 0, 0, x, y, _, hx, hy => by simp at hx hy; omega
  | n :: l, a, h, 0, j + 1, x, y, _, hx, hy => by
    simp at hx hy
    have := (up_le h.2.2 y (List.mem_of_getElem? hy)).1
    omega
  | n :: l, a, h, i + 1, 0, x, y, hij, _, _ => by omega
  | n :: l, a, h, i + 1, j + 1, x, y, hij, hx, hy => up_sort h.2.2 (i := i) (j := j) (by omega) (by simpa using hx) (by simpa using hy)
/-- The first place at which a list is at least so great. -/
def At (l : List Nat) (v : Int) (c : Nat) : Prop := c ≤ l.length ∧ (∀ (i x : Nat), i < c → l[i]? = some x → (x : Int) < v) ∧ (∀ (i x : Nat), c ≤ i → l[i]? = some x → v ≤ (x : Int))
theorem mid_n {a b : Nat} (h : a + b < 9223372036854775808) : iconv .i64 (ishr .u64 (iconv .u64 (iadd .i64 (a : Int) (b : Int))) 1) = (((a + b) / 2 : Nat) : Int) := by
  have h1 := ishr_n (n := a + b) (k := 1) (by omega)
  rw [show ((1 : Nat) : Int) = 1 from rfl, Nat.pow_one] at h1
  rw [iadd_n (by omega), iconv_u64_n (by omega), h1, iconv_i64_n (by omega)]
theorem isnan_eq {F : Nat} {x : Int} : M_slices_isNaN_int F x = some false := by simp [M_slices_isNaN_int]
theorem less_eq {F : Nat} {x y : Int} : M_cmp_Less_int F x y = some (decide (x < y)) := by
  simp [M_cmp_Less_int, M_cmp_isNaN_int, M_cmp_Less_int_j1]
theorem bs_j2 {F : Nat} {l : List Nat} {v : Int} {c : Nat} : ∃ b, M_slices_BinarySearch_int_int_j2 F (lc l) v (c : Int) = some ((c : Int), b) := by
  unfold M_slices_BinarySearch_int_int_j2
  rw [lc_len]
  by_cases h : c < l.length
  · rw [if_pos (by simpa using h), idx_nat, lc_get h]
    simp only [Option.bind_some]
    by_cases h2 : ((l[c] : Nat) : Int) = v
    · rw [if_pos (by simpa using h2)]; exact ⟨_, rfl⟩
    · rw [if_neg (by simpa using h2), isnan_eq]
      simp only [Option.bind_some]
      rw [if_neg (by decide)]; exact ⟨_, rfl⟩
  · rw [if_neg (by simpa using h)]; exact ⟨_, rfl⟩
theorem bs_l {F t : Nat} {l : List Nat} {v : Int} (hlm : l.length ≤ 300) (hu : Up t 0 l) : ∀ (k i j : Nat), j - i < k → i ≤ j → j ≤ l.length → (∀ (a x : Nat), a < i → l[a]? = some x → (x : Int) < v) → (∀ (a x : Nat), j ≤ a → l[a]? = some x → v ≤ (x : Int)) →
    ∃ c b, At l v c ∧ M_slices_BinarySearch_int_int_l10 F (lc l) v k ((i : Int), (j : Int)) = some ((c : Int), b)
  | 0, _, _, _, _, _, _, _ => by omega
  | k + 1, i, j, hk, hij, hj, h1, h2 => by
    have e : M_slices_BinarySearch_int_int_l10 F (lc l) v (k + 1) ((i : Int), (j : Int)) = M_slices_BinarySearch_int_int_b10 F (lc l) v (M_slices_BinarySearch_int_int_l10 F (lc l) v k) (i : Int) (j : Int) := rfl
    rw [e]
    unfold M_slices_BinarySearch_int_int_b10
    by_cases hlt : i < j
    · have hmid : (i + j) / 2 < l.length := by omega
      rw [if_pos (by simpa using hlt), mid_n (by omega)]
      simp only [lett]
      rw [idx_nat, lc_get hmid]
      simp only [Option.bind_some]
      rw [less_eq]
      simp only [Option.bind_some]
      have hg : l[(i + j) / 2]? = some l[(i + j) / 2] := List.getElem?_eq_getElem hmid
      by_cases hv : ((l[(i + j) / 2] : Nat) : Int) < v
      · rw [if_pos (by simpa using hv), iadd1_n (by omega)]
        refine bs_l hlm hu k _ _ (by omega) (by omega) hj (fun a x ha hx => ?_) h2
        have := up_sort hu (show a ≤ (i + j) / 2 by omega) hx hg
        omega
      · rw [if_neg (by simpa using hv)]
        refine bs_l hlm hu k _ _ (by omega) (by omega) (by omega) h1 (fun a x ha hx => ?_)
        have := up_sort hu ha hg hx
        omega
    · obtain rfl : i = j := by omega
      rw [if_neg (by simp)]
      obtain ⟨b, hb⟩ := bs_j2 (F := F) (l := l) (v := v) (c := i)
      exact ⟨i, b, ⟨hj, h1, h2⟩, hb⟩
theorem bs_eq {F t : Nat} (hF : 20000 ≤ F) {l : List Nat} {v : Int} (hlm : l.length ≤ 300) (hu : Up t 0 l) : ∃ c b, At l v c ∧ M_slices_BinarySearch_int_int F (lc l) v = some ((c : Int), b) := by
  unfold M_slices_BinarySearch_int_int
  rw [lc_len]
  exact bs_l hlm hu F 0 l.length (by omega) (by omega) (by omega) (fun a x h => by omega) (fun a x h hx => by
    rw [List.getElem?_eq_none (by omega)] at hx; simp at hx)
def nx (l : List Nat) (c : Nat) : Int × Int × Int := match l[c]? with | none => (0, 0, 5) | some x => ((c : Int), (x : Int), 0)
def gf (l : List Nat) (i : Int) : Int × Int := match (if 0 ≤ i then l[i.toNat]? else none) with | none => (0, 3) | some x => ((x : Int), 0)
structure Bd (lw : Int) (lb : List Int) (hw : Int) (hb : List Int) : Prop where
  ul : U8s lb
  uh : U8s hb
  il : I64 lw
  ih : I64 hw
  ll : lb.length ≤ 9223372036854775807
  lh : hb.length ≤ 9223372036854775807
theorem num_good (hF : 20000 ≤ F) (b : Bd lw lb hw hb) (g : Good l n t w lw lb hw hb) : M_fano_numbers F n t w lw lb hw hb = some (lc l, 0) := by
  rcases numbers_cases (F := F) (n := n) (t := t) (w := w) hF b.ul b.uh b.il b.ih b.ll b.lh with ⟨k, g', h⟩ | ⟨h, _⟩
  · rw [h, good_uniq g' g]
  · exact absurd ⟨l, g⟩ h
theorem num_bad (hF : 20000 ≤ F) (b : Bd lw lb hw hb) (g : ¬ ∃ l, Good l n t w lw lb hw hb) : M_fano_numbers F n t w lw lb hw hb = some ([], if Rg n t then 1 else 3) := by
  rcases numbers_cases (F := F) (n := n) (t := t) (w := w) hF b.ul b.uh b.il b.ih b.ll b.lh with ⟨k, g', h⟩ | ⟨_, h⟩
  · exact absurd ⟨k, g'⟩ g
  · exact h
theorem rd_good (hF : 20000 ≤ F) (b : Bd lw lb hw hb) (g : Good l n t w lw lb hw hb) : M_R_FanoRead F n t w lw lb hw hb = some (lc l, 0) := by
  rcases fread_cases (F := F) (n := n) (t := t) (w := w) (lw := lw) (hw := hw) hF b.ul b.uh with ⟨k, g', h⟩ | ⟨h, _⟩
  · rw [h, good_uniq g' g]
  · exact absurd ⟨l, g⟩ h
theorem rd_bad' (hF : 20000 ≤ F) (b : Bd lw lb hw hb) (g : ¬ ∃ l, Good l n t w lw lb hw hb) : M_R_FanoRead F n t w lw lb hw hb = some ([], if Rg n t then 1 else 3) := by
  rcases fread_cases (F := F) (n := n) (t := t) (w := w) (lw := lw) (hw := hw) hF b.ul b.uh with ⟨k, g', h⟩ | ⟨_, h⟩
  · exact absurd ⟨k, g'⟩ g
  · exact h
theorem chk_good (hF : 20000 ≤ F) (b : Bd lw lb hw hb) (g : Good l n t w lw lb hw hb) : M_fano_Check F n t w lw lb hw hb = some 0 := by
  unfold M_fano_Check; rw [num_good hF b g]; rfl
theorem chk_bad' (hF : 20000 ≤ F) (b : Bd lw lb hw hb) (g : ¬ ∃ l, Good l n t w lw lb hw hb) : M_fano_Check F n t w lw lb hw hb = some (if Rg n t then 1 else 3) := by
  unfold M_fano_Check; rw [num_bad hF b g]; rfl
theorem get_good (hF : 20000 ≤ F) (b : Bd lw lb hw hb) (g : Good l n t w lw lb hw hb) {i : Int} : M_fano_Get F n t w lw lb hw hb i = some (gf l i) := by
  unfold M_fano_Get
  rw [chk_good hF b g]
  simp only [Option.bind_some]
  rw [if_pos (by rfl)]
  obtain ⟨k, rfl, hk, rfl, rfl, w1, w2, w3, rfl, rfl, rfl, rfl⟩ := g
  unfold gf M_fano_Get_j3
  by_cases hi : 0 ≤ i ∧ i < (l.length : Int)
  · obtain ⟨i, rfl⟩ := Int.eq_ofNat_of_zero_le hi.1
    have hx : l[i]? = some l[i] := List.getElem?_eq_getElem (by omega)
    rw [if_neg (by simp; omega), if_pos hi.1, Int.toNat_natCast, hx]
    unfold M_fano_Get_j2
    rw [if_neg (by simp), fat_eq hF hk w1 w2 w3 hx]
    rfl
  · rw [if_pos (by simp; omega)]
    have : (if 0 ≤ i then l[i.toNat]? else none) = none := by
      by_cases h0 : 0 ≤ i
      · rw [if_pos h0, List.getElem?_eq_none (by omega)]
      · rw [if_neg h0]
    rw [this]; rfl
theorem get_bad (hF : 20000 ≤ F) (b : Bd lw lb hw hb) (g : ¬ ∃ l, Good l n t w lw lb hw hb) {i : Int} : M_fano_Get F n t w lw lb hw hb i = some (0, if Rg n t then 1 else 3) := by
  unfold M_fano_Get
  rw [chk_bad' hF b g]
  simp only [Option.bind_some]
  have h : (if Rg n t then (1 : Int) else 3) ≠ 0 := by split <;> decide
  rw [if_neg (by simpa using h)]
  unfold M_fano_Get_j3
  rw [if_neg (by decide)]
  unfold M_fano_Get_j2
  rw [if_pos (by simpa using h)]
theorem next_good (hF : 20000 ≤ F) (b : Bd lw lb hw hb) (g : Good l n t w lw lb hw hb) {v : Int} : ∃ c, At l v c ∧ M_fano_Next F n t w lw lb hw hb v = some (nx l c) := by
  unfold M_fano_Next
  rw [num_good hF b g]
  simp only [Option.bind_some]
  obtain ⟨k, rfl, hk, rfl, rfl, w1, w2, w3, rfl, rfl, rfl, rfl⟩ := g
  obtain ⟨c, q, ha, hb⟩ := bs_eq (F := F) (v := v) hF w1 w2
  refine ⟨c, ha, ?_⟩
  rw [if_neg (by simp), hb]
  simp only [Option.bind_some]
  rw [lc_len]
  have hc := ha.1
  unfold nx
  by_cases h : c < l.length
  · rw [if_neg (by simp; omega), idx_nat, lc_get h, List.getElem?_eq_getElem h]; rfl
  · rw [if_pos (by simp; omega), List.getElem?_eq_none (by omega)]
theorem next_bad (hF : 20000 ≤ F) (b : Bd lw lb hw hb) (g : ¬ ∃ l, Good l n t w lw lb hw hb) {v : Int} : M_fano_Next F n t w lw lb hw hb v = some (0, 0, if Rg n t then 1 else 3) := by
  unfold M_fano_Next
  rw [num_bad hF b g]
  simp only [Option.bind_some]
  have h : (if Rg n t then (1 : Int) else 3) ≠ 0 := by split <;> decide
  rw [if_pos (by simpa using h)]
theorem good_fo {k : Nat} (hk : k ≤ 1048576) (hm : l.length ≤ 300) (hu : Up k 0 l) (hf : Fits k l) : Good l (l.length : Int) (k : Int) ((wd l.length k : Nat) : Int) ((loF k l).length : Int) (pk (loF k l)) ((hiF k l).length : Int) (pk (hiF k l)) :=
  ⟨k, rfl, hk, rfl, rfl, hm, hu, hf, rfl, rfl, rfl, rfl⟩
theorem bd_fo {k : Nat} (hu : Up k 0 l) (hf : Fits k l) : Bd ((loF k l).length : Int) (pk (loF k l)) ((hiF k l).length : Int) (pk (hiF k l)) := by
  have hL : (loF k l).length ≤ 8192 := by rw [loF_len]; exact hf.1
  have hH : (hiF k l).length ≤ 8192 := by rw [hiF_len hu]; exact hf.2
  exact ⟨pk_u8 (lo'_bit _ _), pk_u8 (hp_bit _ _ _ _), ⟨by omega, by omega⟩, ⟨by omega, by omega⟩, pk_len9 hL, pk_len9 hH⟩
theorem fo_small {k : Nat} {l : List Nat} (hu : Up k 0 l) (hf : Fits k l) : (pk (loF k l)).length ≤ 2000 ∧ (pk (hiF k l)).length ≤ 2000 :=
  ⟨pk_small (by rw [loF_len]; exact hf.1), pk_small (by rw [hiF_len hu]; exact hf.2)⟩
theorem same_fo {F : Nat} (hF : 20000 ≤ F) {k : Nat} {l : List Nat} (hu : Up k 0 l) (hf : Fits k l) :
    M_R_SameFano F (l.length : Int) (k : Int) ((wd l.length k : Nat) : Int) ((loF k l).length : Int) (pk (loF k l)) ((hiF k l).length : Int) (pk (hiF k l)) (l.length : Int) (k : Int) ((wd l.length k : Nat) : Int) ((loF k l).length : Int) (pk (loF k l)) ((hiF k l).length : Int) (pk (hiF k l)) = some true := by
  have h := fo_small hu hf
  rw [sameFano_eq (by omega) (by omega) (by omega) (by omega), decide_eq_true ⟨rfl, rfl, rfl, rfl, rfl, rfl, rfl⟩]
theorem same_fz {F : Nat} (hF : 20000 ≤ F) : M_R_SameFano F 0 0 0 0 [] 0 [] 0 0 0 0 [] 0 [] = some true := by
  rw [sameFano_eq (by simp; omega) (by simp; omega) (by simp) (by simp), decide_eq_true ⟨rfl, rfl, rfl, rfl, rfl, rfl, rfl⟩]
theorem gf_in {l : List Nat} {i : Nat} (h : i < l.length) : gf l (i : Int) = (((l[i] : Nat) : Int), 0) := by
  unfold gf; rw [if_pos (by omega), Int.toNat_natCast, List.getElem?_eq_getElem h]
theorem gf_out {l : List Nat} {i : Int} (h : i < 0 ∨ (l.length : Int) ≤ i) : gf l i = (0, 3) := by
  unfold gf
  by_cases h0 : 0 ≤ i
  · rw [if_pos h0, List.getElem?_eq_none (by omega)]
  · rw [if_neg h0]
theorem law_fback {F : Nat} (h0 : 20000 ≤ F) {l1 : List Int} {t1 n t w lw hw : Int} {lb hb : List Int} (b : Bd lw lb hw hb) : M_L_FanoBack F l1 t1 n t w lw lb hw hb = some true := by
  have hj2 : ∀ x23, M_fano_numbers F n t w lw lb hw hb = some x23 → M_L_FanoBack_j2 F n t w lw lb hw hb x23 = some true := by
    intro x23 hx
    unfold M_L_FanoBack_j2
    by_cases g : ∃ l, Good l n t w lw lb hw hb
    · obtain ⟨l, g⟩ := g
      rw [num_good h0 b g] at hx
      obtain rfl := Option.some.inj hx
      rw [if_neg (show ¬ ((0 : Int) != 0) = true from by decide), fwrite_eq h0]
      simp only [Option.bind_some]
      obtain ⟨k, rfl, hk, rfl, rfl, w1, w2, w3, rfl, rfl, rfl, rfl⟩ := g
      rw [(fw_form hk w1 w2).2, if_pos w3, if_pos (show ((fo8 k l).2.2.2.2.2.2.2 == 0) = true from by simp [fo8])]
      simp only [fo8]
      rw [same_fo h0 w2 w3]; rfl
    · rw [num_bad h0 b g] at hx
      obtain rfl := Option.some.inj hx
      have h : (if Rg n t then (1 : Int) else 3) ≠ 0 := by split <;> decide
      rw [if_pos (show (((if Rg n t then (1 : Int) else 3)) != 0) = true from by simpa using h)]
      rfl
  unfold M_L_FanoBack M_fano_Read
  obtain ⟨x23, hx⟩ : ∃ x, M_fano_numbers F n t w lw lb hw hb = some x := by
    by_cases g : ∃ l, Good l n t w lw lb hw hb
    · obtain ⟨l, g⟩ := g; exact ⟨_, num_good h0 b g⟩
    · exact ⟨_, num_bad h0 b g⟩
  rw [fwrite_eq h0, hx]
  simp only [Option.bind_some]
  rw [begun_fano' h0]
  simp only [Option.bind_some]
  rw [if_neg (by decide)]
  rcases fw_cases (l := l1) (t := t1) with ⟨ns, k, rfl, rfl, hk, hm, hu, hf, e⟩ | ⟨e, he, hf, _⟩
  · rw [e, if_pos (show ((fo8 k ns).2.2.2.2.2.2.2 == 0) = true from by simp [fo8])]
    simp only [fo8]
    rw [num_good h0 (bd_fo hu hf) (good_fo hk hm hu hf)]
    simp only [Option.bind_some]
    rw [if_neg (by decide), same_ints (by rw [lc_len]; omega) (by rw [lc_len]; omega), decide_eq_true rfl]
    simp only [Option.bind_some, Bool.not_true]
    unfold M_L_FanoBack_j4
    rw [if_neg (by decide)]
    exact hj2 _ hx
  · rw [hf, if_neg (show ¬ ((fz8 e).2.2.2.2.2.2.2 == 0) = true from by simpa [fz8] using he)]
    exact hj2 _ hx
theorem ftells_j6 {F : Nat} (h0 : 20000 ≤ F) {l1 : List Int} {t1 n t w lw hw e2 : Int} {lb hb out : List Int} (hout : out.length ≤ 300) (hc : M_fano_Check F n t w lw lb hw hb = some e2) {x27 : Int × Int} {x28 : Int × Int × Int} {a b c d e : Int} :
    M_L_FanoTells_j6 F n t w lw lb hw hb (fw l1 t1) (out, e2) x27 x28 (fw l1 t1) (out, e2) a b c d e = some ((((((true && ((e2 : Int) == e2)) && ((x27.1 : Int) == c)) && ((x27.2 : Int) == a)) && ((x28.1 : Int) == d)) && ((x28.2.1 : Int) == e)) && ((x28.2.2 : Int) == b)) := by
  unfold M_L_FanoTells_j6
  rw [begun_fano' h0]
  simp only [Option.bind_some, if_true]
  have hs : M_R_SameFano F (fw l1 t1).1 (fw l1 t1).2.1 (fw l1 t1).2.2.1 (fw l1 t1).2.2.2.1 (fw l1 t1).2.2.2.2.1 (fw l1 t1).2.2.2.2.2.1 (fw l1 t1).2.2.2.2.2.2.1 (fw l1 t1).1 (fw l1 t1).2.1 (fw l1 t1).2.2.1 (fw l1 t1).2.2.2.1 (fw l1 t1).2.2.2.2.1 (fw l1 t1).2.2.2.2.2.1 (fw l1 t1).2.2.2.2.2.2.1 = some true := by
    rcases fw_cases (l := l1) (t := t1) with ⟨ns, k, rfl, rfl, hk, hm, hu, hf, e⟩ | ⟨e, he, hf, _⟩
    · rw [e]
      exact same_fo h0 hu hf
    · rw [hf]
      exact same_fz h0
  rw [hs]
  simp only [Option.bind_some]
  unfold M_L_FanoTells_j7
  rw [if_pos (by simp), hc]
  simp only [Option.bind_some]
  unfold M_L_FanoTells_j8
  rw [if_pos (by simp)]
  simp only
  rw [same_ints (by omega) (by omega), decide_eq_true rfl]
  rfl
def ns3 (l : List Nat) (c : Nat) : Int × Int × Int := match l[c]? with | none => (5, 0, 0) | some x => (0, (c : Int), (x : Int))
theorem ftells_l {F : Nat} {l1 : List Int} {t1 n t w lw hw v a b : Int} {lb hb : List Int} {x27 : Int × Int} {x28 : Int × Int × Int} {l : List Nat} {c : Nat} (hlm : l.length ≤ 300) (ha : At l v c) : ∀ (k i : Nat), i < k → i ≤ l.length →
    M_L_FanoTells_l13 F n t w lw lb hw hb v (fw l1 t1) (lc l, 0) x27 x28 (fw l1 t1) (lc l, 0) a b k ((ns3 l (max c i)).1, (ns3 l (max c i)).2.1, (ns3 l (max c i)).2.2, (i : Int) - 1) =
      M_L_FanoTells_j6 F n t w lw lb hw hb (fw l1 t1) (lc l, 0) x27 x28 (fw l1 t1) (lc l, 0) a (ns3 l c).1 b (ns3 l c).2.1 (ns3 l c).2.2
  | 0, _, _, _ => by omega
  | k + 1, i, hk, hi => by
    show M_L_FanoTells_b13 F n t w lw lb hw hb v (fw l1 t1) (lc l, 0) x27 x28 (fw l1 t1) (lc l, 0) a b (M_L_FanoTells_l13 F n t w lw lb hw hb v (fw l1 t1) (lc l, 0) x27 x28 (fw l1 t1) (lc l, 0) a b k) (ns3 l (max c i)).1 (ns3 l (max c i)).2.1 (ns3 l (max c i)).2.2 ((i : Int) - 1) = _
    unfold M_L_FanoTells_b13
    cases i with
    | zero =>
      rw [if_neg (by simp), Nat.max_eq_left (Nat.zero_le _)]
    | succ i =>
      have hlt : i < l.length := by omega
      have hg : l[i]? = some l[i] := List.getElem?_eq_getElem hlt
      have e1 : ((i + 1 : Nat) : Int) - 1 = (i : Int) := by omega
      have e2 : isub .i64 (i : Int) 1 = (i : Int) - 1 := by rw [isub_i64 (by omega) (by omega)]
      have ih := ftells_l (F := F) (l1 := l1) (t1 := t1) (n := n) (t := t) (w := w) (lw := lw) (hw := hw) (a := a) (b := b) (lb := lb) (hb := hb) (x27 := x27) (x28 := x28) hlm ha k i (by omega) (by omega)
      rw [e1, if_pos (by simp), idx_nat, lc_get hlt]
      simp only [Option.bind_some]
      by_cases hv : v ≤ ((l[i] : Nat) : Int)
      · have hci : c ≤ i := by
          by_cases h : c ≤ i
          · exact h
          · have := ha.2.1 i _ (by omega) hg; omega
        rw [if_pos (by simpa using hv)]
        unfold M_L_FanoTells_j14
        rw [e2, ← ih, Nat.max_eq_right hci]
        unfold ns3
        rw [hg]
      · have hci : i < c := by
          by_cases h : i < c
          · exact h
          · have := ha.2.2 i _ (by omega) hg; omega
        rw [if_neg (by simpa using hv)]
        unfold M_L_FanoTells_j14
        rw [e2, ← ih, Nat.max_eq_left (show i ≤ c by omega), Nat.max_eq_left (show i + 1 ≤ c by omega)]
theorem law_ftells {F : Nat} (h0 : 20000 ≤ F) {l1 : List Int} {t1 n t w lw hw v : Int} {lb hb : List Int} (b : Bd lw lb hw hb) : M_L_FanoTells F l1 t1 n t w lw lb hw hb v = some true := by
  unfold M_L_FanoTells M_fano_Read
  by_cases g : ∃ l, Good l n t w lw lb hw hb
  · obtain ⟨l, g⟩ := g
    obtain ⟨c, ha, hx⟩ := next_good (v := v) h0 b g
    have hg := get_good h0 b g (i := v)
    have hlm : l.length ≤ 300 := by obtain ⟨k, _, _, _, _, w1, _⟩ := g; exact w1
    have hj : ∀ x y, M_L_FanoTells_j10 F n t w lw lb hw hb v (fw l1 t1) (lc l, 0) (gf l v) (nx l c) (fw l1 t1) (lc l, 0) x y = some (((gf l v).1 == y) && ((gf l v).2 == x)) := by
      intro x y
      unfold M_L_FanoTells_j10
      have h1 := ftells_l (F := F) (l1 := l1) (t1 := t1) (n := n) (t := t) (w := w) (lw := lw) (hw := hw) (a := x) (b := y) (lb := lb) (hb := hb) (x27 := gf l v) (x28 := nx l c) hlm ha F l.length (by omega) (Nat.le_refl _)
      have e1 : isub .i64 ((lc l).length : Int) 1 = (l.length : Int) - 1 := by rw [lc_len, isub_i64 (by omega) (by omega)]
      have e2 : ns3 l (max c l.length) = (5, 0, 0) := by
        unfold ns3; rw [List.getElem?_eq_none (by omega)]
      rw [e2] at h1
      rw [e1]
      refine h1.trans ?_
      rw [ftells_j6 h0 (by rw [lc_len]; exact hlm) (chk_good h0 b g)]
      unfold ns3 nx
      cases l[c]? <;> simp
    rw [fwrite_eq h0, num_good h0 b g, fanoWrite_eq h0, rd_good h0 b g, hx, hg]
    simp only [Option.bind_some]
    rw [if_pos (by rfl)]
    rw [lc_len]
    by_cases hv : 0 ≤ v ∧ v < (l.length : Int)
    · obtain ⟨v, rfl⟩ := Int.eq_ofNat_of_zero_le hv.1
      have hlt : v < l.length := by omega
      rw [if_pos (by simp; omega), idx_nat, lc_get hlt]
      simp only [Option.bind_some]
      rw [hj, gf_in hlt]; simp
    · rw [if_neg (by simp; omega), hj, gf_out (by omega)]; simp
  · rw [fwrite_eq h0, num_bad h0 b g, fanoWrite_eq h0, rd_bad' h0 b g, next_bad h0 b g, get_bad h0 b g]
    simp only [Option.bind_some]
    have h : (if Rg n t then (1 : Int) else 3) ≠ 0 := by split <;> decide
    rw [if_neg (by simpa using h), ftells_j6 h0 (by simp) (chk_bad' h0 b g)]
    simp
end Go.Proofs.Ytecangnmnkejfaa
