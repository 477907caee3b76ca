/- Plain facts of what the functions of this seat compute. -/
import Derived.Test.YtaombidikooigaaModels
import Derived.KernelRfl
namespace Go.Proofs.Ytaombidikooigaa
open Go SX

/-! ### Bits and bytes -/
/-- The byte at place k of a list of bits. -/
def byt (l : List Int) (k : Nat) : Int :=
  l.getD (8 * k) 0 * 128 + l.getD (8 * k + 1) 0 * 64 + l.getD (8 * k + 2) 0 * 32 + l.getD (8 * k + 3) 0 * 16 + l.getD (8 * k + 4) 0 * 8 + l.getD (8 * k + 5) 0 * 4 + l.getD (8 * k + 6) 0 * 2 + l.getD (8 * k + 7) 0
def pk (l : List Int) : List Int := (List.range ((l.length + 7) / 8)).map (byt l)
def Bit (l : List Int) : Prop := ∀ x ∈ l, x = 0 ∨ x = 1
theorem Bit.getD {l : List Int} (h : Bit l) (i : Nat) : l.getD i 0 = 0 ∨ l.getD i 0 = 1 := by
  by_cases hi : i < l.length
  · have := h l[i] (List.getElem_mem hi)
    simpa [List.getD, hi] using this
  · left
    simp [List.getD, List.getElem?_eq_none (Nat.le_of_not_lt hi)]
theorem getD_ge {l : List Int} {i : Nat} (h : l.length ≤ i) : l.getD i 0 = 0 := by simp [List.getD, List.getElem?_eq_none h]
theorem getD_snoc (l : List Int) (x : Int) (i : Nat) : (l ++ [x]).getD i 0 = if i = l.length then x else l.getD i 0 := by
  by_cases h : i = l.length
  · subst h; simp [List.getD]
  · rw [if_neg h]
    by_cases h2 : i < l.length
    · simp [List.getD, List.getElem?_append_left h2]
    · rw [getD_ge (by simp; omega), getD_ge (by omega)]
theorem byt_range {l : List Int} (h : Bit l) (k : Nat) : 0 ≤ byt l k ∧ byt l k < 256 := by
  have h0 := h.getD (8 * k); have h1 := h.getD (8 * k + 1); have h2 := h.getD (8 * k + 2); have h3 := h.getD (8 * k + 3)
  have h4 := h.getD (8 * k + 4); have h5 := h.getD (8 * k + 5); have h6 := h.getD (8 * k + 6); have h7 := h.getD (8 * k + 7)
  unfold byt
  omega
theorem byt_snoc_other {l : List Int} {x : Int} {k : Nat} (h : k ≠ l.length / 8) : byt (l ++ [x]) k = byt l k := by
  unfold byt
  simp only [getD_snoc]
  rw [if_neg (by omega), if_neg (by omega), if_neg (by omega), if_neg (by omega), if_neg (by omega), if_neg (by omega), if_neg (by omega), if_neg (by omega)]
theorem pow7 : ∀ r : Fin 8, (2 : Int) ^ (7 - r.val) = [128, 64, 32, 16, 8, 4, 2, 1].getD r.val 0 := by decide
theorem byt_snoc_at {l : List Int} {x : Int} : byt (l ++ [x]) (l.length / 8) = byt l (l.length / 8) + x * 2 ^ (7 - l.length % 8) := by
  obtain ⟨k, hk⟩ : ∃ k, k = l.length / 8 := ⟨_, rfl⟩
  obtain ⟨r, hr⟩ : ∃ r, r = l.length % 8 := ⟨_, rfl⟩
  have hl : l.length = 8 * k + r := by omega
  have hr8 : r < 8 := by omega
  rw [← hk, ← hr]
  unfold byt
  simp only [getD_snoc, hl]
  have hg : ∀ j, r ≤ j → l.getD (8 * k + j) 0 = 0 := fun j hj => getD_ge (by omega)
  have g0 := hg 0; have g1 := hg 1; have g2 := hg 2; have g3 := hg 3; have g4 := hg 4; have g5 := hg 5; have g6 := hg 6; have g7 := hg 7
  rw [Nat.add_zero] at g0
  rcases (by omega : r = 0 ∨ r = 1 ∨ r = 2 ∨ r = 3 ∨ r = 4 ∨ r = 5 ∨ r = 6 ∨ r = 7) with rfl | rfl | rfl | rfl | rfl | rfl | rfl | rfl
  · rw [show (2 : Int) ^ (7 - 0) = 128 from by decide]
    rw [if_pos (by omega), if_neg (by omega), if_neg (by omega), if_neg (by omega), if_neg (by omega), if_neg (by omega), if_neg (by omega), if_neg (by omega)]
    have e0 := g0 (by omega)
    have e1 := g1 (by omega)
    have e2 := g2 (by omega)
    have e3 := g3 (by omega)
    have e4 := g4 (by omega)
    have e5 := g5 (by omega)
    have e6 := g6 (by omega)
    have e7 := g7 (by omega)
    omega
  · rw [show (2 : Int) ^ (7 - 1) = 64 from by decide]
    rw [if_neg (by omega), if_pos (by omega), if_neg (by omega), if_neg (by omega), if_neg (by omega), if_neg (by omega), if_neg (by omega), if_neg (by omega)]
    have e1 := g1 (by omega)
    have e2 := g2 (by omega)
    have e3 := g3 (by omega)
    have e4 := g4 (by omega)
    have e5 := g5 (by omega)
    have e6 := g6 (by omega)
    have e7 := g7 (by omega)
    omega
  · rw [show (2 : Int) ^ (7 - 2) = 32 from by decide]
    rw [if_neg (by omega), if_neg (by omega), if_pos (by omega), if_neg (by omega), if_neg (by omega), if_neg (by omega), if_neg (by omega), if_neg (by omega)]
    have e2 := g2 (by omega)
    have e3 := g3 (by omega)
    have e4 := g4 (by omega)
    have e5 := g5 (by omega)
    have e6 := g6 (by omega)
    have e7 := g7 (by omega)
    omega
  · rw [show (2 : Int) ^ (7 - 3) = 16 from by decide]
    rw [if_neg (by omega), if_neg (by omega), if_neg (by omega), if_pos (by omega), if_neg (by omega), if_neg (by omega), if_neg (by omega), if_neg (by omega)]
    have e3 := g3 (by omega)
    have e4 := g4 (by omega)
    have e5 := g5 (by omega)
    have e6 := g6 (by omega)
    have e7 := g7 (by omega)
    omega
  · rw [show (2 : Int) ^ (7 - 4) = 8 from by decide]
    rw [if_neg (by omega), if_neg (by omega), if_neg (by omega), if_neg (by omega), if_pos (by omega), if_neg (by omega), if_neg (by omega), if_neg (by omega)]
    have e4 := g4 (by omega)
    have e5 := g5 (by omega)
    have e6 := g6 (by omega)
    have e7 := g7 (by omega)
    omega
  · rw [show (2 : Int) ^ (7 - 5) = 4 from by decide]
    rw [if_neg (by omega), if_neg (by omega), if_neg (by omega), if_neg (by omega), if_neg (by omega), if_pos (by omega), if_neg (by omega), if_neg (by omega)]
    have e5 := g5 (by omega)
    have e6 := g6 (by omega)
    have e7 := g7 (by omega)
    omega
  · rw [show (2 : Int) ^ (7 - 6) = 2 from by decide]
    rw [if_neg (by omega), if_neg (by omega), if_neg (by omega), if_neg (by omega), if_neg (by omega), if_neg (by omega), if_pos (by omega), if_neg (by omega)]
    have e6 := g6 (by omega)
    have e7 := g7 (by omega)
    omega
  · rw [show (2 : Int) ^ (7 - 7) = 1 from by decide]
    rw [if_neg (by omega), if_neg (by omega), if_neg (by omega), if_neg (by omega), if_neg (by omega), if_neg (by omega), if_neg (by omega), if_pos (by omega)]
    have e7 := g7 (by omega)
    omega
end Go.Proofs.Ytaombidikooigaa

namespace Go.Proofs.Ytaombidikooigaa
open Go SX

theorem irem8 (n : Nat) : irem (n : Int) 8 = ((n % 8 : Nat) : Int) := by
  unfold irem; rw [Int.tmod_eq_emod_of_nonneg (by omega)]; omega
theorem iquo8 {n : Nat} (h : n ≤ 9223372036854775807) : iquo .i64 (n : Int) 8 = ((n / 8 : Nat) : Int) := by
  unfold iquo; rw [Int.tdiv_eq_ediv_of_nonneg (by omega), wrap_i64 (by omega) (by omega)]; omega
/-- A byte has nothing yet behind the last bit. -/
theorem byt_low {l : List Int} : byt l (l.length / 8) % 2 ^ (8 - l.length % 8) = 0 := by
  obtain ⟨k, hk⟩ : ∃ k, k = l.length / 8 := ⟨_, rfl⟩
  obtain ⟨r, hr⟩ : ∃ r, r = l.length % 8 := ⟨_, rfl⟩
  have hl : l.length = 8 * k + r := by omega
  have hr8 : r < 8 := by omega
  rw [← hk, ← hr]
  unfold byt
  have hg : ∀ j, r ≤ j → l.getD (8 * k + j) 0 = 0 := fun j hj => getD_ge (by omega)
  have g0 := hg 0; have g1 := hg 1; have g2 := hg 2; have g3 := hg 3; have g4 := hg 4; have g5 := hg 5; have g6 := hg 6; have g7 := hg 7
  rw [Nat.add_zero] at g0
  rcases (by omega : r = 0 ∨ r = 1 ∨ r = 2 ∨ r = 3 ∨ r = 4 ∨ r = 5 ∨ r = 6 ∨ r = 7) with rfl | rfl | rfl | rfl | rfl | rfl | rfl | rfl
  · have e0 := g0 (by omega); have e1 := g1 (by omega); have e2 := g2 (by omega); have e3 := g3 (by omega); have e4 := g4 (by omega); have e5 := g5 (by omega); have e6 := g6 (by omega); have e7 := g7 (by omega)
    rw [show (2 : Int) ^ (8 - 0) = 256 from by decide]; omega
  · have e1 := g1 (by omega); have e2 := g2 (by omega); have e3 := g3 (by omega); have e4 := g4 (by omega); have e5 := g5 (by omega); have e6 := g6 (by omega); have e7 := g7 (by omega)
    rw [show (2 : Int) ^ (8 - 1) = 128 from by decide]; omega
  · have e2 := g2 (by omega); have e3 := g3 (by omega); have e4 := g4 (by omega); have e5 := g5 (by omega); have e6 := g6 (by omega); have e7 := g7 (by omega)
    rw [show (2 : Int) ^ (8 - 2) = 64 from by decide]; omega
  · have e3 := g3 (by omega); have e4 := g4 (by omega); have e5 := g5 (by omega); have e6 := g6 (by omega); have e7 := g7 (by omega)
    rw [show (2 : Int) ^ (8 - 3) = 32 from by decide]; omega
  · have e4 := g4 (by omega); have e5 := g5 (by omega); have e6 := g6 (by omega); have e7 := g7 (by omega)
    rw [show (2 : Int) ^ (8 - 4) = 16 from by decide]; omega
  · have e5 := g5 (by omega); have e6 := g6 (by omega); have e7 := g7 (by omega)
    rw [show (2 : Int) ^ (8 - 5) = 8 from by decide]; omega
  · have e6 := g6 (by omega); have e7 := g7 (by omega)
    rw [show (2 : Int) ^ (8 - 6) = 4 from by decide]; omega
  · have e7 := g7 (by omega)
    rw [show (2 : Int) ^ (8 - 7) = 2 from by decide]; omega
theorem byt_end {l : List Int} (h : l.length % 8 = 0) : byt l (l.length / 8) = 0 := by
  unfold byt
  rw [getD_ge (by omega), getD_ge (by omega), getD_ge (by omega), getD_ge (by omega), getD_ge (by omega), getD_ge (by omega), getD_ge (by omega), getD_ge (by omega)]
  rfl
theorem ior_comm (k : IntKind) (a b : Int) : ior k a b = ior k b a := by unfold ior; rw [BitVec.or_comm]
/-- The room for one more bit. -/
def room (l : List Int) : List Int := (List.range (l.length / 8 + 1)).map (byt l)
theorem room_j1 {F : Nat} {l : List Int} (hl : Bit l) {x : Int} (hx : x = 0 ∨ x = 1) (hn : l.length ≤ 1000000) : M_bits_writer_bit_j1 F (l.length : Int) x (room l) = some (((l.length + 1 : Nat) : Int), pk (l ++ [x])) := by
  unfold M_bits_writer_bit_j1
  rw [iquo8 (by omega), irem8]
  have hg : (room l)[l.length / 8]? = some (byt l (l.length / 8)) := by simp [room]
  rw [idx_nat, hg]
  simp only [Option.bind_some]
  have hc : decide ((0 : Int) ≤ ((l.length % 8 : Nat) : Int)) = true := decide_eq_true (by omega)
  rw [hc]
  simp only [chk, if_true, lett, Int.toNat_natCast]
  have hb := byt_range hl (l.length / 8)
  have hr8 : l.length % 8 < 8 := Nat.mod_lt _ (by decide)
  have e1 : ishl .u64 x 7 = x * 128 := by
    have := ishl_u64 (a := x) (m := 7) (by decide)
    rw [show ((7 : Nat) : Int) = 7 from rfl] at this
    rw [this]
    rcases hx with rfl | rfl <;> decide
  have e2 : iconv .u8 (x * 128) = x * 128 := wrap_u8 (by omega) (by omega)
  have e3 : ishr .u8 (x * 128) ((l.length % 8 : Nat) : Int) = x * 2 ^ (7 - l.length % 8) := by
    rw [ishr_eq (by simp only [IntKind.bits]; omega)]
    have key : ∀ r : Fin 8, ((0 : Int) * 128 / 2 ^ r.val = 0 * 2 ^ (7 - r.val)) ∧ ((1 : Int) * 128 / 2 ^ r.val = 1 * 2 ^ (7 - r.val)) := by decide
    have := key ⟨l.length % 8, hr8⟩
    rcases hx with rfl | rfl
    · exact this.1
    · exact this.2
  have key2 : ∀ r : Fin 8, (1 : Int) ≤ 2 ^ (7 - r.val) ∧ (2 : Int) ^ (8 - r.val) = 2 * 2 ^ (7 - r.val) ∧ (2 : Int) ^ (7 - r.val) ≤ 128 ∧ (256 : Int) % 2 ^ (8 - r.val) = 0 ∧ (2 : Int) ^ (8 - r.val) ≤ 256 := by decide
  have hk2 := key2 ⟨l.length % 8, hr8⟩
  simp only at hk2
  have hat := byt_snoc_at (l := l) (x := x)
  have hb2 : Bit (l ++ [x]) := by
    intro y hy
    rcases List.mem_append.1 hy with h | h
    · exact hl y h
    · simp at h; subst h; exact hx
  have hbb := byt_range hb2 (l.length / 8)
  have e4 : ior .u8 (byt l (l.length / 8)) (x * 2 ^ (7 - l.length % 8)) = byt (l ++ [x]) (l.length / 8) := by
    rw [ior_comm, ior_add (m := 8 - l.length % 8) ?_ ?_ hb.1 byt_low rfl ?_]
    · rw [hat]; omega
    · rcases hx with rfl | rfl <;> omega
    · rcases hx with rfl | rfl <;> omega
    · simp only [IntKind.bits]
      rw [show (2 : Int) ^ 8 = 256 from by decide]
      omega
  rw [e1, e2, e3, e4, iadd_i64 (by omega) (by omega)]
  congr 2
  unfold room pk
  have hlen : ((l ++ [x]).length + 7) / 8 = l.length / 8 + 1 := by simp; omega
  rw [hlen]
  apply List.ext_getElem?
  intro k
  rw [List.getElem?_set]
  by_cases hk : l.length / 8 = k
  · subst hk; simp
  · rw [if_neg hk]
    simp only [List.getElem?_map]
    by_cases h3 : k < l.length / 8 + 1
    · rw [List.getElem?_range h3]
      simp only [Option.map_some]
      rw [byt_snoc_other (fun e => hk e.symm)]
    · rw [List.getElem?_eq_none (by simpa using h3)]
      rfl
theorem bit_eq {F : Nat} {l : List Int} (hl : Bit l) {x : Int} (hx : x = 0 ∨ x = 1) (hn : l.length ≤ 1000000) : M_bits_writer_bit F (l.length : Int) (pk l) x = some (((l.length + 1 : Nat) : Int), pk (l ++ [x])) := by
  unfold M_bits_writer_bit
  rw [irem8]
  by_cases h : l.length % 8 = 0
  · have h1 : ((((l.length % 8 : Nat) : Int) : Int) == 0) = true := by simp [h]
    simp only [h1, if_true]
    rw [app_eq (by simp [pk]; omega)]
    simp only [Option.bind_some]
    have : pk l ++ [0] = room l := by
      unfold pk room
      rw [show (l.length + 7) / 8 = l.length / 8 from by omega, List.range_succ, List.map_append]
      simp [byt_end h]
    rw [this]
    exact room_j1 hl hx hn
  · have h1 : ((((l.length % 8 : Nat) : Int) : Int) == 0) = false := by simp; omega
    simp only [h1, Bool.false_eq_true, if_false]
    have : pk l = room l := by
      unfold pk room
      rw [show (l.length + 7) / 8 = l.length / 8 + 1 from by omega]
    rw [this]
    exact room_j1 hl hx hn
end Go.Proofs.Ytaombidikooigaa

namespace Go.Proofs.Ytaombidikooigaa
open Go SX

/-! ### The bits of bytes -/
def bitAt (b : List Int) (i : Nat) : Int := b.getD (i / 8) 0 / 2 ^ (7 - i % 8) % 2
def bl (b : List Int) (n : Nat) : List Int := (List.range n).map (bitAt b)
theorem bitAt_bit (b : List Int) (i : Nat) : bitAt b i = 0 ∨ bitAt b i = 1 := by unfold bitAt; omega
theorem bl_bit (b : List Int) (n : Nat) : Bit (bl b n) := by
  intro x hx
  obtain ⟨i, _, rfl⟩ := List.mem_map.1 hx
  exact bitAt_bit b i
theorem bl_len (b : List Int) (n : Nat) : (bl b n).length = n := by simp [bl]
def U8s (l : List Int) : Prop := ∀ n ∈ l, 0 ≤ n ∧ n < 256
theorem at_eq {F : Nat} {n : Int} {b : List Int} (hb : U8s b) {i : Nat} (hi : i / 8 < b.length) (hm : i ≤ 1000000) : M_bits_At F n b (i : Int) = some (bitAt b i) := by
  unfold M_bits_At
  rw [iquo8 (by omega), irem8, idx_nat]
  have hg : b[i / 8]? = some b[i / 8] := by simp [hi]
  rw [hg]
  simp only [Option.bind_some]
  have e1 : isub .i64 7 ((i % 8 : Nat) : Int) = ((7 - i % 8 : Nat) : Int) := by rw [isub_i64 (by omega) (by omega)]; omega
  rw [e1]
  have hc : decide ((0 : Int) ≤ ((7 - i % 8 : Nat) : Int)) = true := decide_eq_true (by omega)
  rw [hc]
  simp only [chk, if_true, lett]
  have hx := hb b[i / 8] (List.getElem_mem hi)
  rw [ishr_eq (by simp only [IntKind.bits]; omega)]
  have hp : (1 : Int) ≤ 2 ^ (7 - i % 8) := by
    have key : ∀ r : Fin 8, (1 : Int) ≤ 2 ^ (7 - r.val) := by decide
    exact key ⟨i % 8, Nat.mod_lt _ (by decide)⟩
  have h1 : 0 ≤ b[i / 8] / 2 ^ (7 - i % 8) := Int.ediv_nonneg hx.1 (by omega)
  have h2 : b[i / 8] / 2 ^ (7 - i % 8) ≤ b[i / 8] := Int.ediv_le_self _ hx.1
  have e2 : iconv .u64 (b[i / 8] / 2 ^ (7 - i % 8)) = b[i / 8] / 2 ^ (7 - i % 8) := wrap_u64 h1 (by omega)
  rw [e2]
  have e3 := iand_mask (k := .u64) (a := b[i / 8] / 2 ^ (7 - i % 8)) (m := 1) h1 (by simp only [IntKind.bits]; rw [show (2 : Int) ^ 64 = 18446744073709551616 from by decide]; omega) (by decide) rfl
  rw [show ((2 ^ 1 - 1 : Nat) : Int) = 1 from rfl, show (2 : Int) ^ 1 = 2 from rfl] at e3
  rw [e3]
  unfold bitAt
  simp [List.getD, hg]
theorem bl_succ (b : List Int) (n : Nat) : bl b (n + 1) = bl b n ++ [bitAt b n] := by simp [bl, List.range_succ]
/-- All places, one behind the other, written behind what is there. -/
theorem places_l {F : Nat} {n : Int} {b : List Int} (hb : U8s b) {yy : (Int × List Int) → Int → Option ((Int × List Int) ⊕ Empty)} (hy : ∀ (l : List Int) x, Bit l → (x = 0 ∨ x = 1) → l.length ≤ 100000 → yy ((l.length : Int), pk l) x = some (.inl (((l.length + 1 : Nat) : Int), pk (l ++ [x])))) {to : Nat} (ht : to ≤ 8 * b.length) (hm : to ≤ 10000) :
    ∀ (k i : Nat) (l : List Int), to < k + i → i ≤ to → Bit l → l.length + (to - i) ≤ 100000 →
      M_bits_places_1_l1 F yy (to : Int) n b k ((i : Int), ((l.length : Int), pk l)) = some (.inl (((l.length + (to - i) : Nat) : Int), pk (l ++ (bl b to).drop i)))
  | 0, i, l, h, hi, _, _ => by omega
  | k + 1, i, l, h, hi, hl, hc => by
    have hstep : M_bits_places_1_l1 F yy (to : Int) n b (k + 1) ((i : Int), ((l.length : Int), pk l)) = M_bits_places_1_b1 F yy (to : Int) n b (M_bits_places_1_l1 F yy (to : Int) n b k) (i : Int) ((l.length : Int), pk l) := rfl
    rw [hstep]
    unfold M_bits_places_1_b1
    by_cases hlt : i < to
    · have h1 : (i : Int) < (to : Int) := by omega
      simp only [h1, decide_true, if_true]
      rw [at_eq hb (by omega) (by omega)]
      simp only [Option.bind_some]
      have hx := bitAt_bit b i
      rw [hy l _ hl hx (by omega)]
      simp only [Option.bind_some, Sum.elim_inl]
      rw [iadd_i64 (by omega) (by omega), show (i : Int) + 1 = ((i + 1 : Nat) : Int) from by omega]
      have hl2 : Bit (l ++ [bitAt b i]) := by
        intro y hy2
        rcases List.mem_append.1 hy2 with h | h
        · exact hl y h
        · simp at h; subst h; exact hx
      have := places_l (F := F) (n := n) hb hy ht hm k (i + 1) (l ++ [bitAt b i]) (by omega) (by omega) hl2 (by simp; omega)
      rw [show (l ++ [bitAt b i]).length = l.length + 1 from by simp] at this
      rw [this]
      have hd : (bl b to).drop i = bitAt b i :: (bl b to).drop (i + 1) := by
        rw [List.drop_eq_getElem_cons (by rw [bl_len]; exact hlt)]
        congr 1
        simp [bl]
      rw [hd, List.append_assoc, show l.length + 1 + (to - (i + 1)) = l.length + (to - i) from by omega]
      rfl
    · have h1 : ¬ (i : Int) < (to : Int) := by omega
      simp only [h1, decide_false, Bool.false_eq_true, if_false]
      rw [List.drop_eq_nil_of_le (by rw [bl_len]; omega), List.append_nil, show l.length + (to - i) = l.length from by omega]
end Go.Proofs.Ytaombidikooigaa

namespace Go.Proofs.Ytaombidikooigaa
open Go SX

/-! ### Bits as they must be -/
structure Ok (n : Nat) (b : List Int) : Prop where
  max : n ≤ 8192
  len : b.length = (n + 7) / 8
  low : n % 8 ≠ 0 → b.getD (n / 8) 0 % 2 ^ (8 - n % 8) = 0
theorem bl_getD {b : List Int} {n i : Nat} : (bl b n).getD i 0 = if i < n then bitAt b i else 0 := by
  by_cases h : i < n
  · rw [if_pos h]; simp [bl, List.getD, h]
  · rw [if_neg h]; exact getD_ge (by rw [bl_len]; omega)
theorem bits8 {x : Int} (h0 : 0 ≤ x) (h1 : x < 256) : x / 128 % 2 * 128 + x / 64 % 2 * 64 + x / 32 % 2 * 32 + x / 16 % 2 * 16 + x / 8 % 2 * 8 + x / 4 % 2 * 4 + x / 2 % 2 * 2 + x / 1 % 2 = x := by omega
theorem bitAt_8 (b : List Int) (k : Nat) : bitAt b (8 * k) = b.getD k 0 / 128 % 2 ∧ bitAt b (8 * k + 1) = b.getD k 0 / 64 % 2 ∧ bitAt b (8 * k + 2) = b.getD k 0 / 32 % 2 ∧ bitAt b (8 * k + 3) = b.getD k 0 / 16 % 2 ∧
    bitAt b (8 * k + 4) = b.getD k 0 / 8 % 2 ∧ bitAt b (8 * k + 5) = b.getD k 0 / 4 % 2 ∧ bitAt b (8 * k + 6) = b.getD k 0 / 2 % 2 ∧ bitAt b (8 * k + 7) = b.getD k 0 / 1 % 2 := by
  unfold bitAt
  rw [show 8 * k / 8 = k from by omega, show (8 * k + 1) / 8 = k from by omega, show (8 * k + 2) / 8 = k from by omega, show (8 * k + 3) / 8 = k from by omega, show (8 * k + 4) / 8 = k from by omega, show (8 * k + 5) / 8 = k from by omega, show (8 * k + 6) / 8 = k from by omega, show (8 * k + 7) / 8 = k from by omega,
    show 8 * k % 8 = 0 from by omega, show (8 * k + 1) % 8 = 1 from by omega, show (8 * k + 2) % 8 = 2 from by omega, show (8 * k + 3) % 8 = 3 from by omega, show (8 * k + 4) % 8 = 4 from by omega, show (8 * k + 5) % 8 = 5 from by omega, show (8 * k + 6) % 8 = 6 from by omega, show (8 * k + 7) % 8 = 7 from by omega]
  exact ⟨rfl, rfl, rfl, rfl, rfl, rfl, rfl, rfl⟩
theorem byt_bl {n : Nat} {b : List Int} (hb : U8s b) (h : Ok n b) {k : Nat} (hk : k < (n + 7) / 8) : byt (bl b n) k = b.getD k 0 := by
  have hx : 0 ≤ b.getD k 0 ∧ b.getD k 0 < 256 := by
    have hlt : k < b.length := by rw [h.len]; exact hk
    have := hb b[k] (List.getElem_mem hlt)
    simpa [List.getD, hlt] using this
  obtain ⟨c0, c1, c2, c3, c4, c5, c6, c7⟩ := bitAt_8 b k
  unfold byt
  simp only [bl_getD]
  rw [c0, c1, c2, c3, c4, c5, c6, c7]
  by_cases hf : 8 * k + 8 ≤ n
  · rw [if_pos (by omega), if_pos (by omega), if_pos (by omega), if_pos (by omega), if_pos (by omega), if_pos (by omega), if_pos (by omega), if_pos (by omega)]
    exact bits8 hx.1 hx.2
  · have hkn : n / 8 = k := by omega
    obtain ⟨r, hr⟩ : ∃ r, r = n % 8 := ⟨_, rfl⟩
    have hn : n = 8 * k + r := by omega
    have hlow := h.low (by omega)
    rw [hkn, ← hr] at hlow
    generalize b.getD k 0 = x at hx hlow
    rcases (by omega : r = 1 ∨ r = 2 ∨ r = 3 ∨ r = 4 ∨ r = 5 ∨ r = 6 ∨ r = 7) with rfl | rfl | rfl | rfl | rfl | rfl | rfl
    · rw [if_pos (by omega), if_neg (by omega), if_neg (by omega), if_neg (by omega), if_neg (by omega), if_neg (by omega), if_neg (by omega), if_neg (by omega)]
      rw [show (2 : Int) ^ (8 - 1) = 128 from by decide] at hlow
      omega
    · rw [if_pos (by omega), if_pos (by omega), if_neg (by omega), if_neg (by omega), if_neg (by omega), if_neg (by omega), if_neg (by omega), if_neg (by omega)]
      rw [show (2 : Int) ^ (8 - 2) = 64 from by decide] at hlow
      omega
    · rw [if_pos (by omega), if_pos (by omega), if_pos (by omega), if_neg (by omega), if_neg (by omega), if_neg (by omega), if_neg (by omega), if_neg (by omega)]
      rw [show (2 : Int) ^ (8 - 3) = 32 from by decide] at hlow
      omega
    · rw [if_pos (by omega), if_pos (by omega), if_pos (by omega), if_pos (by omega), if_neg (by omega), if_neg (by omega), if_neg (by omega), if_neg (by omega)]
      rw [show (2 : Int) ^ (8 - 4) = 16 from by decide] at hlow
      omega
    · rw [if_pos (by omega), if_pos (by omega), if_pos (by omega), if_pos (by omega), if_pos (by omega), if_neg (by omega), if_neg (by omega), if_neg (by omega)]
      rw [show (2 : Int) ^ (8 - 5) = 8 from by decide] at hlow
      omega
    · rw [if_pos (by omega), if_pos (by omega), if_pos (by omega), if_pos (by omega), if_pos (by omega), if_pos (by omega), if_neg (by omega), if_neg (by omega)]
      rw [show (2 : Int) ^ (8 - 6) = 4 from by decide] at hlow
      omega
    · rw [if_pos (by omega), if_pos (by omega), if_pos (by omega), if_pos (by omega), if_pos (by omega), if_pos (by omega), if_pos (by omega), if_neg (by omega)]
      rw [show (2 : Int) ^ (8 - 7) = 2 from by decide] at hlow
      omega
theorem pk_bl {n : Nat} {b : List Int} (hb : U8s b) (h : Ok n b) : pk (bl b n) = b := by
  unfold pk
  rw [bl_len]
  apply List.ext_getElem?
  intro k
  by_cases hk : k < (n + 7) / 8
  · rw [List.getElem?_map, List.getElem?_range hk]
    simp only [Option.map_some]
    rw [byt_bl hb h hk]
    have hlt : k < b.length := by rw [h.len]; exact hk
    simp [List.getD, hlt]
  · rw [List.getElem?_eq_none (by simpa using hk), List.getElem?_eq_none (by rw [h.len]; omega)]
end Go.Proofs.Ytaombidikooigaa

namespace Go.Proofs.Ytaombidikooigaa
open Go SX

/-- What 'Check' tells. -/
def chkOf (n : Int) (b : List Int) : Int :=
  if n < 0 ∨ 8192 < n then 3 else if (b.length : Int) ≠ (n + 7) / 8 then 1 else if n % 8 ≠ 0 ∧ b.getD (n.toNat / 8) 0 % 2 ^ (8 - n.toNat % 8) ≠ 0 then 1 else 0
theorem chkOf_ok {n : Int} {b : List Int} (h : chkOf n b = 0) : ∃ m : Nat, n = m ∧ Ok m b := by
  unfold chkOf at h
  split at h
  · simp at h
  · rename_i h1
    split at h
    · simp at h
    · rename_i h2
      split at h
      · simp at h
      · rename_i h3
        obtain ⟨m, rfl⟩ := Int.eq_ofNat_of_zero_le (show 0 ≤ n by omega)
        refine ⟨m, rfl, by omega, by omega, fun hm => ?_⟩
        simp only [Int.toNat_natCast] at h3
        by_cases hz : b.getD (m / 8) 0 % 2 ^ (8 - m % 8) = 0
        · exact hz
        · exact absurd ⟨by omega, hz⟩ h3
theorem check_eq {F : Nat} {n : Int} {b : List Int} (hb : U8s b) (h1 : -9223372036854775808 ≤ n) (h2 : n < 9223372036854775808) (hm : b.length ≤ 9223372036854775807) : M_bits_Check F n b = some (chkOf n b) := by
  unfold M_bits_Check chkOf
  by_cases c1 : n < 0 ∨ 8192 < n
  · have : (decide (n < 0) || decide (8192 < n)) = true := by simpa using c1
    rw [if_pos this, if_pos c1]
  · have : (decide (n < 0) || decide (8192 < n)) = false := by simpa using c1
    rw [this, if_neg c1]
    simp only [Bool.false_eq_true, if_false]
    obtain ⟨m, rfl⟩ := Int.eq_ofNat_of_zero_le (show 0 ≤ n by omega)
    have e1 : iquo .i64 (iadd .i64 (m : Int) 7) 8 = ((m : Int) + 7) / 8 := by
      rw [iadd_i64 (by omega) (by omega), show (m : Int) + 7 = ((m + 7 : Nat) : Int) from by omega, iquo8 (by omega)]
      omega
    rw [e1, irem8]
    by_cases c2 : (b.length : Int) ≠ ((m : Int) + 7) / 8
    · have : ((b.length : Int) != ((m : Int) + 7) / 8) = true := by simpa using c2
      rw [if_pos this, if_pos c2]
    · have : ((b.length : Int) != ((m : Int) + 7) / 8) = false := by simpa using c2
      rw [this, if_neg c2]
      simp only [Bool.false_eq_true, if_false]
      by_cases c3 : m % 8 = 0
      · have : ((((m % 8 : Nat) : Int)) != 0) = false := by simp [c3]
        have hn : ¬ ((m : Int) % 8 ≠ 0 ∧ b.getD ((m : Int).toNat / 8) 0 % 2 ^ (8 - (m : Int).toNat % 8) ≠ 0) := fun h => h.1 (by omega)
        rw [this, if_neg hn]
        simp [M_bits_Check_j2]
      · have : ((((m % 8 : Nat) : Int)) != 0) = true := by simp; omega
        rw [this]
        simp only [if_true]
        have hlen : b.length = m / 8 + 1 := by omega
        have e2 : isub .i64 (b.length : Int) 1 = ((m / 8 : Nat) : Int) := by rw [isub_i64 (by omega) (by omega)]; omega
        have hg : b[m / 8]? = some b[m / 8] := by simp [hlen]
        rw [e2, idx_nat, hg]
        simp only [Option.bind_some]
        have hc : decide ((0 : Int) ≤ ((m % 8 : Nat) : Int)) = true := decide_eq_true (by omega)
        rw [hc]
        simp only [chk, if_true]
        have hx := hb b[m / 8] (List.getElem_mem (by omega))
        have hgd : b.getD (m / 8) 0 = b[m / 8] := by simp [List.getD, hg]
        rw [Int.toNat_natCast, hgd]
        generalize b[m / 8] = x at hx
        have e3 : (ishl .u8 x ((m % 8 : Nat) : Int) != 0) = decide (x % 2 ^ (8 - m % 8) ≠ 0) := by
          have key : ishl .u8 x ((m % 8 : Nat) : Int) = (x * 2 ^ (m % 8)) % 256 := by
            unfold ishl
            have h : min (((m % 8 : Nat) : Int).toNat) (IntKind.bits .u8) = m % 8 := by simp [IntKind.bits]; omega
            rw [h, wrap_u8_mod]
          rw [key]
          rcases (by omega : m % 8 = 1 ∨ m % 8 = 2 ∨ m % 8 = 3 ∨ m % 8 = 4 ∨ m % 8 = 5 ∨ m % 8 = 6 ∨ m % 8 = 7) with h | h | h | h | h | h | h <;> rw [h]
          · rw [show (2 : Int) ^ 1 = 2 from rfl, show (2 : Int) ^ (8 - 1) = 128 from by decide]; by_cases hz : x % 128 = 0 <;> simp [hz] <;> omega
          · rw [show (2 : Int) ^ 2 = 4 from rfl, show (2 : Int) ^ (8 - 2) = 64 from by decide]; by_cases hz : x % 64 = 0 <;> simp [hz] <;> omega
          · rw [show (2 : Int) ^ 3 = 8 from rfl, show (2 : Int) ^ (8 - 3) = 32 from by decide]; by_cases hz : x % 32 = 0 <;> simp [hz] <;> omega
          · rw [show (2 : Int) ^ 4 = 16 from by decide]; try rw [show (2 : Int) ^ (8 - 4) = 16 from by decide]
            by_cases hz : x % 16 = 0 <;> simp [hz] <;> omega
          · rw [show (2 : Int) ^ 5 = 32 from by decide, show (2 : Int) ^ (8 - 5) = 8 from by decide]; by_cases hz : x % 8 = 0 <;> simp [hz] <;> omega
          · rw [show (2 : Int) ^ 6 = 64 from by decide, show (2 : Int) ^ (8 - 6) = 4 from by decide]; by_cases hz : x % 4 = 0 <;> simp [hz] <;> omega
          · rw [show (2 : Int) ^ 7 = 128 from by decide, show (2 : Int) ^ (8 - 7) = 2 from by decide]; by_cases hz : x % 2 = 0 <;> simp [hz] <;> omega
        rw [e3]
        unfold M_bits_Check_j2
        by_cases hz : x % 2 ^ (8 - m % 8) = 0
        · rw [if_neg (by simp [hz]), if_neg (by simp [hz])]
        · rw [if_pos (by simp [hz]), if_pos ⟨by omega, hz⟩]
end Go.Proofs.Ytaombidikooigaa

namespace Go.Proofs.Ytaombidikooigaa
open Go SX

theorem begun_bits (n : Nat) : M_L_bitsBegun (n + 200) = some true := by kernel_rfl
theorem clone_eq {F : Nat} {x : List Int} (h : x.length ≤ 1000000) : M_slices_Clone_byte_byte F x = some x := by
  unfold M_slices_Clone_byte_byte
  rw [app_eq (by simp; omega)]
  rfl
theorem own_eq {F : Nat} {n : Int} {b : List Int} (h : b.length ≤ 1000000) : M_bits_own F n b = some (n, b) := by
  unfold M_bits_own
  rw [clone_eq h]
  rfl
theorem both_eq {F : Nat} (hF : 20000 ≤ F) {n m : Nat} {a b : List Int} (ha : U8s a) (hb : U8s b) (oa : Ok n a) (ob : Ok m b) : M_bits_Both F n a m b = some (((n + m : Nat) : Int), pk (bl a n ++ bl b m)) := by
  unfold M_bits_Both
  have hal : a.length ≤ 1000000 := by rw [oa.len]; have := oa.max; omega
  rw [own_eq hal]
  simp only [Option.bind_some, M_bits_places, M_bits_places_1]
  have hm := ob.max
  have hn := oa.max
  have := places_l (F := F) (n := (m : Int)) hb (yy := fun (p : Int × List Int) (x53 : Int) => M_bits_Both_r2 F p.1 p.2 x53) (fun l x hl hx hlen => by
    simp only [M_bits_Both_r2]
    rw [bit_eq hl hx (by omega)]
    rfl) (to := m) (by rw [ob.len]; omega) (by omega) F 0 (bl a n) (by omega) (by omega) (bl_bit a n) (by rw [bl_len]; omega)
  rw [bl_len, pk_bl ha oa, List.drop_zero, Nat.sub_zero] at this
  rw [show ((0 : Nat) : Int) = 0 from rfl] at this
  have h2 : M_bits_places_1_l1 F (fun (x : Int × List Int) (x53 : Int) => match x with | (x45, x48) => M_bits_Both_r2 F x45 x48 x53) (m : Int) (m : Int) b F (0, ((n : Int), a)) = some (.inl (((n + m : Nat) : Int), pk (bl a n ++ bl b m))) := this
  rw [h2]
  rfl
end Go.Proofs.Ytaombidikooigaa

namespace Go.Proofs.Ytaombidikooigaa
open Go SX

def joinOf (n : Int) (a : List Int) (m : Int) (b : List Int) : Int :=
  if chkOf n a ≠ 0 then chkOf n a else if chkOf m b ≠ 0 then chkOf m b else if 8192 < n + m then 8 else 0
def jn (n : Int) (a : List Int) (m : Int) (b : List Int) : Int × List Int × Int :=
  if joinOf n a m b ≠ 0 then (0, [], joinOf n a m b) else (n + m, pk (bl a n.toNat ++ bl b m.toNat), 0)
def I64 (n : Int) : Prop := -9223372036854775808 ≤ n ∧ n < 9223372036854775808
theorem join_eq {F : Nat} (hF : 20000 ≤ F) {n m : Int} {a b : List Int} (ha : U8s a) (hb : U8s b) (hn : I64 n) (hm : I64 m) (la : a.length ≤ 9223372036854775807) (lb : b.length ≤ 9223372036854775807) : M_bits_Join F n a m b = some (jn n a m b) := by
  unfold M_bits_Join jn joinOf
  rw [check_eq ha hn.1 hn.2 la]
  simp only [Option.bind_some]
  by_cases h1 : chkOf n a = 0
  · obtain ⟨n', rfl, oa⟩ := chkOf_ok h1
    have hb1 : (chkOf (n' : Int) a == 0) = true := by simp [h1]
    rw [if_pos hb1, check_eq hb hm.1 hm.2 lb]
    simp only [Option.bind_some]
    unfold M_bits_Join_j1
    by_cases h2 : chkOf m b = 0
    · obtain ⟨m', rfl, ob⟩ := chkOf_ok h2
      have e1 : iadd .i64 (n' : Int) (m' : Int) = (n' : Int) + (m' : Int) := by
        have := oa.max; have := ob.max
        exact iadd_i64 (by omega) (by omega)
      rw [e1, h1, h2]
      by_cases h3 : (8192 : Int) < (n' : Int) + (m' : Int)
      · simp [h3, M_bits_Join_j2]
      · simp only [h3, beq_self_eq_true, decide_false, Bool.and_false, Bool.false_eq_true, if_false, ne_eq, not_true_eq_false, M_bits_Join_j2, bne_self_eq_false]
        rw [both_eq hF ha hb oa ob]
        simp
    · have hb2 : (chkOf m b == 0) = false := by simpa using h2
      have hb3 : (chkOf m b != 0) = true := by simpa using h2
      rw [hb2]
      simp only [Bool.false_and, Bool.false_eq_true, if_false, M_bits_Join_j2, hb3, if_true, h1, ne_eq, not_true_eq_false, h2, not_false_eq_true]
  · have hb1 : (chkOf n a == 0) = false := by simpa using h1
    have hb3 : (chkOf n a != 0) = true := by simpa using h1
    rw [hb1]
    simp only [Bool.false_eq_true, if_false, M_bits_Join_j1, hb1, Bool.false_and, M_bits_Join_j2, hb3, if_true, ne_eq, h1, not_false_eq_true]
def cutOf (n : Int) (b : List Int) (i j : Int) : Int := if chkOf n b ≠ 0 then chkOf n b else if i < 0 ∨ n < i ∨ j < i ∨ n < j then 3 else 0
def ct (n : Int) (b : List Int) (i j : Int) : Int × List Int × Int :=
  if cutOf n b i j ≠ 0 then (0, [], cutOf n b i j) else (j - i, pk ((bl b j.toNat).drop i.toNat), 0)
theorem cut_eq {F : Nat} (hF : 20000 ≤ F) {n i j : Int} {b : List Int} (hb : U8s b) (hn : I64 n) (lb : b.length ≤ 9223372036854775807) : M_bits_Cut F n b i j = some (ct n b i j) := by
  unfold M_bits_Cut ct cutOf
  rw [check_eq hb hn.1 hn.2 lb]
  simp only [Option.bind_some]
  by_cases h1 : chkOf n b = 0
  · obtain ⟨n', rfl, ob⟩ := chkOf_ok h1
    have hb1 : (chkOf (n' : Int) b == 0) = true := by simp [h1]
    rw [if_pos hb1]
    by_cases h2 : i < 0 ∨ (n' : Int) < i ∨ j < i ∨ (n' : Int) < j
    · have : ((((decide (i < 0)) || (decide ((n' : Int) < i))) || (decide (j < i))) || (decide ((n' : Int) < j))) = true := by
        simp only [Bool.or_eq_true, decide_eq_true_eq]; omega
      rw [this, if_pos h2]
      simp [M_bits_Cut_j5, M_bits_Cut_j2, h1]
    · have : ((((decide (i < 0)) || (decide ((n' : Int) < i))) || (decide (j < i))) || (decide ((n' : Int) < j))) = false := by
        rw [Bool.eq_false_iff]; intro h; apply h2; simp only [Bool.or_eq_true, decide_eq_true_eq] at h; omega
      rw [this, if_neg h2, h1]
      obtain ⟨i', rfl⟩ := Int.eq_ofNat_of_zero_le (show 0 ≤ i by omega)
      obtain ⟨j', rfl⟩ := Int.eq_ofNat_of_zero_le (show 0 ≤ j by omega)
      have hmx := ob.max
      have := places_l (F := F) (n := (n' : Int)) hb (yy := fun (p : Int × List Int) (x53 : Int) => M_bits_Cut_r4 F p.1 p.2 x53) (fun l x hl hx hlen => by
        simp only [M_bits_Cut_r4]
        rw [bit_eq hl hx (by omega)]
        rfl) (to := j') (by rw [ob.len]; omega) (by omega) F i' [] (by omega) (by omega) (by intro x hx; simp at hx) (by simp; omega)
      have h3 : M_bits_places_1_l1 F (fun (x : Int × List Int) (x59 : Int) => match x with | (x51, x54) => M_bits_Cut_r4 F x51 x54 x59) (j' : Int) (n' : Int) b F ((i' : Int), (0, ([] : List Int))) = some (.inl (((([] : List Int).length + (j' - i') : Nat) : Int), pk ([] ++ (bl b j').drop i'))) := this
      simp only [M_bits_Cut_j5, M_bits_Cut_j2, Bool.false_eq_true, if_false, bne_self_eq_false, M_bits_places, Option.bind_some, M_bits_places_1, ne_eq, not_true_eq_false, Int.toNat_natCast]
      rw [h3]
      simp only [Option.bind_some, Sum.elim_inl, List.nil_append, List.length_nil, Nat.zero_add]
      congr 2
      omega
  · have hb1 : (chkOf n b == 0) = false := by simpa using h1
    have hb3 : (chkOf n b != 0) = true := by simpa using h1
    rw [hb1]
    simp only [Bool.false_eq_true, if_false, M_bits_Cut_j5, M_bits_Cut_j2, hb3, if_true, ne_eq, h1, not_false_eq_true]
end Go.Proofs.Ytaombidikooigaa

namespace Go.Proofs.Ytaombidikooigaa
open Go SX

theorem pk_getD {l : List Int} {k : Nat} (hk : k < (l.length + 7) / 8) : (pk l).getD k 0 = byt l k := by
  unfold pk
  simp [List.getD, hk]
theorem pk_u8 {l : List Int} (h : Bit l) : U8s (pk l) := by
  intro x hx
  obtain ⟨k, _, rfl⟩ := List.mem_map.1 hx
  exact byt_range h k
theorem pk_len (l : List Int) : (pk l).length = (l.length + 7) / 8 := by simp [pk]
theorem ok_pk {l : List Int} (hm : l.length ≤ 8192) : Ok l.length (pk l) where
  max := hm
  len := pk_len l
  low := fun h => by
    rw [pk_getD (by omega)]
    exact byt_low
theorem bitAt_pk {l : List Int} (h : Bit l) {i : Nat} (hi : i < l.length) : bitAt (pk l) i = l.getD i 0 := by
  obtain ⟨k, hk⟩ : ∃ k, k = i / 8 := ⟨_, rfl⟩
  obtain ⟨r, hr⟩ : ∃ r, r = i % 8 := ⟨_, rfl⟩
  have hl : i = 8 * k + r := by omega
  have hr8 : r < 8 := by omega
  obtain ⟨c0, c1, c2, c3, c4, c5, c6, c7⟩ := bitAt_8 (pk l) k
  have hb : (pk l).getD k 0 = byt l k := pk_getD (by omega)
  rw [hb] at c0 c1 c2 c3 c4 c5 c6 c7
  have hbd : ∀ q, 0 ≤ l.getD q 0 ∧ l.getD q 0 ≤ 1 := fun q => by have := h.getD q; omega
  have h0 := hbd (8 * k); have h1 := hbd (8 * k + 1); have h2 := hbd (8 * k + 2); have h3 := hbd (8 * k + 3)
  have h4 := hbd (8 * k + 4); have h5 := hbd (8 * k + 5); have h6 := hbd (8 * k + 6); have h7 := hbd (8 * k + 7)
  clear hbd hb
  unfold byt at c0 c1 c2 c3 c4 c5 c6 c7
  rcases (by omega : r = 0 ∨ r = 1 ∨ r = 2 ∨ r = 3 ∨ r = 4 ∨ r = 5 ∨ r = 6 ∨ r = 7) with rfl | rfl | rfl | rfl | rfl | rfl | rfl | rfl
  · rw [hl, Nat.add_zero, c0]; clear c0 c1 c2 c3 c4 c5 c6 c7; generalize l.getD (8 * k) 0 = y0 at *; generalize l.getD (8 * k + 1) 0 = y1 at *; generalize l.getD (8 * k + 2) 0 = y2 at *; generalize l.getD (8 * k + 3) 0 = y3 at *; generalize l.getD (8 * k + 4) 0 = y4 at *; generalize l.getD (8 * k + 5) 0 = y5 at *; generalize l.getD (8 * k + 6) 0 = y6 at *; generalize l.getD (8 * k + 7) 0 = y7 at *; clear h hi hl hr hk hr8; omega
  · rw [hl, c1]; clear c0 c1 c2 c3 c4 c5 c6 c7; generalize l.getD (8 * k) 0 = y0 at *; generalize l.getD (8 * k + 1) 0 = y1 at *; generalize l.getD (8 * k + 2) 0 = y2 at *; generalize l.getD (8 * k + 3) 0 = y3 at *; generalize l.getD (8 * k + 4) 0 = y4 at *; generalize l.getD (8 * k + 5) 0 = y5 at *; generalize l.getD (8 * k + 6) 0 = y6 at *; generalize l.getD (8 * k + 7) 0 = y7 at *; clear h hi hl hr hk hr8; omega
  · rw [hl, c2]; clear c0 c1 c2 c3 c4 c5 c6 c7; generalize l.getD (8 * k) 0 = y0 at *; generalize l.getD (8 * k + 1) 0 = y1 at *; generalize l.getD (8 * k + 2) 0 = y2 at *; generalize l.getD (8 * k + 3) 0 = y3 at *; generalize l.getD (8 * k + 4) 0 = y4 at *; generalize l.getD (8 * k + 5) 0 = y5 at *; generalize l.getD (8 * k + 6) 0 = y6 at *; generalize l.getD (8 * k + 7) 0 = y7 at *; clear h hi hl hr hk hr8; omega
  · rw [hl, c3]; clear c0 c1 c2 c3 c4 c5 c6 c7; generalize l.getD (8 * k) 0 = y0 at *; generalize l.getD (8 * k + 1) 0 = y1 at *; generalize l.getD (8 * k + 2) 0 = y2 at *; generalize l.getD (8 * k + 3) 0 = y3 at *; generalize l.getD (8 * k + 4) 0 = y4 at *; generalize l.getD (8 * k + 5) 0 = y5 at *; generalize l.getD (8 * k + 6) 0 = y6 at *; generalize l.getD (8 * k + 7) 0 = y7 at *; clear h hi hl hr hk hr8; omega
  · rw [hl, c4]; clear c0 c1 c2 c3 c4 c5 c6 c7; generalize l.getD (8 * k) 0 = y0 at *; generalize l.getD (8 * k + 1) 0 = y1 at *; generalize l.getD (8 * k + 2) 0 = y2 at *; generalize l.getD (8 * k + 3) 0 = y3 at *; generalize l.getD (8 * k + 4) 0 = y4 at *; generalize l.getD (8 * k + 5) 0 = y5 at *; generalize l.getD (8 * k + 6) 0 = y6 at *; generalize l.getD (8 * k + 7) 0 = y7 at *; clear h hi hl hr hk hr8; omega
  · rw [hl, c5]; clear c0 c1 c2 c3 c4 c5 c6 c7; generalize l.getD (8 * k) 0 = y0 at *; generalize l.getD (8 * k + 1) 0 = y1 at *; generalize l.getD (8 * k + 2) 0 = y2 at *; generalize l.getD (8 * k + 3) 0 = y3 at *; generalize l.getD (8 * k + 4) 0 = y4 at *; generalize l.getD (8 * k + 5) 0 = y5 at *; generalize l.getD (8 * k + 6) 0 = y6 at *; generalize l.getD (8 * k + 7) 0 = y7 at *; clear h hi hl hr hk hr8; omega
  · rw [hl, c6]; clear c0 c1 c2 c3 c4 c5 c6 c7; generalize l.getD (8 * k) 0 = y0 at *; generalize l.getD (8 * k + 1) 0 = y1 at *; generalize l.getD (8 * k + 2) 0 = y2 at *; generalize l.getD (8 * k + 3) 0 = y3 at *; generalize l.getD (8 * k + 4) 0 = y4 at *; generalize l.getD (8 * k + 5) 0 = y5 at *; generalize l.getD (8 * k + 6) 0 = y6 at *; generalize l.getD (8 * k + 7) 0 = y7 at *; clear h hi hl hr hk hr8; omega
  · rw [hl, c7]; clear c0 c1 c2 c3 c4 c5 c6 c7; generalize l.getD (8 * k) 0 = y0 at *; generalize l.getD (8 * k + 1) 0 = y1 at *; generalize l.getD (8 * k + 2) 0 = y2 at *; generalize l.getD (8 * k + 3) 0 = y3 at *; generalize l.getD (8 * k + 4) 0 = y4 at *; generalize l.getD (8 * k + 5) 0 = y5 at *; generalize l.getD (8 * k + 6) 0 = y6 at *; generalize l.getD (8 * k + 7) 0 = y7 at *; clear h hi hl hr hk hr8; omega
theorem bl_pk {l : List Int} (h : Bit l) : bl (pk l) l.length = l := by
  apply List.ext_getElem?
  intro i
  by_cases hi : i < l.length
  · have h1 : (bl (pk l) l.length)[i]? = some (bitAt (pk l) i) := by simp [bl, hi]
    rw [h1, bitAt_pk h hi]
    simp [List.getD, hi]
  · rw [List.getElem?_eq_none (by rw [bl_len]; omega), List.getElem?_eq_none (by omega)]
end Go.Proofs.Ytaombidikooigaa

namespace Go.Proofs.Ytaombidikooigaa
open Go SX

theorem same_l (F : Nat) {xs ys : List Int} (hl : xs.length = ys.length) (hm : xs.length ≤ 9223372036854775807) : ∀ (k i : Nat), xs.length < k + i → i ≤ xs.length →
    M_R_SameBytes_l3 F xs ys k (i : Int) = some (decide (xs.drop i = ys.drop i))
  | 0, i, h, _ => by omega
  | k + 1, i, h, hi => by
    show M_R_SameBytes_b3 F xs ys (M_R_SameBytes_l3 F xs ys k) i = _
    unfold M_R_SameBytes_b3
    by_cases hlt : i < xs.length
    · have hlt' : (i : Int) < (xs.length : Int) := by omega
      have hlt2 : i < ys.length := by omega
      have hg : xs[i]? = some xs[i] := by simp [hlt]
      have hg2 : ys[i]? = some ys[i] := by simp [hlt2]
      simp only [hlt', decide_true, if_true, idx_nat, hg, hg2, Option.bind_some]
      have e : (xs.drop i = ys.drop i) ↔ (xs[i] = ys[i] ∧ xs.drop (i + 1) = ys.drop (i + 1)) := by
        rw [List.drop_eq_getElem_cons hlt, List.drop_eq_getElem_cons hlt2, List.cons.injEq]
      simp only [e]
      by_cases he : xs[i] = ys[i]
      · simp only [he, bne_self_eq_false, Bool.false_eq_true, if_false, true_and]
        rw [iadd_i64 (by omega) (by omega), show (i : Int) + 1 = ((i + 1 : Nat) : Int) from by omega, same_l F hl hm k (i + 1) (by omega) (by omega)]
      · have : (xs[i] != ys[i]) = true := by simpa using he
        simp only [this, if_true, he, false_and, decide_false]
    · have hlt' : ¬ (i : Int) < (xs.length : Int) := by omega
      simp only [hlt', decide_false, Bool.false_eq_true, if_false]
      rw [List.drop_eq_nil_of_le (by omega), List.drop_eq_nil_of_le (by omega)]
      rfl
theorem sameBytes_eq {F : Nat} {xs ys : List Int} (hF : xs.length < F) (hm : xs.length ≤ 9223372036854775807) : M_R_SameBytes F xs ys = some (decide (xs = ys)) := by
  unfold M_R_SameBytes
  by_cases hl : xs.length = ys.length
  · have : (((xs.length : Int) : Int) != (ys.length : Int)) = false := by simp [hl]
    simp only [this, Bool.false_eq_true, if_false]
    have := same_l F hl hm F 0 (by omega) (by omega)
    simpa using this
  · have : (((xs.length : Int) : Int) != (ys.length : Int)) = true := by simp; omega
    simp only [this, if_true]
    have : xs ≠ ys := fun e => hl (by rw [e])
    simp [this]
theorem sameBits_eq {F : Nat} {n m : Int} {xs ys : List Int} (hF : xs.length < F) (hm : xs.length ≤ 9223372036854775807) : M_R_SameBits F n xs m ys = some (decide (n = m ∧ xs = ys)) := by
  unfold M_R_SameBits
  by_cases h : n = m
  · have hb : (n == m) = true := by simp [h]
    rw [if_pos hb, sameBytes_eq hF hm]
    simp [M_R_SameBits_j1, h]
  · have hb : (n == m) = false := by simpa using h
    rw [hb]
    simp [M_R_SameBits_j1, h]
end Go.Proofs.Ytaombidikooigaa

namespace Go.Proofs.Ytaombidikooigaa
open Go SX

theorem chkOf_of_ok {n : Nat} {b : List Int} (h : Ok n b) : chkOf (n : Int) b = 0 := by
  unfold chkOf
  have := h.max
  have := h.len
  rw [if_neg (by omega), if_neg (by omega), if_neg]
  rintro ⟨h1, h2⟩
  rw [Int.toNat_natCast] at h2
  exact h2 (h.low (by omega))
theorem bl_take {b : List Int} {n m : Nat} (h : n ≤ m) : (bl b m).take n = bl b n := by
  unfold bl
  rw [← List.map_take, List.take_range, Nat.min_eq_left h]
theorem join_ok {n m : Nat} {a b : List Int} (oa : Ok n a) (ob : Ok m b) (h : n + m ≤ 8192) : jn n a m b = (((n + m : Nat) : Int), pk (bl a n ++ bl b m), 0) := by
  have : joinOf n a m b = 0 := by
    unfold joinOf
    rw [chkOf_of_ok oa, chkOf_of_ok ob, if_neg (by simp), if_neg (by simp), if_neg (by omega)]
  unfold jn
  rw [this]
  simp
theorem join_inv {n m : Int} {a b : List Int} (h : (jn n a m b).2.2 = 0) : ∃ n' m' : Nat, n = n' ∧ m = m' ∧ Ok n' a ∧ Ok m' b ∧ n' + m' ≤ 8192 := by
  have h0 : joinOf n a m b = 0 := by
    unfold jn at h
    by_cases hz : joinOf n a m b = 0
    · exact hz
    · rw [if_pos hz] at h; exact h
  unfold joinOf at h0
  by_cases h1 : chkOf n a = 0
  · rw [if_neg (by simpa using h1)] at h0
    by_cases h2 : chkOf m b = 0
    · rw [if_neg (by simpa using h2)] at h0
      obtain ⟨n', rfl, oa⟩ := chkOf_ok h1
      obtain ⟨m', rfl, ob⟩ := chkOf_ok h2
      split at h0
      · simp at h0
      · exact ⟨n', m', rfl, rfl, oa, ob, by omega⟩
    · rw [if_pos (by simpa using h2)] at h0; exact absurd h0 h2
  · rw [if_pos (by simpa using h1)] at h0; exact absurd h0 h1
theorem join_err {n m : Int} {a b : List Int} (h : (jn n a m b).2.2 ≠ 0) : (jn n a m b).1 = 0 ∧ (jn n a m b).2.1 = [] := by
  unfold jn at h ⊢
  split
  · exact ⟨rfl, rfl⟩
  · rename_i h1; rw [if_neg h1] at h; exact absurd rfl h
theorem bit_app {l k : List Int} (h : Bit l) (h2 : Bit k) : Bit (l ++ k) := by
  intro x hx
  rcases List.mem_append.1 hx with h3 | h3
  · exact h x h3
  · exact h2 x h3
theorem cut_pk {l : List Int} (hl : Bit l) (hm : l.length ≤ 8192) {i j : Nat} (hi : i ≤ j) (hj : j ≤ l.length) : ct (l.length : Int) (pk l) i j = (((j - i : Nat) : Int), pk ((l.take j).drop i), 0) := by
  have : cutOf (l.length : Int) (pk l) i j = 0 := by
    unfold cutOf
    rw [chkOf_of_ok (ok_pk hm), if_neg (by simp), if_neg (by omega)]
  unfold ct
  rw [this, if_neg (by simp), Int.toNat_natCast, Int.toNat_natCast, ← bl_take hj, bl_pk hl]
  congr 1
  omega
end Go.Proofs.Ytaombidikooigaa

namespace Go.Proofs.Ytaombidikooigaa
open Go SX

theorem begun_bits' {F : Nat} (hF : 20000 ≤ F) : M_L_bitsBegun F = some true := by
  obtain ⟨n, rfl⟩ : ∃ n, F = n + 200 := ⟨F - 200, by omega⟩
  exact begun_bits n
theorem law_join {n m q : Int} {a b c : List Int} (ha : U8s a) (hb : U8s b) (hc : U8s c) (hn : I64 n) (hm : I64 m) (hq : I64 q) (la : a.length ≤ 9223372036854775807) (lb : b.length ≤ 9223372036854775807) (lc : c.length ≤ 9223372036854775807) :
    M_L_BitsJoin 20000 n a m b q c = some true := by
  unfold M_L_BitsJoin
  rw [join_eq (by omega) ha hb hn hm la lb]
  simp only [Option.bind_some]
  rw [begun_bits' (by omega)]
  simp only [Option.bind_some, Bool.not_true, Bool.false_eq_true, if_false]
  by_cases he : (jn n a m b).2.2 = 0
  · obtain ⟨n, m, rfl, rfl, oa, ob, hs⟩ := join_inv he
    have hne : ((jn (n : Int) a m b).2.2 != 0) = false := by simpa using he
    rw [hne]
    simp only [Bool.false_eq_true, if_false]
    rw [join_ok oa ob hs]
    have hl : Bit (bl a n ++ bl b m) := bit_app (bl_bit _ _) (bl_bit _ _)
    have hlen : (bl a n ++ bl b m).length = n + m := by simp [bl_len]
    have hI : I64 ((n + m : Nat) : Int) := ⟨by omega, by omega⟩
    have hpl : (pk (bl a n ++ bl b m)).length ≤ 9223372036854775807 := by rw [pk_len, hlen]; omega
    have hpu := pk_u8 hl
    simp only
    rw [cut_eq (by omega) hpu hI hpl]
    simp only [Option.bind_some]
    rw [cut_eq (by omega) hpu hI hpl]
    simp only [Option.bind_some]
    have c1 := cut_pk hl (by omega) (i := 0) (j := n) (by omega) (by omega)
    have c2 := cut_pk hl (by omega) (i := n) (j := n + m) (by omega) (by omega)
    rw [hlen] at c1 c2
    rw [show ((0 : Nat) : Int) = 0 from rfl] at c1
    have t1 : ((bl a n ++ bl b m).take n).drop 0 = bl a n := by rw [List.drop_zero, List.take_left' (bl_len a n)]
    have t2 : ((bl a n ++ bl b m).take (n + m)).drop n = bl b m := by rw [List.take_of_length_le (by omega), List.drop_left' (bl_len a n)]
    rw [t1, pk_bl ha oa] at c1
    rw [t2, pk_bl hb ob] at c2
    rw [c1, c2]
    have hA : a.length ≤ 10000 := by rw [oa.len]; omega
    have hB : b.length ≤ 10000 := by rw [ob.len]; omega
    simp only [bne_self_eq_false, Bool.or_self, Bool.false_eq_true, if_false]
    rw [sameBits_eq (by omega) (by omega)]
    simp only [Option.bind_some, Nat.sub_zero, and_self, decide_true, Bool.not_true, M_L_BitsJoin_j3, Bool.false_eq_true, if_false]
    rw [sameBits_eq (by omega) (by omega)]
    simp only [Option.bind_some, Nat.add_sub_cancel_left, and_self, decide_true, Bool.not_true, M_L_BitsJoin_j4, Bool.false_eq_true, if_false]
    rw [join_eq (by omega) hpu hc hI hq hpl lc]
    simp only [Option.bind_some]
    rw [join_eq (by omega) hb hc hm hq lb lc]
    simp only [Option.bind_some]
    by_cases h1 : (jn ((n + m : Nat) : Int) (pk (bl a n ++ bl b m)) q c).2.2 = 0
    · obtain ⟨k, q', hk, rfl, ok1, oc, hs2⟩ := join_inv h1
      obtain rfl : k = n + m := by omega
      have hjc := join_ok ob oc (by omega)
      have hjt := join_ok (oa := ok1) oc hs2
      rw [hjc, hjt]
      have hl2 : Bit (bl b m ++ bl c q') := bit_app (bl_bit _ _) (bl_bit _ _)
      have hlen2 : (bl b m ++ bl c q').length = m + q' := by simp [bl_len]
      have ok2 := ok_pk (l := bl b m ++ bl c q') (by omega)
      rw [hlen2] at ok2
      simp only [bne_self_eq_false, Bool.or_self, Bool.false_eq_true, if_false]
      rw [join_eq (by omega) ha (pk_u8 hl2) hn ⟨by omega, by omega⟩ la (by rw [pk_len, hlen2]; omega), join_ok oa ok2 (by omega)]
      simp only [Option.bind_some, beq_self_eq_true, if_true]
      have b1 : bl (pk (bl a n ++ bl b m)) (n + m) = bl a n ++ bl b m := by have := bl_pk hl; rwa [hlen] at this
      have b2 : bl (pk (bl b m ++ bl c q')) (m + q') = bl b m ++ bl c q' := by have := bl_pk hl2; rwa [hlen2] at this
      rw [b1, b2, List.append_assoc]
      rw [sameBits_eq (by rw [pk_len]; simp [bl_len]; omega) (by rw [pk_len]; simp [bl_len]; omega)]
      simp only [Option.bind_some, M_L_BitsJoin_j5, and_true]
      congr 1
      simp
      omega
    · have hb1 : ((jn ((n + m : Nat) : Int) (pk (bl a n ++ bl b m)) q c).2.2 != 0) = true := by simpa using h1
      rw [hb1]
      simp only [Bool.true_or, if_true]
  · have hne : ((jn n a m b).2.2 != 0) = true := by simpa using he
    rw [hne]
    simp only [if_true]
    obtain ⟨e1, e2⟩ := join_err he
    rw [e1, e2, sameBits_eq (by simp) (by simp)]
    simp
end Go.Proofs.Ytaombidikooigaa

namespace Go.Proofs.Ytaombidikooigaa
open Go SX

/-! ### Loops -/
/-- A loop with fuel: what each round keeps, with a measure that falls. -/
theorem loop_ind {S R : Type} {L : Nat → S → Option R} (Q : S → Option R → Prop) (μ : S → Nat)
    (step : ∀ k s, (∀ s', μ s' < μ s → Q s' (L k s')) → Q s (L (k + 1) s)) : ∀ k s, μ s < k → Q s (L k s)
  | 0, _, h => absurd h (Nat.not_lt_zero _)
  | k + 1, s, h => step k s fun s' h' => loop_ind Q μ step k s' (by omega)

/-! ### Numbers as natural ones -/
theorem two64 : (2 : Nat) ^ 64 = 18446744073709551616 := by decide
theorem ishr_n {n k : Nat} (hn : n < 18446744073709551616) : ishr .u64 (n : Int) (k : Int) = ((n / 2 ^ k : Nat) : Int) := by
  unfold ishr
  rw [Int.fdiv_eq_ediv_of_nonneg _ (by exact_mod_cast Nat.zero_le _), Int.toNat_natCast]
  simp only [IntKind.bits]
  by_cases h : k ≤ 64
  · rw [Nat.min_eq_left h]; norm_cast
  · rw [Nat.min_eq_right (by omega)]
    have h1 : n / 2 ^ 64 = 0 := Nat.div_eq_of_lt (by omega)
    have h2 : n / 2 ^ k = 0 := Nat.div_eq_of_lt (Nat.lt_of_lt_of_le hn (by rw [← two64]; exact Nat.pow_le_pow_right (by decide) (by omega)))
    rw [h2]
    have : ((n : Int) / 2 ^ 64) = ((n / 2 ^ 64 : Nat) : Int) := by norm_cast
    rw [this, h1]
theorem iand1_n {n : Nat} (hn : n < 18446744073709551616) : iand .u64 (n : Int) 1 = ((n % 2 : Nat) : Int) := by
  have e := iand_mask (k := .u64) (a := (n : Int)) (m := 1) (by omega) (by simp only [IntKind.bits]; rw [show (2 : Int) ^ 64 = 18446744073709551616 from by decide]; omega) (by decide) rfl
  rw [show ((2 ^ 1 - 1 : Nat) : Int) = 1 from rfl, show (2 : Int) ^ 1 = 2 from rfl] at e
  rw [e]; omega
theorem ishl_n {n k : Nat} (hk : k ≤ 64) : ishl .u64 (n : Int) (k : Int) = ((n * 2 ^ k % 18446744073709551616 : Nat) : Int) := by
  rw [ishl_u64 hk, Int.natCast_emod, Int.natCast_mul, Int.natCast_pow]; rfl
theorem ior_n {a b m : Nat} (ha : a < 2 ^ m) (hb : b % 2 ^ m = 0) (h : a + b < 18446744073709551616) : ior .u64 (b : Int) (a : Int) = ((b + a : Nat) : Int) := by
  rw [ior_comm, ior_add (m := m) (by omega) (by exact_mod_cast ha) (by omega) (by exact_mod_cast hb) rfl (by simp only [IntKind.bits]; rw [show (2 : Int) ^ 64 = 18446744073709551616 from by decide]; omega)]
  omega
theorem iadd_n {a b : Nat} (h : a + b < 9223372036854775808) : iadd .i64 (a : Int) (b : Int) = ((a + b : Nat) : Int) := by rw [iadd_i64 (by omega) (by omega)]; omega
theorem iadd1_n {a : Nat} (h : a + 1 < 9223372036854775808) : iadd .i64 (a : Int) 1 = ((a + 1 : Nat) : Int) := by rw [iadd_i64 (by omega) (by omega)]; omega
theorem isub_n {a b : Nat} (h : b ≤ a) (h2 : a < 9223372036854775808) : isub .i64 (a : Int) (b : Int) = ((a - b : Nat) : Int) := by rw [isub_i64 (by omega) (by omega)]; omega
theorem isub1_n {a : Nat} (h : 1 ≤ a) (h2 : a < 9223372036854775808) : isub .i64 (a : Int) 1 = ((a - 1 : Nat) : Int) := by rw [isub_i64 (by omega) (by omega)]; omega

/-! ### Numbers and bits -/
/-- The bits of a number, in so many places, the highest one first. -/
def nb (n : Nat) : Nat → List Int
  | 0 => []
  | w + 1 => ((n / 2 ^ w % 2 : Nat) : Int) :: nb n w
theorem nb_len (n : Nat) : ∀ w, (nb n w).length = w
  | 0 => rfl
  | w + 1 => by simp [nb, nb_len n w]
theorem nb_bit (n : Nat) : ∀ w, Bit (nb n w)
  | 0 => by intro x hx; simp [nb] at hx
  | w + 1 => by
    intro x hx
    rcases List.mem_cons.1 hx with rfl | h
    · omega
    · exact nb_bit n w x h
/-- The number of bits. -/
def bv (l : List Int) : Nat := l.foldl (fun n b => 2 * n + b.toNat) 0
theorem bv_from (l : List Int) : ∀ m, l.foldl (fun n b => 2 * n + b.toNat) m = m * 2 ^ l.length + bv l := by
  induction l with
  | nil => intro m; simp [bv]
  | cons x l ih =>
    intro m
    show l.foldl _ _ = _
    rw [ih]
    show _ = _ + l.foldl _ _
    rw [ih, List.length_cons, Nat.pow_succ]
    generalize 2 ^ l.length = p
    rw [Nat.add_mul, Nat.add_mul]
    have : 2 * m * p = m * (p * 2) := by rw [Nat.mul_comm 2 m, Nat.mul_assoc, Nat.mul_comm 2 p]
    omega
theorem bv_app (l k : List Int) : bv (l ++ k) = bv l * 2 ^ k.length + bv k := by
  unfold bv
  rw [List.foldl_append, bv_from k]; rfl
theorem bv_cons (x : Int) (l : List Int) : bv (x :: l) = x.toNat * 2 ^ l.length + bv l := by
  have := bv_app [x] l
  simpa [bv] using this
theorem bv_lt {l : List Int} (h : Bit l) : bv l < 2 ^ l.length := by
  induction l with
  | nil => simp [bv]
  | cons x l ih =>
    have h1 := ih (fun y hy => h y (List.mem_cons_of_mem _ hy))
    rw [bv_cons, List.length_cons, Nat.pow_succ]
    rcases h x List.mem_cons_self with rfl | rfl
    · simp; omega
    · simp; omega
theorem bv_nb (n : Nat) : ∀ w, bv (nb n w) = n % 2 ^ w
  | 0 => by simp [nb, bv, Nat.mod_one]
  | w + 1 => by
    rw [nb, bv_cons, nb_len, bv_nb n w, Int.toNat_natCast, Nat.pow_succ, Nat.mod_mul, Nat.mul_comm, Nat.add_comm]
theorem nb_bv {l : List Int} (h : Bit l) : nb (bv l) l.length = l := by
  have key : ∀ (l : List Int), Bit l → ∀ m, nb (m * 2 ^ l.length + bv l) l.length = l := by
    intro l
    induction l with
    | nil => intro _ m; rfl
    | cons x l ih =>
      intro h m
      have hl := bv_lt (fun y hy => h y (List.mem_cons_of_mem _ hy) : Bit l)
      have h2 := ih (fun y hy => h y (List.mem_cons_of_mem _ hy)) (2 * m + x.toNat)
      have e : m * 2 ^ (x :: l).length + bv (x :: l) = (2 * m + x.toNat) * 2 ^ l.length + bv l := by
        rw [bv_cons, List.length_cons, Nat.pow_succ, Nat.add_mul]
        have : 2 * m * 2 ^ l.length = m * (2 ^ l.length * 2) := by rw [Nat.mul_comm 2 m, Nat.mul_assoc, Nat.mul_comm 2]
        omega
      rw [e, List.length_cons, nb, h2]
      congr 1
      rw [Nat.mul_comm, Nat.mul_add_div (Nat.pow_pos (by decide)), Nat.div_eq_of_lt hl]
      rcases h x List.mem_cons_self with rfl | rfl
      · simp
      · simp
        try omega
  have := key l h 0
  simpa using this
theorem nb_app (n a : Nat) : ∀ b, nb n (b + a) = nb (n / 2 ^ a) b ++ nb n a
  | 0 => by simp [nb]
  | b + 1 => by
    rw [show b + 1 + a = (b + a) + 1 from by omega, nb, nb_app n a b, nb, List.cons_append]
    congr 3
    rw [Nat.div_div_eq_div_mul, ← Nat.pow_add, Nat.add_comm]
theorem nb_snoc (n w : Nat) : nb n (w + 1) = nb (n / 2) w ++ [((n % 2 : Nat) : Int)] := by
  have := nb_app n 1 w
  simpa [nb] using this
end Go.Proofs.Ytaombidikooigaa

namespace Go.Proofs.Ytaombidikooigaa
open Go SX

/-! ### Put and Get -/
theorem number_l {F : Nat} {n : Nat} (hn : n < 18446744073709551616) : ∀ (w k : Nat) (l : List Int), w < k → Bit l → l.length + w ≤ 100000 →
    M_bits_writer_number_l1 F (n : Int) k ((w : Int) - 1, (l.length : Int), pk l) = some (((l.length + w : Nat) : Int), pk (l ++ nb n w))
  | _, 0, _, h, _, _ => by omega
  | 0, k + 1, l, _, _, _ => by
    show M_bits_writer_number_b1 F (n : Int) _ (((0 : Nat) : Int) - 1) (l.length : Int) (pk l) = _
    unfold M_bits_writer_number_b1
    rw [if_neg (by simp)]
    simp [nb]
  | w + 1, k + 1, l, h, hl, hm => by
    show M_bits_writer_number_b1 F (n : Int) (M_bits_writer_number_l1 F (n : Int) k) (((w + 1 : Nat) : Int) - 1) (l.length : Int) (pk l) = _
    unfold M_bits_writer_number_b1
    rw [show ((w + 1 : Nat) : Int) - 1 = (w : Int) from by omega, if_pos (by simp)]
    have hc : decide ((0 : Int) ≤ (w : Int)) = true := decide_eq_true (by omega)
    rw [hc]
    simp only [chk, if_true]
    rw [ishr_n hn, iand1_n (by have := Nat.div_le_self n (2 ^ w); omega)]
    have hx : ((n / 2 ^ w % 2 : Nat) : Int) = 0 ∨ ((n / 2 ^ w % 2 : Nat) : Int) = 1 := by omega
    rw [bit_eq hl hx (by omega)]
    simp only [Option.bind_some]
    rw [isub_i64 (by omega) (by omega)]
    have := number_l (F := F) hn w k (l ++ [((n / 2 ^ w % 2 : Nat) : Int)]) (by omega) (bit_app hl (by intro y hy; simp only [List.mem_singleton] at hy; rw [hy]; exact hx)) (by simp; omega)
    rw [show (l ++ [((n / 2 ^ w % 2 : Nat) : Int)]).length = l.length + 1 from by simp] at this
    rw [this, List.append_assoc, show l.length + 1 + w = l.length + (w + 1) from by omega]
    rfl
theorem number_eq {F : Nat} {n w : Nat} {l : List Int} (hn : n < 18446744073709551616) (hF : w < F) (hl : Bit l) (hm : l.length + w ≤ 100000) :
    M_bits_writer_number F (l.length : Int) (pk l) (n : Int) (w : Int) = some (((l.length + w : Nat) : Int), pk (l ++ nb n w)) := by
  unfold M_bits_writer_number
  rw [isub_i64 (by omega) (by omega)]
  exact number_l hn w F l hF hl hm
theorem add_eq {F : Nat} {n w m : Nat} {b : List Int} (hn : n < 18446744073709551616) (hF : w < F) (hb : U8s b) (ob : Ok m b) (hw : w ≤ 10000) :
    M_bits_Add F (m : Int) b (n : Int) (w : Int) = some (((m + w : Nat) : Int), pk (bl b m ++ nb n w)) := by
  unfold M_bits_Add
  have := ob.max
  rw [own_eq (by rw [ob.len]; omega)]
  simp only [Option.bind_some]
  have h := number_eq (F := F) (l := bl b m) hn hF (bl_bit _ _) (by rw [bl_len]; omega)
  rw [bl_len, pk_bl hb ob] at h
  rw [h]; rfl
def putOf (m : Int) (b : List Int) (n w : Int) : Int :=
  if chkOf m b ≠ 0 then chkOf m b else if w < 0 ∨ 64 < w ∨ 2 ^ w.toNat ≤ n then 3 else if 8192 < m + w then 8 else 0
def pt (m : Int) (b : List Int) (n w : Int) : Int × List Int × Int :=
  if putOf m b n w ≠ 0 then (0, [], putOf m b n w) else (m + w, pk (bl b m.toNat ++ nb n.toNat w.toNat), 0)
def U64 (n : Int) : Prop := 0 ≤ n ∧ n < 18446744073709551616
theorem pt_err {m : Int} {b : List Int} {n w e : Int} (h : putOf m b n w = e) (he : e ≠ 0) : pt m b n w = (0, [], e) := by
  unfold pt; rw [h, if_pos he]
theorem pt_ok {m : Int} {b : List Int} {n w : Int} (h : putOf m b n w = 0) : pt m b n w = (m + w, pk (bl b m.toNat ++ nb n.toNat w.toNat), 0) := by
  unfold pt; rw [h]; rfl
theorem put_eq {F : Nat} (hF : 20000 ≤ F) {m n w : Int} {b : List Int} (hb : U8s b) (hm : I64 m) (hn : U64 n) (lb : b.length ≤ 9223372036854775807) : M_bits_Put F m b n w = some (pt m b n w) := by
  unfold M_bits_Put
  rw [check_eq hb hm.1 hm.2 lb]
  simp only [Option.bind_some]
  by_cases h1 : chkOf m b = 0
  · obtain ⟨m, rfl, ob⟩ := chkOf_ok h1
    obtain ⟨n, rfl⟩ := Int.eq_ofNat_of_zero_le hn.1
    have hn2 : n < 18446744073709551616 := by have := hn.2; omega
    have hmx := ob.max
    simp only [h1, bne_self_eq_false, Bool.false_eq_true, if_false]
    by_cases h2 : w < 0 ∨ 64 < w
    · rw [if_pos (by simpa using h2), pt_err (e := 3) (by unfold putOf; rw [if_neg (by simp [h1]), if_pos (by omega)]) (by decide)]
      rfl
    · rw [if_neg (by simpa using h2)]
      obtain ⟨w, rfl⟩ := Int.eq_ofNat_of_zero_le (show 0 ≤ w by omega)
      have hlt : n / 2 ^ w = 0 ↔ ¬ (2 : Int) ^ (w : Int).toNat ≤ (n : Int) := by
        rw [Int.toNat_natCast, show (2 : Int) ^ w = ((2 ^ w : Nat) : Int) from by norm_cast, Nat.div_eq_zero_iff]
        have : 0 < 2 ^ w := Nat.pow_pos (by decide)
        omega
      have hj6 : n / 2 ^ w = 0 → M_bits_Put_j6 F (m : Int) b (n : Int) (w : Int) 0 false = some (pt m b n w) := by
        intro h0
        unfold M_bits_Put_j6
        simp only [Bool.false_eq_true, if_false]
        rw [iadd_i64 (by omega) (by omega)]
        by_cases h3 : 8192 < (m : Int) + w
        · rw [if_pos (by simpa using h3), pt_err (e := 8) (by unfold putOf; rw [if_neg (by simp [h1]), if_neg (by omega), if_pos h3]) (by decide)]; rfl
        · rw [if_neg (by simpa using h3), pt_ok (by unfold putOf; rw [if_neg (by simp [h1]), if_neg (by omega), if_neg h3])]
          unfold M_bits_Put_j4
          simp only [bne_self_eq_false, Bool.false_eq_true, if_false]
          rw [add_eq hn2 (by omega) hb ob (by omega)]
          simp
      by_cases h4 : w = 64
      · subst h4
        rw [if_neg (by simp)]
        exact hj6 (Nat.div_eq_of_lt (by omega))
      · rw [if_pos (by simp; omega)]
        have hc : decide ((0 : Int) ≤ (w : Int)) = true := decide_eq_true (by omega)
        rw [hc]
        simp only [chk, if_true]
        rw [ishr_n hn2]
        by_cases h5 : n / 2 ^ w = 0
        · rw [h5]
          exact hj6 h5
        · have : ((((n / 2 ^ w : Nat) : Int)) != 0) = true := by rw [bne_iff_ne]; omega
          rw [this, pt_err (e := 3) (by unfold putOf; rw [if_neg (by simp [h1]), if_pos (by omega)]) (by decide)]
          rfl
  · have hb3 : (chkOf m b != 0) = true := by simpa using h1
    rw [if_pos hb3, pt_err (e := chkOf m b) (by unfold putOf; rw [if_pos h1]) h1]
    simp only [M_bits_Put_j4, hb3, if_true]
/-! ### Read, Get -/
theorem bl_get {b : List Int} {n i : Nat} (h : i < n) : (bl b n)[i]? = some (bitAt b i) := by simp [bl, h]
theorem read_l {F : Nat} {n : Int} {m a w : Nat} {b : List Int} (hb : U8s b) (hlen : m ≤ 8 * b.length) (hm : m ≤ 10000) (ha : a + w ≤ m) (hw : w ≤ 64) : ∀ (k i v : Nat), w < k + i → i ≤ w → v < 2 ^ i →
    M_bits_Read_l3 F n b (a : Int) (w : Int) k ((v : Int), (i : Int)) = some (((v * 2 ^ (w - i) + bv (((bl b m).drop (a + i)).take (w - i)) : Nat) : Int), true)
  | 0, _, _, _, _, _ => by omega
  | k + 1, i, v, h, hi, hv => by
    show M_bits_Read_b3 F n b (a : Int) (w : Int) (M_bits_Read_l3 F n b (a : Int) (w : Int) k) (v : Int) (i : Int) = _
    unfold M_bits_Read_b3
    by_cases hlt : i < w
    · rw [if_pos (by simp; omega), iadd_n (by omega), at_eq hb (by omega) (by omega)]
      simp only [Option.bind_some]
      have hx := bitAt_bit b (a + i)
      have hv64 : 2 * v + 1 < 18446744073709551616 := by
        have : 2 ^ (i + 1) ≤ 2 ^ 64 := Nat.pow_le_pow_right (by decide) (by omega)
        rw [Nat.pow_succ, two64] at this
        omega
      obtain ⟨x, hxe⟩ : ∃ x : Nat, bitAt b (a + i) = (x : Int) := Int.eq_ofNat_of_zero_le (by omega)
      have hx1 : x < 2 := by omega
      have e1 : ishl .u64 (v : Int) 1 = ((v * 2 : Nat) : Int) := by
        have := ishl_n (n := v) (k := 1) (by decide)
        rw [show ((1 : Nat) : Int) = 1 from rfl] at this
        rw [this]; omega
      have e2 : ior .u64 ((v * 2 : Nat) : Int) (x : Int) = ((v * 2 + x : Nat) : Int) := ior_n (m := 1) (by omega) (by omega) (by omega)
      rw [hxe, e1, e2, iadd1_n (by omega)]
      rw [read_l hb hlen hm ha hw k (i + 1) (v * 2 + x) (by omega) (by omega) (by rw [Nat.pow_succ]; omega)]
      have hd : ((bl b m).drop (a + i)).take (w - i) = (x : Int) :: ((bl b m).drop (a + (i + 1))).take (w - (i + 1)) := by
        rw [List.drop_eq_getElem_cons (by rw [bl_len]; omega), show w - i = (w - (i + 1)) + 1 from by omega, List.take_succ_cons, show a + i + 1 = a + (i + 1) from by omega]
        congr 1
        have := bl_get (b := b) (n := m) (i := a + i) (by omega)
        rw [List.getElem?_eq_getElem (by rw [bl_len]; omega)] at this
        rw [← hxe]; exact Option.some.inj this
      rw [hd, bv_cons, Int.toNat_natCast]
      have hl : (((bl b m).drop (a + (i + 1))).take (w - (i + 1))).length = w - (i + 1) := by simp [bl_len]; omega
      rw [hl, show w - i = (w - (i + 1)) + 1 from by omega, Nat.pow_succ, Nat.add_mul]
      congr 3
      rw [Nat.mul_assoc, Nat.mul_comm 2, Nat.add_assoc]
    · rw [if_neg (by simp; omega)]
      rw [show w - i = 0 from by omega]
      simp [M_bits_Read_j2, bv]
theorem read_eq {F : Nat} {m a w : Nat} {b : List Int} (hF : 100 ≤ F) (hb : U8s b) (ob : Ok m b) (ha : a ≤ m) (hw : w ≤ 64) :
    M_bits_Read F (m : Int) b (a : Int) (w : Int) = some (if a + w ≤ m then (((bv (((bl b m).drop a).take w) : Nat) : Int), true) else (0, false)) := by
  unfold M_bits_Read
  have hmx := ob.max
  rw [isub_n ha (by omega)]
  by_cases h : a + w ≤ m
  · rw [if_neg (by simp; omega), if_pos h]
    have := read_l (F := F) (n := (m : Int)) (m := m) (a := a) (w := w) hb (by rw [ob.len]; omega) (by omega) h hw F 0 0 (by omega) (by omega) (by decide)
    simpa using this
  · rw [if_pos (by simp; omega), if_neg h]
def getOf (m : Int) (b : List Int) (a w : Int) : Int :=
  if chkOf m b ≠ 0 then chkOf m b else if w < 0 ∨ 64 < w ∨ a < 0 ∨ m < a then 3 else if m < a + w then 7 else 0
def gt (m : Int) (b : List Int) (a w : Int) : Int × Int :=
  if getOf m b a w ≠ 0 then (0, getOf m b a w) else (((bv (((bl b m.toNat).drop a.toNat).take w.toNat) : Nat) : Int), 0)
theorem gt_err {m : Int} {b : List Int} {a w e : Int} (h : getOf m b a w = e) (he : e ≠ 0) : gt m b a w = (0, e) := by
  unfold gt; rw [h, if_pos he]
theorem gt_ok {m : Int} {b : List Int} {a w : Int} (h : getOf m b a w = 0) : gt m b a w = (((bv (((bl b m.toNat).drop a.toNat).take w.toNat) : Nat) : Int), 0) := by
  unfold gt; rw [h]; rfl
theorem get_eq {F : Nat} (hF : 20000 ≤ F) {m a w : Int} {b : List Int} (hb : U8s b) (hm : I64 m) (lb : b.length ≤ 9223372036854775807) : M_bits_Get F m b a w = some (gt m b a w) := by
  unfold M_bits_Get
  rw [check_eq hb hm.1 hm.2 lb]
  simp only [Option.bind_some]
  by_cases h1 : chkOf m b = 0
  · obtain ⟨m, rfl, ob⟩ := chkOf_ok h1
    have hmx := ob.max
    rw [h1, if_pos (by rfl)]
    by_cases h2 : w < 0 ∨ 64 < w ∨ a < 0 ∨ (m : Int) < a
    · rw [show (((decide (w < 0) || decide (64 < w)) || decide (a < 0)) || decide ((m : Int) < a)) = true from by simp only [Bool.or_eq_true, decide_eq_true_eq]; omega,
        gt_err (e := 3) (by unfold getOf; rw [if_neg (by simp [h1]), if_pos h2]) (by decide)]
      rfl
    · rw [show (((decide (w < 0) || decide (64 < w)) || decide (a < 0)) || decide ((m : Int) < a)) = false from by rw [Bool.eq_false_iff]; intro h; apply h2; simp only [Bool.or_eq_true, decide_eq_true_eq] at h; omega]
      obtain ⟨w, rfl⟩ := Int.eq_ofNat_of_zero_le (show 0 ≤ w by omega)
      obtain ⟨a, rfl⟩ := Int.eq_ofNat_of_zero_le (show 0 ≤ a by omega)
      simp only [M_bits_Get_j3, M_bits_Get_j2, Bool.false_eq_true, if_false, bne_self_eq_false]
      rw [read_eq (by omega) hb ob (by omega) (by omega)]
      simp only [Option.bind_some]
      by_cases h3 : a + w ≤ m
      · rw [gt_ok (by unfold getOf; rw [if_neg (by simp [h1]), if_neg h2, if_neg (by omega)])]
        simp [h3]
      · rw [gt_err (e := 7) (by unfold getOf; rw [if_neg (by simp [h1]), if_neg h2, if_pos (by omega)]) (by decide)]
        simp [h3]
  · have hb1 : (chkOf m b == 0) = false := by simpa using h1
    have hb3 : (chkOf m b != 0) = true := by simpa using h1
    rw [hb1, gt_err (e := chkOf m b) (by unfold getOf; rw [if_pos h1]) h1]
    simp only [M_bits_Get_j3, M_bits_Get_j2, Bool.false_eq_true, if_false, hb3, if_true]
end Go.Proofs.Ytaombidikooigaa

namespace Go.Proofs.Ytaombidikooigaa
open Go SX

/-! ### The document's answer: bits as lists -/
theorem irem2_n (n : Nat) : irem (n : Int) 2 = ((n % 2 : Nat) : Int) := by
  unfold irem; rw [Int.tmod_eq_emod_of_nonneg (by omega)]; omega
theorem iquo2_n {n : Nat} (h : n ≤ 9223372036854775807) : iquo .i64 (n : Int) 2 = ((n / 2 : Nat) : Int) := by
  unfold iquo; rw [Int.tdiv_eq_ediv_of_nonneg (by omega), wrap_i64 (by omega) (by omega)]; omega
theorem iquo2_u {n : Nat} (h : n < 18446744073709551616) : iquo .u64 (n : Int) 2 = ((n / 2 : Nat) : Int) := by
  unfold iquo; rw [Int.tdiv_eq_ediv_of_nonneg (by omega), wrap_u64 (by omega) (by omega)]; omega
theorem iconv_i64_n {n : Nat} (h : n < 9223372036854775808) : iconv .i64 (n : Int) = (n : Int) := wrap_i64 (by omega) (by omega)
theorem iconv_u64_n {n : Nat} (h : n < 18446744073709551616) : iconv .u64 (n : Int) = (n : Int) := wrap_u64 (by omega) (by omega)
theorem div_pow_succ (x k : Nat) : x / 2 ^ (k + 1) = x / 2 / 2 ^ k := by rw [Nat.pow_succ, Nat.mul_comm, Nat.div_div_eq_div_mul]
theorem bitList_in {F : Nat} {rec38 : (List Int × Int) → Option (List Int)} {l : List Int} {i : Nat} (hm : i ≤ 100000) : ∀ (k j x : Nat), 7 - i % 8 < k + j → j ≤ 7 - i % 8 → x < 256 →
    M_R_BitList_l45 F rec38 l (i : Int) k ((x : Int), (j : Int)) = M_R_BitList_j44 F rec38 l (i : Int) ((x / 2 ^ (7 - i % 8 - j) : Nat) : Int)
  | 0, _, _, _, _, _ => by omega
  | k + 1, j, x, h, hj, hx => by
    show M_R_BitList_b45 F rec38 l (i : Int) (M_R_BitList_l45 F rec38 l (i : Int) k) (x : Int) (j : Int) = _
    unfold M_R_BitList_b45
    rw [irem8, isub_i64 (by omega) (by omega)]
    by_cases hlt : j < 7 - i % 8
    · rw [if_pos (by simp; omega), iquo2_n (by omega), iadd1_n (by omega), bitList_in hm k (j + 1) (x / 2) (by omega) (by omega) (by omega)]
      rw [show 7 - i % 8 - j = (7 - i % 8 - (j + 1)) + 1 from by omega, div_pow_succ]
    · rw [if_neg (by simp; omega), show 7 - i % 8 - j = 0 from by omega]
      simp
theorem bitList_l {F : Nat} (hF : 100 ≤ F) {b : List Int} (hb : U8s b) {n : Nat} (hn : n ≤ 8 * b.length) (hm : n ≤ 100000) : ∀ (k i : Nat), n < k + i → i ≤ n →
    M_R_BitList_l38 F (n : Int) b k (bl b i, (i : Int)) = some (bl b n)
  | 0, _, _, _ => by omega
  | k + 1, i, h, hi => by
    show M_R_BitList_b38 F (n : Int) b (M_R_BitList_l38 F (n : Int) b k) (bl b i) (i : Int) = _
    unfold M_R_BitList_b38
    by_cases hlt : i < n
    · rw [if_pos (by simp; omega), iquo8 (by omega), idx_nat]
      have hg : b[i / 8]? = some b[i / 8] := by rw [List.getElem?_eq_getElem (by omega)]
      rw [hg]
      simp only [Option.bind_some]
      have hx := hb b[i / 8] (List.getElem_mem (by omega))
      obtain ⟨x, hxe⟩ := Int.eq_ofNat_of_zero_le hx.1
      rw [hxe, iconv_i64_n (by omega)]
      rw [show ((0 : Int)) = ((0 : Nat) : Int) from rfl, bitList_in (by omega) F 0 x (by omega) (by omega) (by omega)]
      unfold M_R_BitList_j44
      rw [irem2_n, app_eq (by rw [bl_len]; simp; omega)]
      simp only [Option.bind_some, M_R_BitList_j42]
      rw [iadd1_n (by omega)]
      have e : bl b i ++ [((x / 2 ^ (7 - i % 8 - 0) % 2 : Nat) : Int)] = bl b (i + 1) := by
        rw [bl_succ]
        congr 2
        unfold bitAt
        simp only [List.getD, hg, Option.getD_some, hxe, Nat.sub_zero]
        norm_cast
      rw [e]
      exact bitList_l hF hb hn hm k (i + 1) (by omega) (by omega)
    · rw [if_neg (by simp; omega)]
      obtain rfl : i = n := by omega
      rfl
theorem bitList_eq {F : Nat} (hF : 20000 ≤ F) {b : List Int} (hb : U8s b) {n : Nat} (hn : n ≤ 8 * b.length) (hm : n ≤ 10000) : M_R_BitList F (n : Int) b = some (bl b n) := by
  unfold M_R_BitList
  exact bitList_l (by omega) hb hn (by omega) F 0 (by omega) (by omega)
theorem bit_n {l : List Int} (h : Bit l) {i : Nat} (hi : i < l.length) : ∃ x : Nat, l[i]? = some (x : Int) ∧ x < 2 := by
  have := h l[i] (List.getElem_mem hi)
  obtain ⟨x, hx⟩ := Int.eq_ofNat_of_zero_le (show 0 ≤ l[i] by omega)
  exact ⟨x, by rw [List.getElem?_eq_getElem hi, hx], by omega⟩
theorem imul2_n {n : Nat} (h : n < 4611686018427387904) : imul .i64 2 (n : Int) = ((2 * n : Nat) : Int) := by rw [imul_i64 (by omega) (by omega)]; omega
/-- The first so many of eight bits from a place on, as a number. -/
def byN (l : List Int) (i : Nat) : Nat → Nat
  | 0 => 0
  | k + 1 => 2 * byN l i k + (l.getD (i + k) 0).toNat
theorem byN_lt {l : List Int} (h : Bit l) (i : Nat) : ∀ k, byN l i k < 2 ^ k
  | 0 => by simp [byN]
  | k + 1 => by
    have := byN_lt h i k
    have h2 := h.getD (i + k)
    unfold byN
    rw [Nat.pow_succ]
    omega
theorem byN_8 {l : List Int} (h : Bit l) (i : Nat) : ((byN l (8 * i) 8 : Nat) : Int) = byt l i := by
  have h0 := h.getD (8 * i); have h1 := h.getD (8 * i + 1); have h2 := h.getD (8 * i + 2); have h3 := h.getD (8 * i + 3)
  have h4 := h.getD (8 * i + 4); have h5 := h.getD (8 * i + 5); have h6 := h.getD (8 * i + 6); have h7 := h.getD (8 * i + 7)
  unfold byt
  simp only [byN, Nat.add_zero]
  omega
theorem packBits_in {F : Nat} {rec98 : (Int × List Int) → Option (Int × List Int)} {l o : List Int} (hl : Bit l) {i : Nat} (hm : i ≤ 100000) (hlm : l.length ≤ 100000) : ∀ (k j : Nat), 8 < k + j → j ≤ 8 →
    M_R_PackBits_l116 F rec98 l (i : Int) o k ((byN l i j : Nat), (j : Int)) = M_R_PackBits_j113 F rec98 (i : Int) o ((byN l i 8 : Nat) : Int)
  | 0, _, _, _ => by omega
  | k + 1, j, h, hj => by
    show M_R_PackBits_b116 F rec98 l (i : Int) o (M_R_PackBits_l116 F rec98 l (i : Int) o k) ((byN l i j : Nat) : Int) (j : Int) = _
    unfold M_R_PackBits_b116
    by_cases hlt : j < 8
    · have hb := byN_lt hl i j
      have hp : 2 ^ j ≤ 2 ^ 8 := Nat.pow_le_pow_right (by decide) hj
      rw [show 2 ^ 8 = 256 from by decide] at hp
      rw [if_pos (by simp; omega), iadd_n (by omega)]
      by_cases h2 : i + j < l.length
      · rw [if_pos (by simp; omega), idx_nat]
        obtain ⟨x, hx, hx2⟩ := bit_n hl h2
        rw [hx]
        simp only [Option.bind_some, M_R_PackBits_j117]
        rw [imul2_n (by omega), iadd_n (by omega), iadd1_n (by omega)]
        have e : 2 * byN l i j + x = byN l i (j + 1) := by
          simp [byN, List.getD, hx]
        rw [e]
        exact packBits_in hl hm hlm k (j + 1) (by omega) (by omega)
      · rw [if_neg (by simp; omega)]
        simp only [M_R_PackBits_j117]
        rw [imul2_n (by omega), iadd1_n (by omega)]
        have e : 2 * byN l i j = byN l i (j + 1) := by
          show _ = 2 * _ + (l.getD (i + j) 0).toNat
          rw [getD_ge (by omega)]; rfl
        rw [e]
        exact packBits_in hl hm hlm k (j + 1) (by omega) (by omega)
    · rw [if_neg (by simp; omega)]
      obtain rfl : j = 8 := by omega
      rfl
theorem packBits_l {F : Nat} (hF : 100 ≤ F) {l : List Int} (hl : Bit l) (hm : l.length ≤ 90000) : ∀ (k i : Nat), (l.length + 7) / 8 < k + i → i ≤ (l.length + 7) / 8 →
    M_R_PackBits_l98 F l k (((8 * i : Nat) : Int), (List.range i).map (byt l)) = some ((l.length : Int), pk l)
  | 0, _, _, _ => by omega
  | k + 1, i, h, hi => by
    show M_R_PackBits_b98 F l (M_R_PackBits_l98 F l k) ((8 * i : Nat) : Int) ((List.range i).map (byt l)) = _
    unfold M_R_PackBits_b98
    by_cases hlt : 8 * i < l.length
    · rw [if_pos (by simp; omega)]
      have := packBits_in (F := F) (rec98 := M_R_PackBits_l98 F l k) (o := (List.range i).map (byt l)) hl (i := 8 * i) (by omega) (by omega) F 0 (by omega) (by omega)
      rw [show ((byN l (8 * i) 0 : Nat) : Int) = 0 from rfl, show ((0 : Nat) : Int) = 0 from rfl] at this
      rw [this]
      unfold M_R_PackBits_j113
      rw [byN_8 hl]
      have hr := byt_range hl i
      rw [show iconv .u8 (byt l i) = byt l i from wrap_u8 hr.1 hr.2, app_eq (by simp; omega)]
      simp only [Option.bind_some, M_R_PackBits_j108]
      rw [show ((8 : Int)) = ((8 : Nat) : Int) from rfl, iadd_n (by omega), show 8 * i + 8 = 8 * (i + 1) from by omega]
      have e : (List.range i).map (byt l) ++ [byt l i] = (List.range (i + 1)).map (byt l) := by rw [List.range_succ, List.map_append]; rfl
      rw [e]
      exact packBits_l hF hl hm k (i + 1) (by omega) (by omega)
    · rw [if_neg (by simp; omega)]
      obtain rfl : i = (l.length + 7) / 8 := by omega
      rfl
theorem packBits_eq {F : Nat} (hF : 20000 ≤ F) {l : List Int} (hl : Bit l) (hm : l.length ≤ 90000) : M_R_PackBits F l = some ((l.length : Int), pk l) := by
  unfold M_R_PackBits
  exact packBits_l (by omega) hl hm F 0 (by omega) (by omega)
end Go.Proofs.Ytaombidikooigaa

namespace Go.Proofs.Ytaombidikooigaa
open Go SX

theorem between_eq {F : Nat} {a b c : Int} : M_R_between F a b c = some (decide (b ≤ a ∧ a ≤ c)) := by
  unfold M_R_between
  congr 1
  by_cases h : b ≤ a <;> by_cases h2 : a ≤ c <;> simp [h, h2]
theorem bitNum_l {F : Nat} {l : List Int} (hl : Bit l) (hm : l.length ≤ 64) : ∀ (k i : Nat), l.length < k + i → i ≤ l.length →
    M_R_BitNum_l3 F l k ((bv (l.take i) : Nat), (i : Int)) = some ((bv l : Nat) : Int)
  | 0, _, _, _ => by omega
  | k + 1, i, h, hi => by
    show M_R_BitNum_b3 F l (M_R_BitNum_l3 F l k) ((bv (l.take i) : Nat) : Int) (i : Int) = _
    unfold M_R_BitNum_b3
    by_cases hlt : i < l.length
    · rw [if_pos (by simp; omega), idx_nat]
      obtain ⟨x, hx, hx2⟩ := bit_n hl hlt
      rw [hx]
      simp only [Option.bind_some, lett]
      rw [iconv_u64_n (by omega), iadd1_n (by omega)]
      have hb : bv (l.take (i + 1)) = 2 * bv (l.take i) + x := by
        have : l.take (i + 1) = l.take i ++ [(x : Int)] := by rw [List.take_add_one, hx]; rfl
        rw [this, bv_app]
        simp [bv]
        omega
      have hlt2 : bv (l.take (i + 1)) < 2 ^ 64 := Nat.lt_of_lt_of_le (bv_lt (fun y hy => hl y (List.mem_of_mem_take hy))) (Nat.pow_le_pow_right (by decide) (by simp; omega))
      rw [two64, hb] at hlt2
      have e : iadd .u64 (imul .u64 2 ((bv (l.take i) : Nat) : Int)) (x : Int) = ((bv (l.take (i + 1)) : Nat) : Int) := by
        unfold iadd imul
        rw [wrap_u64 (n := 2 * _) (by omega) (by omega), wrap_u64 (by omega) (by omega), hb]
        omega
      rw [e]
      exact bitNum_l hl hm k (i + 1) (by omega) (by omega)
    · rw [if_neg (by simp; omega)]
      obtain rfl : i = l.length := by omega
      rw [List.take_length]; rfl
theorem bitNum_eq {F : Nat} (hF : 100 ≤ F) {l : List Int} (hl : Bit l) (hm : l.length ≤ 64) : M_R_BitNum F l = some ((bv l : Nat) : Int) := by
  unfold M_R_BitNum
  exact bitNum_l hl hm F 0 (by omega) (by omega)
theorem fitsIn_l {F w : Nat} (hw : w ≤ 1000) : ∀ (k i n : Nat), w < k + i → i ≤ w → n < 18446744073709551616 →
    M_R_fitsIn_l3 F (w : Int) k ((n : Int), (i : Int)) = some (decide (n / 2 ^ (w - i) = 0))
  | 0, _, _, _, _, _ => by omega
  | k + 1, i, n, h, hi, hn => by
    show M_R_fitsIn_b3 F (w : Int) (M_R_fitsIn_l3 F (w : Int) k) (n : Int) (i : Int) = _
    unfold M_R_fitsIn_b3
    by_cases hlt : i < w
    · rw [if_pos (by simp; omega), iquo2_u hn, iadd1_n (by omega), fitsIn_l hw k (i + 1) (n / 2) (by omega) (by omega) (by omega)]
      rw [show w - i = (w - (i + 1)) + 1 from by omega, div_pow_succ]
    · rw [if_neg (by simp; omega), show w - i = 0 from by omega]
      unfold M_R_fitsIn_j2
      simp
      by_cases hz : n = 0
      · simp [hz]
      · simp only [hz, decide_false]; rw [beq_eq_false_iff_ne]; omega
theorem fitsIn_eq {F w n : Nat} (hF : 2000 ≤ F) (hw : w ≤ 1000) (hn : n < 18446744073709551616) : M_R_fitsIn F (n : Int) (w : Int) = some (decide (n / 2 ^ w = 0)) := by
  unfold M_R_fitsIn
  have := fitsIn_l (F := F) hw F 0 n (by omega) (by omega) hn
  simpa using this
theorem numBits_l {F w : Nat} (hw : w ≤ 100000) : ∀ (k i n : Nat) (t : List Int), i < k → i ≤ w → n < 18446744073709551616 →
    M_R_NumBits_l3 F k ((n : Int), List.replicate i 0 ++ t, (i : Int) - 1) = some (nb n i ++ t)
  | 0, _, _, _, h, _, _ => by omega
  | k + 1, 0, n, t, h, _, _ => by
    show M_R_NumBits_b3 F (M_R_NumBits_l3 F k) (n : Int) _ _ = _
    unfold M_R_NumBits_b3
    rw [if_neg (by simp)]
    simp [M_R_NumBits_j2, nb]
  | k + 1, i + 1, n, t, h, hi, hn => by
    show M_R_NumBits_b3 F (M_R_NumBits_l3 F k) (n : Int) (List.replicate (i + 1) 0 ++ t) (((i + 1 : Nat) : Int) - 1) = _
    unfold M_R_NumBits_b3
    rw [show ((i + 1 : Nat) : Int) - 1 = (i : Int) from by omega, if_pos (by simp), idx_nat]
    have hg : (List.replicate (i + 1) (0 : Int) ++ t)[i]? = some 0 := by
      rw [List.getElem?_append_left (by simp)]; simp
    rw [hg]
    simp only [Option.bind_some, lett]
    rw [irem2_n, iconv_i64_n (by omega), iquo2_u hn, isub_i64 (by omega) (by omega), Int.toNat_natCast]
    have e : (List.replicate (i + 1) (0 : Int) ++ t).set i ((n % 2 : Nat) : Int) = List.replicate i 0 ++ (((n % 2 : Nat) : Int) :: t) := by
      rw [List.replicate_succ', List.append_assoc, List.set_append_right _ _ (by simp)]
      simp
    rw [e, numBits_l hw k i (n / 2) _ (by omega) (by omega) (by omega), nb_snoc]
    simp
theorem numBits_eq {F w n : Nat} (hF : w < F) (hw : w ≤ 100000) (hn : n < 18446744073709551616) : M_R_NumBits F (n : Int) (w : Int) = some (nb n w) := by
  unfold M_R_NumBits
  have hmk : mk 17592186044416 (0 : Int) (w : Int) = some (List.replicate w 0) := by
    unfold mk
    rw [if_pos (by simp; omega)]; simp
  rw [hmk]
  simp only [Option.bind_some]
  rw [isub_i64 (by omega) (by omega)]
  have := numBits_l (F := F) hw F w n [] hF (by omega) hn
  simpa using this
end Go.Proofs.Ytaombidikooigaa

namespace Go.Proofs.Ytaombidikooigaa
open Go SX

theorem bitsCheck_l {F : Nat} {l : List Int} (hm : l.length ≤ 100000) : ∀ (k i : Nat), l.length < k + i → i ≤ l.length →
    M_R_BitsCheck_l4 F l k (i : Int) = some (if (l.drop i).all (· == 0) then 0 else 1)
  | 0, _, _, _ => by omega
  | k + 1, i, h, hi => by
    show M_R_BitsCheck_b4 F l (M_R_BitsCheck_l4 F l k) (i : Int) = _
    unfold M_R_BitsCheck_b4
    by_cases hlt : i < l.length
    · rw [if_pos (by simp; omega), idx_nat, List.getElem?_eq_getElem hlt, List.drop_eq_getElem_cons hlt, List.all_cons]
      simp only [Option.bind_some]
      by_cases h0 : l[i] = 0
      · rw [h0, if_neg (by simp), iadd1_n (by omega), bitsCheck_l hm k (i + 1) (by omega) (by omega)]
        simp
      · rw [if_pos (by simpa using h0)]
        simp [h0]
    · rw [if_neg (by simp; omega), List.drop_eq_nil_of_le (by omega)]
      rfl
theorem all_low {b : List Int} (hb : U8s b) {m : Nat} (hlen : b.length = (m + 7) / 8) (hr : m % 8 ≠ 0) : ((bl b (8 * ((m + 7) / 8))).drop m).all (· == 0) = decide (b.getD (m / 8) 0 % 2 ^ (8 - m % 8) = 0) := by
  obtain ⟨q, hq⟩ : ∃ q, q = m / 8 := ⟨_, rfl⟩
  obtain ⟨r, hrr⟩ : ∃ r, r = m % 8 := ⟨_, rfl⟩
  have hm : m = 8 * q + r := by omega
  have hx : 0 ≤ b.getD q 0 ∧ b.getD q 0 < 256 := by
    have hlt : q < b.length := by omega
    have := hb b[q] (List.getElem_mem hlt)
    simpa [List.getD, hlt] using this
  have hc : (m + 7) / 8 = q + 1 := by omega
  obtain ⟨c0, c1, c2, c3, c4, c5, c6, c7⟩ := bitAt_8 b q
  have hall : ((bl b (8 * (q + 1))).drop m).all (· == 0) = true ↔ (∀ i, m ≤ i → i < 8 * q + 8 → bitAt b i = 0) := by
    rw [List.all_eq_true]
    constructor
    · intro h i h1 h2
      have hg : ((bl b (8 * (q + 1))).drop m)[i - m]? = some (bitAt b i) := by
        rw [List.getElem?_drop, show m + (i - m) = i from by omega]; exact bl_get (by omega)
      have := h _ (List.mem_of_getElem? hg)
      simpa using this
    · intro h x hx
      obtain ⟨j, hj⟩ := List.getElem?_of_mem hx
      rw [List.getElem?_drop] at hj
      have hjl : m + j < 8 * (q + 1) := by
        have := (List.getElem?_eq_some_iff.1 hj).1; rwa [bl_len] at this
      rw [bl_get hjl] at hj
      rw [← Option.some.inj hj, h _ (by omega) (by omega)]; rfl
  rw [hc, ← hq, ← hrr, Bool.eq_iff_iff, decide_eq_true_iff, hall]
  have hall2 : (∀ i, m ≤ i → i < 8 * q + 8 → bitAt b i = 0) ↔ (∀ j, r ≤ j → j < 8 → bitAt b (8 * q + j) = 0) := by
    constructor
    · intro h j h1 h2; exact h _ (by omega) (by omega)
    · intro h i h1 h2
      have := h (i - 8 * q) (by omega) (by omega)
      rwa [show 8 * q + (i - 8 * q) = i from by omega] at this
  rw [hall2]
  generalize b.getD q 0 = x at *
  have mk : ∀ j, j < 8 → (∀ j', r ≤ j' → j' < 8 → bitAt b (8 * q + j') = 0) → r ≤ j → bitAt b (8 * q + j) = 0 := fun j h1 h h2 => h j h2 h1
  constructor
  · intro h
    have g1 := mk 1 (by omega) h; have g2 := mk 2 (by omega) h; have g3 := mk 3 (by omega) h; have g4 := mk 4 (by omega) h
    have g5 := mk 5 (by omega) h; have g6 := mk 6 (by omega) h; have g7 := mk 7 (by omega) h
    rw [c1] at g1; rw [c2] at g2; rw [c3] at g3; rw [c4] at g4; rw [c5] at g5; rw [c6] at g6; rw [c7] at g7
    clear c0 c1 c2 c3 c4 c5 c6 c7 mk hall hall2 h
    rcases (by omega : r = 1 ∨ r = 2 ∨ r = 3 ∨ r = 4 ∨ r = 5 ∨ r = 6 ∨ r = 7) with h | h | h | h | h | h | h <;> subst h <;> simp only [Nat.reduceSub, Int.reducePow] <;> omega
  · intro h j h1 h2
    clear mk hall hall2
    rcases (by omega : r = 1 ∨ r = 2 ∨ r = 3 ∨ r = 4 ∨ r = 5 ∨ r = 6 ∨ r = 7) with hh | hh | hh | hh | hh | hh | hh <;> subst hh <;> simp only [Nat.reduceSub, Int.reducePow] at h <;>
      rcases (by omega : j = 1 ∨ j = 2 ∨ j = 3 ∨ j = 4 ∨ j = 5 ∨ j = 6 ∨ j = 7) with g | g | g | g | g | g | g <;> subst g <;> first | (exfalso; omega) | (rw [c1]; omega) | (rw [c2]; omega) | (rw [c3]; omega) | (rw [c4]; omega) | (rw [c5]; omega) | (rw [c6]; omega) | (rw [c7]; omega)
theorem bitsCheck_eq {F : Nat} (hF : 20000 ≤ F) {n : Int} {b : List Int} (hb : U8s b) : M_R_BitsCheck F n b = some (chkOf n b) := by
  unfold M_R_BitsCheck chkOf
  rw [between_eq]
  simp only [Option.bind_some]
  by_cases c1 : n < 0 ∨ 8192 < n
  · rw [if_pos (by simp; omega), if_pos c1]
  · rw [if_neg (by simp; omega), if_neg c1]
    obtain ⟨m, rfl⟩ := Int.eq_ofNat_of_zero_le (show 0 ≤ n by omega)
    have hj : ∀ c : Nat, c = (m + 7) / 8 → M_R_BitsCheck_j1 F (m : Int) b (c : Int) = some (if (b.length : Int) ≠ ((m : Int) + 7) / 8 then 1 else if (m : Int) % 8 ≠ 0 ∧ b.getD ((m : Int).toNat / 8) 0 % 2 ^ (8 - (m : Int).toNat % 8) ≠ 0 then 1 else 0) := by
      intro c hc
      unfold M_R_BitsCheck_j1
      by_cases c2 : b.length = c
      · rw [if_neg (by simp [c2]), if_neg (by omega)]
        rw [imul_i64 (by omega) (by omega), show (8 : Int) * (c : Int) = ((8 * c : Nat) : Int) from by omega, bitList_eq hF hb (by omega) (by omega)]
        simp only [Option.bind_some]
        rw [bitsCheck_l (by rw [bl_len]; omega) F m (by rw [bl_len]; omega) (by rw [bl_len]; omega), Int.toNat_natCast]
        by_cases hr : m % 8 = 0
        · rw [List.drop_eq_nil_of_le (by rw [bl_len]; omega), List.all_nil, if_pos rfl, if_neg (by omega)]
        · rw [hc, all_low hb (by omega) hr]
          by_cases hz : b.getD (m / 8) 0 % 2 ^ (8 - m % 8) = 0
          · rw [if_pos (decide_eq_true hz), if_neg (fun h => h.2 hz)]
          · rw [if_neg (by simp only [decide_eq_true_eq]; exact hz), if_pos ⟨by omega, hz⟩]
      · rw [if_pos (by rw [bne_iff_ne]; omega), if_pos (by omega)]
    rw [irem8, iquo8 (by omega)]
    by_cases h8 : 0 < m % 8
    · rw [if_pos (by simp; omega), iadd1_n (by omega)]
      exact hj _ (by omega)
    · rw [if_neg (by simp; omega)]
      exact hj _ (by omega)
end Go.Proofs.Ytaombidikooigaa

namespace Go.Proofs.Ytaombidikooigaa
open Go SX

theorem sub_n {α : Type} {l : List α} {i j : Nat} (h1 : i ≤ j) (h2 : j ≤ l.length) : sub l (i : Int) (j : Int) = some ((l.take j).drop i) := by
  unfold sub
  rw [if_pos ⟨by omega, by omega, by omega⟩, Int.toNat_natCast, Int.toNat_natCast]
theorem packed {l : List Int} {F : Nat} (hF : 20000 ≤ F) (hl : Bit l) (hm : l.length ≤ 90000) : M_R_PackBits F l = some ((l.length : Int), pk l) := packBits_eq hF hl hm
theorem bitsJoin_eq {F : Nat} (hF : 20000 ≤ F) {n m : Int} {a b : List Int} (ha : U8s a) (hb : U8s b) : M_R_BitsJoin F n a m b = some (jn n a m b) := by
  unfold M_R_BitsJoin jn joinOf
  rw [bitsCheck_eq hF ha]
  simp only [Option.bind_some]
  by_cases h1 : chkOf n a = 0
  · obtain ⟨n', rfl, oa⟩ := chkOf_ok h1
    have hb1 : (chkOf (n' : Int) a == 0) = true := by simp [h1]
    rw [if_pos hb1, bitsCheck_eq hF hb]
    simp only [Option.bind_some]
    unfold M_R_BitsJoin_j1
    by_cases h2 : chkOf m b = 0
    · obtain ⟨m', rfl, ob⟩ := chkOf_ok h2
      have hA := oa.max
      have hB := ob.max
      have e1 : iadd .i64 (n' : Int) (m' : Int) = (n' : Int) + (m' : Int) := iadd_i64 (by omega) (by omega)
      rw [e1, h1, h2]
      by_cases h3 : (8192 : Int) < (n' : Int) + (m' : Int)
      · simp [h3, M_R_BitsJoin_j2]
      · simp only [h3, beq_self_eq_true, decide_false, Bool.and_false, Bool.false_eq_true, if_false, ne_eq, not_true_eq_false, M_R_BitsJoin_j2, bne_self_eq_false]
        rw [bitList_eq hF ha (by rw [oa.len]; omega) (by omega)]
        simp only [Option.bind_some]
        rw [bitList_eq hF hb (by rw [ob.len]; omega) (by omega)]
        simp only [Option.bind_some]
        rw [app_eq (by rw [bl_len, bl_len]; omega)]
        simp only [Option.bind_some]
        rw [packBits_eq hF (bit_app (bl_bit _ _) (bl_bit _ _)) (by rw [List.length_append, bl_len, bl_len]; omega)]
        simp [bl_len]
    · have hb2 : (chkOf m b == 0) = false := by simpa using h2
      have hb3 : (chkOf m b != 0) = true := by simpa using h2
      rw [hb2]
      simp only [Bool.false_and, Bool.false_eq_true, if_false, M_R_BitsJoin_j2, hb3, if_true, h1, ne_eq, not_true_eq_false, h2, not_false_eq_true]
  · have hb1 : (chkOf n a == 0) = false := by simpa using h1
    have hb3 : (chkOf n a != 0) = true := by simpa using h1
    rw [hb1]
    simp only [Bool.false_eq_true, if_false, M_R_BitsJoin_j1, hb1, Bool.false_and, M_R_BitsJoin_j2, hb3, if_true, ne_eq, h1, not_false_eq_true]
theorem ct_err {n : Int} {b : List Int} {i j e : Int} (h : cutOf n b i j = e) (he : e ≠ 0) : ct n b i j = (0, [], e) := by
  unfold ct; rw [h, if_pos he]
theorem ct_ok {n : Int} {b : List Int} {i j : Int} (h : cutOf n b i j = 0) : ct n b i j = (j - i, pk ((bl b j.toNat).drop i.toNat), 0) := by
  unfold ct; rw [h]; rfl
theorem bit_drop {l : List Int} (h : Bit l) (i : Nat) : Bit (l.drop i) := fun x hx => h x (List.mem_of_mem_drop hx)
theorem bit_take {l : List Int} (h : Bit l) (i : Nat) : Bit (l.take i) := fun x hx => h x (List.mem_of_mem_take hx)
theorem bitsCut_eq {F : Nat} (hF : 20000 ≤ F) {n i j : Int} {b : List Int} (hb : U8s b) : M_R_BitsCut F n b i j = some (ct n b i j) := by
  unfold M_R_BitsCut
  rw [bitsCheck_eq hF hb]
  simp only [Option.bind_some]
  by_cases h1 : chkOf n b = 0
  · obtain ⟨n', rfl, ob⟩ := chkOf_ok h1
    have hmx := ob.max
    rw [h1, if_pos (by rfl), between_eq]
    simp only [Option.bind_some]
    by_cases h2 : i < 0 ∨ (n' : Int) < i ∨ j < i ∨ (n' : Int) < j
    · rw [ct_err (e := 3) (by unfold cutOf; rw [if_neg (by simp [h1]), if_pos h2]) (by decide)]
      by_cases h3 : 0 ≤ i ∧ i ≤ (n' : Int)
      · rw [if_neg (by simp; omega), between_eq]
        simp only [Option.bind_some]
        rw [decide_eq_false (by omega)]
        rfl
      · rw [if_pos (by simp; omega)]
        rfl
    · rw [ct_ok (by unfold cutOf; rw [if_neg (by simp [h1]), if_neg h2]), if_neg (by simp; omega), between_eq]
      simp only [Option.bind_some]
      rw [decide_eq_true (by omega)]
      obtain ⟨i', rfl⟩ := Int.eq_ofNat_of_zero_le (show 0 ≤ i by omega)
      obtain ⟨j', rfl⟩ := Int.eq_ofNat_of_zero_le (show 0 ≤ j by omega)
      simp only [Bool.not_true, M_R_BitsCut_j7, M_R_BitsCut_j6, M_R_BitsCut_j4, Bool.false_eq_true, if_false, bne_self_eq_false]
      rw [bitList_eq hF hb (by rw [ob.len]; omega) (by omega)]
      simp only [Option.bind_some]
      rw [sub_n (by omega) (by rw [bl_len]; omega)]
      simp only [Option.bind_some]
      rw [bl_take (by omega), packBits_eq hF (bit_drop (bl_bit _ _) _) (by rw [List.length_drop, bl_len]; omega), List.length_drop, bl_len]
      simp
      omega
  · have hb1 : (chkOf n b == 0) = false := by simpa using h1
    have hb3 : (chkOf n b != 0) = true := by simpa using h1
    rw [hb1, ct_err (e := chkOf n b) (by unfold cutOf; rw [if_pos h1]) h1]
    simp only [Bool.false_eq_true, if_false, M_R_BitsCut_j6, M_R_BitsCut_j4, hb3, if_true]
theorem fits_n {n w : Nat} : (n / 2 ^ w = 0) ↔ ¬ (2 : Int) ^ (w : Int).toNat ≤ (n : Int) := by
  rw [Int.toNat_natCast, show (2 : Int) ^ w = ((2 ^ w : Nat) : Int) from by norm_cast, Nat.div_eq_zero_iff]
  have : 0 < 2 ^ w := Nat.pow_pos (by decide)
  omega
theorem bitsPut_eq {F : Nat} (hF : 20000 ≤ F) {m n w : Int} {b : List Int} (hb : U8s b) (hn : U64 n) : M_R_BitsPut F m b n w = some (pt m b n w) := by
  unfold M_R_BitsPut
  rw [bitsCheck_eq hF hb]
  simp only [Option.bind_some]
  by_cases h1 : chkOf m b = 0
  · obtain ⟨m, rfl, ob⟩ := chkOf_ok h1
    obtain ⟨n, rfl⟩ := Int.eq_ofNat_of_zero_le hn.1
    have hn2 : n < 18446744073709551616 := by have := hn.2; omega
    have hmx := ob.max
    rw [h1, if_pos (by rfl), between_eq]
    simp only [Option.bind_some]
    by_cases h2 : w < 0 ∨ 64 < w
    · rw [if_pos (by simp; omega), pt_err (e := 3) (by unfold putOf; rw [if_neg (by simp [h1]), if_pos (by omega)]) (by decide)]
      simp [M_R_BitsPut_j8, M_R_BitsPut_j7, M_R_BitsPut_j5, M_R_BitsPut_j4]
    · obtain ⟨w, rfl⟩ := Int.eq_ofNat_of_zero_le (show 0 ≤ w by omega)
      rw [if_neg (by simp; omega), fitsIn_eq (by omega) (by omega) hn2]
      simp only [Option.bind_some]
      have hlt := fits_n (n := n) (w := w)
      by_cases h5 : n / 2 ^ w = 0
      · rw [decide_eq_true h5]
        simp only [Bool.not_true, M_R_BitsPut_j8, M_R_BitsPut_j7, Bool.false_eq_true, if_false, M_R_BitsPut_j4, beq_self_eq_true, Bool.true_and]
        rw [iadd_i64 (by omega) (by omega)]
        by_cases h3 : 8192 < (m : Int) + w
        · rw [if_pos (by simpa using h3), pt_err (e := 8) (by unfold putOf; rw [if_neg (by simp [h1]), if_neg (by omega), if_pos h3]) (by decide)]; rfl
        · rw [if_neg (by simpa using h3), pt_ok (by unfold putOf; rw [if_neg (by simp [h1]), if_neg (by omega), if_neg h3])]
          unfold M_R_BitsPut_j5
          simp only [bne_self_eq_false, Bool.false_eq_true, if_false]
          rw [bitList_eq hF hb (by rw [ob.len]; omega) (by omega)]
          simp only [Option.bind_some]
          rw [numBits_eq (by omega) (by omega) hn2]
          simp only [Option.bind_some]
          rw [app_eq (by rw [bl_len, nb_len]; omega)]
          simp only [Option.bind_some]
          rw [packBits_eq hF (bit_app (bl_bit _ _) (nb_bit _ _)) (by rw [List.length_append, bl_len, nb_len]; omega)]
          simp [bl_len, nb_len]
      · rw [decide_eq_false h5, pt_err (e := 3) (by unfold putOf; rw [if_neg (by simp [h1]), if_pos (by omega)]) (by decide)]
        simp [M_R_BitsPut_j8, M_R_BitsPut_j7, M_R_BitsPut_j5, M_R_BitsPut_j4]
  · have hb1 : (chkOf m b == 0) = false := by simpa using h1
    have hb3 : (chkOf m b != 0) = true := by simpa using h1
    rw [hb1, pt_err (e := chkOf m b) (by unfold putOf; rw [if_pos h1]) h1]
    simp only [Bool.false_eq_true, if_false, M_R_BitsPut_j7, M_R_BitsPut_j4, M_R_BitsPut_j5, hb1, hb3, Bool.false_and, if_true]
theorem bitsGet_eq {F : Nat} (hF : 20000 ≤ F) {m a w : Int} {b : List Int} (hb : U8s b) : M_R_BitsGet F m b a w = some (gt m b a w) := by
  unfold M_R_BitsGet
  rw [bitsCheck_eq hF hb]
  simp only [Option.bind_some]
  by_cases h1 : chkOf m b = 0
  · obtain ⟨m, rfl, ob⟩ := chkOf_ok h1
    have hmx := ob.max
    rw [h1, if_pos (by rfl), between_eq]
    simp only [Option.bind_some]
    by_cases h2 : w < 0 ∨ 64 < w ∨ a < 0 ∨ (m : Int) < a
    · rw [gt_err (e := 3) (by unfold getOf; rw [if_neg (by simp [h1]), if_pos h2]) (by decide)]
      by_cases h3 : 0 ≤ w ∧ w ≤ 64
      · rw [if_neg (by simp; omega), between_eq]
        simp only [Option.bind_some]
        rw [decide_eq_false (by omega)]
        rfl
      · rw [if_pos (by simp; omega)]
        rfl
    · rw [if_neg (by simp; omega), between_eq]
      simp only [Option.bind_some]
      rw [decide_eq_true (by omega)]
      obtain ⟨w, rfl⟩ := Int.eq_ofNat_of_zero_le (show 0 ≤ w by omega)
      obtain ⟨a, rfl⟩ := Int.eq_ofNat_of_zero_le (show 0 ≤ a by omega)
      simp only [Bool.not_true, M_R_BitsGet_j8, M_R_BitsGet_j7, Bool.false_eq_true, if_false, M_R_BitsGet_j4, beq_self_eq_true, Bool.true_and]
      rw [iadd_n (by omega)]
      by_cases h3 : a + w ≤ m
      · rw [if_neg (by simp; omega), gt_ok (by unfold getOf; rw [if_neg (by simp [h1]), if_neg h2, if_neg (by omega)])]
        unfold M_R_BitsGet_j5
        simp only [bne_self_eq_false, Bool.false_eq_true, if_false]
        rw [bitList_eq hF hb (by rw [ob.len]; omega) (by omega)]
        simp only [Option.bind_some]
        rw [iadd_n (by omega), sub_n (by omega) (by rw [bl_len]; omega)]
        simp only [Option.bind_some]
        rw [bitNum_eq (by omega) (bit_drop (bit_take (bl_bit _ _) _) _) (by simp [bl_len]; omega)]
        simp only [Option.bind_some, Int.toNat_natCast]
        rw [List.drop_take, Nat.add_sub_cancel_left]
      · rw [if_pos (by simp; omega), gt_err (e := 7) (by unfold getOf; rw [if_neg (by simp [h1]), if_neg h2, if_pos (by omega)]) (by decide)]
        rfl
  · have hb1 : (chkOf m b == 0) = false := by simpa using h1
    have hb3 : (chkOf m b != 0) = true := by simpa using h1
    rw [hb1, gt_err (e := chkOf m b) (by unfold getOf; rw [if_pos h1]) h1]
    simp only [Bool.false_eq_true, if_false, M_R_BitsGet_j7, M_R_BitsGet_j4, M_R_BitsGet_j5, hb1, hb3, Bool.false_and, if_true]
end Go.Proofs.Ytaombidikooigaa

namespace Go.Proofs.Ytaombidikooigaa
open Go SX

/-! ### Right bits, told by their list -/
theorem chk_form {n : Int} {b : List Int} (hb : U8s b) : chkOf n b ≠ 0 ∨ ∃ l : List Int, Bit l ∧ l.length ≤ 8192 ∧ n = (l.length : Int) ∧ b = pk l := by
  by_cases h : chkOf n b = 0
  · obtain ⟨m, rfl, ob⟩ := chkOf_ok h
    exact .inr ⟨bl b m, bl_bit _ _, by rw [bl_len]; exact ob.max, by rw [bl_len], (pk_bl hb ob).symm⟩
  · exact .inl h
theorem chk_pk {l : List Int} (hm : l.length ≤ 8192) : chkOf (l.length : Int) (pk l) = 0 := chkOf_of_ok (ok_pk hm)
theorem jn_bad1 {n m : Int} {a b : List Int} (h : chkOf n a ≠ 0) : jn n a m b = (0, [], chkOf n a) := by
  unfold jn joinOf; simp [h]
theorem jn_bad2 {n m : Int} {a b : List Int} (h0 : chkOf n a = 0) (h : chkOf m b ≠ 0) : jn n a m b = (0, [], chkOf m b) := by
  unfold jn joinOf; simp [h0, h]
theorem jn_form {l k : List Int} (hl : Bit l) (hk : Bit k) (h1 : l.length ≤ 8192) (h2 : k.length ≤ 8192) :
    jn (l.length : Int) (pk l) (k.length : Int) (pk k) = if l.length + k.length ≤ 8192 then (((l ++ k).length : Int), pk (l ++ k), 0) else (0, [], 8) := by
  by_cases h : l.length + k.length ≤ 8192
  · have e : joinOf (l.length : Int) (pk l) (k.length : Int) (pk k) = 0 := by
      unfold joinOf; rw [chk_pk h1, chk_pk h2, if_neg (by simp), if_neg (by simp), if_neg (by omega)]
    unfold jn
    rw [e, if_pos h, if_neg (by simp), Int.toNat_natCast, Int.toNat_natCast, bl_pk hl, bl_pk hk]; simp
  · have e : joinOf (l.length : Int) (pk l) (k.length : Int) (pk k) = 8 := by
      unfold joinOf; rw [chk_pk h1, chk_pk h2, if_neg (by simp), if_neg (by simp), if_pos (by omega)]
    unfold jn
    rw [e, if_neg h, if_pos (by decide)]
theorem ct_bad {n i j : Int} {b : List Int} (h : chkOf n b ≠ 0) : ct n b i j = (0, [], chkOf n b) := ct_err (by unfold cutOf; rw [if_pos h]) h
theorem ct_range {l : List Int} {i j : Int} (h1 : l.length ≤ 8192) (h : ¬ (0 ≤ i ∧ i ≤ j ∧ j ≤ (l.length : Int))) : ct (l.length : Int) (pk l) i j = (0, [], 3) :=
  ct_err (by unfold cutOf; rw [if_neg (by simp [chk_pk h1]), if_pos (by omega)]) (by decide)
theorem ct_form {l : List Int} (hl : Bit l) (h1 : l.length ≤ 8192) {i j : Nat} (hi : i ≤ j) (hj : j ≤ l.length) :
    ct (l.length : Int) (pk l) (i : Int) (j : Int) = ((((l.take j).drop i).length : Int), pk ((l.take j).drop i), 0) := by
  rw [cut_pk hl h1 hi hj]
  simp
  omega
theorem gt_bad {n a w : Int} {b : List Int} (h : chkOf n b ≠ 0) : gt n b a w = (0, chkOf n b) := gt_err (by unfold getOf; rw [if_pos h]) h
theorem gt_range {l : List Int} {a w : Int} (h1 : l.length ≤ 8192) (h : ¬ (0 ≤ w ∧ w ≤ 64 ∧ 0 ≤ a ∧ a ≤ (l.length : Int))) : gt (l.length : Int) (pk l) a w = (0, 3) :=
  gt_err (by unfold getOf; rw [if_neg (by simp [chk_pk h1]), if_pos (by omega)]) (by decide)
theorem gt_short {l : List Int} {a w : Int} (h1 : l.length ≤ 8192) (h : 0 ≤ w ∧ w ≤ 64 ∧ 0 ≤ a ∧ a ≤ (l.length : Int)) (h2 : (l.length : Int) < a + w) : gt (l.length : Int) (pk l) a w = (0, 7) :=
  gt_err (by unfold getOf; rw [if_neg (by simp [chk_pk h1]), if_neg (by omega), if_pos h2]) (by decide)
theorem gt_form {l : List Int} (hl : Bit l) (h1 : l.length ≤ 8192) {a w : Nat} (hw : w ≤ 64) (h : a + w ≤ l.length) : gt (l.length : Int) (pk l) (a : Int) (w : Int) = (((bv ((l.drop a).take w) : Nat) : Int), 0) := by
  rw [gt_ok (by unfold getOf; rw [if_neg (by simp [chk_pk h1]), if_neg (by omega), if_neg (by omega)])]
  simp only [Int.toNat_natCast, bl_pk hl]
theorem pt_bad {m n w : Int} {b : List Int} (h : chkOf m b ≠ 0) : pt m b n w = (0, [], chkOf m b) := pt_err (by unfold putOf; rw [if_pos h]) h
theorem pt_range {l : List Int} {n w : Int} (h1 : l.length ≤ 8192) (h : ¬ (0 ≤ w ∧ w ≤ 64 ∧ n < 2 ^ w.toNat)) : pt (l.length : Int) (pk l) n w = (0, [], 3) :=
  pt_err (by unfold putOf; rw [if_neg (by simp [chk_pk h1]), if_pos (by omega)]) (by decide)
theorem pt_full {l : List Int} {n w : Int} (h1 : l.length ≤ 8192) (h : 0 ≤ w ∧ w ≤ 64 ∧ n < 2 ^ w.toNat) (h2 : 8192 < (l.length : Int) + w) : pt (l.length : Int) (pk l) n w = (0, [], 8) :=
  pt_err (by unfold putOf; rw [if_neg (by simp [chk_pk h1]), if_neg (by omega), if_pos h2]) (by decide)
theorem pt_form {l : List Int} (hl : Bit l) (h1 : l.length ≤ 8192) {n w : Nat} (hw : w ≤ 64) (hn : n < 2 ^ w) (h : l.length + w ≤ 8192) :
    pt (l.length : Int) (pk l) (n : Int) (w : Int) = (((l ++ nb n w).length : Int), pk (l ++ nb n w), 0) := by
  have hc : (n : Int) < 2 ^ (w : Int).toNat := by rw [Int.toNat_natCast]; exact_mod_cast hn
  rw [pt_ok (by unfold putOf; rw [if_neg (by simp [chk_pk h1]), if_neg (by omega), if_neg (by omega)])]
  simp [bl_pk hl, nb_len]
theorem i64_len {l : List Int} (h : l.length ≤ 8192) : I64 (l.length : Int) := ⟨by omega, by omega⟩
theorem pk_len9 {l : List Int} (h : l.length ≤ 8192) : (pk l).length ≤ 9223372036854775807 := by rw [pk_len]; omega
theorem pk_small {l : List Int} (h : l.length ≤ 8192) : (pk l).length ≤ 2000 := by rw [pk_len]; omega
theorem pk_nil : pk [] = [] := rfl
theorem same_self {F : Nat} {n : Int} {xs : List Int} (hF : xs.length < F) (hm : xs.length ≤ 1000000) : M_R_SameBits F n xs n xs = some true := by
  rw [sameBits_eq hF (by omega)]; simp
theorem pk_inj {l k : List Int} (hl : Bit l) (hk : Bit k) (h : l.length = k.length) (e : pk l = pk k) : l = k := by
  rw [← bl_pk hl, ← bl_pk hk, h, e]
/-- A result of bits, whatever is wrong, is short. -/
theorem pt_short {m n w : Int} {b : List Int} : (pt m b n w).2.1.length ≤ 2000 := by
  unfold pt
  split
  · simp
  · rename_i h
    have h0 : putOf m b n w = 0 := by simpa using h
    unfold putOf at h0
    split at h0
    · rename_i h1; exact absurd h0 h1
    · rename_i h1
      split at h0
      · simp at h0
      · split at h0
        · simp at h0
        · obtain ⟨q, rfl, ob⟩ := chkOf_ok (by simpa using h1)
          simp only [pk_len, List.length_append, bl_len, nb_len]
          omega
theorem jn_short {n m : Int} {a b : List Int} : (jn n a m b).2.1.length ≤ 2000 := by
  by_cases h : (jn n a m b).2.2 = 0
  · obtain ⟨n', m', rfl, rfl, oa, ob, hs⟩ := join_inv h
    rw [join_ok oa ob hs]
    simp only [pk_len, List.length_append, bl_len]
    omega
  · rw [(join_err h).2]; simp
theorem ct_short {n i j : Int} {b : List Int} : (ct n b i j).2.1.length ≤ 2000 := by
  unfold ct
  split
  · simp
  · rename_i h
    have h0 : cutOf n b i j = 0 := by simpa using h
    unfold cutOf at h0
    split at h0
    · rename_i h1; exact absurd h0 h1
    · rename_i h1
      split at h0
      · simp at h0
      · obtain ⟨q, rfl, ob⟩ := chkOf_ok (by simpa using h1)
        have := ob.max
        simp only [pk_len, List.length_drop, bl_len]
        omega
/-! ### The laws -/
theorem law_tell {n m v at_ w : Int} {a b : List Int} (ha : U8s a) (hb : U8s b) (hn : I64 n) (hm : I64 m) (hv : U64 v) (la : a.length ≤ 9223372036854775807) (lb : b.length ≤ 9223372036854775807) :
    M_L_BitsTell 20000 n a m b v at_ w = some true := by
  unfold M_L_BitsTell
  have h0 : 20000 ≤ 20000 := by omega
  rw [put_eq h0 ha hn hv la, get_eq h0 ha hn la, join_eq h0 ha hb hn hm la lb, cut_eq h0 ha hn la, bitsPut_eq h0 ha hv, bitsGet_eq h0 ha, bitsJoin_eq h0 ha hb, bitsCut_eq h0 ha, begun_bits' h0, check_eq ha hn.1 hn.2 la, bitsCheck_eq h0 ha]
  have s1 := pt_short (m := n) (n := v) (w := w) (b := a)
  have s2 := jn_short (n := n) (m := m) (a := a) (b := b)
  have s3 := ct_short (n := n) (i := at_) (j := w) (b := a)
  simp only [Option.bind_some, if_true, beq_self_eq_true]
  rw [same_self (by omega) (by omega), same_self (by omega) (by omega), same_self (by omega) (by omega)]
  rfl
theorem law_back {m n w : Int} {b : List Int} (hb : U8s b) (hm : I64 m) (hn : U64 n) (lb : b.length ≤ 9223372036854775807) : M_L_BitsBack 20000 m b n w = some true := by
  unfold M_L_BitsBack
  have h0 : 20000 ≤ 20000 := by omega
  rw [put_eq h0 hb hm hn lb, begun_bits' h0]
  simp only [Option.bind_some, Bool.not_true, Bool.false_eq_true, if_false]
  have hE : ∀ e : Int, e ≠ 0 → pt m b n w = (0, [], e) → (if ((pt m b n w).2.2 != 0) = true then (M_R_SameBits 20000 (pt m b n w).1 (pt m b n w).2.1 0 []).bind fun x => some x else ((M_bits_Get 20000 (pt m b n w).1 (pt m b n w).2.1 m w).bind fun x18 => ((M_bits_Cut 20000 (pt m b n w).1 (pt m b n w).2.1 0 m).bind fun x19 => (if ((((x18.2 : Int) == 0) && ((x18.1 : Int) == n)) && ((x19.2.2 : Int) == 0)) then ((M_R_SameBits 20000 x19.1 x19.2.1 m b).bind fun x33 => M_L_BitsBack_j1 20000 m w (pt m b n w) x33) else M_L_BitsBack_j1 20000 m w (pt m b n w) false)))) = some true := by
    intro e he h
    rw [h, if_pos (by simpa using he), same_self (by simp) (by simp)]; rfl
  rcases chk_form hb (n := m) with h1 | ⟨l, hl, hlm, rfl, rfl⟩
  · exact hE _ h1 (pt_bad h1)
  by_cases h2 : 0 ≤ w ∧ w ≤ 64 ∧ n < 2 ^ w.toNat
  · by_cases h3 : 8192 < (l.length : Int) + w
    · exact hE 8 (by decide) (pt_full hlm h2 h3)
    · obtain ⟨w, rfl⟩ := Int.eq_ofNat_of_zero_le h2.1
      obtain ⟨n, rfl⟩ := Int.eq_ofNat_of_zero_le hn.1
      have hlt : n < 2 ^ w := by have := h2.2.2; rw [Int.toNat_natCast] at this; exact_mod_cast this
      rw [pt_form hl hlm (by omega) hlt (by omega)]
      have hB : Bit (l ++ nb n w) := bit_app hl (nb_bit _ _)
      have hL : (l ++ nb n w).length = l.length + w := by rw [List.length_append, nb_len]
      have hL2 : (l ++ nb n w).length ≤ 8192 := by omega
      simp only [bne_self_eq_false, Bool.false_eq_true, if_false]
      rw [get_eq h0 (pk_u8 hB) (i64_len hL2) (pk_len9 hL2), gt_form hB hL2 (by omega) (by omega), cut_eq h0 (pk_u8 hB) (i64_len hL2) (pk_len9 hL2)]
      have hc := ct_form hB hL2 (i := 0) (j := l.length) (by omega) (by omega)
      rw [show ((0 : Nat) : Int) = 0 from rfl] at hc
      rw [hc]
      have e1 : ((l ++ nb n w).drop l.length).take w = nb n w := by rw [List.drop_left]; exact List.take_of_length_le (by rw [nb_len]; omega)
      have e2 : ((l ++ nb n w).take l.length).drop 0 = l := by rw [List.drop_zero, List.take_left]
      rw [e1, e2, bv_nb, Nat.mod_eq_of_lt hlt]
      simp only [Option.bind_some, beq_self_eq_true, Bool.and_true, if_true]
      rw [same_self (by have := pk_small hlm; omega) (by have := pk_small hlm; omega)]
      simp only [Option.bind_some, M_L_BitsBack_j1, Bool.true_and]
      rw [iadd_n (by omega), hL, if_pos (by simp), check_eq (pk_u8 hB) (by omega) (by omega) (pk_len9 hL2)]
      have := chk_pk hL2
      rw [hL] at this
      rw [this]
      rfl
  · exact hE 3 (by decide) (pt_range hlm h2)
end Go.Proofs.Ytaombidikooigaa

namespace Go.Proofs.Ytaombidikooigaa
open Go SX

theorem law_parts {m at_ hi lo : Int} {b : List Int} (hb : U8s b) (hm : I64 m) (lb : b.length ≤ 9223372036854775807) : M_L_BitsParts 20000 m b at_ hi lo = some true := by
  unfold M_L_BitsParts
  have h0 : 20000 ≤ 20000 := by omega
  rw [begun_bits' h0]
  simp only [Option.bind_some, Bool.not_true, Bool.false_eq_true, if_false]
  by_cases hr : hi < 0 ∨ 32 < hi ∨ lo < 0 ∨ 32 < lo
  · rw [if_pos (by simp; omega)]
  · rw [if_neg (by simp; omega), iadd_i64 (by omega) (by omega), get_eq h0 hb hm lb]
    simp only [Option.bind_some]
    have hE : ∀ e : Int, e ≠ 0 → gt m b at_ (hi + lo) = (0, e) → (if ((gt m b at_ (hi + lo)).2 != 0) = true then some ((gt m b at_ (hi + lo)).1 == 0) else (none : Option Bool)) = some true := by
      intro e he h
      rw [h, if_pos (by simpa using he)]; rfl
    have hE' : ∀ e : Int, ∀ k : Option Bool, e ≠ 0 → gt m b at_ (hi + lo) = (0, e) → (if ((gt m b at_ (hi + lo)).2 != 0) = true then some ((gt m b at_ (hi + lo)).1 == 0) else k) = some true := by
      intro e k he h
      rw [h, if_pos (by simpa using he)]; rfl
    rcases chk_form hb (n := m) with h1 | ⟨l, hl, hlm, rfl, rfl⟩
    · exact hE' _ _ h1 (gt_bad h1)
    by_cases h2 : 0 ≤ at_ ∧ at_ ≤ (l.length : Int)
    · by_cases h3 : (l.length : Int) < at_ + (hi + lo)
      · exact hE' 7 _ (by decide) (gt_short hlm (by omega) h3)
      · obtain ⟨a, rfl⟩ := Int.eq_ofNat_of_zero_le h2.1
        obtain ⟨h, rfl⟩ := Int.eq_ofNat_of_zero_le (show 0 ≤ hi by omega)
        obtain ⟨w, rfl⟩ := Int.eq_ofNat_of_zero_le (show 0 ≤ lo by omega)
        have g1 := gt_form hl hlm (a := a) (w := h + w) (by omega) (by omega)
        rw [show ((h + w : Nat) : Int) = (h : Int) + (w : Int) from by omega] at g1
        rw [g1, if_neg (by simp), get_eq h0 hb hm lb, gt_form hl hlm (by omega) (by omega)]
        simp only [Option.bind_some]
        rw [iadd_n (by omega), get_eq h0 hb hm lb, gt_form hl hlm (by omega) (by omega)]
        simp only [Option.bind_some, beq_self_eq_true, Bool.and_true, if_true]
        have hc : decide ((0 : Int) ≤ (w : Int)) = true := decide_eq_true (by omega)
        rw [hc]
        simp only [chk, if_true]
        have e : (l.drop a).take (h + w) = (l.drop a).take h ++ (l.drop (a + h)).take w := by
          rw [List.take_add, List.drop_drop]
        have l1 : ((l.drop a).take h).length = h := by simp; omega
        have l2 : ((l.drop (a + h)).take w).length = w := by simp; omega
        have b1 := bv_lt (bit_take (bit_drop hl a) h)
        have b2 := bv_lt (bit_take (bit_drop hl (a + h)) w)
        rw [e, bv_app, l2]
        rw [l1] at b1
        rw [l2] at b2
        generalize bv ((l.drop a).take h) = x at *
        generalize bv ((l.drop (a + h)).take w) = y at *
        have p1 : x * 2 ^ w + y < 18446744073709551616 := by
          have q1 : 2 ^ h ≤ 2 ^ 32 := Nat.pow_le_pow_right (by decide) (by omega)
          have q2 : 2 ^ w ≤ 2 ^ 32 := Nat.pow_le_pow_right (by decide) (by omega)
          have q3 : x * 2 ^ w + y < (x + 1) * 2 ^ w := by rw [Nat.add_mul]; omega
          have q4 : (x + 1) * 2 ^ w ≤ 2 ^ 32 * 2 ^ 32 := Nat.mul_le_mul (by omega) q2
          rw [show (2 : Nat) ^ 32 * 2 ^ 32 = 18446744073709551616 from by decide] at q4
          omega
        rw [ishl_n (by omega), Nat.mod_eq_of_lt (by omega), ior_n (m := w) b2 (Nat.mul_mod_left _ _) (by omega)]
        unfold M_L_BitsParts_j1
        rw [beq_self_eq_true]
    · exact hE' 3 _ (by decide) (gt_range hlm (by omega))
theorem law_cut {m i j x y : Int} {b : List Int} (hb : U8s b) (hm : I64 m) (lb : b.length ≤ 9223372036854775807) : M_L_BitsCut 20000 m b i j x y = some true := by
  unfold M_L_BitsCut
  have h0 : 20000 ≤ 20000 := by omega
  rw [cut_eq h0 hb hm lb, begun_bits' h0]
  simp only [Option.bind_some, Bool.not_true, Bool.false_eq_true, if_false]
  have hE : ∀ e : Int, ∀ k : Option Bool, e ≠ 0 → ct m b i j = (0, [], e) → (if ((ct m b i j).2.2 != 0) = true then ((M_R_SameBits 20000 (ct m b i j).1 (ct m b i j).2.1 0 []).bind fun x => some x) else k) = some true := by
    intro e k he h
    rw [h, if_pos (by simpa using he), same_self (by simp) (by simp)]; rfl
  rcases chk_form hb (n := m) with h1 | ⟨l, hl, hlm, rfl, rfl⟩
  · exact hE _ _ h1 (ct_bad h1)
  by_cases h2 : 0 ≤ i ∧ i ≤ j ∧ j ≤ (l.length : Int)
  · obtain ⟨i, rfl⟩ := Int.eq_ofNat_of_zero_le h2.1
    obtain ⟨j, rfl⟩ := Int.eq_ofNat_of_zero_le (show 0 ≤ j by omega)
    have hij : i ≤ j := by omega
    have hjl : j ≤ l.length := by omega
    rw [ct_form hl hlm hij hjl]
    simp only [bne_self_eq_false, Bool.false_eq_true, if_false]
    have c1 := ct_form hl hlm (i := 0) (j := i) (by omega) (by omega)
    have c2 := ct_form hl hlm (i := j) (j := l.length) (by omega) (by omega)
    rw [show ((0 : Nat) : Int) = 0 from rfl, List.drop_zero] at c1
    rw [List.take_length] at c2
    rw [cut_eq h0 hb hm lb, c1]
    simp only [Option.bind_some]
    rw [cut_eq h0 hb hm lb, c2]
    simp only [Option.bind_some]
    have hM : Bit ((l.take j).drop i) := bit_drop (bit_take hl _) _
    have hT : Bit (l.take i) := bit_take hl _
    have hD : Bit (l.drop j) := bit_drop hl _
    have lM : ((l.take j).drop i).length = j - i := by simp; omega
    have lT : (l.take i).length = i := by simp; omega
    have lD : (l.drop j).length = l.length - j := by simp
    have e1 : l.take i ++ (l.take j).drop i = l.take j := by
      conv => rhs; rw [← List.take_append_drop i (l.take j)]
      rw [List.take_take, Nat.min_eq_left hij]
    rw [join_eq h0 (pk_u8 hT) (pk_u8 hM) (i64_len (by omega)) (i64_len (by omega)) (pk_len9 (by omega)) (pk_len9 (by omega)), jn_form hT hM (by omega) (by omega), if_pos (by omega), e1]
    simp only [Option.bind_some]
    rw [join_eq h0 (pk_u8 (bit_take hl _)) (pk_u8 hD) (i64_len (by simp; omega)) (i64_len (by omega)) (pk_len9 (by simp; omega)) (pk_len9 (by omega)), jn_form (bit_take hl _) hD (by simp; omega) (by omega), if_pos (by simp; omega), List.take_append_drop]
    simp only [Option.bind_some, bne_self_eq_false, Bool.or_self, Bool.false_eq_true, if_false]
    rw [same_self (by have := pk_small hlm; omega) (by have := pk_small hlm; omega)]
    simp only [Option.bind_some, Bool.not_true, M_L_BitsCut_j2, Bool.false_eq_true, if_false]
    rw [cut_eq h0 (pk_u8 hM) (i64_len (by omega)) (pk_len9 (by omega))]
    simp only [Option.bind_some]
    by_cases h3 : 0 ≤ x ∧ x ≤ y ∧ y ≤ (((l.take j).drop i).length : Int)
    · obtain ⟨x, rfl⟩ := Int.eq_ofNat_of_zero_le h3.1
      obtain ⟨y, rfl⟩ := Int.eq_ofNat_of_zero_le (show 0 ≤ y by omega)
      rw [ct_form hM (by omega) (by omega) (by omega)]
      simp only [bne_self_eq_false, Bool.false_eq_true, if_false]
      rw [iadd_n (by omega), iadd_n (by omega), cut_eq h0 hb hm lb, ct_form hl hlm (by omega) (by omega)]
      have e2 : (((l.take j).drop i).take y).drop x = (l.take (i + y)).drop (i + x) := by
        rw [List.take_drop, List.take_take, Nat.min_eq_left (by omega), List.drop_drop]
      rw [e2]
      simp only [Option.bind_some, beq_self_eq_true, if_true]
      rw [same_self (by rw [pk_len]; simp; omega) (by rw [pk_len]; simp; omega)]
      rfl
    · rw [ct_range (by omega) h3]
      rfl
  · exact hE 3 _ (by decide) (ct_range hlm h2)
theorem law_nothing {m n at_ : Int} {b : List Int} (hb : U8s b) (hm : I64 m) (hn : U64 n) (lb : b.length ≤ 9223372036854775807) : M_L_BitsNothing 20000 m b n at_ = some true := by
  unfold M_L_BitsNothing
  have h0 : 20000 ≤ 20000 := by omega
  rw [put_eq h0 hb hm hn lb, get_eq h0 hb hm lb, begun_bits' h0, check_eq hb hm.1 hm.2 lb]
  simp only [Option.bind_some, Bool.not_true, Bool.false_eq_true, if_false]
  rcases chk_form hb (n := m) with h1 | ⟨l, hl, hlm, rfl, rfl⟩
  · rw [if_pos (by simpa using h1), pt_bad h1, gt_bad h1]
    simp [h1]
  rw [chk_pk hlm, if_neg (by simp)]
  have hj2 : M_L_BitsNothing_j2 20000 (l.length : Int) at_ (gt (l.length : Int) (pk l) at_ 0) true = some true := by
    unfold M_L_BitsNothing_j2
    by_cases h2 : 0 ≤ at_ ∧ at_ ≤ (l.length : Int)
    · obtain ⟨a, rfl⟩ := Int.eq_ofNat_of_zero_le h2.1
      have g := gt_form hl hlm (a := a) (w := 0) (by omega) (by omega)
      rw [show ((0 : Nat) : Int) = 0 from rfl, List.take_zero] at g
      rw [g, if_pos (by simp [bv])]
      unfold M_L_BitsNothing_j3
      rw [decide_eq_true h2.1, decide_eq_true h2.2]
      rfl
    · rw [gt_range hlm (by omega), if_pos (by simp)]
      unfold M_L_BitsNothing_j3
      have : (decide (0 ≤ at_) && decide (at_ ≤ (l.length : Int))) = false := by
        rw [Bool.eq_false_iff]; intro h; apply h2; simpa using h
      rw [this]; rfl
  by_cases hz : n = 0
  · subst hz
    have p := pt_form hl hlm (n := 0) (w := 0) (by omega) (by decide) (by omega)
    rw [show ((0 : Nat) : Int) = 0 from rfl, show nb 0 0 = [] from rfl, List.append_nil] at p
    rw [p, if_pos (by rfl)]
    dsimp only
    rw [same_self (by have := pk_small hlm; omega) (by have := pk_small hlm; omega)]
    simp only [Option.bind_some, M_L_BitsNothing_j1, if_true]
    exact hj2
  · rw [pt_range hlm (by simp; have := hn.1; omega), if_neg (by simp)]
    simp only [M_L_BitsNothing_j1, Bool.false_eq_true, if_false]
    rw [decide_eq_true (show 0 < n by have := hn.1; omega)]
    exact hj2
end Go.Proofs.Ytaombidikooigaa
