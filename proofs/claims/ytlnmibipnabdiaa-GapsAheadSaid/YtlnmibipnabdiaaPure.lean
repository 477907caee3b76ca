/- Plain facts of what the functions of this seat compute. -/
import Derived.Test.YtlnmibipnabdiaaModels
import Derived.KernelRfl
namespace Go.Proofs.Ytlnmibipnabdiaa
open Go SX
/-- The byte at place k of a list of bits. -/
def byt (l : List Int) (k : Nat) : Int :=
  l.getD (8 * k) 0 * 128 + l.getD (8 * k + 1) 0 * 64 + l.getD (8 * k + 2) 0 * 32 + l.getD (8 * k + 3) 0 * 16 + l.getD (8 * k + 4) 0 * 8 + l.getD (8 * k + 5) 0 * 4 + l.getD (8 * k + 6) 0 * 2 + l.getD (8 * k + 7) 0
def pk (l : List Int) : List Int := (List.range ((l.length + 7) / 8)).map (byt l)
def Bit (l : List Int) : Prop := ∀ x ∈ l, x = 0 ∨ x = 1
theorem Bit.getD {l : List Int} (h : Bit l) (i : Nat) : l.getD i 0 = 0 ∨ l.getD i 0 = 1 := by
  by_cases hi : i < l.length
  · have := h l[i] (List.getElem_mem hi)
    simpa [List.getD, hi] using this
  · left
    simp [List.getD, List.getElem?_eq_none (Nat.le_of_not_lt hi)]
theorem getD_ge {l : List Int} {i : Nat} (h : l.length ≤ i) : l.getD i 0 = 0 := by simp [List.getD, List.getElem?_eq_none h]
theorem getD_snoc (l : List Int) (x : Int) (i : Nat) : (l ++ [x]).getD i 0 = if i = l.length then x else l.getD i 0 := by
  by_cases h : i = l.length
  · subst h; simp [List.getD]
  · rw [if_neg h]
    by_cases h2 : i < l.length
    · simp [List.getD, List.getElem?_append_left h2]
    · rw [getD_ge (by simp; omega), getD_ge (by omega)]
theorem byt_range {l : List Int} (h : Bit l) (k : Nat) : 0 ≤ byt l k ∧ byt l k < 256 := by
  have h0 := h.getD (8 * k); have h1 := h.getD (8 * k + 1); have h2 := h.getD (8 * k + 2); have h3 := h.getD (8 * k + 3)
  have h4 := h.getD (8 * k + 4); have h5 := h.getD (8 * k + 5); have h6 := h.getD (8 * k + 6); have h7 := h.getD (8 * k + 7)
  unfold byt
  omega
theorem byt_snoc_other {l : List Int} {x : Int} {k : Nat} (h : k ≠ l.length / 8) : byt (l ++ [x]) k = byt l k := by
  unfold byt
  simp only [getD_snoc]
  rw [if_neg (by omega), if_neg (by omega), if_neg (by omega), if_neg (by omega), if_neg (by omega), if_neg (by omega), if_neg (by omega), if_neg (by omega)]
theorem byt_snoc_at {l : List Int} {x : Int} : byt (l ++ [x]) (l.length / 8) = byt l (l.length / 8) + x * 2 ^ (7 - l.length % 8) := by
  obtain ⟨k, hk⟩ : ∃ k, k = l.length / 8 := ⟨_, rfl⟩
  obtain ⟨r, hr⟩ : ∃ r, r = l.length % 8 := ⟨_, rfl⟩
  have hl : l.length = 8 * k + r := by omega
  have hr8 : r < 8 := by omega
  rw [← hk, ← hr]
  unfold byt
  simp only [getD_snoc, hl]
  have hg : ∀ j, r ≤ j → l.getD (8 * k + j) 0 = 0 := fun j hj => getD_ge (by omega)
  have g0 := hg 0; have g1 := hg 1; have g2 := hg 2; have g3 := hg 3; have g4 := hg 4; have g5 := hg 5; have g6 := hg 6; have g7 := hg 7
  rw [Nat.add_zero] at g0
  rcases (by omega : r = 0 ∨ r = 1 ∨ r = 2 ∨ r = 3 ∨ r = 4 ∨ r = 5 ∨ r = 6 ∨ r = 7) with rfl | rfl | rfl | rfl | rfl | rfl | rfl | rfl
  · rw [show (2 : Int) ^ (7 - 0) = 128 from by decide]
    rw [if_pos (by omega), if_neg (by omega), if_neg (by omega), if_neg (by omega), if_neg (by omega), if_neg (by omega), if_neg (by omega), if_neg (by omega)]
    have e0 := g0 (by omega)
    have e1 := g1 (by omega)
    have e2 := g2 (by omega)
    have e3 := g3 (by omega)
    have e4 := g4 (by omega)
    have e5 := g5 (by omega)
    have e6 := g6 (by omega)
    have e7 := g7 (by omega)
    omega
  · rw [show (2 : Int) ^ (7 - 1) = 64 from by decide]
    rw [if_neg (by omega), if_pos (by omega), if_neg (by omega), if_neg (by omega), if_neg (by omega), if_neg (by omega), if_neg (by omega), if_neg (by omega)]
    have e1 := g1 (by omega)
    have e2 := g2 (by omega)
    have e3 := g3 (by omega)
    have e4 := g4 (by omega)
    have e5 := g5 (by omega)
    have e6 := g6 (by omega)
    have e7 := g7 (by omega)
    omega
  · rw [show (2 : Int) ^ (7 - 2) = 32 from by decide]
    rw [if_neg (by omega), if_neg (by omega), if_pos (by omega), if_neg (by omega), if_neg (by omega), if_neg (by omega), if_neg (by omega), if_neg (by omega)]
    have e2 := g2 (by omega)
    have e3 := g3 (by omega)
    have e4 := g4 (by omega)
    have e5 := g5 (by omega)
    have e6 := g6 (by omega)
    have e7 := g7 (by omega)
    omega
  · rw [show (2 : Int) ^ (7 - 3) = 16 from by decide]
    rw [if_neg (by omega), if_neg (by omega), if_neg (by omega), if_pos (by omega), if_neg (by omega), if_neg (by omega), if_neg (by omega), if_neg (by omega)]
    have e3 := g3 (by omega)
    have e4 := g4 (by omega)
    have e5 := g5 (by omega)
    have e6 := g6 (by omega)
    have e7 := g7 (by omega)
    omega
  · rw [show (2 : Int) ^ (7 - 4) = 8 from by decide]
    rw [if_neg (by omega), if_neg (by omega), if_neg (by omega), if_neg (by omega), if_pos (by omega), if_neg (by omega), if_neg (by omega), if_neg (by omega)]
    have e4 := g4 (by omega)
    have e5 := g5 (by omega)
    have e6 := g6 (by omega)
    have e7 := g7 (by omega)
    omega
  · rw [show (2 : Int) ^ (7 - 5) = 4 from by decide]
    rw [if_neg (by omega), if_neg (by omega), if_neg (by omega), if_neg (by omega), if_neg (by omega), if_pos (by omega), if_neg (by omega), if_neg (by omega)]
    have e5 := g5 (by omega)
    have e6 := g6 (by omega)
    have e7 := g7 (by omega)
    omega
  · rw [show (2 : Int) ^ (7 - 6) = 2 from by decide]
    rw [if_neg (by omega), if_neg (by omega), if_neg (by omega), if_neg (by omega), if_neg (by omega), if_neg (by omega), if_pos (by omega), if_neg (by omega)]
    have e6 := g6 (by omega)
    have e7 := g7 (by omega)
    omega
  · rw [show (2 : Int) ^ (7 - 7) = 1 from by decide]
    rw [if_neg (by omega), if_neg (by omega), if_neg (by omega), if_neg (by omega), if_neg (by omega), if_neg (by omega), if_neg (by omega), if_pos (by omega)]
    have e7 := g7 (by omega)
    omega
theorem irem8 (n : Nat) : irem (n : Int) 8 = ((n % 8 : Nat) : Int) := by
  unfold irem; rw [Int.tmod_eq_emod_of_nonneg (by omega)]; omega
theorem iquo8 {n : Nat} (h : n ≤ 9223372036854775807) : iquo .i64 (n : Int) 8 = ((n / 8 : Nat) : Int) := by
  unfold iquo; rw [Int.tdiv_eq_ediv_of_nonneg (by omega), wrap_i64 (by omega) (by omega)]; omega
/-- A byte has nothing yet behind the last bit. -/
theorem byt_low {l : List Int} : byt l (l.length / 8) % 2 ^ (8 - l.length % 8) = 0 := by
  obtain ⟨k, hk⟩ : ∃ k, k = l.length / 8 := ⟨_, rfl⟩
  obtain ⟨r, hr⟩ : ∃ r, r = l.length % 8 := ⟨_, rfl⟩
  have hl : l.length = 8 * k + r := by omega
  have hr8 : r < 8 := by omega
  rw [← hk, ← hr]
  unfold byt
  have hg : ∀ j, r ≤ j → l.getD (8 * k + j) 0 = 0 := fun j hj => getD_ge (by omega)
  have g0 := hg 0; have g1 := hg 1; have g2 := hg 2; have g3 := hg 3; have g4 := hg 4; have g5 := hg 5; have g6 := hg 6; have g7 := hg 7
  rw [Nat.add_zero] at g0
  rcases (by omega : r = 0 ∨ r = 1 ∨ r = 2 ∨ r = 3 ∨ r = 4 ∨ r = 5 ∨ r = 6 ∨ r = 7) with rfl | rfl | rfl | rfl | rfl | rfl | rfl | rfl
  · have e0 := g0 (by omega); have e1 := g1 (by omega); have e2 := g2 (by omega); have e3 := g3 (by omega); have e4 := g4 (by omega); have e5 := g5 (by omega); have e6 := g6 (by omega); have e7 := g7 (by omega)
    rw [show (2 : Int) ^ (8 - 0) = 256 from by decide]; omega
  · have e1 := g1 (by omega); have e2 := g2 (by omega); have e3 := g3 (by omega); have e4 := g4 (by omega); have e5 := g5 (by omega); have e6 := g6 (by omega); have e7 := g7 (by omega)
    rw [show (2 : Int) ^ (8 - 1) = 128 from by decide]; omega
  · have e2 := g2 (by omega); have e3 := g3 (by omega); have e4 := g4 (by omega); have e5 := g5 (by omega); have e6 := g6 (by omega); have e7 := g7 (by omega)
    rw [show (2 : Int) ^ (8 - 2) = 64 from by decide]; omega
  · have e3 := g3 (by omega); have e4 := g4 (by omega); have e5 := g5 (by omega); have e6 := g6 (by omega); have e7 := g7 (by omega)
    rw [show (2 : Int) ^ (8 - 3) = 32 from by decide]; omega
  · have e4 := g4 (by omega); have e5 := g5 (by omega); have e6 := g6 (by omega); have e7 := g7 (by omega)
    rw [show (2 : Int) ^ (8 - 4) = 16 from by decide]; omega
  · have e5 := g5 (by omega); have e6 := g6 (by omega); have e7 := g7 (by omega)
    rw [show (2 : Int) ^ (8 - 5) = 8 from by decide]; omega
  · have e6 := g6 (by omega); have e7 := g7 (by omega)
    rw [show (2 : Int) ^ (8 - 6) = 4 from by decide]; omega
  · have e7 := g7 (by omega)
    rw [show (2 : Int) ^ (8 - 7) = 2 from by decide]; omega
theorem byt_end {l : List Int} (h : l.length % 8 = 0) : byt l (l.length / 8) = 0 := by
  unfold byt
  rw [getD_ge (by omega), getD_ge (by omega), getD_ge (by omega), getD_ge (by omega), getD_ge (by omega), getD_ge (by omega), getD_ge (by omega), getD_ge (by omega)]
  rfl
theorem ior_comm (k : IntKind) (a b : Int) : ior k a b = ior k b a := by unfold ior; rw [BitVec.or_comm]
/-- The room for one more bit. -/
def room (l : List Int) : List Int := (List.range (l.length / 8 + 1)).map (byt l)
theorem room_j1 {F : Nat} {l : List Int} (hl : Bit l) {x : Int} (hx : x = 0 ∨ x = 1) (hn : l.length ≤ 1000000) : M_bits_writer_bit_j1 F (l.length : Int) x (room l) = some (((l.length + 1 : Nat) : Int), pk (l ++ [x])) := by
  unfold M_bits_writer_bit_j1
  rw [iquo8 (by omega), irem8]
  have hg : (room l)[l.length / 8]? = some (byt l (l.length / 8)) := by simp [room]
  rw [idx_nat, hg]
  simp only [Option.bind_some]
  have hc : decide ((0 : Int) ≤ ((l.length % 8 : Nat) : Int)) = true := decide_eq_true (by omega)
  rw [hc]
  simp only [chk, if_true, lett, Int.toNat_natCast]
  have hb := byt_range hl (l.length / 8)
  have hr8 : l.length % 8 < 8 := Nat.mod_lt _ (by decide)
  have e1 : ishl .u64 x 7 = x * 128 := by
    have := ishl_u64 (a := x) (m := 7) (by decide)
    rw [show ((7 : Nat) : Int) = 7 from rfl] at this
    rw [this]
    rcases hx with rfl | rfl <;> decide
  have e2 : iconv .u8 (x * 128) = x * 128 := wrap_u8 (by omega) (by omega)
  have e3 : ishr .u8 (x * 128) ((l.length % 8 : Nat) : Int) = x * 2 ^ (7 - l.length % 8) := by
    rw [ishr_eq (by simp only [IntKind.bits]; omega)]
    have key : ∀ r : Fin 8, ((0 : Int) * 128 / 2 ^ r.val = 0 * 2 ^ (7 - r.val)) ∧ ((1 : Int) * 128 / 2 ^ r.val = 1 * 2 ^ (7 - r.val)) := by decide
    have := key ⟨l.length % 8, hr8⟩
    rcases hx with rfl | rfl
    · exact this.1
    · exact this.2
  have key2 : ∀ r : Fin 8, (1 : Int) ≤ 2 ^ (7 - r.val) ∧ (2 : Int) ^ (8 - r.val) = 2 * 2 ^ (7 - r.val) ∧ (2 : Int) ^ (7 - r.val) ≤ 128 ∧ (256 : Int) % 2 ^ (8 - r.val) = 0 ∧ (2 : Int) ^ (8 - r.val) ≤ 256 := by decide
  have hk2 := key2 ⟨l.length % 8, hr8⟩
  simp only at hk2
  have hat := byt_snoc_at (l := l) (x := x)
  have hb2 : Bit (l ++ [x]) := by
    intro y hy
    rcases List.mem_append.1 hy with h | h
    · exact hl y h
    · simp at h; subst h; exact hx
  have hbb := byt_range hb2 (l.length / 8)
  have e4 : ior .u8 (byt l (l.length / 8)) (x * 2 ^ (7 - l.length % 8)) = byt (l ++ [x]) (l.length / 8) := by
    rw [ior_comm, ior_add (m := 8 - l.length % 8) ?_ ?_ hb.1 byt_low rfl ?_]
    · rw [hat]; omega
    · rcases hx with rfl | rfl <;> omega
    · rcases hx with rfl | rfl <;> omega
    · simp only [IntKind.bits]
      rw [show (2 : Int) ^ 8 = 256 from by decide]
      omega
  rw [e1, e2, e3, e4, iadd_i64 (by omega) (by omega)]
  congr 2
  unfold room pk
  have hlen : ((l ++ [x]).length + 7) / 8 = l.length / 8 + 1 := by simp; omega
  rw [hlen]
  apply List.ext_getElem?
  intro k
  rw [List.getElem?_set]
  by_cases hk : l.length / 8 = k
  · subst hk; simp
  · rw [if_neg hk]
    simp only [List.getElem?_map]
    by_cases h3 : k < l.length / 8 + 1
    · rw [List.getElem?_range h3]
      simp only [Option.map_some]
      rw [byt_snoc_other (fun e => hk e.symm)]
    · rw [List.getElem?_eq_none (by simpa using h3)]
      rfl
theorem bit_eq {F : Nat} {l : List Int} (hl : Bit l) {x : Int} (hx : x = 0 ∨ x = 1) (hn : l.length ≤ 1000000) : M_bits_writer_bit F (l.length : Int) (pk l) x = some (((l.length + 1 : Nat) : Int), pk (l ++ [x])) := by
  unfold M_bits_writer_bit
  rw [irem8]
  by_cases h : l.length % 8 = 0
  · have h1 : ((((l.length % 8 : Nat) : Int) : Int) == 0) = true := by simp [h]
    simp only [h1, if_true]
    rw [app_eq (by simp [pk]; omega)]
    simp only [Option.bind_some]
    have : pk l ++ [0] = room l := by
      unfold pk room
      rw [show (l.length + 7) / 8 = l.length / 8 from by omega, List.range_succ, List.map_append]
      simp [byt_end h]
    rw [this]
    exact room_j1 hl hx hn
  · have h1 : ((((l.length % 8 : Nat) : Int) : Int) == 0) = false := by simp; omega
    simp only [h1, Bool.false_eq_true, if_false]
    have : pk l = room l := by
      unfold pk room
      rw [show (l.length + 7) / 8 = l.length / 8 + 1 from by omega]
    rw [this]
    exact room_j1 hl hx hn
def bitAt (b : List Int) (i : Nat) : Int := b.getD (i / 8) 0 / 2 ^ (7 - i % 8) % 2
def bl (b : List Int) (n : Nat) : List Int := (List.range n).map (bitAt b)
theorem bitAt_bit (b : List Int) (i : Nat) : bitAt b i = 0 ∨ bitAt b i = 1 := by unfold bitAt; omega
theorem bl_bit (b : List Int) (n : Nat) : Bit (bl b n) := by
  intro x hx
  obtain ⟨i, _, rfl⟩ := List.mem_map.1 hx
  exact bitAt_bit b i
theorem bl_len (b : List Int) (n : Nat) : (bl b n).length = n := by simp [bl]
def U8s (l : List Int) : Prop := ∀ n ∈ l, 0 ≤ n ∧ n < 256
theorem at_eq {F : Nat} {n : Int} {b : List Int} (hb : U8s b) {i : Nat} (hi : i / 8 < b.length) (hm : i ≤ 1000000) : M_bits_At F n b (i : Int) = some (bitAt b i) := by
  unfold M_bits_At
  rw [iquo8 (by omega), irem8, idx_nat]
  have hg : b[i / 8]? = some b[i / 8] := by simp [hi]
  rw [hg]
  simp only [Option.bind_some]
  have e1 : isub .i64 7 ((i % 8 : Nat) : Int) = ((7 - i % 8 : Nat) : Int) := by rw [isub_i64 (by omega) (by omega)]; omega
  rw [e1]
  have hc : decide ((0 : Int) ≤ ((7 - i % 8 : Nat) : Int)) = true := decide_eq_true (by omega)
  rw [hc]
  simp only [chk, if_true, lett]
  have hx := hb b[i / 8] (List.getElem_mem hi)
  rw [ishr_eq (by simp only [IntKind.bits]; omega)]
  have hp : (1 : Int) ≤ 2 ^ (7 - i % 8) := by
    have key : ∀ r : Fin 8, (1 : Int) ≤ 2 ^ (7 - r.val) := by decide
    exact key ⟨i % 8, Nat.mod_lt _ (by decide)⟩
  have h1 : 0 ≤ b[i / 8] / 2 ^ (7 - i % 8) := Int.ediv_nonneg hx.1 (by omega)
  have h2 : b[i / 8] / 2 ^ (7 - i % 8) ≤ b[i / 8] := Int.ediv_le_self _ hx.1
  have e2 : iconv .u64 (b[i / 8] / 2 ^ (7 - i % 8)) = b[i / 8] / 2 ^ (7 - i % 8) := wrap_u64 h1 (by omega)
  rw [e2]
  have e3 := iand_mask (k := .u64) (a := b[i / 8] / 2 ^ (7 - i % 8)) (m := 1) h1 (by simp only [IntKind.bits]; rw [show (2 : Int) ^ 64 = 18446744073709551616 from by decide]; omega) (by decide) rfl
  rw [show ((2 ^ 1 - 1 : Nat) : Int) = 1 from rfl, show (2 : Int) ^ 1 = 2 from rfl] at e3
  rw [e3]
  unfold bitAt
  simp [List.getD, hg]
theorem bl_succ (b : List Int) (n : Nat) : bl b (n + 1) = bl b n ++ [bitAt b n] := by simp [bl, List.range_succ]
/-- All places, one behind the other, written behind what is there. -/
theorem places_l {F : Nat} {n : Int} {b : List Int} (hb : U8s b) {yy : (Int × List Int) → Int → Option ((Int × List Int) ⊕ Empty)} (hy : ∀ (l : List Int) x, Bit l → (x = 0 ∨ x = 1) → l.length ≤ 100000 → yy ((l.length : Int), pk l) x = some (.inl (((l.length + 1 : Nat) : Int), pk (l ++ [x])))) {to : Nat} (ht : to ≤ 8 * b.length) (hm : to ≤ 10000) :
    ∀ (k i : Nat) (l : List Int), to < k + i → i ≤ to → Bit l → l.length + (to - i) ≤ 100000 →
      M_bits_places_1_l1 F yy (to : Int) n b k ((i : Int), ((l.length : Int), pk l)) = some (.inl (((l.length + (to - i) : Nat) : Int), pk (l ++ (bl b to).drop i)))
  | 0, i, l, h, hi, _, _ => by omega
  | k + 1, i, l, h, hi, hl, hc => by
    have hstep : M_bits_places_1_l1 F yy (to : Int) n b (k + 1) ((i : Int), ((l.length : Int), pk l)) = M_bits_places_1_b1 F yy (to : Int) n b (M_bits_places_1_l1 F yy (to : Int) n b k) (i : Int) ((l.length : Int), pk l) := rfl
    rw [hstep]
    unfold M_bits_places_1_b1
    by_cases hlt : i < to
    · have h1 : (i : Int) < (to : Int) := by omega
      simp only [h1, decide_true, if_true]
      rw [at_eq hb (by omega) (by omega)]
      simp only [Option.bind_some]
      have hx := bitAt_bit b i
      rw [hy l _ hl hx (by omega)]
      simp only [Option.bind_some, Sum.elim_inl]
      rw [iadd_i64 (by omega) (by omega), show (i : Int) + 1 = ((i + 1 : Nat) : Int) from by omega]
      have hl2 : Bit (l ++ [bitAt b i]) := by
        intro y hy2
        rcases List.mem_append.1 hy2 with h | h
        · exact hl y h
        · simp at h; subst h; exact hx
      have := places_l (F := F) (n := n) hb hy ht hm k (i + 1) (l ++ [bitAt b i]) (by omega) (by omega) hl2 (by simp; omega)
      rw [show (l ++ [bitAt b i]).length = l.length + 1 from by simp] at this
      rw [this]
      have hd : (bl b to).drop i = bitAt b i :: (bl b to).drop (i + 1) := by
        rw [List.drop_eq_getElem_cons (by rw [bl_len]; exact hlt)]
        congr 1
        simp [bl]
      rw [hd, List.append_assoc, show l.length + 1 + (to - (i + 1)) = l.length + (to - i) from by omega]
      rfl
    · have h1 : ¬ (i : Int) < (to : Int) := by omega
      simp only [h1, decide_false, Bool.false_eq_true, if_false]
      rw [List.drop_eq_nil_of_le (by rw [bl_len]; omega), List.append_nil, show l.length + (to - i) = l.length from by omega]
structure Ok (n : Nat) (b : List Int) : Prop where
  max : n ≤ 8192
  len : b.length = (n + 7) / 8
  low : n % 8 ≠ 0 → b.getD (n / 8) 0 % 2 ^ (8 - n % 8) = 0
theorem bl_getD {b : List Int} {n i : Nat} : (bl b n).getD i 0 = if i < n then bitAt b i else 0 := by
  by_cases h : i < n
  · rw [if_pos h]; simp [bl, List.getD, h]
  · rw [if_neg h]; exact getD_ge (by rw [bl_len]; omega)
theorem bits8 {x : Int} (h0 : 0 ≤ x) (h1 : x < 256) : x / 128 % 2 * 128 + x / 64 % 2 * 64 + x / 32 % 2 * 32 + x / 16 % 2 * 16 + x / 8 % 2 * 8 + x / 4 % 2 * 4 + x / 2 % 2 * 2 + x / 1 % 2 = x := by omega
theorem bitAt_8 (b : List Int) (k : Nat) : bitAt b (8 * k) = b.getD k 0 / 128 % 2 ∧ bitAt b (8 * k + 1) = b.getD k 0 / 64 % 2 ∧ bitAt b (8 * k + 2) = b.getD k 0 / 32 % 2 ∧ bitAt b (8 * k + 3) = b.getD k 0 / 16 % 2 ∧
    bitAt b (8 * k + 4) = b.getD k 0 / 8 % 2 ∧ bitAt b (8 * k + 5) = b.getD k 0 / 4 % 2 ∧ bitAt b (8 * k + 6) = b.getD k 0 / 2 % 2 ∧ bitAt b (8 * k + 7) = b.getD k 0 / 1 % 2 := by
  unfold bitAt
  rw [show 8 * k / 8 = k from by omega, show (8 * k + 1) / 8 = k from by omega, show (8 * k + 2) / 8 = k from by omega, show (8 * k + 3) / 8 = k from by omega, show (8 * k + 4) / 8 = k from by omega, show (8 * k + 5) / 8 = k from by omega, show (8 * k + 6) / 8 = k from by omega, show (8 * k + 7) / 8 = k from by omega,
    show 8 * k % 8 = 0 from by omega, show (8 * k + 1) % 8 = 1 from by omega, show (8 * k + 2) % 8 = 2 from by omega, show (8 * k + 3) % 8 = 3 from by omega, show (8 * k + 4) % 8 = 4 from by omega, show (8 * k + 5) % 8 = 5 from by omega, show (8 * k + 6) % 8 = 6 from by omega, show (8 * k + 7) % 8 = 7 from by omega]
  exact ⟨rfl, rfl, rfl, rfl, rfl, rfl, rfl, rfl⟩
theorem byt_bl {n : Nat} {b : List Int} (hb : U8s b) (h : Ok n b) {k : Nat} (hk : k < (n + 7) / 8) : byt (bl b n) k = b.getD k 0 := by
  have hx : 0 ≤ b.getD k 0 ∧ b.getD k 0 < 256 := by
    have hlt : k < b.length := by rw [h.len]; exact hk
    have := hb b[k] (List.getElem_mem hlt)
    simpa [List.getD, hlt] using this
  obtain ⟨c0, c1, c2, c3, c4, c5, c6, c7⟩ := bitAt_8 b k
  unfold byt
  simp only [bl_getD]
  rw [c0, c1, c2, c3, c4, c5, c6, c7]
  by_cases hf : 8 * k + 8 ≤ n
  · rw [if_pos (by omega), if_pos (by omega), if_pos (by omega), if_pos (by omega), if_pos (by omega), if_pos (by omega), if_pos (by omega), if_pos (by omega)]
    exact bits8 hx.1 hx.2
  · have hkn : n / 8 = k := by omega
    obtain ⟨r, hr⟩ : ∃ r, r = n % 8 := ⟨_, rfl⟩
    have hn : n = 8 * k + r := by omega
    have hlow := h.low (by omega)
    rw [hkn, ← hr] at hlow
    generalize b.getD k 0 = x at hx hlow
    rcases (by omega : r = 1 ∨ r = 2 ∨ r = 3 ∨ r = 4 ∨ r = 5 ∨ r = 6 ∨ r = 7) with rfl | rfl | rfl | rfl | rfl | rfl | rfl
    · rw [if_pos (by omega), if_neg (by omega), if_neg (by omega), if_neg (by omega), if_neg (by omega), if_neg (by omega), if_neg (by omega), if_neg (by omega)]
      rw [show (2 : Int) ^ (8 - 1) = 128 from by decide] at hlow
      omega
    · rw [if_pos (by omega), if_pos (by omega), if_neg (by omega), if_neg (by omega), if_neg (by omega), if_neg (by omega), if_neg (by omega), if_neg (by omega)]
      rw [show (2 : Int) ^ (8 - 2) = 64 from by decide] at hlow
      omega
    · rw [if_pos (by omega), if_pos (by omega), if_pos (by omega), if_neg (by omega), if_neg (by omega), if_neg (by omega), if_neg (by omega), if_neg (by omega)]
      rw [show (2 : Int) ^ (8 - 3) = 32 from by decide] at hlow
      omega
    · rw [if_pos (by omega), if_pos (by omega), if_pos (by omega), if_pos (by omega), if_neg (by omega), if_neg (by omega), if_neg (by omega), if_neg (by omega)]
      rw [show (2 : Int) ^ (8 - 4) = 16 from by decide] at hlow
      omega
    · rw [if_pos (by omega), if_pos (by omega), if_pos (by omega), if_pos (by omega), if_pos (by omega), if_neg (by omega), if_neg (by omega), if_neg (by omega)]
      rw [show (2 : Int) ^ (8 - 5) = 8 from by decide] at hlow
      omega
    · rw [if_pos (by omega), if_pos (by omega), if_pos (by omega), if_pos (by omega), if_pos (by omega), if_pos (by omega), if_neg (by omega), if_neg (by omega)]
      rw [show (2 : Int) ^ (8 - 6) = 4 from by decide] at hlow
      omega
    · rw [if_pos (by omega), if_pos (by omega), if_pos (by omega), if_pos (by omega), if_pos (by omega), if_pos (by omega), if_pos (by omega), if_neg (by omega)]
      rw [show (2 : Int) ^ (8 - 7) = 2 from by decide] at hlow
      omega
theorem pk_bl {n : Nat} {b : List Int} (hb : U8s b) (h : Ok n b) : pk (bl b n) = b := by
  unfold pk
  rw [bl_len]
  apply List.ext_getElem?
  intro k
  by_cases hk : k < (n + 7) / 8
  · rw [List.getElem?_map, List.getElem?_range hk]
    simp only [Option.map_some]
    rw [byt_bl hb h hk]
    have hlt : k < b.length := by rw [h.len]; exact hk
    simp [List.getD, hlt]
  · rw [List.getElem?_eq_none (by simpa using hk), List.getElem?_eq_none (by rw [h.len]; omega)]
/-- What 'Check' tells. -/
def chkOf (n : Int) (b : List Int) : Int :=
  if n < 0 ∨ 8192 < n then 3 else if (b.length : Int) ≠ (n + 7) / 8 then 1 else if n % 8 ≠ 0 ∧ b.getD (n.toNat / 8) 0 % 2 ^ (8 - n.toNat % 8) ≠ 0 then 1 else 0
theorem chkOf_ok {n : Int} {b : List Int} (h : chkOf n b = 0) : ∃ m : Nat, n = m ∧ Ok m b := by
  unfold chkOf at h
  split at h
  · simp at h
  · rename_i h1
    split at h
    · simp at h
    · rename_i h2
      split at h
      · simp at h
      · rename_i h3
        obtain ⟨m, rfl⟩ := Int.eq_ofNat_of_zero_le (show 0 ≤ n by omega)
        refine ⟨m, rfl, by omega, by omega, fun hm => ?_⟩
        simp only [Int.toNat_natCast] at h3
        by_cases hz : b.getD (m / 8) 0 % 2 ^ (8 - m % 8) = 0
        · exact hz
        · exact absurd ⟨by omega, hz⟩ h3
theorem check_eq {F : Nat} {n : Int} {b : List Int} (hb : U8s b) (h1 : -9223372036854775808 ≤ n) (h2 : n < 9223372036854775808) (hm : b.length ≤ 9223372036854775807) : M_bits_Check F n b = some (chkOf n b) := by
  unfold M_bits_Check chkOf
  by_cases c1 : n < 0 ∨ 8192 < n
  · have : (decide (n < 0) || decide (8192 < n)) = true := by simpa using c1
    rw [if_pos this, if_pos c1]
  · have : (decide (n < 0) || decide (8192 < n)) = false := by simpa using c1
    rw [this, if_neg c1]
    simp only [Bool.false_eq_true, if_false]
    obtain ⟨m, rfl⟩ := Int.eq_ofNat_of_zero_le (show 0 ≤ n by omega)
    have e1 : iquo .i64 (iadd .i64 (m : Int) 7) 8 = ((m : Int) + 7) / 8 := by
      rw [iadd_i64 (by omega) (by omega), show (m : Int) + 7 = ((m + 7 : Nat) : Int) from by omega, iquo8 (by omega)]
      omega
    rw [e1, irem8]
    by_cases c2 : (b.length : Int) ≠ ((m : Int) + 7) / 8
    · have : ((b.length : Int) != ((m : Int) + 7) / 8) = true := by simpa using c2
      rw [if_pos this, if_pos c2]
    · have : ((b.length : Int) != ((m : Int) + 7) / 8) = false := by simpa using c2
      rw [this, if_neg c2]
      simp only [Bool.false_eq_true, if_false]
      by_cases c3 : m % 8 = 0
      · have : ((((m % 8 : Nat) : Int)) != 0) = false := by simp [c3]
        have hn : ¬ ((m : Int) % 8 ≠ 0 ∧ b.getD ((m : Int).toNat / 8) 0 % 2 ^ (8 - (m : Int).toNat % 8) ≠ 0) := fun h => h.1 (by omega)
        rw [this, if_neg hn]
        simp [M_bits_Check_j2]
      · have : ((((m % 8 : Nat) : Int)) != 0) = true := by simp; omega
        rw [this]
        simp only [if_true]
        have hlen : b.length = m / 8 + 1 := by omega
        have e2 : isub .i64 (b.length : Int) 1 = ((m / 8 : Nat) : Int) := by rw [isub_i64 (by omega) (by omega)]; omega
        have hg : b[m / 8]? = some b[m / 8] := by simp [hlen]
        rw [e2, idx_nat, hg]
        simp only [Option.bind_some]
        have hc : decide ((0 : Int) ≤ ((m % 8 : Nat) : Int)) = true := decide_eq_true (by omega)
        rw [hc]
        simp only [chk, if_true]
        have hx := hb b[m / 8] (List.getElem_mem (by omega))
        have hgd : b.getD (m / 8) 0 = b[m / 8] := by simp [List.getD, hg]
        rw [Int.toNat_natCast, hgd]
        generalize b[m / 8] = x at hx
        have e3 : (ishl .u8 x ((m % 8 : Nat) : Int) != 0) = decide (x % 2 ^ (8 - m % 8) ≠ 0) := by
          have key : ishl .u8 x ((m % 8 : Nat) : Int) = (x * 2 ^ (m % 8)) % 256 := by
            unfold ishl
            have h : min (((m % 8 : Nat) : Int).toNat) (IntKind.bits .u8) = m % 8 := by simp [IntKind.bits]; omega
            rw [h, wrap_u8_mod]
          rw [key]
          rcases (by omega : m % 8 = 1 ∨ m % 8 = 2 ∨ m % 8 = 3 ∨ m % 8 = 4 ∨ m % 8 = 5 ∨ m % 8 = 6 ∨ m % 8 = 7) with h | h | h | h | h | h | h <;> rw [h]
          · rw [show (2 : Int) ^ 1 = 2 from rfl, show (2 : Int) ^ (8 - 1) = 128 from by decide]; by_cases hz : x % 128 = 0 <;> simp [hz] <;> omega
          · rw [show (2 : Int) ^ 2 = 4 from rfl, show (2 : Int) ^ (8 - 2) = 64 from by decide]; by_cases hz : x % 64 = 0 <;> simp [hz] <;> omega
          · rw [show (2 : Int) ^ 3 = 8 from rfl, show (2 : Int) ^ (8 - 3) = 32 from by decide]; by_cases hz : x % 32 = 0 <;> simp [hz] <;> omega
          · rw [show (2 : Int) ^ 4 = 16 from by decide]; try rw [show (2 : Int) ^ (8 - 4) = 16 from by decide]
            by_cases hz : x % 16 = 0 <;> simp [hz] <;> omega
          · rw [show (2 : Int) ^ 5 = 32 from by decide, show (2 : Int) ^ (8 - 5) = 8 from by decide]; by_cases hz : x % 8 = 0 <;> simp [hz] <;> omega
          · rw [show (2 : Int) ^ 6 = 64 from by decide, show (2 : Int) ^ (8 - 6) = 4 from by decide]; by_cases hz : x % 4 = 0 <;> simp [hz] <;> omega
          · rw [show (2 : Int) ^ 7 = 128 from by decide, show (2 : Int) ^ (8 - 7) = 2 from by decide]; by_cases hz : x % 2 = 0 <;> simp [hz] <;> omega
        rw [e3]
        unfold M_bits_Check_j2
        by_cases hz : x % 2 ^ (8 - m % 8) = 0
        · rw [if_neg (by simp [hz]), if_neg (by simp [hz])]
        · rw [if_pos (by simp [hz]), if_pos ⟨by omega, hz⟩]
theorem begun_bits (n : Nat) : M_L_bitsBegun (n + 200) = some true := by kernel_rfl
theorem clone_eq {F : Nat} {x : List Int} (h : x.length ≤ 1000000) : M_slices_Clone_byte_byte F x = some x := by
  unfold M_slices_Clone_byte_byte
  rw [app_eq (by simp; omega)]
  rfl
theorem own_eq {F : Nat} {n : Int} {b : List Int} (h : b.length ≤ 1000000) : M_bits_own F n b = some (n, b) := by
  unfold M_bits_own
  rw [clone_eq h]
  rfl
theorem both_eq {F : Nat} (hF : 20000 ≤ F) {n m : Nat} {a b : List Int} (ha : U8s a) (hb : U8s b) (oa : Ok n a) (ob : Ok m b) : M_bits_Both F n a m b = some (((n + m : Nat) : Int), pk (bl a n ++ bl b m)) := by
  unfold M_bits_Both
  have hal : a.length ≤ 1000000 := by rw [oa.len]; have := oa.max; omega
  rw [own_eq hal]
  simp only [Option.bind_some, M_bits_places, M_bits_places_1]
  have hm := ob.max
  have hn := oa.max
  have := places_l (F := F) (n := (m : Int)) hb (yy := fun (p : Int × List Int) (x53 : Int) => M_bits_Both_r2 F p.1 p.2 x53) (fun l x hl hx hlen => by
    simp only [M_bits_Both_r2]
    rw [bit_eq hl hx (by omega)]
    rfl) (to := m) (by rw [ob.len]; omega) (by omega) F 0 (bl a n) (by omega) (by omega) (bl_bit a n) (by rw [bl_len]; omega)
  rw [bl_len, pk_bl ha oa, List.drop_zero, Nat.sub_zero] at this
  rw [show ((0 : Nat) : Int) = 0 from rfl] at this
  have h2 : M_bits_places_1_l1 F (fun (x : Int × List Int) (x53 : Int) => match x with | (x45, x48) => M_bits_Both_r2 F x45 x48 x53) (m : Int) (m : Int) b F (0, ((n : Int), a)) = some (.inl (((n + m : Nat) : Int), pk (bl a n ++ bl b m))) := this
  rw [h2]
  rfl
def joinOf (n : Int) (a : List Int) (m : Int) (b : List Int) : Int :=
  if chkOf n a ≠ 0 then chkOf n a else if chkOf m b ≠ 0 then chkOf m b else if 8192 < n + m then 8 else 0
def jn (n : Int) (a : List Int) (m : Int) (b : List Int) : Int × List Int × Int :=
  if joinOf n a m b ≠ 0 then (0, [], joinOf n a m b) else (n + m, pk (bl a n.toNat ++ bl b m.toNat), 0)
def I64 (n : Int) : Prop := -9223372036854775808 ≤ n ∧ n < 9223372036854775808
theorem join_eq {F : Nat} (hF : 20000 ≤ F) {n m : Int} {a b : List Int} (ha : U8s a) (hb : U8s b) (hn : I64 n) (hm : I64 m) (la : a.length ≤ 9223372036854775807) (lb : b.length ≤ 9223372036854775807) : M_bits_Join F n a m b = some (jn n a m b) := by
  unfold M_bits_Join jn joinOf
  rw [check_eq ha hn.1 hn.2 la]
  simp only [Option.bind_some]
  by_cases h1 : chkOf n a = 0
  · obtain ⟨n', rfl, oa⟩ := chkOf_ok h1
    have hb1 : (chkOf (n' : Int) a == 0) = true := by simp [h1]
    rw [if_pos hb1, check_eq hb hm.1 hm.2 lb]
    simp only [Option.bind_some]
    unfold M_bits_Join_j1
    by_cases h2 : chkOf m b = 0
    · obtain ⟨m', rfl, ob⟩ := chkOf_ok h2
      have e1 : iadd .i64 (n' : Int) (m' : Int) = (n' : Int) + (m' : Int) := by
        have := oa.max; have := ob.max
        exact iadd_i64 (by omega) (by omega)
      rw [e1, h1, h2]
      by_cases h3 : (8192 : Int) < (n' : Int) + (m' : Int)
      · simp [h3, M_bits_Join_j2]
      · simp only [h3, beq_self_eq_true, decide_false, Bool.and_false, Bool.false_eq_true, if_false, ne_eq, not_true_eq_false, M_bits_Join_j2, bne_self_eq_false]
        rw [both_eq hF ha hb oa ob]
        simp
    · have hb2 : (chkOf m b == 0) = false := by simpa using h2
      have hb3 : (chkOf m b != 0) = true := by simpa using h2
      rw [hb2]
      simp only [Bool.false_and, Bool.false_eq_true, if_false, M_bits_Join_j2, hb3, if_true, h1, ne_eq, not_true_eq_false, h2, not_false_eq_true]
  · have hb1 : (chkOf n a == 0) = false := by simpa using h1
    have hb3 : (chkOf n a != 0) = true := by simpa using h1
    rw [hb1]
    simp only [Bool.false_eq_true, if_false, M_bits_Join_j1, hb1, Bool.false_and, M_bits_Join_j2, hb3, if_true, ne_eq, h1, not_false_eq_true]
theorem pk_getD {l : List Int} {k : Nat} (hk : k < (l.length + 7) / 8) : (pk l).getD k 0 = byt l k := by
  unfold pk
  simp [List.getD, hk]
theorem pk_u8 {l : List Int} (h : Bit l) : U8s (pk l) := by
  intro x hx
  obtain ⟨k, _, rfl⟩ := List.mem_map.1 hx
  exact byt_range h k
theorem pk_len (l : List Int) : (pk l).length = (l.length + 7) / 8 := by simp [pk]
theorem ok_pk {l : List Int} (hm : l.length ≤ 8192) : Ok l.length (pk l) where
  max := hm
  len := pk_len l
  low := fun h => by
    rw [pk_getD (by omega)]
    exact byt_low
theorem bitAt_pk {l : List Int} (h : Bit l) {i : Nat} (hi : i < l.length) : bitAt (pk l) i = l.getD i 0 := by
  obtain ⟨k, hk⟩ : ∃ k, k = i / 8 := ⟨_, rfl⟩
  obtain ⟨r, hr⟩ : ∃ r, r = i % 8 := ⟨_, rfl⟩
  have hl : i = 8 * k + r := by omega
  have hr8 : r < 8 := by omega
  obtain ⟨c0, c1, c2, c3, c4, c5, c6, c7⟩ := bitAt_8 (pk l) k
  have hb : (pk l).getD k 0 = byt l k := pk_getD (by omega)
  rw [hb] at c0 c1 c2 c3 c4 c5 c6 c7
  have hbd : ∀ q, 0 ≤ l.getD q 0 ∧ l.getD q 0 ≤ 1 := fun q => by have := h.getD q; omega
  have h0 := hbd (8 * k); have h1 := hbd (8 * k + 1); have h2 := hbd (8 * k + 2); have h3 := hbd (8 * k + 3)
  have h4 := hbd (8 * k + 4); have h5 := hbd (8 * k + 5); have h6 := hbd (8 * k + 6); have h7 := hbd (8 * k + 7)
  clear hbd hb
  unfold byt at c0 c1 c2 c3 c4 c5 c6 c7
  rcases (by omega : r = 0 ∨ r = 1 ∨ r = 2 ∨ r = 3 ∨ r = 4 ∨ r = 5 ∨ r = 6 ∨ r = 7) with rfl | rfl | rfl | rfl | rfl | rfl | rfl | rfl
  · rw [hl, Nat.add_zero, c0]; clear c0 c1 c2 c3 c4 c5 c6 c7; generalize l.getD (8 * k) 0 = y0 at *; generalize l.getD (8 * k + 1) 0 = y1 at *; generalize l.getD (8 * k + 2) 0 = y2 at *; generalize l.getD (8 * k + 3) 0 = y3 at *; generalize l.getD (8 * k + 4) 0 = y4 at *; generalize l.getD (8 * k + 5) 0 = y5 at *; generalize l.getD (8 * k + 6) 0 = y6 at *; generalize l.getD (8 * k + 7) 0 = y7 at *; clear h hi hl hr hk hr8; omega
  · rw [hl, c1]; clear c0 c1 c2 c3 c4 c5 c6 c7; generalize l.getD (8 * k) 0 = y0 at *; generalize l.getD (8 * k + 1) 0 = y1 at *; generalize l.getD (8 * k + 2) 0 = y2 at *; generalize l.getD (8 * k + 3) 0 = y3 at *; generalize l.getD (8 * k + 4) 0 = y4 at *; generalize l.getD (8 * k + 5) 0 = y5 at *; generalize l.getD (8 * k + 6) 0 = y6 at *; generalize l.getD (8 * k + 7) 0 = y7 at *; clear h hi hl hr hk hr8; omega
  · rw [hl, c2]; clear c0 c1 c2 c3 c4 c5 c6 c7; generalize l.getD (8 * k) 0 = y0 at *; generalize l.getD (8 * k + 1) 0 = y1 at *; generalize l.getD (8 * k + 2) 0 = y2 at *; generalize l.getD (8 * k + 3) 0 = y3 at *; generalize l.getD (8 * k + 4) 0 = y4 at *; generalize l.getD (8 * k + 5) 0 = y5 at *; generalize l.getD (8 * k + 6) 0 = y6 at *; generalize l.getD (8 * k + 7) 0 = y7 at *; clear h hi hl hr hk hr8; omega
  · rw [hl, c3]; clear c0 c1 c2 c3 c4 c5 c6 c7; generalize l.getD (8 * k) 0 = y0 at *; generalize l.getD (8 * k + 1) 0 = y1 at *; generalize l.getD (8 * k + 2) 0 = y2 at *; generalize l.getD (8 * k + 3) 0 = y3 at *; generalize l.getD (8 * k + 4) 0 = y4 at *; generalize l.getD (8 * k + 5) 0 = y5 at *; generalize l.getD (8 * k + 6) 0 = y6 at *; generalize l.getD (8 * k + 7) 0 = y7 at *; clear h hi hl hr hk hr8; omega
  · rw [hl, c4]; clear c0 c1 c2 c3 c4 c5 c6 c7; generalize l.getD (8 * k) 0 = y0 at *; generalize l.getD (8 * k + 1) 0 = y1 at *; generalize l.getD (8 * k + 2) 0 = y2 at *; generalize l.getD (8 * k + 3) 0 = y3 at *; generalize l.getD (8 * k + 4) 0 = y4 at *; generalize l.getD (8 * k + 5) 0 = y5 at *; generalize l.getD (8 * k + 6) 0 = y6 at *; generalize l.getD (8 * k + 7) 0 = y7 at *; clear h hi hl hr hk hr8; omega
  · rw [hl, c5]; clear c0 c1 c2 c3 c4 c5 c6 c7; generalize l.getD (8 * k) 0 = y0 at *; generalize l.getD (8 * k + 1) 0 = y1 at *; generalize l.getD (8 * k + 2) 0 = y2 at *; generalize l.getD (8 * k + 3) 0 = y3 at *; generalize l.getD (8 * k + 4) 0 = y4 at *; generalize l.getD (8 * k + 5) 0 = y5 at *; generalize l.getD (8 * k + 6) 0 = y6 at *; generalize l.getD (8 * k + 7) 0 = y7 at *; clear h hi hl hr hk hr8; omega
  · rw [hl, c6]; clear c0 c1 c2 c3 c4 c5 c6 c7; generalize l.getD (8 * k) 0 = y0 at *; generalize l.getD (8 * k + 1) 0 = y1 at *; generalize l.getD (8 * k + 2) 0 = y2 at *; generalize l.getD (8 * k + 3) 0 = y3 at *; generalize l.getD (8 * k + 4) 0 = y4 at *; generalize l.getD (8 * k + 5) 0 = y5 at *; generalize l.getD (8 * k + 6) 0 = y6 at *; generalize l.getD (8 * k + 7) 0 = y7 at *; clear h hi hl hr hk hr8; omega
  · rw [hl, c7]; clear c0 c1 c2 c3 c4 c5 c6 c7; generalize l.getD (8 * k) 0 = y0 at *; generalize l.getD (8 * k + 1) 0 = y1 at *; generalize l.getD (8 * k + 2) 0 = y2 at *; generalize l.getD (8 * k + 3) 0 = y3 at *; generalize l.getD (8 * k + 4) 0 = y4 at *; generalize l.getD (8 * k + 5) 0 = y5 at *; generalize l.getD (8 * k + 6) 0 = y6 at *; generalize l.getD (8 * k + 7) 0 = y7 at *; clear h hi hl hr hk hr8; omega
theorem bl_pk {l : List Int} (h : Bit l) : bl (pk l) l.length = l := by
  apply List.ext_getElem?
  intro i
  by_cases hi : i < l.length
  · have h1 : (bl (pk l) l.length)[i]? = some (bitAt (pk l) i) := by simp [bl, hi]
    rw [h1, bitAt_pk h hi]
    simp [List.getD, hi]
  · rw [List.getElem?_eq_none (by rw [bl_len]; omega), List.getElem?_eq_none (by omega)]
theorem same_l (F : Nat) {xs ys : List Int} (hl : xs.length = ys.length) (hm : xs.length ≤ 9223372036854775807) : ∀ (k i : Nat), xs.length < k + i → i ≤ xs.length →
    M_R_SameBytes_l3 F xs ys k (i : Int) = some (decide (xs.drop i = ys.drop i))
  | 0, i, h, _ => by omega
  | k + 1, i, h, hi => by
    show M_R_SameBytes_b3 F xs ys (M_R_SameBytes_l3 F xs ys k) i = _
    unfold M_R_SameBytes_b3
    by_cases hlt : i < xs.length
    · have hlt' : (i : Int) < (xs.length : Int) := by omega
      have hlt2 : i < ys.length := by omega
      have hg : xs[i]? = some xs[i] := by simp [hlt]
      have hg2 : ys[i]? = some ys[i] := by simp [hlt2]
      simp only [hlt', decide_true, if_true, idx_nat, hg, hg2, Option.bind_some]
      have e : (xs.drop i = ys.drop i) ↔ (xs[i] = ys[i] ∧ xs.drop (i + 1) = ys.drop (i + 1)) := by
        rw [List.drop_eq_getElem_cons hlt, List.drop_eq_getElem_cons hlt2, List.cons.injEq]
      simp only [e]
      by_cases he : xs[i] = ys[i]
      · simp only [he, bne_self_eq_false, Bool.false_eq_true, if_false, true_and]
        rw [iadd_i64 (by omega) (by omega), show (i : Int) + 1 = ((i + 1 : Nat) : Int) from by omega, same_l F hl hm k (i + 1) (by omega) (by omega)]
      · have : (xs[i] != ys[i]) = true := by simpa using he
        simp only [this, if_true, he, false_and, decide_false]
    · have hlt' : ¬ (i : Int) < (xs.length : Int) := by omega
      simp only [hlt', decide_false, Bool.false_eq_true, if_false]
      rw [List.drop_eq_nil_of_le (by omega), List.drop_eq_nil_of_le (by omega)]
      rfl
theorem sameBytes_eq {F : Nat} {xs ys : List Int} (hF : xs.length < F) (hm : xs.length ≤ 9223372036854775807) : M_R_SameBytes F xs ys = some (decide (xs = ys)) := by
  unfold M_R_SameBytes
  by_cases hl : xs.length = ys.length
  · have : (((xs.length : Int) : Int) != (ys.length : Int)) = false := by simp [hl]
    simp only [this, Bool.false_eq_true, if_false]
    have := same_l F hl hm F 0 (by omega) (by omega)
    simpa using this
  · have : (((xs.length : Int) : Int) != (ys.length : Int)) = true := by simp; omega
    simp only [this, if_true]
    have : xs ≠ ys := fun e => hl (by rw [e])
    simp [this]
theorem sameBits_eq {F : Nat} {n m : Int} {xs ys : List Int} (hF : xs.length < F) (hm : xs.length ≤ 9223372036854775807) : M_R_SameBits F n xs m ys = some (decide (n = m ∧ xs = ys)) := by
  unfold M_R_SameBits
  by_cases h : n = m
  · have hb : (n == m) = true := by simp [h]
    rw [if_pos hb, sameBytes_eq hF hm]
    simp [M_R_SameBits_j1, h]
  · have hb : (n == m) = false := by simpa using h
    rw [hb]
    simp [M_R_SameBits_j1, h]
theorem chkOf_of_ok {n : Nat} {b : List Int} (h : Ok n b) : chkOf (n : Int) b = 0 := by
  unfold chkOf
  have := h.max
  have := h.len
  rw [if_neg (by omega), if_neg (by omega), if_neg]
  rintro ⟨h1, h2⟩
  rw [Int.toNat_natCast] at h2
  exact h2 (h.low (by omega))
theorem join_ok {n m : Nat} {a b : List Int} (oa : Ok n a) (ob : Ok m b) (h : n + m ≤ 8192) : jn n a m b = (((n + m : Nat) : Int), pk (bl a n ++ bl b m), 0) := by
  have : joinOf n a m b = 0 := by
    unfold joinOf
    rw [chkOf_of_ok oa, chkOf_of_ok ob, if_neg (by simp), if_neg (by simp), if_neg (by omega)]
  unfold jn
  rw [this]
  simp
theorem join_inv {n m : Int} {a b : List Int} (h : (jn n a m b).2.2 = 0) : ∃ n' m' : Nat, n = n' ∧ m = m' ∧ Ok n' a ∧ Ok m' b ∧ n' + m' ≤ 8192 := by
  have h0 : joinOf n a m b = 0 := by
    unfold jn at h
    by_cases hz : joinOf n a m b = 0
    · exact hz
    · rw [if_pos hz] at h; exact h
  unfold joinOf at h0
  by_cases h1 : chkOf n a = 0
  · rw [if_neg (by simpa using h1)] at h0
    by_cases h2 : chkOf m b = 0
    · rw [if_neg (by simpa using h2)] at h0
      obtain ⟨n', rfl, oa⟩ := chkOf_ok h1
      obtain ⟨m', rfl, ob⟩ := chkOf_ok h2
      split at h0
      · simp at h0
      · exact ⟨n', m', rfl, rfl, oa, ob, by omega⟩
    · rw [if_pos (by simpa using h2)] at h0; exact absurd h0 h2
  · rw [if_pos (by simpa using h1)] at h0; exact absurd h0 h1
theorem join_err {n m : Int} {a b : List Int} (h : (jn n a m b).2.2 ≠ 0) : (jn n a m b).1 = 0 ∧ (jn n a m b).2.1 = [] := by
  unfold jn at h ⊢
  split
  · exact ⟨rfl, rfl⟩
  · rename_i h1; rw [if_neg h1] at h; exact absurd rfl h
theorem bit_app {l k : List Int} (h : Bit l) (h2 : Bit k) : Bit (l ++ k) := by
  intro x hx
  rcases List.mem_append.1 hx with h3 | h3
  · exact h x h3
  · exact h2 x h3
theorem begun_bits' {F : Nat} (hF : 20000 ≤ F) : M_L_bitsBegun F = some true := by
  obtain ⟨n, rfl⟩ : ∃ n, F = n + 200 := ⟨F - 200, by omega⟩
  exact begun_bits n
theorem two64 : (2 : Nat) ^ 64 = 18446744073709551616 := by decide
theorem ishr_n {n k : Nat} (hn : n < 18446744073709551616) : ishr .u64 (n : Int) (k : Int) = ((n / 2 ^ k : Nat) : Int) := by
  unfold ishr
  rw [Int.fdiv_eq_ediv_of_nonneg _ (by exact_mod_cast Nat.zero_le _), Int.toNat_natCast]
  simp only [IntKind.bits]
  by_cases h : k ≤ 64
  · rw [Nat.min_eq_left h]; norm_cast
  · rw [Nat.min_eq_right (by omega)]
    have h1 : n / 2 ^ 64 = 0 := Nat.div_eq_of_lt (by omega)
    have h2 : n / 2 ^ k = 0 := Nat.div_eq_of_lt (Nat.lt_of_lt_of_le hn (by rw [← two64]; exact Nat.pow_le_pow_right (by decide) (by omega)))
    rw [h2]
    have : ((n : Int) / 2 ^ 64) = ((n / 2 ^ 64 : Nat) : Int) := by norm_cast
    rw [this, h1]
theorem iand1_n {n : Nat} (hn : n < 18446744073709551616) : iand .u64 (n : Int) 1 = ((n % 2 : Nat) : Int) := by
  have e := iand_mask (k := .u64) (a := (n : Int)) (m := 1) (by omega) (by simp only [IntKind.bits]; rw [show (2 : Int) ^ 64 = 18446744073709551616 from by decide]; omega) (by decide) rfl
  rw [show ((2 ^ 1 - 1 : Nat) : Int) = 1 from rfl, show (2 : Int) ^ 1 = 2 from rfl] at e
  rw [e]; omega
theorem ishl_n {n k : Nat} (hk : k ≤ 64) : ishl .u64 (n : Int) (k : Int) = ((n * 2 ^ k % 18446744073709551616 : Nat) : Int) := by
  rw [ishl_u64 hk, Int.natCast_emod, Int.natCast_mul, Int.natCast_pow]; rfl
theorem ior_n {a b m : Nat} (ha : a < 2 ^ m) (hb : b % 2 ^ m = 0) (h : a + b < 18446744073709551616) : ior .u64 (b : Int) (a : Int) = ((b + a : Nat) : Int) := by
  rw [ior_comm, ior_add (m := m) (by omega) (by exact_mod_cast ha) (by omega) (by exact_mod_cast hb) rfl (by simp only [IntKind.bits]; rw [show (2 : Int) ^ 64 = 18446744073709551616 from by decide]; omega)]
  omega
theorem iadd_n {a b : Nat} (h : a + b < 9223372036854775808) : iadd .i64 (a : Int) (b : Int) = ((a + b : Nat) : Int) := by rw [iadd_i64 (by omega) (by omega)]; omega
theorem iadd1_n {a : Nat} (h : a + 1 < 9223372036854775808) : iadd .i64 (a : Int) 1 = ((a + 1 : Nat) : Int) := by rw [iadd_i64 (by omega) (by omega)]; omega
theorem isub_n {a b : Nat} (h : b ≤ a) (h2 : a < 9223372036854775808) : isub .i64 (a : Int) (b : Int) = ((a - b : Nat) : Int) := by rw [isub_i64 (by omega) (by omega)]; omega
theorem isub1_n {a : Nat} (h : 1 ≤ a) (h2 : a < 9223372036854775808) : isub .i64 (a : Int) 1 = ((a - 1 : Nat) : Int) := by rw [isub_i64 (by omega) (by omega)]; omega
/-- The bits of a number, in so many places, the highest one first. -/
def nb (n : Nat) : Nat → List Int
  | 0 => []
  | w + 1 => ((n / 2 ^ w % 2 : Nat) : Int) :: nb n w
theorem nb_len (n : Nat) : ∀ w, (nb n w).length = w
  | 0 => rfl
  | w + 1 => by simp [nb, nb_len n w]
theorem nb_bit (n : Nat) : ∀ w, Bit (nb n w)
  | 0 => by intro x hx; simp [nb] at hx
  | w + 1 => by
    intro x hx
    rcases List.mem_cons.1 hx with rfl | h
    · omega
    · exact nb_bit n w x h
/-- The number of bits. -/
def bv (l : List Int) : Nat := l.foldl (fun n b => 2 * n + b.toNat) 0
theorem bv_from (l : List Int) : ∀ m, l.foldl (fun n b => 2 * n + b.toNat) m = m * 2 ^ l.length + bv l := by
  induction l with
  | nil => intro m; simp [bv]
  | cons x l ih =>
    intro m
    show l.foldl _ _ = _
    rw [ih]
    show _ = _ + l.foldl _ _
    rw [ih, List.length_cons, Nat.pow_succ]
    generalize 2 ^ l.length = p
    rw [Nat.add_mul, Nat.add_mul]
    have : 2 * m * p = m * (p * 2) := by rw [Nat.mul_comm 2 m, Nat.mul_assoc, Nat.mul_comm 2 p]
    omega
theorem bv_app (l k : List Int) : bv (l ++ k) = bv l * 2 ^ k.length + bv k := by
  unfold bv
  rw [List.foldl_append, bv_from k]; rfl
theorem bv_cons (x : Int) (l : List Int) : bv (x :: l) = x.toNat * 2 ^ l.length + bv l := by
  have := bv_app [x] l
  simpa [bv] using this
theorem bv_lt {l : List Int} (h : Bit l) : bv l < 2 ^ l.length := by
  induction l with
  | nil => simp [bv]
  | cons x l ih =>
    have h1 := ih (fun y hy => h y (List.mem_cons_of_mem _ hy))
    rw [bv_cons, List.length_cons, Nat.pow_succ]
    rcases h x List.mem_cons_self with rfl | rfl
    · simp; omega
    · simp; omega
theorem bv_nb (n : Nat) : ∀ w, bv (nb n w) = n % 2 ^ w
  | 0 => by simp [nb, bv, Nat.mod_one]
  | w + 1 => by
    rw [nb, bv_cons, nb_len, bv_nb n w, Int.toNat_natCast, Nat.pow_succ, Nat.mod_mul, Nat.mul_comm, Nat.add_comm]
theorem nb_app (n a : Nat) : ∀ b, nb n (b + a) = nb (n / 2 ^ a) b ++ nb n a
  | 0 => by simp [nb]
  | b + 1 => by
    rw [show b + 1 + a = (b + a) + 1 from by omega, nb, nb_app n a b, nb, List.cons_append]
    congr 3
    rw [Nat.div_div_eq_div_mul, ← Nat.pow_add, Nat.add_comm]
theorem nb_snoc (n w : Nat) : nb n (w + 1) = nb (n / 2) w ++ [((n % 2 : Nat) : Int)] := by
  have := nb_app n 1 w
  simpa [nb] using this
theorem number_l {F : Nat} {n : Nat} (hn : n < 18446744073709551616) : ∀ (w k : Nat) (l : List Int), w < k → Bit l → l.length + w ≤ 100000 →
    M_bits_writer_number_l1 F (n : Int) k ((w : Int) - 1, (l.length : Int), pk l) = some (((l.length + w : Nat) : Int), pk (l ++ nb n w))
  | _, 0, _, h, _, _ => by omega
  | 0, k + 1, l, _, _, _ => by
    show M_bits_writer_number_b1 F (n : Int) _ (((0 : Nat) : Int) - 1) (l.length : Int) (pk l) = _
    unfold M_bits_writer_number_b1
    rw [if_neg (by simp)]
    simp [nb]
  | w + 1, k + 1, l, h, hl, hm => by
    show M_bits_writer_number_b1 F (n : Int) (M_bits_writer_number_l1 F (n : Int) k) (((w + 1 : Nat) : Int) - 1) (l.length : Int) (pk l) = _
    unfold M_bits_writer_number_b1
    rw [show ((w + 1 : Nat) : Int) - 1 = (w : Int) from by omega, if_pos (by simp)]
    have hc : decide ((0 : Int) ≤ (w : Int)) = true := decide_eq_true (by omega)
    rw [hc]
    simp only [chk, if_true]
    rw [ishr_n hn, iand1_n (by have := Nat.div_le_self n (2 ^ w); omega)]
    have hx : ((n / 2 ^ w % 2 : Nat) : Int) = 0 ∨ ((n / 2 ^ w % 2 : Nat) : Int) = 1 := by omega
    rw [bit_eq hl hx (by omega)]
    simp only [Option.bind_some]
    rw [isub_i64 (by omega) (by omega)]
    have := number_l (F := F) hn w k (l ++ [((n / 2 ^ w % 2 : Nat) : Int)]) (by omega) (bit_app hl (by intro y hy; simp only [List.mem_singleton] at hy; rw [hy]; exact hx)) (by simp; omega)
    rw [show (l ++ [((n / 2 ^ w % 2 : Nat) : Int)]).length = l.length + 1 from by simp] at this
    rw [this, List.append_assoc, show l.length + 1 + w = l.length + (w + 1) from by omega]
    rfl
theorem number_eq {F : Nat} {n w : Nat} {l : List Int} (hn : n < 18446744073709551616) (hF : w < F) (hl : Bit l) (hm : l.length + w ≤ 100000) :
    M_bits_writer_number F (l.length : Int) (pk l) (n : Int) (w : Int) = some (((l.length + w : Nat) : Int), pk (l ++ nb n w)) := by
  unfold M_bits_writer_number
  rw [isub_i64 (by omega) (by omega)]
  exact number_l hn w F l hF hl hm
theorem add_eq {F : Nat} {n w m : Nat} {b : List Int} (hn : n < 18446744073709551616) (hF : w < F) (hb : U8s b) (ob : Ok m b) (hw : w ≤ 10000) :
    M_bits_Add F (m : Int) b (n : Int) (w : Int) = some (((m + w : Nat) : Int), pk (bl b m ++ nb n w)) := by
  unfold M_bits_Add
  have := ob.max
  rw [own_eq (by rw [ob.len]; omega)]
  simp only [Option.bind_some]
  have h := number_eq (F := F) (l := bl b m) hn hF (bl_bit _ _) (by rw [bl_len]; omega)
  rw [bl_len, pk_bl hb ob] at h
  rw [h]; rfl
def U64 (n : Int) : Prop := 0 ≤ n ∧ n < 18446744073709551616
theorem bl_get {b : List Int} {n i : Nat} (h : i < n) : (bl b n)[i]? = some (bitAt b i) := by simp [bl, h]
theorem read_l {F : Nat} {n : Int} {m a w : Nat} {b : List Int} (hb : U8s b) (hlen : m ≤ 8 * b.length) (hm : m ≤ 10000) (ha : a + w ≤ m) (hw : w ≤ 64) : ∀ (k i v : Nat), w < k + i → i ≤ w → v < 2 ^ i →
    M_bits_Read_l3 F n b (a : Int) (w : Int) k ((v : Int), (i : Int)) = some (((v * 2 ^ (w - i) + bv (((bl b m).drop (a + i)).take (w - i)) : Nat) : Int), true)
  | 0, _, _, _, _, _ => by omega
  | k + 1, i, v, h, hi, hv => by
    show M_bits_Read_b3 F n b (a : Int) (w : Int) (M_bits_Read_l3 F n b (a : Int) (w : Int) k) (v : Int) (i : Int) = _
    unfold M_bits_Read_b3
    by_cases hlt : i < w
    · rw [if_pos (by simp; omega), iadd_n (by omega), at_eq hb (by omega) (by omega)]
      simp only [Option.bind_some]
      have hx := bitAt_bit b (a + i)
      have hv64 : 2 * v + 1 < 18446744073709551616 := by
        have : 2 ^ (i + 1) ≤ 2 ^ 64 := Nat.pow_le_pow_right (by decide) (by omega)
        rw [Nat.pow_succ, two64] at this
        omega
      obtain ⟨x, hxe⟩ : ∃ x : Nat, bitAt b (a + i) = (x : Int) := Int.eq_ofNat_of_zero_le (by omega)
      have hx1 : x < 2 := by omega
      have e1 : ishl .u64 (v : Int) 1 = ((v * 2 : Nat) : Int) := by
        have := ishl_n (n := v) (k := 1) (by decide)
        rw [show ((1 : Nat) : Int) = 1 from rfl] at this
        rw [this]; omega
      have e2 : ior .u64 ((v * 2 : Nat) : Int) (x : Int) = ((v * 2 + x : Nat) : Int) := ior_n (m := 1) (by omega) (by omega) (by omega)
      rw [hxe, e1, e2, iadd1_n (by omega)]
      rw [read_l hb hlen hm ha hw k (i + 1) (v * 2 + x) (by omega) (by omega) (by rw [Nat.pow_succ]; omega)]
      have hd : ((bl b m).drop (a + i)).take (w - i) = (x : Int) :: ((bl b m).drop (a + (i + 1))).take (w - (i + 1)) := by
        rw [List.drop_eq_getElem_cons (by rw [bl_len]; omega), show w - i = (w - (i + 1)) + 1 from by omega, List.take_succ_cons, show a + i + 1 = a + (i + 1) from by omega]
        congr 1
        have := bl_get (b := b) (n := m) (i := a + i) (by omega)
        rw [List.getElem?_eq_getElem (by rw [bl_len]; omega)] at this
        rw [← hxe]; exact Option.some.inj this
      rw [hd, bv_cons, Int.toNat_natCast]
      have hl : (((bl b m).drop (a + (i + 1))).take (w - (i + 1))).length = w - (i + 1) := by simp [bl_len]; omega
      rw [hl, show w - i = (w - (i + 1)) + 1 from by omega, Nat.pow_succ, Nat.add_mul]
      congr 3
      rw [Nat.mul_assoc, Nat.mul_comm 2, Nat.add_assoc]
    · rw [if_neg (by simp; omega)]
      rw [show w - i = 0 from by omega]
      simp [M_bits_Read_j2, bv]
theorem read_eq {F : Nat} {m a w : Nat} {b : List Int} (hF : 100 ≤ F) (hb : U8s b) (ob : Ok m b) (ha : a ≤ m) (hw : w ≤ 64) :
    M_bits_Read F (m : Int) b (a : Int) (w : Int) = some (if a + w ≤ m then (((bv (((bl b m).drop a).take w) : Nat) : Int), true) else (0, false)) := by
  unfold M_bits_Read
  have hmx := ob.max
  rw [isub_n ha (by omega)]
  by_cases h : a + w ≤ m
  · rw [if_neg (by simp; omega), if_pos h]
    have := read_l (F := F) (n := (m : Int)) (m := m) (a := a) (w := w) hb (by rw [ob.len]; omega) (by omega) h hw F 0 0 (by omega) (by omega) (by decide)
    simpa using this
  · rw [if_pos (by simp; omega), if_neg h]
theorem irem2_n (n : Nat) : irem (n : Int) 2 = ((n % 2 : Nat) : Int) := by
  unfold irem; rw [Int.tmod_eq_emod_of_nonneg (by omega)]; omega
theorem iquo2_n {n : Nat} (h : n ≤ 9223372036854775807) : iquo .i64 (n : Int) 2 = ((n / 2 : Nat) : Int) := by
  unfold iquo; rw [Int.tdiv_eq_ediv_of_nonneg (by omega), wrap_i64 (by omega) (by omega)]; omega
theorem iquo2_u {n : Nat} (h : n < 18446744073709551616) : iquo .u64 (n : Int) 2 = ((n / 2 : Nat) : Int) := by
  unfold iquo; rw [Int.tdiv_eq_ediv_of_nonneg (by omega), wrap_u64 (by omega) (by omega)]; omega
theorem iconv_i64_n {n : Nat} (h : n < 9223372036854775808) : iconv .i64 (n : Int) = (n : Int) := wrap_i64 (by omega) (by omega)
theorem iconv_u64_n {n : Nat} (h : n < 18446744073709551616) : iconv .u64 (n : Int) = (n : Int) := wrap_u64 (by omega) (by omega)
theorem div_pow_succ (x k : Nat) : x / 2 ^ (k + 1) = x / 2 / 2 ^ k := by rw [Nat.pow_succ, Nat.mul_comm, Nat.div_div_eq_div_mul]
theorem bitList_in {F : Nat} {rec38 : (List Int × Int) → Option (List Int)} {l : List Int} {i : Nat} (hm : i ≤ 100000) : ∀ (k j x : Nat), 7 - i % 8 < k + j → j ≤ 7 - i % 8 → x < 256 →
    M_R_BitList_l45 F rec38 l (i : Int) k ((x : Int), (j : Int)) = M_R_BitList_j44 F rec38 l (i : Int) ((x / 2 ^ (7 - i % 8 - j) : Nat) : Int)
  | 0, _, _, _, _, _ => by omega
  | k + 1, j, x, h, hj, hx => by
    show M_R_BitList_b45 F rec38 l (i : Int) (M_R_BitList_l45 F rec38 l (i : Int) k) (x : Int) (j : Int) = _
    unfold M_R_BitList_b45
    rw [irem8, isub_i64 (by omega) (by omega)]
    by_cases hlt : j < 7 - i % 8
    · rw [if_pos (by simp; omega), iquo2_n (by omega), iadd1_n (by omega), bitList_in hm k (j + 1) (x / 2) (by omega) (by omega) (by omega)]
      rw [show 7 - i % 8 - j = (7 - i % 8 - (j + 1)) + 1 from by omega, div_pow_succ]
    · rw [if_neg (by simp; omega), show 7 - i % 8 - j = 0 from by omega]
      simp
theorem bitList_l {F : Nat} (hF : 100 ≤ F) {b : List Int} (hb : U8s b) {n : Nat} (hn : n ≤ 8 * b.length) (hm : n ≤ 100000) : ∀ (k i : Nat), n < k + i → i ≤ n →
    M_R_BitList_l38 F (n : Int) b k (bl b i, (i : Int)) = some (bl b n)
  | 0, _, _, _ => by omega
  | k + 1, i, h, hi => by
    show M_R_BitList_b38 F (n : Int) b (M_R_BitList_l38 F (n : Int) b k) (bl b i) (i : Int) = _
    unfold M_R_BitList_b38
    by_cases hlt : i < n
    · rw [if_pos (by simp; omega), iquo8 (by omega), idx_nat]
      have hg : b[i / 8]? = some b[i / 8] := by rw [List.getElem?_eq_getElem (by omega)]
      rw [hg]
      simp only [Option.bind_some]
      have hx := hb b[i / 8] (List.getElem_mem (by omega))
      obtain ⟨x, hxe⟩ := Int.eq_ofNat_of_zero_le hx.1
      rw [hxe, iconv_i64_n (by omega)]
      rw [show ((0 : Int)) = ((0 : Nat) : Int) from rfl, bitList_in (by omega) F 0 x (by omega) (by omega) (by omega)]
      unfold M_R_BitList_j44
      rw [irem2_n, app_eq (by rw [bl_len]; simp; omega)]
      simp only [Option.bind_some, M_R_BitList_j42]
      rw [iadd1_n (by omega)]
      have e : bl b i ++ [((x / 2 ^ (7 - i % 8 - 0) % 2 : Nat) : Int)] = bl b (i + 1) := by
        rw [bl_succ]
        congr 2
        unfold bitAt
        simp only [List.getD, hg, Option.getD_some, hxe, Nat.sub_zero]
        norm_cast
      rw [e]
      exact bitList_l hF hb hn hm k (i + 1) (by omega) (by omega)
    · rw [if_neg (by simp; omega)]
      obtain rfl : i = n := by omega
      rfl
theorem bitList_eq {F : Nat} (hF : 20000 ≤ F) {b : List Int} (hb : U8s b) {n : Nat} (hn : n ≤ 8 * b.length) (hm : n ≤ 10000) : M_R_BitList F (n : Int) b = some (bl b n) := by
  unfold M_R_BitList
  exact bitList_l (by omega) hb hn (by omega) F 0 (by omega) (by omega)
theorem bit_n {l : List Int} (h : Bit l) {i : Nat} (hi : i < l.length) : ∃ x : Nat, l[i]? = some (x : Int) ∧ x < 2 := by
  have := h l[i] (List.getElem_mem hi)
  obtain ⟨x, hx⟩ := Int.eq_ofNat_of_zero_le (show 0 ≤ l[i] by omega)
  exact ⟨x, by rw [List.getElem?_eq_getElem hi, hx], by omega⟩
theorem imul2_n {n : Nat} (h : n < 4611686018427387904) : imul .i64 2 (n : Int) = ((2 * n : Nat) : Int) := by rw [imul_i64 (by omega) (by omega)]; omega
/-- The first so many of eight bits from a place on, as a number. -/
def byN (l : List Int) (i : Nat) : Nat → Nat
  | 0 => 0
  | k + 1 => 2 * byN l i k + (l.getD (i + k) 0).toNat
theorem byN_lt {l : List Int} (h : Bit l) (i : Nat) : ∀ k, byN l i k < 2 ^ k
  | 0 => by simp [byN]
  | k + 1 => by
    have := byN_lt h i k
    have h2 := h.getD (i + k)
    unfold byN
    rw [Nat.pow_succ]
    omega
theorem byN_8 {l : List Int} (h : Bit l) (i : Nat) : ((byN l (8 * i) 8 : Nat) : Int) = byt l i := by
  have h0 := h.getD (8 * i); have h1 := h.getD (8 * i + 1); have h2 := h.getD (8 * i + 2); have h3 := h.getD (8 * i + 3)
  have h4 := h.getD (8 * i + 4); have h5 := h.getD (8 * i + 5); have h6 := h.getD (8 * i + 6); have h7 := h.getD (8 * i + 7)
  unfold byt
  simp only [byN, Nat.add_zero]
  omega
theorem packBits_in {F : Nat} {rec98 : (Int × List Int) → Option (Int × List Int)} {l o : List Int} (hl : Bit l) {i : Nat} (hm : i ≤ 100000) (hlm : l.length ≤ 100000) : ∀ (k j : Nat), 8 < k + j → j ≤ 8 →
    M_R_PackBits_l116 F rec98 l (i : Int) o k ((byN l i j : Nat), (j : Int)) = M_R_PackBits_j113 F rec98 (i : Int) o ((byN l i 8 : Nat) : Int)
  | 0, _, _, _ => by omega
  | k + 1, j, h, hj => by
    show M_R_PackBits_b116 F rec98 l (i : Int) o (M_R_PackBits_l116 F rec98 l (i : Int) o k) ((byN l i j : Nat) : Int) (j : Int) = _
    unfold M_R_PackBits_b116
    by_cases hlt : j < 8
    · have hb := byN_lt hl i j
      have hp : 2 ^ j ≤ 2 ^ 8 := Nat.pow_le_pow_right (by decide) hj
      rw [show 2 ^ 8 = 256 from by decide] at hp
      rw [if_pos (by simp; omega), iadd_n (by omega)]
      by_cases h2 : i + j < l.length
      · rw [if_pos (by simp; omega), idx_nat]
        obtain ⟨x, hx, hx2⟩ := bit_n hl h2
        rw [hx]
        simp only [Option.bind_some, M_R_PackBits_j117]
        rw [imul2_n (by omega), iadd_n (by omega), iadd1_n (by omega)]
        have e : 2 * byN l i j + x = byN l i (j + 1) := by
          simp [byN, List.getD, hx]
        rw [e]
        exact packBits_in hl hm hlm k (j + 1) (by omega) (by omega)
      · rw [if_neg (by simp; omega)]
        simp only [M_R_PackBits_j117]
        rw [imul2_n (by omega), iadd1_n (by omega)]
        have e : 2 * byN l i j = byN l i (j + 1) := by
          show _ = 2 * _ + (l.getD (i + j) 0).toNat
          rw [getD_ge (by omega)]; rfl
        rw [e]
        exact packBits_in hl hm hlm k (j + 1) (by omega) (by omega)
    · rw [if_neg (by simp; omega)]
      obtain rfl : j = 8 := by omega
      rfl
theorem packBits_l {F : Nat} (hF : 100 ≤ F) {l : List Int} (hl : Bit l) (hm : l.length ≤ 90000) : ∀ (k i : Nat), (l.length + 7) / 8 < k + i → i ≤ (l.length + 7) / 8 →
    M_R_PackBits_l98 F l k (((8 * i : Nat) : Int), (List.range i).map (byt l)) = some ((l.length : Int), pk l)
  | 0, _, _, _ => by omega
  | k + 1, i, h, hi => by
    show M_R_PackBits_b98 F l (M_R_PackBits_l98 F l k) ((8 * i : Nat) : Int) ((List.range i).map (byt l)) = _
    unfold M_R_PackBits_b98
    by_cases hlt : 8 * i < l.length
    · rw [if_pos (by simp; omega)]
      have := packBits_in (F := F) (rec98 := M_R_PackBits_l98 F l k) (o := (List.range i).map (byt l)) hl (i := 8 * i) (by omega) (by omega) F 0 (by omega) (by omega)
      rw [show ((byN l (8 * i) 0 : Nat) : Int) = 0 from rfl, show ((0 : Nat) : Int) = 0 from rfl] at this
      rw [this]
      unfold M_R_PackBits_j113
      rw [byN_8 hl]
      have hr := byt_range hl i
      rw [show iconv .u8 (byt l i) = byt l i from wrap_u8 hr.1 hr.2, app_eq (by simp; omega)]
      simp only [Option.bind_some, M_R_PackBits_j108]
      rw [show ((8 : Int)) = ((8 : Nat) : Int) from rfl, iadd_n (by omega), show 8 * i + 8 = 8 * (i + 1) from by omega]
      have e : (List.range i).map (byt l) ++ [byt l i] = (List.range (i + 1)).map (byt l) := by rw [List.range_succ, List.map_append]; rfl
      rw [e]
      exact packBits_l hF hl hm k (i + 1) (by omega) (by omega)
    · rw [if_neg (by simp; omega)]
      obtain rfl : i = (l.length + 7) / 8 := by omega
      rfl
theorem packBits_eq {F : Nat} (hF : 20000 ≤ F) {l : List Int} (hl : Bit l) (hm : l.length ≤ 90000) : M_R_PackBits F l = some ((l.length : Int), pk l) := by
  unfold M_R_PackBits
  exact packBits_l (by omega) hl hm F 0 (by omega) (by omega)
theorem between_eq {F : Nat} {a b c : Int} : M_R_between F a b c = some (decide (b ≤ a ∧ a ≤ c)) := by
  unfold M_R_between
  congr 1
  by_cases h : b ≤ a <;> by_cases h2 : a ≤ c <;> simp [h, h2]
theorem numBits_l {F w : Nat} (hw : w ≤ 100000) : ∀ (k i n : Nat) (t : List Int), i < k → i ≤ w → n < 18446744073709551616 →
    M_R_NumBits_l3 F k ((n : Int), List.replicate i 0 ++ t, (i : Int) - 1) = some (nb n i ++ t)
  | 0, _, _, _, h, _, _ => by omega
  | k + 1, 0, n, t, h, _, _ => by
    show M_R_NumBits_b3 F (M_R_NumBits_l3 F k) (n : Int) _ _ = _
    unfold M_R_NumBits_b3
    rw [if_neg (by simp)]
    simp [M_R_NumBits_j2, nb]
  | k + 1, i + 1, n, t, h, hi, hn => by
    show M_R_NumBits_b3 F (M_R_NumBits_l3 F k) (n : Int) (List.replicate (i + 1) 0 ++ t) (((i + 1 : Nat) : Int) - 1) = _
    unfold M_R_NumBits_b3
    rw [show ((i + 1 : Nat) : Int) - 1 = (i : Int) from by omega, if_pos (by simp), idx_nat]
    have hg : (List.replicate (i + 1) (0 : Int) ++ t)[i]? = some 0 := by
      rw [List.getElem?_append_left (by simp)]; simp
    rw [hg]
    simp only [Option.bind_some, lett]
    rw [irem2_n, iconv_i64_n (by omega), iquo2_u hn, isub_i64 (by omega) (by omega), Int.toNat_natCast]
    have e : (List.replicate (i + 1) (0 : Int) ++ t).set i ((n % 2 : Nat) : Int) = List.replicate i 0 ++ (((n % 2 : Nat) : Int) :: t) := by
      rw [List.replicate_succ', List.append_assoc, List.set_append_right _ _ (by simp)]
      simp
    rw [e, numBits_l hw k i (n / 2) _ (by omega) (by omega) (by omega), nb_snoc]
    simp
theorem numBits_eq {F w n : Nat} (hF : w < F) (hw : w ≤ 100000) (hn : n < 18446744073709551616) : M_R_NumBits F (n : Int) (w : Int) = some (nb n w) := by
  unfold M_R_NumBits
  have hmk : mk 17592186044416 (0 : Int) (w : Int) = some (List.replicate w 0) := by
    unfold mk
    rw [if_pos (by simp; omega)]; simp
  rw [hmk]
  simp only [Option.bind_some]
  rw [isub_i64 (by omega) (by omega)]
  have := numBits_l (F := F) hw F w n [] hF (by omega) hn
  simpa using this
theorem bitsCheck_l {F : Nat} {l : List Int} (hm : l.length ≤ 100000) : ∀ (k i : Nat), l.length < k + i → i ≤ l.length →
    M_R_BitsCheck_l4 F l k (i : Int) = some (if (l.drop i).all (· == 0) then 0 else 1)
  | 0, _, _, _ => by omega
  | k + 1, i, h, hi => by
    show M_R_BitsCheck_b4 F l (M_R_BitsCheck_l4 F l k) (i : Int) = _
    unfold M_R_BitsCheck_b4
    by_cases hlt : i < l.length
    · rw [if_pos (by simp; omega), idx_nat, List.getElem?_eq_getElem hlt, List.drop_eq_getElem_cons hlt, List.all_cons]
      simp only [Option.bind_some]
      by_cases h0 : l[i] = 0
      · rw [h0, if_neg (by simp), iadd1_n (by omega), bitsCheck_l hm k (i + 1) (by omega) (by omega)]
        simp
      · rw [if_pos (by simpa using h0)]
        simp [h0]
    · rw [if_neg (by simp; omega), List.drop_eq_nil_of_le (by omega)]
      rfl
theorem all_low {b : List Int} (hb : U8s b) {m : Nat} (hlen : b.length = (m + 7) / 8) (hr : m % 8 ≠ 0) : ((bl b (8 * ((m + 7) / 8))).drop m).all (· == 0) = decide (b.getD (m / 8) 0 % 2 ^ (8 - m % 8) = 0) := by
  obtain ⟨q, hq⟩ : ∃ q, q = m / 8 := ⟨_, rfl⟩
  obtain ⟨r, hrr⟩ : ∃ r, r = m % 8 := ⟨_, rfl⟩
  have hm : m = 8 * q + r := by omega
  have hx : 0 ≤ b.getD q 0 ∧ b.getD q 0 < 256 := by
    have hlt : q < b.length := by omega
    have := hb b[q] (List.getElem_mem hlt)
    simpa [List.getD, hlt] using this
  have hc : (m + 7) / 8 = q + 1 := by omega
  obtain ⟨c0, c1, c2, c3, c4, c5, c6, c7⟩ := bitAt_8 b q
  have hall : ((bl b (8 * (q + 1))).drop m).all (· == 0) = true ↔ (∀ i, m ≤ i → i < 8 * q + 8 → bitAt b i = 0) := by
    rw [List.all_eq_true]
    constructor
    · intro h i h1 h2
      have hg : ((bl b (8 * (q + 1))).drop m)[i - m]? = some (bitAt b i) := by
        rw [List.getElem?_drop, show m + (i - m) = i from by omega]; exact bl_get (by omega)
      have := h _ (List.mem_of_getElem? hg)
      simpa using this
    · intro h x hx
      obtain ⟨j, hj⟩ := List.getElem?_of_mem hx
      rw [List.getElem?_drop] at hj
      have hjl : m + j < 8 * (q + 1) := by
        have := (List.getElem?_eq_some_iff.1 hj).1; rwa [bl_len] at this
      rw [bl_get hjl] at hj
      rw [← Option.some.inj hj, h _ (by omega) (by omega)]; rfl
  rw [hc, ← hq, ← hrr, Bool.eq_iff_iff, decide_eq_true_iff, hall]
  have hall2 : (∀ i, m ≤ i → i < 8 * q + 8 → bitAt b i = 0) ↔ (∀ j, r ≤ j → j < 8 → bitAt b (8 * q + j) = 0) := by
    constructor
    · intro h j h1 h2; exact h _ (by omega) (by omega)
    · intro h i h1 h2
      have := h (i - 8 * q) (by omega) (by omega)
      rwa [show 8 * q + (i - 8 * q) = i from by omega] at this
  rw [hall2]
  generalize b.getD q 0 = x at *
  have mk : ∀ j, j < 8 → (∀ j', r ≤ j' → j' < 8 → bitAt b (8 * q + j') = 0) → r ≤ j → bitAt b (8 * q + j) = 0 := fun j h1 h h2 => h j h2 h1
  constructor
  · intro h
    have g1 := mk 1 (by omega) h; have g2 := mk 2 (by omega) h; have g3 := mk 3 (by omega) h; have g4 := mk 4 (by omega) h
    have g5 := mk 5 (by omega) h; have g6 := mk 6 (by omega) h; have g7 := mk 7 (by omega) h
    rw [c1] at g1; rw [c2] at g2; rw [c3] at g3; rw [c4] at g4; rw [c5] at g5; rw [c6] at g6; rw [c7] at g7
    clear c0 c1 c2 c3 c4 c5 c6 c7 mk hall hall2 h
    rcases (by omega : r = 1 ∨ r = 2 ∨ r = 3 ∨ r = 4 ∨ r = 5 ∨ r = 6 ∨ r = 7) with h | h | h | h | h | h | h <;> subst h <;> simp only [Nat.reduceSub, Int.reducePow] <;> omega
  · intro h j h1 h2
    clear mk hall hall2
    rcases (by omega : r = 1 ∨ r = 2 ∨ r = 3 ∨ r = 4 ∨ r = 5 ∨ r = 6 ∨ r = 7) with hh | hh | hh | hh | hh | hh | hh <;> subst hh <;> simp only [Nat.reduceSub, Int.reducePow] at h <;>
      rcases (by omega : j = 1 ∨ j = 2 ∨ j = 3 ∨ j = 4 ∨ j = 5 ∨ j = 6 ∨ j = 7) with g | g | g | g | g | g | g <;> subst g <;> first | (exfalso; omega) | (rw [c1]; omega) | (rw [c2]; omega) | (rw [c3]; omega) | (rw [c4]; omega) | (rw [c5]; omega) | (rw [c6]; omega) | (rw [c7]; omega)
theorem bitsCheck_eq {F : Nat} (hF : 20000 ≤ F) {n : Int} {b : List Int} (hb : U8s b) : M_R_BitsCheck F n b = some (chkOf n b) := by
  unfold M_R_BitsCheck chkOf
  rw [between_eq]
  simp only [Option.bind_some]
  by_cases c1 : n < 0 ∨ 8192 < n
  · rw [if_pos (by simp; omega), if_pos c1]
  · rw [if_neg (by simp; omega), if_neg c1]
    obtain ⟨m, rfl⟩ := Int.eq_ofNat_of_zero_le (show 0 ≤ n by omega)
    have hj : ∀ c : Nat, c = (m + 7) / 8 → M_R_BitsCheck_j1 F (m : Int) b (c : Int) = some (if (b.length : Int) ≠ ((m : Int) + 7) / 8 then 1 else if (m : Int) % 8 ≠ 0 ∧ b.getD ((m : Int).toNat / 8) 0 % 2 ^ (8 - (m : Int).toNat % 8) ≠ 0 then 1 else 0) := by
      intro c hc
      unfold M_R_BitsCheck_j1
      by_cases c2 : b.length = c
      · rw [if_neg (by simp [c2]), if_neg (by omega)]
        rw [imul_i64 (by omega) (by omega), show (8 : Int) * (c : Int) = ((8 * c : Nat) : Int) from by omega, bitList_eq hF hb (by omega) (by omega)]
        simp only [Option.bind_some]
        rw [bitsCheck_l (by rw [bl_len]; omega) F m (by rw [bl_len]; omega) (by rw [bl_len]; omega), Int.toNat_natCast]
        by_cases hr : m % 8 = 0
        · rw [List.drop_eq_nil_of_le (by rw [bl_len]; omega), List.all_nil, if_pos rfl, if_neg (by omega)]
        · rw [hc, all_low hb (by omega) hr]
          by_cases hz : b.getD (m / 8) 0 % 2 ^ (8 - m % 8) = 0
          · rw [if_pos (decide_eq_true hz), if_neg (fun h => h.2 hz)]
          · rw [if_neg (by simp only [decide_eq_true_eq]; exact hz), if_pos ⟨by omega, hz⟩]
      · rw [if_pos (by rw [bne_iff_ne]; omega), if_pos (by omega)]
    rw [irem8, iquo8 (by omega)]
    by_cases h8 : 0 < m % 8
    · rw [if_pos (by simp; omega), iadd1_n (by omega)]
      exact hj _ (by omega)
    · rw [if_neg (by simp; omega)]
      exact hj _ (by omega)
theorem sub_n {α : Type} {l : List α} {i j : Nat} (h1 : i ≤ j) (h2 : j ≤ l.length) : sub l (i : Int) (j : Int) = some ((l.take j).drop i) := by
  unfold sub
  rw [if_pos ⟨by omega, by omega, by omega⟩, Int.toNat_natCast, Int.toNat_natCast]
theorem bit_drop {l : List Int} (h : Bit l) (i : Nat) : Bit (l.drop i) := fun x hx => h x (List.mem_of_mem_drop hx)
theorem bit_take {l : List Int} (h : Bit l) (i : Nat) : Bit (l.take i) := fun x hx => h x (List.mem_of_mem_take hx)
theorem chk_form {n : Int} {b : List Int} (hb : U8s b) : chkOf n b ≠ 0 ∨ ∃ l : List Int, Bit l ∧ l.length ≤ 8192 ∧ n = (l.length : Int) ∧ b = pk l := by
  by_cases h : chkOf n b = 0
  · obtain ⟨m, rfl, ob⟩ := chkOf_ok h
    exact .inr ⟨bl b m, bl_bit _ _, by rw [bl_len]; exact ob.max, by rw [bl_len], (pk_bl hb ob).symm⟩
  · exact .inl h
theorem chk_pk {l : List Int} (hm : l.length ≤ 8192) : chkOf (l.length : Int) (pk l) = 0 := chkOf_of_ok (ok_pk hm)
theorem jn_bad1 {n m : Int} {a b : List Int} (h : chkOf n a ≠ 0) : jn n a m b = (0, [], chkOf n a) := by
  unfold jn joinOf; simp [h]
theorem jn_bad2 {n m : Int} {a b : List Int} (h0 : chkOf n a = 0) (h : chkOf m b ≠ 0) : jn n a m b = (0, [], chkOf m b) := by
  unfold jn joinOf; simp [h0, h]
theorem jn_form {l k : List Int} (hl : Bit l) (hk : Bit k) (h1 : l.length ≤ 8192) (h2 : k.length ≤ 8192) :
    jn (l.length : Int) (pk l) (k.length : Int) (pk k) = if l.length + k.length ≤ 8192 then (((l ++ k).length : Int), pk (l ++ k), 0) else (0, [], 8) := by
  by_cases h : l.length + k.length ≤ 8192
  · have e : joinOf (l.length : Int) (pk l) (k.length : Int) (pk k) = 0 := by
      unfold joinOf; rw [chk_pk h1, chk_pk h2, if_neg (by simp), if_neg (by simp), if_neg (by omega)]
    unfold jn
    rw [e, if_pos h, if_neg (by simp), Int.toNat_natCast, Int.toNat_natCast, bl_pk hl, bl_pk hk]; simp
  · have e : joinOf (l.length : Int) (pk l) (k.length : Int) (pk k) = 8 := by
      unfold joinOf; rw [chk_pk h1, chk_pk h2, if_neg (by simp), if_neg (by simp), if_pos (by omega)]
    unfold jn
    rw [e, if_neg h, if_pos (by decide)]
theorem i64_len {l : List Int} (h : l.length ≤ 8192) : I64 (l.length : Int) := ⟨by omega, by omega⟩
theorem pk_len9 {l : List Int} (h : l.length ≤ 8192) : (pk l).length ≤ 9223372036854775807 := by rw [pk_len]; omega
theorem pk_nil : pk [] = [] := rfl
theorem same_self {F : Nat} {n : Int} {xs : List Int} (hF : xs.length < F) (hm : xs.length ≤ 1000000) : M_R_SameBits F n xs n xs = some true := by
  rw [sameBits_eq hF (by omega)]; simp
theorem jn_short {n m : Int} {a b : List Int} : (jn n a m b).2.1.length ≤ 2000 := by
  by_cases h : (jn n a m b).2.2 = 0
  · obtain ⟨n', m', rfl, rfl, oa, ob, hs⟩ := join_inv h
    rw [join_ok oa ob hs]
    simp only [pk_len, List.length_append, bl_len]
    omega
  · rw [(join_err h).2]; simp
theorem sameNums_l (F : Nat) (xs ys : List Int) : ∀ k, M_R_SameNums_l3 F xs ys k = M_R_SameBytes_l3 F xs ys k
  | 0 => rfl
  | k + 1 => by
    funext i
    show M_R_SameNums_b3 F xs ys (M_R_SameNums_l3 F xs ys k) i = M_R_SameBytes_b3 F xs ys (M_R_SameBytes_l3 F xs ys k) i
    rw [sameNums_l F xs ys k]; rfl
theorem sameNums_same (F : Nat) (xs ys : List Int) : M_R_SameNums F xs ys = M_R_SameBytes F xs ys := by
  unfold M_R_SameNums M_R_SameBytes; rw [sameNums_l]
theorem sameInts_l (F : Nat) (xs ys : List Int) : ∀ k, M_R_SameInts_l3 F xs ys k = M_R_SameBytes_l3 F xs ys k
  | 0 => rfl
  | k + 1 => by
    funext i
    show M_R_SameInts_b3 F xs ys (M_R_SameInts_l3 F xs ys k) i = M_R_SameBytes_b3 F xs ys (M_R_SameBytes_l3 F xs ys k) i
    rw [sameInts_l F xs ys k]; rfl
theorem sameInts_same (F : Nat) (xs ys : List Int) : M_R_SameInts F xs ys = M_R_SameBytes F xs ys := by
  unfold M_R_SameInts M_R_SameBytes; rw [sameInts_l]
def un (n : Nat) : List Int := List.replicate n 0 ++ [1]
theorem un_len (n : Nat) : (un n).length = n + 1 := by simp [un]
theorem bit_rep (n : Nat) : Bit (List.replicate n 0) := by intro x hx; left; exact (List.mem_replicate.1 hx).2
theorem bit_one : Bit [1] := by intro x hx; right; simpa using hx
theorem un_bit (n : Nat) : Bit (un n) := bit_app (bit_rep n) bit_one
theorem pk_rep (n : Nat) : pk (List.replicate n 0) = List.replicate ((n + 7) / 8) 0 := by
  unfold pk
  rw [List.length_replicate]
  apply List.ext_getElem?
  intro k
  by_cases hk : k < (n + 7) / 8
  · have hz : ∀ i, (List.replicate n (0 : Int)).getD i 0 = 0 := by
      intro i
      by_cases h : i < n
      · simp [List.getD, h]
      · exact getD_ge (by simp; omega)
    rw [List.getElem?_map, List.getElem?_range hk, List.getElem?_replicate, if_pos hk]
    simp only [Option.map_some, byt, hz]
    rfl
  · rw [List.getElem?_eq_none (by simpa using hk), List.getElem?_eq_none (by simpa using hk)]
theorem add_pk {F : Nat} {n w : Nat} {l : List Int} (hn : n < 18446744073709551616) (hF : w < F) (hl : Bit l) (hm : l.length ≤ 8192) (hw : w ≤ 10000) :
    M_bits_Add F (l.length : Int) (pk l) (n : Int) (w : Int) = some (((l ++ nb n w).length : Int), pk (l ++ nb n w)) := by
  rw [add_eq hn hF (pk_u8 hl) (ok_pk hm) hw, bl_pk hl, List.length_append, nb_len]
theorem raw_eq {F n : Nat} (hF : 20000 ≤ F) (hn : n < 8192) : M_unary_Raw F (n : Int) = some (((un n).length : Int), pk (un n)) := by
  unfold M_unary_Raw
  have e : iquo .u64 (iadd .u64 (n : Int) 7) 8 = (((n + 7) / 8 : Nat) : Int) := by
    unfold iquo iadd
    rw [wrap_u64 (n := (n : Int) + 7) (by omega) (by omega), Int.tdiv_eq_ediv_of_nonneg (by omega), wrap_u64 (by omega) (by omega)]
    omega
  rw [e]
  have hmk : mk 140737488355328 (0 : Int) (((n + 7) / 8 : Nat) : Int) = some (pk (List.replicate n 0)) := by
    unfold mk
    rw [if_pos (by omega), Int.toNat_natCast, pk_rep]
  rw [hmk]
  simp only [Option.bind_some]
  rw [iconv_i64_n (by omega)]
  have h := add_pk (F := F) (n := 1) (w := 1) (l := List.replicate n 0) (by decide) (by omega) (bit_rep n) (by simp; omega) (by decide)
  rw [List.length_replicate] at h
  rw [show ((1 : Nat) : Int) = 1 from rfl] at h
  rw [h]
  rfl
/-- How many noughts are ahead of the first 1. -/
def fz : List Int → Option Nat
  | [] => none
  | x :: l => if x = 1 then some 0 else (fz l).map (· + 1)
theorem fz_un (n : Nat) (r : List Int) : fz (un n ++ r) = some n := by
  induction n with
  | zero => simp [un, fz]
  | succ n ih =>
    have : un (n + 1) ++ r = 0 :: (un n ++ r) := by simp [un, List.replicate_succ]
    rw [this, fz, if_neg (by decide), ih]; rfl
theorem fz_lt {l : List Int} {n : Nat} (h : fz l = some n) : n < l.length := by
  induction l generalizing n with
  | nil => simp [fz] at h
  | cons x l ih =>
    unfold fz at h
    split at h
    · simp at h; subst h; simp
    · cases hf : fz l with
      | none => rw [hf] at h; simp at h
      | some m => rw [hf] at h; simp at h; subst h; have := ih hf; simp; omega
theorem at_pk {F : Nat} {m : Int} {l : List Int} (hl : Bit l) (hm : l.length ≤ 90000) {i : Nat} (hi : i < l.length) : M_bits_At F m (pk l) (i : Int) = some l[i] := by
  rw [at_eq (pk_u8 hl) (by rw [pk_len]; omega) (by omega), bitAt_pk hl hi]
  simp [List.getD, hi]
theorem from_l {F : Nat} {l : List Int} (hl : Bit l) (hm : l.length ≤ 8192) (a : Nat) : ∀ (k i : Nat), l.length < k + i → i ≤ l.length → a ≤ i →
    M_unary_From_l3 F (l.length : Int) (pk l) (a : Int) k (i : Int) = some (match fz (l.drop i) with | none => (0, 0, false) | some n => (((i - a + n : Nat) : Int), ((i + n + 1 : Nat) : Int), true))
  | 0, _, _, _, _ => by omega
  | k + 1, i, h, hi, ha => by
    show M_unary_From_b3 F (l.length : Int) (pk l) (a : Int) (M_unary_From_l3 F (l.length : Int) (pk l) (a : Int) k) (i : Int) = _
    unfold M_unary_From_b3
    by_cases hlt : i < l.length
    · rw [if_pos (by simp; omega), at_pk hl (by omega) hlt, List.drop_eq_getElem_cons hlt, fz]
      simp only [Option.bind_some]
      by_cases h1 : l[i] = 1
      · rw [if_pos (by simpa using h1), if_pos h1, isub_n ha (by omega), iconv_u64_n (by omega), iadd1_n (by omega)]
        rfl
      · rw [if_neg (by simpa using h1), if_neg h1, iadd1_n (by omega), from_l hl hm a k (i + 1) (by omega) (by omega) (by omega)]
        cases fz (l.drop (i + 1)) with
        | none => rfl
        | some n =>
          simp only [Option.map_some]
          rw [show i + 1 - a + n = i - a + (n + 1) from by omega, show i + 1 + n + 1 = i + (n + 1) + 1 from by omega]
    · rw [if_neg (by simp; omega), List.drop_eq_nil_of_le (by omega)]
      rfl
theorem from_eq {F : Nat} (hF : 20000 ≤ F) {l : List Int} (hl : Bit l) (hm : l.length ≤ 8192) {a : Nat} (ha : a ≤ l.length) :
    M_unary_From F (l.length : Int) (pk l) (a : Int) = some (match fz (l.drop a) with | none => (0, 0, false) | some n => ((n : Int), ((a + n + 1 : Nat) : Int), true)) := by
  unfold M_unary_From
  have := from_l (F := F) hl hm a F a (by omega) ha (by omega)
  rw [this]
  cases fz (l.drop a) with
  | none => rfl
  | some n => simp only; rw [Nat.sub_self, Nat.zero_add]
/-- What is wrong with bits, and a place. -/
def raOf (m : Int) (b : List Int) (a : Int) : Int := if chkOf m b ≠ 0 then chkOf m b else if a < 0 ∨ m < a then 3 else 0
theorem ra_bad {m a : Int} {b : List Int} (h : chkOf m b ≠ 0) : raOf m b a = chkOf m b := by unfold raOf; rw [if_pos h]
theorem ra_range {l : List Int} {a : Int} (h1 : l.length ≤ 8192) (h : ¬ (0 ≤ a ∧ a ≤ (l.length : Int))) : raOf (l.length : Int) (pk l) a = 3 := by
  unfold raOf; rw [if_neg (by simp [chk_pk h1]), if_pos (by omega)]
theorem ra_form {l : List Int} {a : Nat} (h1 : l.length ≤ 8192) (h : a ≤ l.length) : raOf (l.length : Int) (pk l) (a : Int) = 0 := by
  unfold raOf; rw [if_neg (by simp [chk_pk h1]), if_neg (by omega)]
theorem ra_cases {m a : Int} {b : List Int} (hb : U8s b) : raOf m b a ≠ 0 ∨ ∃ (l : List Int) (i : Nat), Bit l ∧ l.length ≤ 8192 ∧ m = (l.length : Int) ∧ b = pk l ∧ a = (i : Int) ∧ i ≤ l.length := by
  rcases chk_form hb (n := m) with h | ⟨l, hl, hm, rfl, rfl⟩
  · left; rw [ra_bad h]; exact h
  · by_cases h : 0 ≤ a ∧ a ≤ (l.length : Int)
    · obtain ⟨i, rfl⟩ := Int.eq_ofNat_of_zero_le h.1
      exact .inr ⟨l, i, hl, hm, rfl, rfl, rfl, by omega⟩
    · left; rw [ra_range hm h]; decide
theorem readErr_eq {F : Nat} (hF : 20000 ≤ F) {m a : Int} {b : List Int} (hb : U8s b) : M_R_ReadErr F m b a = some (raOf m b a) := by
  unfold M_R_ReadErr raOf
  rw [bitsCheck_eq hF hb]
  simp only [Option.bind_some]
  by_cases h1 : chkOf m b = 0
  · rw [if_pos (by simpa using h1), if_neg (by simp [h1]), between_eq]
    simp only [Option.bind_some, M_R_ReadErr_j3, M_R_ReadErr_j2]
    by_cases h : a < 0 ∨ m < a
    · rw [if_pos h, if_pos (by simp; omega)]
    · rw [if_neg h, if_neg (by simp; omega), h1]
  · rw [if_neg (by simpa using h1), if_pos h1]
    rfl
theorem both_pk {F : Nat} (hF : 20000 ≤ F) {l k : List Int} (hl : Bit l) (hk : Bit k) (h1 : l.length ≤ 8192) (h2 : k.length ≤ 8192) :
    M_bits_Both F (l.length : Int) (pk l) (k.length : Int) (pk k) = some (((l ++ k).length : Int), pk (l ++ k)) := by
  rw [both_eq hF (pk_u8 hl) (pk_u8 hk) (ok_pk h1) (ok_pk h2), bl_pk hl, bl_pk hk, List.length_append]
def N64 (l : List Int) : Prop := ∀ x ∈ l, 0 ≤ x ∧ x < 18446744073709551616
theorem unaryList_l {F n : Nat} (hn : n ≤ 100000) : ∀ (k i : Nat), n < k + i → i ≤ n →
    M_R_UnaryList_l3 F (n : Int) k (List.replicate i 0, (i : Int)) = some (un n)
  | 0, _, _, _ => by omega
  | k + 1, i, h, hi => by
    show M_R_UnaryList_b3 F (n : Int) (M_R_UnaryList_l3 F (n : Int) k) (List.replicate i 0) (i : Int) = _
    unfold M_R_UnaryList_b3
    by_cases hlt : i < n
    · rw [if_pos (by simp; omega), app_eq (by simp; omega)]
      simp only [Option.bind_some]
      have e : iadd .u64 (i : Int) 1 = ((i + 1 : Nat) : Int) := by unfold iadd; rw [wrap_u64 (by omega) (by omega)]; omega
      rw [e, ← List.replicate_succ']
      exact unaryList_l hn k (i + 1) (by omega) (by omega)
    · rw [if_neg (by simp; omega)]
      obtain rfl : i = n := by omega
      unfold M_R_UnaryList_j2
      rw [app_eq (by simp; omega)]
      rfl
theorem unaryList_eq {F n : Nat} (hn : n ≤ 100000) (hF : n < F) : M_R_UnaryList F (n : Int) = some (un n) := by
  unfold M_R_UnaryList
  exact unaryList_l hn F 0 (by omega) (by omega)
theorem unaryRead_l {F : Nat} {l : List Int} (hm : l.length ≤ 100000) : ∀ (k i c : Nat), l.length < k + i → i ≤ l.length → c ≤ 200000 - (l.length - i) →
    M_R_UnaryRead_l3 F l k ((c : Int), (i : Int)) = some (match fz (l.drop i) with | none => (0, -1) | some n => (((c + n : Nat) : Int), ((i + n + 1 : Nat) : Int)))
  | 0, _, _, _, _, _ => by omega
  | k + 1, i, c, h, hi, hc => by
    show M_R_UnaryRead_b3 F l (M_R_UnaryRead_l3 F l k) (c : Int) (i : Int) = _
    unfold M_R_UnaryRead_b3
    by_cases hlt : i < l.length
    · rw [if_pos (by simp; omega), idx_nat, List.getElem?_eq_getElem hlt, List.drop_eq_getElem_cons hlt, fz]
      simp only [Option.bind_some]
      by_cases h1 : l[i] = 1
      · rw [if_pos (by simpa using h1), if_pos h1, iadd1_n (by omega)]
        rfl
      · have e : iadd .u64 (c : Int) 1 = ((c + 1 : Nat) : Int) := by unfold iadd; rw [wrap_u64 (by omega) (by omega)]; omega
        rw [if_neg (by simpa using h1), if_neg h1, iadd1_n (by omega), e, unaryRead_l hm k (i + 1) (c + 1) (by omega) (by omega) (by omega)]
        cases fz (l.drop (i + 1)) with
        | none => rfl
        | some n =>
          simp only [Option.map_some]
          rw [show c + 1 + n = c + (n + 1) from by omega, show i + 1 + n + 1 = i + (n + 1) + 1 from by omega]
    · rw [if_neg (by simp; omega), List.drop_eq_nil_of_le (by omega)]
      rfl
theorem unaryRead_eq {F : Nat} {l : List Int} (hm : l.length ≤ 10000) (hF : 20000 ≤ F) {a : Nat} (ha : a ≤ l.length) : M_R_UnaryRead F l (a : Int) = some (match fz (l.drop a) with | none => (0, -1) | some n => ((n : Int), ((a + n + 1 : Nat) : Int))) := by
  unfold M_R_UnaryRead
  have := unaryRead_l (F := F) (l := l) (by omega) F a 0 (by omega) ha (by omega)
  rw [show ((0 : Nat) : Int) = 0 from rfl] at this
  rw [this]
  cases fz (l.drop a) with
  | none => rfl
  | some n => simp only; rw [Nat.zero_add]
theorem same_nums {F : Nat} {xs : List Int} (hF : xs.length < F) (hm : xs.length ≤ 9223372036854775807) : M_R_SameNums F xs xs = some true := by
  rw [sameNums_same, sameBytes_eq hF hm]; simp
/-- How many bits a number has. -/
def len (x : Nat) : Nat := if x = 0 then 0 else x.log2 + 1
theorem len_le {x k : Nat} : len x ≤ k ↔ x < 2 ^ k := by
  unfold len
  by_cases h : x = 0
  · rw [if_pos h, h]; simp [Nat.pow_pos]
  · rw [if_neg h]; exact Nat.log2_lt h
theorem len_unique {x k : Nat} (h1 : x < 2 ^ k) (h2 : k = 0 ∨ 2 ^ (k - 1) ≤ x) : len x = k := by
  have h3 := len_le.2 h1
  rcases h2 with rfl | h2
  · omega
  · by_cases h4 : len x ≤ k - 1
    · have := len_le.1 h4; omega
    · omega
theorem len_lt {x : Nat} : x < 2 ^ len x := len_le.1 (Nat.le_refl _)
theorem len_ge {x : Nat} (h : x ≠ 0) : 2 ^ (len x - 1) ≤ x := by
  have h1 : 1 ≤ len x := by unfold len; rw [if_neg h]; omega
  apply Nat.le_of_not_lt
  intro h2
  have := len_le.2 h2
  omega
theorem len_pos {x : Nat} (h : x ≠ 0) : 1 ≤ len x := by unfold len; rw [if_neg h]; omega
theorem len_shift {x k : Nat} (h : 2 ^ k ≤ x) : len (x / 2 ^ k) + k = len x := by
  have hp : 0 < 2 ^ k := Nat.pow_pos (by decide)
  have hx : x ≠ 0 := by omega
  have hd : x / 2 ^ k ≠ 0 := by
    intro h0
    rw [Nat.div_eq_zero_iff] at h0
    omega
  symm
  apply len_unique
  · rw [Nat.pow_add]
    have := len_lt (x := x / 2 ^ k)
    exact (Nat.div_lt_iff_lt_mul hp).1 this
  · right
    have h1 := len_pos hd
    have := len_ge hd
    rw [show len (x / 2 ^ k) + k - 1 = len (x / 2 ^ k) - 1 + k from by omega, Nat.pow_add]
    exact (Nat.le_div_iff_mul_le hp).1 this
theorem len_tab : ∀ x : Fin 256, ∀ k : Fin 8, M_math_bits_Len64_j3 0 ((x.val : Nat) : Int) ((8 * k.val : Nat) : Int) = some ((len x.val + 8 * k.val : Nat) : Int) := by decide +kernel
theorem len64_3 {F x k : Nat} (hx : x < 256) (hk : k ≤ 56) (h8 : k % 8 = 0) : M_math_bits_Len64_j3 F (x : Int) (k : Int) = some ((len x + k : Nat) : Int) := by
  have h := len_tab ⟨x, hx⟩ ⟨k / 8, by omega⟩
  simp only at h
  rw [show 8 * (k / 8) = k from by omega] at h
  exact h
theorem len64_2 {F x k : Nat} (hx : x < 65536) (hk : k ≤ 48) (h8 : k % 8 = 0) : M_math_bits_Len64_j2 F (x : Int) (k : Int) = some ((len x + k : Nat) : Int) := by
  unfold M_math_bits_Len64_j2
  by_cases h : 256 ≤ x
  · have e := ishr_n (n := x) (k := 8) (by omega)
    rw [show ((8 : Nat) : Int) = 8 from rfl] at e
    have e2 : iadd .i64 (k : Int) 8 = ((k + 8 : Nat) : Int) := by rw [iadd_i64 (by omega) (by omega)]; omega
    rw [if_pos (by simp; omega), e, e2, len64_3 (by omega) (by omega) (by omega), ← len_shift (x := x) (k := 8) (by omega)]
    congr 2; omega
  · rw [if_neg (by simp; omega), len64_3 (by omega) (by omega) (by omega)]
theorem len64_1 {F x k : Nat} (hx : x < 4294967296) (hk : k ≤ 32) (h8 : k % 8 = 0) : M_math_bits_Len64_j1 F (x : Int) (k : Int) = some ((len x + k : Nat) : Int) := by
  unfold M_math_bits_Len64_j1
  by_cases h : 65536 ≤ x
  · have e := ishr_n (n := x) (k := 16) (by omega)
    rw [show ((16 : Nat) : Int) = 16 from rfl] at e
    have e2 : iadd .i64 (k : Int) 16 = ((k + 16 : Nat) : Int) := by rw [iadd_i64 (by omega) (by omega)]; omega
    rw [if_pos (by simp; omega), e, e2, len64_2 (by omega) (by omega) (by omega), ← len_shift (x := x) (k := 16) (by omega)]
    congr 2; omega
  · rw [if_neg (by simp; omega), len64_2 (by omega) (by omega) (by omega)]
theorem len64_eq {F x : Nat} (hx : x < 18446744073709551616) : M_math_bits_Len64 F (x : Int) = some ((len x : Nat) : Int) := by
  unfold M_math_bits_Len64
  by_cases h : 4294967296 ≤ x
  · have e := ishr_n (n := x) (k := 32) (by omega)
    rw [show ((32 : Nat) : Int) = 32 from rfl] at e
    have := len64_1 (F := F) (x := x / 2 ^ 32) (k := 32) (by omega) (by omega) (by omega)
    rw [show ((32 : Nat) : Int) = 32 from rfl] at this
    rw [if_pos (by simp; omega), e, this, len_shift (x := x) (k := 32) (by omega)]
  · have := len64_1 (F := F) (x := x) (k := 0) (by omega) (by omega) (by omega)
    rw [show ((0 : Nat) : Int) = 0 from rfl] at this
    rw [if_neg (by simp; omega), this, Nat.add_zero]
/-- How many bits a number, and one, has behind its highest one. -/
def lg (n : Nat) : Nat := len (n + 1) - 1
theorem lg_le {n : Nat} : 2 ^ lg n ≤ n + 1 := len_ge (by omega)
theorem lg_lt {n : Nat} : n + 1 < 2 ^ (lg n + 1) := by
  have h := len_pos (x := n + 1) (by omega)
  unfold lg
  rw [Nat.sub_add_cancel h]; exact len_lt
theorem lg_small {n : Nat} (h : n ≤ 1099511627776) : lg n ≤ 40 := by
  have : len (n + 1) ≤ 41 := len_le.2 (by omega)
  unfold lg; omega
theorem pow64 {k : Nat} (h : k ≤ 63) : 2 ^ k ≤ 9223372036854775808 := by
  have := Nat.pow_le_pow_right (show 0 < 2 by decide) h
  rwa [show (2 : Nat) ^ 63 = 9223372036854775808 from by decide] at this
theorem shl1_n {k : Nat} (h : k ≤ 63) : ishl .u64 1 (k : Int) = ((2 ^ k : Nat) : Int) := by
  have := ishl_n (n := 1) (k := k) (by omega)
  rw [show ((1 : Nat) : Int) = 1 from rfl] at this
  have hp := pow64 h
  rw [this, Nat.one_mul, Nat.mod_eq_of_lt (by omega)]
theorem usub_n {a b : Nat} (h : b ≤ a) (h2 : a < 18446744073709551616) : isub .u64 (a : Int) (b : Int) = ((a - b : Nat) : Int) := by
  unfold isub; rw [wrap_u64 (by omega) (by omega)]; omega
theorem usub1_n {a : Nat} (h : 1 ≤ a) (h2 : a < 18446744073709551616) : isub .u64 (a : Int) 1 = ((a - 1 : Nat) : Int) := by
  unfold isub; rw [wrap_u64 (by omega) (by omega)]; omega
theorem uadd_n {a b : Nat} (h2 : a + b < 18446744073709551616) : iadd .u64 (a : Int) (b : Int) = ((a + b : Nat) : Int) := by
  unfold iadd; rw [wrap_u64 (by omega) (by omega)]; omega
theorem uadd1_n {a : Nat} (h2 : a + 1 < 18446744073709551616) : iadd .u64 (a : Int) 1 = ((a + 1 : Nat) : Int) := by
  unfold iadd; rw [wrap_u64 (by omega) (by omega)]; omega
theorem read_pk {F a w : Nat} {l : List Int} (hF : 100 ≤ F) (hl : Bit l) (hm : l.length ≤ 8192) (ha : a ≤ l.length) (hw : w ≤ 64) :
    M_bits_Read F (l.length : Int) (pk l) (a : Int) (w : Int) = some (if a + w ≤ l.length then (((bv ((l.drop a).take w) : Nat) : Int), true) else (0, false)) := by
  have := read_eq hF (pk_u8 hl) (ok_pk hm) ha hw
  rwa [bl_pk hl] at this
theorem eCheck_eq {F : Nat} {m a : Int} {b : List Int} (hb : U8s b) (hm : I64 m) (lb : b.length ≤ 9223372036854775807) : M_elias_Check F m b a = some (raOf m b a) := by
  unfold M_elias_Check raOf
  rw [check_eq hb hm.1 hm.2 lb]
  simp only [Option.bind_some]
  by_cases h1 : chkOf m b = 0
  · rw [if_pos (by simpa using h1), if_neg (by simp [h1])]
    simp only [M_elias_Check_j3, M_elias_Check_j2]
    by_cases h : a < 0 ∨ m < a
    · rw [if_pos h, if_pos (by simp; omega)]
    · rw [if_neg h, if_neg (by simp; omega), h1]
  · rw [if_neg (by simpa using h1), if_pos h1]
    rfl
def sh (m : Nat) : Nat := len (m - 1)
def dd (m : Nat) : Nat := 2 ^ sh m - m
theorem sh_le {m : Nat} (h : 1 ≤ m) : m ≤ 2 ^ sh m := by have := len_lt (x := m - 1); unfold sh; omega
theorem sh_63 {m : Nat} (h : m ≤ 9223372036854775808) : sh m ≤ 63 := len_le.2 (by rw [show (2 : Nat) ^ 63 = 9223372036854775808 from by decide]; omega)
theorem sh_ge {m : Nat} (h : 2 ≤ m) : 1 ≤ sh m ∧ 2 ^ (sh m - 1) < m := by
  have h1 := len_pos (x := m - 1) (by omega)
  have h2 := len_ge (x := m - 1) (by omega)
  unfold sh; omega
theorem sh_1 : sh 1 = 0 := rfl
theorem dd_add {m : Nat} (h : 1 ≤ m) : m + dd m = 2 ^ sh m := by have := sh_le h; unfold dd; omega
theorem dd_lt {m : Nat} (h : 1 ≤ m) (hd : 0 < dd m) : 1 ≤ sh m ∧ dd m < 2 ^ (sh m - 1) := by
  by_cases h2 : 2 ≤ m
  · obtain ⟨h3, h4⟩ := sh_ge h2
    have h5 := dd_add h
    have h6 : 2 ^ sh m = 2 * 2 ^ (sh m - 1) := by rw [← Nat.pow_succ']; congr 1; omega
    omega
  · obtain rfl : m = 1 := by omega
    simp [dd, sh_1] at hd
theorem shape_eq {F m : Nat} (h : 1 ≤ m) (h2 : m ≤ 9223372036854775808) : M_golomb_shape F (m : Int) = some ((sh m : Int), (dd m : Int)) := by
  unfold M_golomb_shape
  have h63 := sh_63 h2
  have hl := sh_le h
  rw [usub1_n h (by omega), len64_eq (by omega)]
  simp only [Option.bind_some]
  have hc : decide ((0 : Int) ≤ ((len (m - 1) : Nat) : Int)) = true := decide_eq_true (by omega)
  rw [hc]
  simp only [chk, if_true]
  have hp := pow64 h63
  have e := shl1_n h63
  unfold sh at e hl hp
  rw [e, usub_n hl (by omega)]
  rfl
def le (n m : Nat) : List Int := if n < dd m then nb n (sh m - 1) else nb (n + dd m) (sh m)
theorem le_bit (n m : Nat) : Bit (le n m) := by unfold le; split <;> exact nb_bit _ _
theorem le_len (n m : Nat) : (le n m).length = if n < dd m then sh m - 1 else sh m := by unfold le; split <;> exact nb_len _ _
theorem addLeast_eq {F n m : Nat} {l : List Int} (hF : 20000 ≤ F) (hl : Bit l) (hlm : l.length ≤ 8192) (hm : m ≤ 9223372036854775808) (hn : n < m) :
    M_golomb_addLeast F (l.length : Int) (pk l) (n : Int) (m : Int) = some (((l ++ le n m).length : Int), pk (l ++ le n m)) := by
  unfold M_golomb_addLeast le
  have h63 := sh_63 hm
  have ha := dd_add (m := m) (by omega)
  have hp := pow64 h63
  rw [shape_eq (by omega) hm]
  simp only [Option.bind_some]
  by_cases h : n < dd m
  · obtain ⟨h1, h2⟩ := dd_lt (m := m) (by omega) (by omega)
    rw [if_pos (by simp; omega), if_pos h, isub1_n h1 (by omega), add_pk (by omega) (by omega) hl hlm (by omega)]
    rfl
  · rw [if_neg (by simp; omega), if_neg h, uadd_n (by omega), add_pk (by omega) (by omega) hl hlm (by omega)]
    rfl
/-- The number of a least code, and the place behind it. -/
def flR (l : List Int) (a m : Nat) : Option (Nat × Nat) := if a + sh m ≤ l.length then some (bv ((l.drop a).take (sh m)) - dd m, a + sh m) else none
def flOf (l : List Int) (a m : Nat) : Option (Nat × Nat) :=
  if 0 < dd m then (if a + (sh m - 1) ≤ l.length then (if bv ((l.drop a).take (sh m - 1)) < dd m then some (bv ((l.drop a).take (sh m - 1)), a + (sh m - 1)) else flR l a m) else none) else flR l a m
theorem take_snoc_bv {l : List Int} (hl : Bit l) {a s : Nat} (hs : 1 ≤ s) (h : a + s ≤ l.length) : ∃ x, x < 2 ∧ bv ((l.drop a).take s) = 2 * bv ((l.drop a).take (s - 1)) + x := by
  obtain ⟨x, hx, hx2⟩ := bit_n (bit_drop hl a) (i := s - 1) (by simp; omega)
  refine ⟨x, hx2, ?_⟩
  have : (l.drop a).take s = (l.drop a).take (s - 1) ++ [(x : Int)] := by
    have h1 : s = (s - 1) + 1 := by omega
    conv => lhs; rw [h1, List.take_add_one, hx]
    rfl
  rw [this, bv_app]
  simp [bv]
  omega
theorem fl_lt {l : List Int} (hl : Bit l) {a m n q : Nat} (hm : 1 ≤ m) (h : flOf l a m = some (n, q)) : n < m ∧ q ≤ l.length := by
  have hR : flR l a m = some (n, q) → n < m ∧ q ≤ l.length := by
    intro h
    unfold flR at h
    split at h
    · rename_i h1
      simp only [Option.some.injEq, Prod.mk.injEq] at h
      have := bv_lt (bit_take (bit_drop hl a) (sh m))
      rw [List.length_take, List.length_drop, Nat.min_eq_left (by omega)] at this
      have := dd_add hm
      omega
    · simp at h
  unfold flOf at h
  split at h
  · rename_i h0
    split at h
    · split at h
      · simp only [Option.some.injEq, Prod.mk.injEq] at h
        have h1 := dd_lt hm h0
        have h2 := dd_add hm
        have h6 : 2 ^ sh m = 2 * 2 ^ (sh m - 1) := by rw [← Nat.pow_succ']; congr 1; omega
        omega
      · exact hR h
    · simp at h
  · exact hR h
theorem fromLeast_eq {F a m : Nat} {l : List Int} (hF : 20000 ≤ F) (hl : Bit l) (hlm : l.length ≤ 8192) (ha : a ≤ l.length) (hm1 : 1 ≤ m) (hm : m ≤ 9223372036854775808) :
    match flOf l a m with
    | none => ∃ x y, M_golomb_fromLeast F (l.length : Int) (pk l) (a : Int) (m : Int) = some (x, y, false)
    | some p => M_golomb_fromLeast F (l.length : Int) (pk l) (a : Int) (m : Int) = some ((p.1 : Int), (p.2 : Int), true) := by
  have h63 := sh_63 hm
  have hadd := dd_add hm1
  have hp := pow64 h63
  have hj1 : (0 < dd m → ¬ bv ((l.drop a).take (sh m - 1)) < dd m) → match flR l a m with
      | none => ∃ x y, M_golomb_fromLeast_j1 F (l.length : Int) (pk l) (a : Int) ((sh m : Int), (dd m : Int)) = some (x, y, false)
      | some p => M_golomb_fromLeast_j1 F (l.length : Int) (pk l) (a : Int) ((sh m : Int), (dd m : Int)) = some ((p.1 : Int), (p.2 : Int), true) := by
    intro hge
    unfold flR M_golomb_fromLeast_j1
    simp only
    rw [read_pk (by omega) hl hlm ha (by omega)]
    simp only [Option.bind_some]
    by_cases h : a + sh m ≤ l.length
    · rw [if_pos h, if_pos h]
      simp only
      have hb := bv_lt (bit_take (bit_drop hl a) (sh m))
      rw [List.length_take, List.length_drop, Nat.min_eq_left (by omega)] at hb
      have hdb : dd m ≤ bv ((l.drop a).take (sh m)) := by
        by_cases h0 : 0 < dd m
        · obtain ⟨h1, _⟩ := dd_lt hm1 h0
          obtain ⟨x, _, hx⟩ := take_snoc_bv hl h1 h
          have := hge h0
          omega
        · omega
      rw [usub_n hdb (by omega), iadd_n (by omega)]
    · rw [if_neg h, if_neg h]
      exact ⟨_, _, rfl⟩
  by_cases h0 : 0 < dd m
  · obtain ⟨h1, h2⟩ := dd_lt hm1 h0
    by_cases h3 : a + (sh m - 1) ≤ l.length
    · by_cases h4 : bv ((l.drop a).take (sh m - 1)) < dd m
      · have e : flOf l a m = some (bv ((l.drop a).take (sh m - 1)), a + (sh m - 1)) := by unfold flOf; rw [if_pos h0, if_pos h3, if_pos h4]
        rw [e]
        unfold M_golomb_fromLeast
        rw [shape_eq hm1 hm]
        simp only [Option.bind_some]
        rw [if_pos (by simp; omega), isub1_n h1 (by omega), read_pk (by omega) hl hlm ha (by omega), if_pos h3]
        simp only [Option.bind_some, Bool.not_true, Bool.false_eq_true, if_false]
        rw [if_pos (by simp; omega), iadd_n (by omega), isub1_n (by omega) (by omega), show a + sh m - 1 = a + (sh m - 1) from by omega]
      · have e : flOf l a m = flR l a m := by unfold flOf; rw [if_pos h0, if_pos h3, if_neg h4]
        have e2 : M_golomb_fromLeast F (l.length : Int) (pk l) (a : Int) (m : Int) = M_golomb_fromLeast_j1 F (l.length : Int) (pk l) (a : Int) ((sh m : Int), (dd m : Int)) := by
          unfold M_golomb_fromLeast
          rw [shape_eq hm1 hm]
          simp only [Option.bind_some]
          rw [if_pos (by simp; omega), isub1_n h1 (by omega), read_pk (by omega) hl hlm ha (by omega), if_pos h3]
          simp only [Option.bind_some, Bool.not_true, Bool.false_eq_true, if_false]
          rw [if_neg (by simp; omega)]
        rw [e, e2]
        exact hj1 (fun _ => h4)
    · have e : flOf l a m = none := by unfold flOf; rw [if_pos h0, if_neg h3]
      rw [e]
      unfold M_golomb_fromLeast
      rw [shape_eq hm1 hm]
      simp only [Option.bind_some]
      rw [if_pos (by simp; omega), isub1_n h1 (by omega), read_pk (by omega) hl hlm ha (by omega), if_neg h3]
      exact ⟨_, _, rfl⟩
  · have e : flOf l a m = flR l a m := by unfold flOf; rw [if_neg h0]
    have e2 : M_golomb_fromLeast F (l.length : Int) (pk l) (a : Int) (m : Int) = M_golomb_fromLeast_j1 F (l.length : Int) (pk l) (a : Int) ((sh m : Int), (dd m : Int)) := by
      unfold M_golomb_fromLeast
      rw [shape_eq hm1 hm]
      simp only [Option.bind_some]
      rw [if_neg (by simp; omega)]
    rw [e, e2]
    exact hj1 (fun h => absurd h h0)
theorem fl_le {n m : Nat} (hn : n < m) (p r : List Int) : flOf (p ++ le n m ++ r) p.length m = some (n, p.length + (le n m).length) := by
  have hd : (p ++ le n m ++ r).drop p.length = le n m ++ r := by rw [List.append_assoc, List.drop_left]
  have hll := le_len n m
  have hadd := dd_add (m := m) (by omega)
  have hL : (p ++ le n m ++ r).length = p.length + (le n m).length + r.length := by simp; omega
  unfold flOf flR
  rw [hd, hL, hll]
  by_cases h : n < dd m
  · obtain ⟨h1, h2⟩ := dd_lt (m := m) (by omega) (by omega)
    have e : bv ((le n m ++ r).take (sh m - 1)) = n := by
      unfold le
      rw [if_pos h, List.take_left' (nb_len _ _), bv_nb, Nat.mod_eq_of_lt (by omega)]
    rw [if_pos h, if_pos (by omega), if_pos (by omega), e, if_pos h]
  · have e : bv ((le n m ++ r).take (sh m)) = n + dd m := by
      unfold le
      rw [if_neg h, List.take_left' (nb_len _ _), bv_nb, Nat.mod_eq_of_lt (by omega)]
    rw [if_neg h]
    by_cases h0 : 0 < dd m
    · obtain ⟨h1, h2⟩ := dd_lt (m := m) (by omega) h0
      have e2 : bv ((le n m ++ r).take (sh m - 1)) = (n + dd m) / 2 := by
        unfold le
        rw [if_neg h]
        have hs : nb (n + dd m) (sh m) = nb ((n + dd m) / 2) (sh m - 1) ++ [((((n + dd m) % 2 : Nat)) : Int)] := by
          have := nb_snoc (n + dd m) (sh m - 1)
          rwa [show sh m - 1 + 1 = sh m from by omega] at this
        have h6 : 2 ^ sh m = 2 * 2 ^ (sh m - 1) := by rw [← Nat.pow_succ']; congr 1; omega
        rw [hs, List.append_assoc, List.take_left' (nb_len _ _), bv_nb, Nat.mod_eq_of_lt (by omega)]
      rw [if_pos h0, if_pos (by omega), e2, if_neg (by omega), if_pos (by omega), e, Nat.add_sub_cancel]
    · rw [if_neg h0, if_pos (by omega), e, Nat.add_sub_cancel]
theorem shl1_le {k m : Nat} (hk : k ≤ 63) (hm : 1 ≤ m) : decide (ishl .u64 1 (k : Int) < (m : Int)) = decide (k < sh m) := by
  rw [shl1_n hk]
  congr 1
  rw [eq_iff_iff]
  have := len_le (x := m - 1) (k := k)
  unfold sh
  omega
theorem leastList_l {F n m : Nat} (hF : 20000 ≤ F) (hm1 : 1 ≤ m) (hm : m ≤ 9223372036854775808) (hn : n < m) : ∀ (k i : Nat), sh m < k + i → i ≤ sh m →
    M_R_LeastList_l3 F (n : Int) (m : Int) k (i : Int) = some (le n m)
  | 0, _, _, _ => by omega
  | k + 1, i, h, hi => by
    show M_R_LeastList_b3 F (n : Int) (m : Int) (M_R_LeastList_l3 F (n : Int) (m : Int) k) (i : Int) = _
    unfold M_R_LeastList_b3
    have h63 := sh_63 hm
    have hadd := dd_add hm1
    have hp := pow64 h63
    have hc : decide ((0 : Int) ≤ (i : Int)) = true := decide_eq_true (by omega)
    rw [hc]
    simp only [chk, if_true]
    rw [shl1_le (by omega) hm1]
    by_cases hlt : i < sh m
    · rw [if_pos (by simpa using hlt), iadd1_n (by omega)]
      exact leastList_l hF hm1 hm hn k (i + 1) (by omega) (by omega)
    · rw [if_neg (by simpa using hlt)]
      obtain rfl : i = sh m := by omega
      unfold M_R_LeastList_j2 le
      rw [hc]
      simp only [chk, if_true]
      rw [shl1_n h63, usub_n (by omega) (by omega), show 2 ^ sh m - m = dd m from rfl]
      by_cases hd : n < dd m
      · obtain ⟨h1, h2⟩ := dd_lt (m := m) (by omega) (by omega)
        rw [if_pos (by simp; omega), if_pos hd, isub1_n h1 (by omega), numBits_eq (by omega) (by omega) (by omega)]
        rfl
      · rw [if_neg (by simp; omega), if_neg hd, uadd_n (by omega), numBits_eq (by omega) (by omega) (by omega)]
        rfl
theorem leastList_eq {F n m : Nat} (hF : 20000 ≤ F) (hm : m ≤ 9223372036854775808) (hn : n < m) : M_R_LeastList F (n : Int) (m : Int) = some (le n m) := by
  unfold M_R_LeastList
  have h63 := sh_63 hm
  exact leastList_l hF (by omega) hm hn F 0 (by omega) (by omega)
def lrI (p : Option (Nat × Nat)) : Int × Int := match p with | none => (0, -1) | some p => ((p.1 : Int), (p.2 : Int))
theorem leastRead_l {F a m : Nat} {l : List Int} (hl : Bit l) (hlm : l.length ≤ 8192) (hm1 : 1 ≤ m) (hm : m ≤ 9223372036854775808) : ∀ (k i : Nat), sh m < k + i → i ≤ sh m → a + i ≤ l.length →
    (i = sh m → 0 < dd m → ¬ bv ((l.drop a).take (sh m - 1)) < dd m) →
    M_R_LeastRead_l5 F l (a : Int) (m : Int) (sh m : Int) k (((bv ((l.drop a).take i) : Nat) : Int), (i : Int)) = some (lrI (flOf l a m))
  | 0, _, _, _, _, _ => by omega
  | k + 1, i, h, hi, hai, hge => by
    show M_R_LeastRead_b5 F l (a : Int) (m : Int) (sh m : Int) (M_R_LeastRead_l5 F l (a : Int) (m : Int) (sh m : Int) k) ((bv ((l.drop a).take i) : Nat) : Int) (i : Int) = _
    unfold M_R_LeastRead_b5
    have h63 := sh_63 hm
    have hadd := dd_add hm1
    have hp := pow64 h63
    have hb := bv_lt (bit_take (bit_drop hl a) i)
    rw [List.length_take, List.length_drop, Nat.min_eq_left (by omega)] at hb
    rw [if_pos (by simp; omega), shl1_n h63, usub_n (by omega) (by omega), show 2 ^ sh m - m = dd m from rfl, isub_i64 (by omega) (by omega)]
    by_cases h1 : i + 1 = sh m ∧ bv ((l.drop a).take i) < dd m
    · rw [if_pos (by simp; omega), iadd_n (by omega)]
      have e : sh m - 1 = i := by omega
      unfold flOf
      rw [if_pos (by omega), e, if_pos hai, if_pos h1.2]
      rfl
    · rw [if_neg (by simp; omega)]
      by_cases h2 : i = sh m
      · rw [if_pos (by simp; omega)]
        simp only [lett]
        have hdb : dd m ≤ bv ((l.drop a).take i) := by
          by_cases h0 : 0 < dd m
          · obtain ⟨h3, _⟩ := dd_lt hm1 h0
            obtain ⟨x, _, hx⟩ := take_snoc_bv hl (a := a) (s := i) (by omega) (by omega)
            have := hge h2 h0
            rw [← h2] at this
            omega
          · omega
        have hp2 : 2 ^ i = 2 ^ sh m := by rw [h2]
        rw [usub_n hdb (by omega), iadd_n (by omega)]
        unfold flOf flR
        rw [← h2, if_pos hai]
        by_cases h0 : 0 < dd m
        · have := hge h2 h0
          rw [← h2] at this
          rw [if_pos h0, if_pos (by omega), if_neg this]
          rfl
        · rw [if_neg h0]; rfl
      · rw [if_neg (by simp; omega), iadd_n (by omega)]
        by_cases h3 : l.length ≤ a + i
        · rw [if_pos (by simp; omega)]
          unfold flOf flR
          have hR : ¬ a + sh m ≤ l.length := by omega
          rw [if_neg hR]
          by_cases h0 : 0 < dd m
          · rw [if_pos h0]
            by_cases h4 : a + (sh m - 1) ≤ l.length
            · have e : sh m - 1 = i := by omega
              rw [if_pos h4, e, if_neg (by omega)]; rfl
            · rw [if_neg h4]; rfl
          · rw [if_neg h0]; rfl
        · rw [if_neg (by simp; omega), idx_nat]
          obtain ⟨x, hx, hx2⟩ := bit_n hl (i := a + i) (by omega)
          rw [hx]
          simp only [Option.bind_some, lett]
          have hpi : 2 ^ (i + 1) ≤ 2 ^ sh m := Nat.pow_le_pow_right (by decide) (by omega)
          rw [Nat.pow_succ] at hpi
          have ht : (l.drop a).take (i + 1) = (l.drop a).take i ++ [(x : Int)] := by
            rw [List.take_add_one, List.getElem?_drop, hx]; rfl
          have hbn : bv ((l.drop a).take (i + 1)) = 2 * bv ((l.drop a).take i) + x := by
            rw [ht, bv_app]; simp [bv]; omega
          have e2 : imul .u64 2 ((bv ((l.drop a).take i) : Nat) : Int) = ((2 * bv ((l.drop a).take i) : Nat) : Int) := by
            unfold imul; rw [wrap_u64 (by omega) (by omega)]; omega
          rw [e2, iconv_u64_n (by omega), uadd_n (by omega), ← hbn, iadd1_n (by omega)]
          refine leastRead_l hl hlm hm1 hm k (i + 1) (by omega) (by omega) (by omega) ?_
          intro h5 h6
          rw [← h5, Nat.add_sub_cancel]
          omega
theorem leastRead_eq {F a m : Nat} {l : List Int} (hF : 20000 ≤ F) (hl : Bit l) (hlm : l.length ≤ 8192) (ha : a ≤ l.length) (hm1 : 1 ≤ m) (hm : m ≤ 9223372036854775808) :
    M_R_LeastRead F l (a : Int) (m : Int) = some (lrI (flOf l a m)) := by
  unfold M_R_LeastRead
  have h63 := sh_63 hm
  have key : ∀ (k i : Nat), sh m < k + i → i ≤ sh m → M_R_LeastRead_l6 F l (a : Int) (m : Int) k (i : Int) = some (lrI (flOf l a m)) := by
    intro k
    induction k with
    | zero => intro i h1 h2; omega
    | succ k ih =>
      intro i h1 h2
      show M_R_LeastRead_b6 F l (a : Int) (m : Int) (M_R_LeastRead_l6 F l (a : Int) (m : Int) k) (i : Int) = _
      unfold M_R_LeastRead_b6
      have hc : decide ((0 : Int) ≤ (i : Int)) = true := decide_eq_true (by omega)
      rw [hc]
      simp only [chk, if_true]
      rw [shl1_le (by omega) hm1]
      by_cases hlt : i < sh m
      · rw [if_pos (by simpa using hlt), iadd1_n (by omega)]
        exact ih (i + 1) (by omega) (by omega)
      · rw [if_neg (by simpa using hlt)]
        obtain rfl : i = sh m := by omega
        unfold M_R_LeastRead_j2
        rw [hc]
        simp only [chk, if_true]
        have := leastRead_l (F := F) (a := a) hl hlm hm1 hm F 0 (by omega) (by omega) (by omega) (by
          intro h5 h6
          have := dd_lt hm1 h6
          omega)
        rw [List.take_zero] at this
        exact this
  exact key F 0 (by omega) (by omega)
def ok3 (l : List Int) : Int × List Int × Int := ((l.length : Int), pk l, 0)
theorem bit_nil : Bit [] := by intro x hx; simp at hx
theorem umul_n {a b : Nat} (h : a * b < 18446744073709551616) : imul .u64 (a : Int) (b : Int) = ((a * b : Nat) : Int) := by
  unfold imul
  rw [← Int.natCast_mul]
  generalize a * b = q at h
  exact wrap_u64 (by omega) (by omega)
/-- What is told of a number that is read. -/
def en (p : Option (Nat × Nat)) : Int × Int × Int := match p with
  | none => (0, 0, 7)
  | some p => if 1099511627776 < p.1 then (0, 0, 3) else ((p.1 : Int), (p.2 : Int), 0)
theorem ended_yes {F n q : Nat} : M_golomb_ended F (n : Int) (q : Int) true = some (en (some (n, q))) := by
  unfold M_golomb_ended en
  rw [if_neg (by simp)]
  by_cases h : 1099511627776 < n
  · simp only; rw [if_pos (by simp; omega), if_pos h]
  · simp only; rw [if_neg (by simp; omega), if_neg h]
def zh (n k : Nat) : Nat := lg n / k
def zf (n k : Nat) : Nat := 2 ^ (zh n k * k)
def zt (n k : Nat) : Nat := 2 ^ (zh n k * k + k)
def ze (n k : Nat) : List Int := un (zh n k) ++ le (n + 1 - zf n k) (zt n k - zf n k)
theorem ze_bit (n k : Nat) : Bit (ze n k) := bit_app (un_bit _) (le_bit _ _)
theorem zf_le (n k : Nat) : zf n k ≤ n + 1 := by
  have h : zh n k * k ≤ lg n := Nat.div_mul_le_self _ _
  exact Nat.le_trans (Nat.pow_le_pow_right (by decide) h) lg_le
theorem zt_gt {n k : Nat} (hk : 1 ≤ k) : n + 1 < zt n k := by
  have h : lg n + 1 ≤ zh n k * k + k := by
    have := Nat.lt_mul_div_succ (lg n) hk
    unfold zh
    rw [Nat.mul_add, Nat.mul_one, Nat.mul_comm] at this
    omega
  exact Nat.lt_of_lt_of_le lg_lt (Nat.pow_le_pow_right (by decide) h)
theorem zt_56 {n k : Nat} (hn : n ≤ 1099511627776) (hk2 : k ≤ 16) : zh n k * k ≤ 40 ∧ zt n k ≤ 72057594037927936 := by
  have h : zh n k * k ≤ lg n := Nat.div_mul_le_self _ _
  have h40 := lg_small hn
  refine ⟨by omega, ?_⟩
  have : zt n k ≤ 2 ^ 56 := Nat.pow_le_pow_right (by decide) (by omega)
  rwa [show (2 : Nat) ^ 56 = 72057594037927936 from by decide] at this
def Zk (k : Int) : Prop := 1 ≤ k ∧ k ≤ 16
instance zkDec (k : Int) : Decidable (Zk k) := inferInstanceAs (Decidable (_ ∧ _))
theorem zk_nat {k : Int} (h : Zk k) : ∃ j : Nat, k = j ∧ 1 ≤ j ∧ j ≤ 16 := by
  obtain ⟨j, rfl⟩ := Int.eq_ofNat_of_zero_le (show 0 ≤ k by have := h.1; omega)
  exact ⟨j, rfl, by have := h.1; omega, by have := h.2; omega⟩
theorem span_eq {F n k : Nat} (hn : n ≤ 1099511627776) (hk : 1 ≤ k) (hk2 : k ≤ 16) : M_golomb_span F (n : Int) (k : Int) = some ((zh n k : Int), (zf n k : Int), (zt n k : Int)) := by
  unfold M_golomb_span
  obtain ⟨h40, h56⟩ := zt_56 hn hk2
  have hlen : len (n + 1) = lg n + 1 := by have := len_pos (x := n + 1) (by omega); unfold lg; omega
  have hl40 := lg_small hn
  have hzl : zh n k ≤ lg n := Nat.div_le_self _ _
  have hc0 : ((k : Int) != 0) = true := by rw [bne_iff_ne]; omega
  rw [uadd1_n (by omega), len64_eq (by omega), hlen]
  simp only [Option.bind_some]
  rw [isub1_n (by omega) (by omega), Nat.add_sub_cancel]
  have e1 : iquo .i64 (lg n : Int) (k : Int) = ((zh n k : Nat) : Int) := by
    unfold iquo zh
    rw [Int.tdiv_eq_ediv_of_nonneg (by omega), ← Int.natCast_ediv]
    unfold zh at hzl
    generalize lg n / k = q at hzl
    exact wrap_i64 (by omega) (by omega)
  have e2 : imul .i64 ((zh n k : Nat) : Int) (k : Int) = ((zh n k * k : Nat) : Int) := by
    unfold imul
    rw [← Int.natCast_mul]
    generalize zh n k * k = q at h40
    exact wrap_i64 (by omega) (by omega)
  rw [e1, e2, iadd_n (by omega), hc0]
  have c1 : decide ((0 : Int) ≤ ((zh n k * k : Nat) : Int)) = true := decide_eq_true (Int.natCast_nonneg _)
  have c2 : decide ((0 : Int) ≤ ((zh n k * k + k : Nat) : Int)) = true := decide_eq_true (Int.natCast_nonneg _)
  rw [c1, c2]
  simp only [chk, if_true]
  rw [shl1_n (by omega), shl1_n (by omega)]
  rfl
def gz (n k : Int) : Int × List Int × Int := if Zk k ∧ n ≤ 1099511627776 then ok3 (ze n.toNat k.toNat) else (0, [], 3)
theorem gz_bad {n k : Int} (h : ¬ (Zk k ∧ n ≤ 1099511627776)) : gz n k = (0, [], 3) := by unfold gz; rw [if_neg h]
theorem gz_form {n k : Nat} (h : Zk k) (h2 : n ≤ 1099511627776) : gz n k = ok3 (ze n k) := by unfold gz; rw [if_pos ⟨h, by omega⟩, Int.toNat_natCast, Int.toNat_natCast]
theorem zeta_eq {F : Nat} (hF : 20000 ≤ F) {n k : Int} (hn : U64 n) : M_golomb_Zeta F n k = some (gz n k) := by
  unfold M_golomb_Zeta
  by_cases h : Zk k ∧ n ≤ 1099511627776
  · obtain ⟨n, rfl⟩ := Int.eq_ofNat_of_zero_le hn.1
    obtain ⟨k, rfl, h1, h2⟩ := zk_nat h.1
    have hn2 : n ≤ 1099511627776 := by have := h.2; omega
    have hl40 := lg_small hn2
    have hzl : zh n k ≤ lg n := Nat.div_le_self _ _
    have a1 := zf_le n k
    have a2 := zt_gt (n := n) h1
    have a3 := (zt_56 hn2 h2).2
    rw [if_neg (by simp; omega), span_eq hn2 h1 h2, gz_form h.1 hn2]
    simp only [Option.bind_some]
    rw [iconv_u64_n (by omega), raw_eq hF (by omega), uadd1_n (by omega), usub_n a1 (by omega), usub_n (by omega) (by omega)]
    simp only [Option.bind_some]
    rw [addLeast_eq hF (un_bit _) (by rw [un_len]; omega) (by omega) (by omega)]
    rfl
  · rw [if_pos (by unfold Zk at h; simp; omega), gz_bad h]
def zq (k : Nat) (l : List Int) (i : Nat) : Int × Int × Int := match fz (l.drop i) with
  | none => (0, 0, 7)
  | some h => if 41 ≤ h * k then (0, 0, 3) else en ((flOf l (i + h + 1) (2 ^ (h * k + k) - 2 ^ (h * k))).map fun p => (2 ^ (h * k) + p.1 - 1, p.2))
theorem pow_gap {a k : Nat} (hk : 1 ≤ k) : 2 * 2 ^ a ≤ 2 ^ (a + k) := by
  rw [← Nat.pow_succ']; exact Nat.pow_le_pow_right (by decide) (by omega)
theorem pow_56 {a : Nat} (h : a ≤ 56) : 2 ^ a ≤ 72057594037927936 := by
  have : 2 ^ a ≤ 2 ^ 56 := Nat.pow_le_pow_right (by decide) h
  rwa [show (2 : Nat) ^ 56 = 72057594037927936 from by decide] at this
theorem fromZeta_eq {F i k : Nat} {l : List Int} (hF : 20000 ≤ F) (hl : Bit l) (hlm : l.length ≤ 8192) (hi : i ≤ l.length) (h1 : 1 ≤ k) (h2 : k ≤ 16) : M_golomb_FromZeta F (l.length : Int) (pk l) (i : Int) (k : Int) = some (zq k l i) := by
  unfold M_golomb_FromZeta
  rw [from_eq hF hl hlm hi]
  unfold zq
  cases hz : fz (l.drop i) with
  | none => rfl
  | some h =>
    have hq := fz_lt hz
    rw [List.length_drop] at hq
    have hmul : h * k ≤ 8192 * 16 := Nat.mul_le_mul (by omega) h2
    simp only [Option.bind_some, Bool.not_true, Bool.false_eq_true, if_false]
    rw [iconv_u64_n (by omega), umul_n (by omega), iconv_i64_n (by omega)]
    by_cases h3 : 41 ≤ h * k
    · rw [if_pos (by simp only [decide_eq_true_eq]; omega), if_pos h3]
    · rw [if_neg (by simp only [decide_eq_true_eq]; omega), if_neg h3]
      have e2 : imul .i64 (h : Int) (k : Int) = ((h * k : Nat) : Int) := by
        unfold imul
        rw [← Int.natCast_mul]
        generalize h * k = q at hmul
        exact wrap_i64 (by omega) (by omega)
      have c1 : decide ((0 : Int) ≤ ((h * k : Nat) : Int)) = true := decide_eq_true (Int.natCast_nonneg _)
      have c2 : decide ((0 : Int) ≤ (k : Int)) = true := decide_eq_true (by omega)
      rw [e2, c1, c2]
      simp only [chk, if_true, lett]
      have p1 := pow_56 (a := h * k) (by omega)
      have p2 := pow_56 (a := h * k + k) (by omega)
      have p3 := pow_gap (a := h * k) h1
      have p0 : 0 < 2 ^ (h * k) := Nat.pow_pos (by decide)
      rw [shl1_n (by omega), ishl_n (by omega), ← Nat.pow_add, Nat.mod_eq_of_lt (by omega), usub_n (by omega) (by omega)]
      have := fromLeast_eq (a := i + h + 1) (m := 2 ^ (h * k + k) - 2 ^ (h * k)) hF hl hlm (by omega) (by omega) (by omega)
      cases hf : flOf l (i + h + 1) (2 ^ (h * k + k) - 2 ^ (h * k)) with
      | none =>
        rw [hf] at this
        obtain ⟨x, y, e⟩ := this
        rw [e]; rfl
      | some p =>
        rw [hf] at this
        simp only at this
        have hp := fl_lt hl (n := p.1) (q := p.2) (by omega) hf
        rw [this]
        simp only [Option.bind_some]
        rw [uadd_n (by omega), usub1_n (by omega) (by omega), ended_yes]
        rfl
theorem lrI_yes (p : Nat × Nat) : lrI (some p) = ((p.1 : Int), (p.2 : Int)) := rfl
theorem zetaSpan_l {F n k : Nat} (hn : n ≤ 1099511627776) (h1 : 1 ≤ k) (h2 : k ≤ 16) : ∀ (j h : Nat), zh n k < j + h → h ≤ zh n k →
    M_R_zetaSpan_l3 F (n : Int) (k : Int) j ((h : Int), ((2 ^ (h * k) : Nat) : Int)) = some ((zh n k : Int), (zf n k : Int), (zt n k : Int))
  | 0, _, _, _ => by omega
  | j + 1, h, hh, hi => by
    show M_R_zetaSpan_b3 F (n : Int) (k : Int) (M_R_zetaSpan_l3 F (n : Int) (k : Int) j) (h : Int) ((2 ^ (h * k) : Nat) : Int) = _
    unfold M_R_zetaSpan_b3
    obtain ⟨h40, h56⟩ := zt_56 hn h2
    have hhk : h * k ≤ zh n k * k := Nat.mul_le_mul_right k hi
    have c2 : decide ((0 : Int) ≤ (k : Int)) = true := decide_eq_true (by omega)
    have p1 := pow_56 (a := h * k + k) (by omega)
    rw [c2]
    simp only [chk, if_true]
    rw [ishl_n (by omega), ← Nat.pow_add, Nat.mod_eq_of_lt (by omega), uadd1_n (by omega)]
    have hle := lg_le (n := n)
    have hlt := lg_lt (n := n)
    by_cases h3 : h < zh n k
    · have h4 : h * k + k ≤ zh n k * k := by rw [← Nat.succ_mul]; exact Nat.mul_le_mul_right k h3
      have h5 := zf_le n k
      have h6 : 2 ^ (h * k + k) ≤ zf n k := Nat.pow_le_pow_right (by decide) h4
      rw [if_pos (by simp only [decide_eq_true_eq]; omega), uadd1_n (by have := lg_small hn; have : zh n k ≤ lg n := Nat.div_le_self _ _; omega)]
      have e : h * k + k = (h + 1) * k := by rw [Nat.succ_mul]
      rw [e]
      exact zetaSpan_l hn h1 h2 j (h + 1) (by omega) (by omega)
    · obtain rfl : h = zh n k := by omega
      have h5 := zt_gt (n := n) h1
      unfold zt at h5
      rw [if_neg (by simp only [decide_eq_true_eq]; omega)]
      unfold M_R_zetaSpan_j2
      rw [c2]
      simp only [chk, if_true]
      rw [ishl_n (by omega), ← Nat.pow_add, Nat.mod_eq_of_lt (by omega)]
      rfl
theorem zetaList_eq {F n k : Nat} (hF : 20000 ≤ F) (hn : n ≤ 1099511627776) (h1 : 1 ≤ k) (h2 : k ≤ 16) : M_R_ZetaList F (n : Int) (k : Int) = some (ze n k) := by
  unfold M_R_ZetaList M_R_zetaSpan
  have hl40 := lg_small hn
  have hzl : zh n k ≤ lg n := Nat.div_le_self _ _
  have a1 := zf_le n k
  have a2 := zt_gt (n := n) h1
  have a3 := (zt_56 hn h2).2
  have a4 := sh_63 (m := zt n k - zf n k) (by omega)
  have := zetaSpan_l (F := F) hn h1 h2 F 0 (by omega) (by omega)
  rw [Nat.zero_mul, Nat.pow_zero] at this
  rw [show (((0 : Nat) : Int), ((1 : Nat) : Int)) = ((0 : Int), (1 : Int)) from rfl] at this
  rw [this]
  simp only [Option.bind_some]
  rw [unaryList_eq (by omega) (by omega)]
  simp only [Option.bind_some]
  rw [uadd1_n (by omega), usub_n a1 (by omega), usub_n (by omega) (by omega), leastList_eq hF (by omega) (by omega)]
  simp only [Option.bind_some]
  have hll := le_len (n + 1 - zf n k) (zt n k - zf n k)
  rw [app_eq (by rw [un_len]; split at hll <;> omega)]
  rfl
theorem zetaRead_l {F k q h : Nat} {l : List Int} {x : Int × Int} (hx : x.1 = (h : Int)) (hx2 : x.2 = (q : Int)) (hF : 20000 ≤ F) (hl : Bit l) (hlm : l.length ≤ 8192) (hq : q ≤ l.length) (h1 : 1 ≤ k) (h2 : k ≤ 16) (h41 : h * k ≤ 40) : ∀ (j i : Nat), h < j + i → i ≤ h →
    M_R_ZetaRead_l3 F l (k : Int) x j (((2 ^ (i * k) : Nat) : Int), (i : Int)) = some (en ((flOf l q (2 ^ (h * k + k) - 2 ^ (h * k))).map fun p => (2 ^ (h * k) + p.1 - 1, p.2)))
  | 0, _, _, _ => by omega
  | j + 1, i, hh, hi => by
    show M_R_ZetaRead_b3 F l (k : Int) x (M_R_ZetaRead_l3 F l (k : Int) x j) ((2 ^ (i * k) : Nat) : Int) (i : Int) = _
    unfold M_R_ZetaRead_b3
    have c2 : decide ((0 : Int) ≤ (k : Int)) = true := decide_eq_true (by omega)
    have hik : i * k ≤ h * k := Nat.mul_le_mul_right k hi
    have hhk : h ≤ h * k := Nat.le_mul_of_pos_right h (by omega)
    have p1 := pow_56 (a := i * k + k) (by omega)
    rw [hx]
    by_cases h3 : i < h
    · rw [if_pos (by simp; omega), c2]
      simp only [chk, if_true]
      rw [ishl_n (by omega), ← Nat.pow_add, Nat.mod_eq_of_lt (by omega), uadd1_n (by omega)]
      have e : i * k + k = (i + 1) * k := by rw [Nat.succ_mul]
      rw [e]
      exact zetaRead_l hx hx2 hF hl hlm hq h1 h2 h41 j (i + 1) (by omega) (by omega)
    · obtain rfl : i = h := by omega
      rw [if_neg (by simp)]
      unfold M_R_ZetaRead_j2
      have p3 := pow_gap (a := i * k) h1
      have p0 : 0 < 2 ^ (i * k) := Nat.pow_pos (by decide)
      rw [c2, hx2]
      simp only [chk, if_true]
      rw [ishl_n (by omega), ← Nat.pow_add, Nat.mod_eq_of_lt (by omega), usub_n (by omega) (by omega), leastRead_eq hF hl hlm hq (by omega) (by omega)]
      simp only [Option.bind_some]
      cases hf : flOf l q (2 ^ (i * k + k) - 2 ^ (i * k)) with
      | none => rfl
      | some p =>
        have hp := fl_lt hl (n := p.1) (q := p.2) (by omega) hf
        rw [lrI_yes]
        simp only
        rw [if_neg (by simp), uadd_n (by omega), usub1_n (by omega) (by omega)]
        simp only [Option.map_some, en]
        by_cases h4 : 1099511627776 < 2 ^ (i * k) + p.1 - 1
        · rw [if_pos (by simp only [decide_eq_true_eq]; omega), if_pos h4]
        · rw [if_neg (by simp only [decide_eq_true_eq]; omega), if_neg h4]
theorem zetaRead_eq {F i k : Nat} {l : List Int} (hF : 20000 ≤ F) (hl : Bit l) (hlm : l.length ≤ 8192) (hi : i ≤ l.length) (h1 : 1 ≤ k) (h2 : k ≤ 16) : M_R_ZetaRead F l (i : Int) (k : Int) = some (zq k l i) := by
  unfold M_R_ZetaRead zq
  rw [unaryRead_eq (by omega) hF hi]
  simp only [Option.bind_some]
  cases hz : fz (l.drop i) with
  | none => rfl
  | some h =>
    have hq := fz_lt hz
    rw [List.length_drop] at hq
    simp only
    have hmul : h * k ≤ 8192 * 16 := Nat.mul_le_mul (by omega) h2
    have hhk : h ≤ h * k := Nat.le_mul_of_pos_right h (by omega)
    have e2 : imul .i64 (h : Int) (k : Int) = ((h * k : Nat) : Int) := by
      unfold imul
      rw [← Int.natCast_mul]
      generalize h * k = q at hmul
      exact wrap_i64 (by omega) (by omega)
    rw [if_neg (by simp; omega), iconv_i64_n (by omega), e2]
    by_cases h3 : 41 ≤ h * k
    · rw [if_pos (by simp only [Bool.or_eq_true, decide_eq_true_eq]; omega), if_pos h3]
    · rw [if_neg (by simp only [Bool.or_eq_true, decide_eq_true_eq]; omega), if_neg h3]
      have := zetaRead_l (F := F) (x := ((h : Int), ((i + h + 1 : Nat) : Int))) rfl rfl hF hl hlm (by omega) h1 h2 (by omega) F 0 (by omega) (by omega)
      rw [Nat.zero_mul, Nat.pow_zero] at this
      exact this
theorem le_len64 {n m : Nat} (hm : m ≤ 9223372036854775808) : (le n m).length ≤ 63 := by
  have := le_len n m; have := sh_63 hm; split at * <;> omega
theorem ze_len {n k : Nat} (hn : n ≤ 1099511627776) (hk2 : k ≤ 16) : (ze n k).length ≤ 200 := by
  have hzl : zh n k ≤ lg n := Nat.div_le_self _ _
  have hl40 := lg_small (n := n) (by omega)
  have a3 := (zt_56 (n := n) (by omega) hk2).2
  have hle := le_len64 (n := n + 1 - zf n k) (m := zt n k - zf n k) (by omega)
  unfold ze; rw [List.length_append, un_len]; omega
def foldOf (x : Int) : Int := if x < 0 then 2 * (-(x + 1)) + 1 else 2 * x
theorem wrap_u64_neg {x : Int} (h1 : -9223372036854775808 ≤ x) (h2 : x < 0) : IntKind.wrap .u64 x = x + 18446744073709551616 := by
  rw [wrap_u64_mod]; omega
theorem xor_ones (n : Nat) (h : n < 18446744073709551616) : ixor .u64 (n : Int) 18446744073709551615 = 18446744073709551615 - (n : Int) := by
  unfold ixor
  have h1 : (BitVec.ofInt (IntKind.bits .u64) (n : Int)) = BitVec.ofNat 64 n := by simp [IntKind.bits]
  have h2 : (BitVec.ofInt (IntKind.bits .u64) (18446744073709551615 : Int)) = BitVec.allOnes 64 := by show BitVec.ofInt 64 _ = _; decide
  rw [h1, h2]
  have h3 : (BitVec.ofNat 64 n ^^^ BitVec.allOnes 64) = ~~~ (BitVec.ofNat 64 n) := BitVec.xor_allOnes
  have h4 : (BitVec.ofNat 64 n ^^^ BitVec.allOnes 64).toNat = 18446744073709551615 - n := by
    rw [h3, BitVec.toNat_not, BitVec.toNat_ofNat]
    omega
  show IntKind.wrap .u64 ((BitVec.ofNat 64 n ^^^ BitVec.allOnes 64).toNat : Int) = _
  rw [h4, wrap_u64 (by omega) (by omega)]
  omega
theorem xor_zero_u (n : Nat) (h : n < 18446744073709551616) : ixor .u64 (n : Int) 0 = (n : Int) := by
  unfold ixor
  have h1 : (BitVec.ofInt (IntKind.bits .u64) (n : Int)) = BitVec.ofNat 64 n := by simp [IntKind.bits]
  have h2 : (BitVec.ofInt (IntKind.bits .u64) (0 : Int)) = 0#64 := by show BitVec.ofInt 64 _ = _; decide
  rw [h1, h2]
  show IntKind.wrap .u64 ((BitVec.ofNat 64 n ^^^ 0#64).toNat : Int) = _
  rw [BitVec.xor_zero, BitVec.toNat_ofNat, Nat.mod_eq_of_lt (by omega), wrap_u64 (by omega) (by omega)]
theorem xor_ones_i (n : Nat) (h : n < 9223372036854775808) : ixor .i64 (n : Int) (-1) = -(n : Int) - 1 := by
  unfold ixor
  have h1 : (BitVec.ofInt (IntKind.bits .i64) (n : Int)) = BitVec.ofNat 64 n := by simp [IntKind.bits]
  have h2 : (BitVec.ofInt (IntKind.bits .i64) (-1 : Int)) = BitVec.allOnes 64 := by show BitVec.ofInt 64 _ = _; decide
  rw [h1, h2]
  have h3 : (BitVec.ofNat 64 n ^^^ BitVec.allOnes 64) = ~~~ (BitVec.ofNat 64 n) := BitVec.xor_allOnes
  have h4 : (BitVec.ofNat 64 n ^^^ BitVec.allOnes 64).toNat = 18446744073709551615 - n := by
    rw [h3, BitVec.toNat_not, BitVec.toNat_ofNat]
    omega
  show IntKind.wrap .i64 ((BitVec.ofNat 64 n ^^^ BitVec.allOnes 64).toNat : Int) = _
  rw [h4]
  unfold IntKind.wrap
  simp only [IntKind.bits, IntKind.signed, show (2 ^ 64 : Int) = 18446744073709551616 from by decide, show (2 ^ (64 - 1) : Int) = 9223372036854775808 from by decide]
  rw [if_pos (by simp; omega)]
  omega
theorem xor_zero_i (n : Nat) (h : n < 9223372036854775808) : ixor .i64 (n : Int) 0 = (n : Int) := by
  unfold ixor
  have h1 : (BitVec.ofInt (IntKind.bits .i64) (n : Int)) = BitVec.ofNat 64 n := by simp [IntKind.bits]
  have h2 : (BitVec.ofInt (IntKind.bits .i64) (0 : Int)) = 0#64 := by show BitVec.ofInt 64 _ = _; decide
  rw [h1, h2]
  show IntKind.wrap .i64 ((BitVec.ofNat 64 n ^^^ 0#64).toNat : Int) = _
  rw [BitVec.xor_zero, BitVec.toNat_ofNat, Nat.mod_eq_of_lt (by omega), wrap_i64 (by omega) (by omega)]
theorem fold_eq (F : Nat) {x : Int} (h1 : -9223372036854775808 ≤ x) (h2 : x < 9223372036854775808) : M_varint_Fold F x = some (foldOf x) := by
  unfold M_varint_Fold lett foldOf
  have hs : ishr .i64 x 63 = x / 9223372036854775808 := by
    have := ishr_eq (k := .i64) (a := x) (m := 63) (by decide)
    rw [show ((63 : Nat) : Int) = 63 from rfl, show (2 : Int) ^ 63 = 9223372036854775808 from by decide] at this
    exact this
  have hl : ∀ y : Int, ishl .u64 y 1 = (y * 2) % 18446744073709551616 := fun y => ishl_u64 (a := y) (m := 1) (by decide)
  rw [hs, hl]
  by_cases hx : x < 0
  · rw [if_pos hx, show x / 9223372036854775808 = -1 from by omega]
    have e1 : iconv .u64 x = x + 18446744073709551616 := wrap_u64_neg h1 hx
    have e2 : iconv .u64 (-1) = 18446744073709551615 := by decide
    rw [e1, e2, show (x + 18446744073709551616) * 2 % 18446744073709551616 = (((2 * x + 18446744073709551616).toNat : Nat) : Int) from by omega, xor_ones _ (by omega)]
    congr 1
    omega
  · rw [if_neg hx, show x / 9223372036854775808 = 0 from by omega]
    have e1 : iconv .u64 x = x := wrap_u64 (by omega) (by omega)
    have e2 : iconv .u64 0 = 0 := by decide
    rw [e1, e2, show x * 2 % 18446744073709551616 = ((2 * x).toNat : Int) from by omega, xor_zero_u _ (by omega)]
    congr 1
    omega
theorem foldOf_eq (F : Nat) {x : Int} (h1 : -9223372036854775808 ≤ x) (h2 : x < 9223372036854775808) : M_R_FoldOf F x = some (foldOf x) := by
  unfold M_R_FoldOf lett foldOf
  by_cases hx : x < 0
  · simp only [hx, decide_true, if_true]
    have e1 : iadd .i64 x 1 = x + 1 := iadd_i64 (by omega) (by omega)
    have e2 : isub .i64 0 (x + 1) = -(x + 1) := by rw [isub_i64 (by omega) (by omega)]; omega
    have e3 : iconv .u64 (-(x + 1)) = -(x + 1) := wrap_u64 (by omega) (by omega)
    rw [e1, e2, e3]
    unfold imul iadd
    rw [wrap_u64 (n := 2 * -(x + 1)) (by omega) (by omega), wrap_u64 (by omega) (by omega)]
  · simp only [hx, decide_false, Bool.false_eq_true, if_false]
    have e3 : iconv .u64 x = x := wrap_u64 (by omega) (by omega)
    rw [e3]
    unfold imul
    rw [wrap_u64 (by omega) (by omega)]
def unfoldOf (n : Int) : Int := if n % 2 = 0 then n / 2 else -(n / 2) - 1
theorem unfold_eq (F : Nat) {n : Int} (h1 : 0 ≤ n) (h2 : n < 18446744073709551616) : M_varint_Unfold F n = some (unfoldOf n) := by
  unfold M_varint_Unfold lett unfoldOf
  have hs : ishr .u64 n 1 = n / 2 := by
    have := ishr_eq (k := .u64) (a := n) (m := 1) (by decide)
    simpa using this
  have ha : iand .u64 n 1 = n % 2 := by
    have := iand_mask (k := .u64) (a := n) (m := 1) h1 (by simpa [IntKind.bits] using h2) (by decide) rfl
    simpa using this
  have e1 : iconv .i64 (n / 2) = n / 2 := wrap_i64 (by omega) (by omega)
  have e2 : iconv .i64 (n % 2) = n % 2 := wrap_i64 (by omega) (by omega)
  rw [hs, ha, e1, e2]
  by_cases h : n % 2 = 0
  · rw [if_pos h, h, show isub .i64 0 0 = 0 from by decide, show n / 2 = ((n / 2).toNat : Int) from by omega, xor_zero_i _ (by omega)]
  · rw [if_neg h, show n % 2 = 1 from by omega, show isub .i64 0 1 = -1 from by decide, show n / 2 = ((n / 2).toNat : Int) from by omega, xor_ones_i _ (by omega)]
theorem unfold_fold (x : Int) : unfoldOf (foldOf x) = x := by
  unfold unfoldOf foldOf
  split <;> split <;> omega
theorem fold_unfold {n : Int} (h : 0 ≤ n) : foldOf (unfoldOf n) = n := by
  unfold unfoldOf foldOf
  split <;> split <;> omega
theorem node_eq {F : Nat} {x : Int} : M_gaps_node F x = some (decide (0 ≤ x ∧ x ≤ 1048576)) := by
  unfold M_gaps_node
  congr 1
  by_cases h : 0 ≤ x <;> by_cases h2 : x ≤ 1048576 <;> simp [h, h2]
/-- What is wrong with numbers that must rise, behind a last one. -/
def gk : Int → List Int → Int
  | _, [] => 0
  | last, n :: l => if 0 ≤ n ∧ n ≤ 1048576 then (if n ≤ last then 4 else gk n l) else 3
def gkc (l : List Int) : Int := if 300 < l.length then 2 else gk (-1) l
theorem gcheck_l {F : Nat} {l : List Int} (hm : l.length ≤ 300) : ∀ (k i : Nat) (last : Int), l.length < k + i → i ≤ l.length →
    M_gaps_Check_l3 F l k (last, (i : Int)) = some (gk last (l.drop i))
  | 0, _, _, _, _ => by omega
  | k + 1, i, last, h, hi => by
    show M_gaps_Check_b3 F l (M_gaps_Check_l3 F l k) last (i : Int) = _
    unfold M_gaps_Check_b3
    by_cases hlt : i < l.length
    · rw [if_pos (by simp; omega), idx_nat, List.getElem?_eq_getElem hlt, List.drop_eq_getElem_cons hlt, gk]
      simp only [Option.bind_some]
      rw [node_eq]
      simp only [Option.bind_some]
      by_cases h1 : 0 ≤ l[i] ∧ l[i] ≤ 1048576
      · rw [decide_eq_true h1, if_pos h1, if_neg (by simp)]
        by_cases h2 : l[i] ≤ last
        · rw [if_pos h2, if_pos (by simpa using h2)]
        · rw [if_neg h2, if_neg (by simpa using h2), iadd1_n (by omega)]
          exact gcheck_l hm k (i + 1) _ (by omega) (by omega)
      · rw [decide_eq_false h1, if_neg h1, if_pos (by simp)]
    · rw [if_neg (by simp; omega), List.drop_eq_nil_of_le (by omega)]
      rfl
theorem gCheck_eq {F : Nat} (hF : 20000 ≤ F) {l : List Int} : M_gaps_Check F l = some (gkc l) := by
  unfold M_gaps_Check gkc
  by_cases h : 300 < l.length
  · rw [if_pos (by simp; omega), if_pos h]
  · rw [if_neg (by simp; omega), if_neg h]
    exact gcheck_l (by omega) F 0 (-1) (by omega) (by omega)
theorem rising_l {F : Nat} {l : List Int} (hm : l.length ≤ 300) : ∀ (k i : Nat) (last : Int), l.length < k + i → i ≤ l.length → (i = 0 ∧ last = -1 ∨ 0 < i ∧ l[i - 1]? = some last) →
    M_R_RisingCheck_l13 F l k (i : Int) = some (gk last (l.drop i))
  | 0, _, _, _, _, _ => by omega
  | k + 1, i, last, h, hi, hlast => by
    show M_R_RisingCheck_b13 F l (M_R_RisingCheck_l13 F l k) (i : Int) = _
    unfold M_R_RisingCheck_b13
    by_cases hlt : i < l.length
    · rw [if_pos (by simp; omega), idx_nat, List.getElem?_eq_getElem hlt, List.drop_eq_getElem_cons hlt, gk]
      simp only [Option.bind_some]
      rw [between_eq]
      simp only [Option.bind_some]
      by_cases h1 : 0 ≤ l[i] ∧ l[i] ≤ 1048576
      · rw [decide_eq_true h1, if_pos h1, if_neg (by simp)]
        have hrec : M_R_RisingCheck_l13 F l k ((i + 1 : Nat) : Int) = some (gk l[i] (l.drop (i + 1))) :=
          rising_l hm k (i + 1) _ (by omega) (by omega) (.inr ⟨by omega, by rw [Nat.add_sub_cancel, List.getElem?_eq_getElem hlt]⟩)
        rcases hlast with ⟨rfl, rfl⟩ | ⟨h0, hl⟩
        · rw [if_neg (by simp)]
          unfold M_R_RisingCheck_j15
          rw [if_neg (by simp), if_neg (show ¬ l[0] ≤ -1 by omega), iadd1_n (by omega)]
          exact hrec
        · rw [if_pos (by simp; omega), isub1_n (by omega) (by omega), idx_nat, hl]
          simp only [Option.bind_some, M_R_RisingCheck_j15]
          by_cases h2 : l[i] ≤ last
          · rw [if_pos h2, if_pos (by simpa using h2)]
          · rw [if_neg h2, if_neg (by simpa using h2), iadd1_n (by omega)]
            exact hrec
      · rw [decide_eq_false h1, if_neg h1, if_pos (by simp)]
    · rw [if_neg (by simp; omega), List.drop_eq_nil_of_le (by omega)]
      rfl
theorem rising_eq {F : Nat} (hF : 20000 ≤ F) {l : List Int} : M_R_RisingCheck F l = some (gkc l) := by
  unfold M_R_RisingCheck gkc
  by_cases h : 300 < l.length
  · rw [if_pos (by simp; omega), if_pos h]
  · rw [if_neg (by simp; omega), if_neg h]
    exact rising_l (by omega) F 0 (-1) (by omega) (by omega) (.inl ⟨rfl, rfl⟩)
/-- Numbers that rise behind a last one. -/
def Ris : Int → List Int → Prop
  | _, [] => True
  | last, n :: l => (0 ≤ n ∧ n ≤ 1048576) ∧ last < n ∧ Ris n l
theorem gk_ris : ∀ {last : Int} {l : List Int}, gk last l = 0 ↔ Ris last l
  | _, [] => by simp [gk, Ris]
  | last, n :: l => by
    unfold gk Ris
    by_cases h1 : 0 ≤ n ∧ n ≤ 1048576
    · rw [if_pos h1]
      by_cases h2 : n ≤ last
      · rw [if_pos h2]; simp; omega
      · rw [if_neg h2, gk_ris]; simp [h1]; omega
    · rw [if_neg h1]; simp; omega
theorem gkc_ris {l : List Int} : gkc l = 0 ↔ (l.length ≤ 300 ∧ Ris (-1) l) := by
  unfold gkc
  by_cases h : 300 < l.length
  · rw [if_pos h]; simp; omega
  · rw [if_neg h, gk_ris]; simp; omega
def Nd (x : Int) : Prop := 0 ≤ x ∧ x ≤ 1048576
instance ndDec (x : Int) : Decidable (Nd x) := inferInstanceAs (Decidable (_ ∧ _))
/-- The gaps of numbers. -/
def gp : Bool → Int → List Int → List Int
  | _, _, [] => []
  | b, a, n :: l => (if b then n - a - 1 else foldOf (n - a)) :: gp true n l
theorem gp_len : ∀ (b : Bool) (a : Int) (l : List Int), (gp b a l).length = l.length
  | _, _, [] => rfl
  | b, a, n :: l => by rw [gp, List.length_cons, List.length_cons, gp_len]
theorem gap_eq {F : Nat} {a n : Int} {b : Bool} (ha : Nd a) (hn : Nd n) (hb : b = true → a < n) : M_gaps_walker_gap F a b n = some (if b then n - a - 1 else foldOf (n - a), n, true) := by
  unfold M_gaps_walker_gap
  have h1 := ha.1; have h2 := ha.2; have h3 := hn.1; have h4 := hn.2
  cases b with
  | true =>
    have := hb rfl
    rw [if_pos rfl, if_pos rfl, isub_i64 (a := n) (b := a) (by omega) (by omega), isub_i64 (a := n - a) (by omega) (by omega)]
    have e : iconv .u64 (n - a - 1) = n - a - 1 := wrap_u64 (by omega) (by omega)
    rw [e]; rfl
  | false =>
    rw [if_neg (by simp), if_neg (by simp), isub_i64 (by omega) (by omega), fold_eq F (by omega) (by omega)]
    rfl
theorem graw_l {F : Nat} {l : List Int} (hm : l.length ≤ 300) : ∀ (k i : Nat) (a : Int) (b : Bool) (o : List Int), l.length < k + i → i ≤ l.length → Nd a → (b = true → Ris a (l.drop i)) → (b = false → ∃ q, Ris q (l.drop i)) → o.length + (l.length - i) ≤ 1000 →
    M_gaps_Raw_l3 F l k (o, (i : Int), a, b) = some (o ++ gp b a (l.drop i))
  | 0, _, _, _, _, _, _, _, _, _, _ => by omega
  | k + 1, i, a, b, o, h, hi, ha, hb, hb2, ho => by
    show M_gaps_Raw_b3 F l (M_gaps_Raw_l3 F l k) o (i : Int) a b = _
    unfold M_gaps_Raw_b3
    by_cases hlt : i < l.length
    · rw [List.drop_eq_getElem_cons hlt] at hb hb2 ⊢
      have hx : Nd l[i] ∧ Ris l[i] (l.drop (i + 1)) := by
        cases b with
        | true => have := hb rfl; exact ⟨this.1, this.2.2⟩
        | false => obtain ⟨q, hq⟩ := hb2 rfl; exact ⟨hq.1, hq.2.2⟩
      rw [if_pos (by simp; omega), idx_nat, List.getElem?_eq_getElem hlt]
      simp only [Option.bind_some]
      rw [gap_eq ha hx.1 (fun h => (hb h).2.1)]
      simp only [Option.bind_some]
      rw [app_eq (by simp; omega), iadd1_n (by omega)]
      simp only [Option.bind_some]
      rw [graw_l hm k (i + 1) _ _ _ (by omega) (by omega) hx.1 (fun _ => hx.2) (fun h => by cases h) (by simp; omega)]
      rw [gp]
      simp
    · rw [if_neg (by simp; omega), List.drop_eq_nil_of_le (by omega)]
      simp [M_gaps_Raw_j2, gp]
theorem graw_eq {F : Nat} (hF : 20000 ≤ F) {l : List Int} {a q : Int} (hm : l.length ≤ 300) (ha : Nd a) (hr : Ris q l) : M_gaps_Raw F l a = some (gp false a l) := by
  unfold M_gaps_Raw
  have := graw_l (F := F) hm F 0 a false [] (by omega) (by omega) ha (fun h => by cases h) (fun _ => ⟨q, by rw [List.drop_zero]; exact hr⟩) (by simp; omega)
  rw [List.drop_zero, List.nil_append] at this
  exact this
def ggOf (l : List Int) (a : Int) : Int := if gkc l ≠ 0 then gkc l else if Nd a then 0 else 3
def gg (l : List Int) (a : Int) : List Int × Int := if ggOf l a ≠ 0 then ([], ggOf l a) else (gp false a l, 0)
theorem ggOf_ok {l : List Int} {a : Int} : ggOf l a = 0 ↔ (l.length ≤ 300 ∧ Ris (-1) l ∧ Nd a) := by
  unfold ggOf
  by_cases h : gkc l = 0
  · have := gkc_ris.1 h
    rw [if_neg (by simp [h])]
    by_cases h2 : Nd a <;> simp [h2, this.1, this.2]
  · rw [if_pos h]
    constructor
    · intro h2; exact absurd h2 h
    · intro h2; exact absurd (gkc_ris.2 ⟨h2.1, h2.2.1⟩) h
theorem gg_bad {l : List Int} {a : Int} (h : ggOf l a ≠ 0) : gg l a = ([], ggOf l a) := by unfold gg; rw [if_pos h]
theorem gg_form {l : List Int} {a : Int} (h : ggOf l a = 0) : gg l a = (gp false a l, 0) := by unfold gg; rw [if_neg (by simp [h])]
theorem gaps_eq {F : Nat} (hF : 20000 ≤ F) {l : List Int} {a : Int} : M_gaps_Gaps F l a = some (gg l a) := by
  unfold M_gaps_Gaps
  rw [gCheck_eq hF]
  simp only [Option.bind_some]
  by_cases h : gkc l = 0
  · rw [if_pos (by simpa using h), node_eq]
    simp only [Option.bind_some, M_gaps_Gaps_j3]
    by_cases h2 : Nd a
    · have h3 := ggOf_ok.2 ⟨(gkc_ris.1 h).1, (gkc_ris.1 h).2, h2⟩
      have hd : decide (0 ≤ a ∧ a ≤ 1048576) = true := decide_eq_true h2
      rw [hd, gg_form h3, if_neg (by simp), h]
      unfold M_gaps_Gaps_j2
      rw [if_neg (by simp), graw_eq hF (gkc_ris.1 h).1 h2 (gkc_ris.1 h).2]
      rfl
    · have h3 : ggOf l a = 3 := by unfold ggOf; rw [if_neg (by simp [h]), if_neg h2]
      have hd : decide (0 ≤ a ∧ a ≤ 1048576) = false := decide_eq_false h2
      rw [hd, gg_bad (by rw [h3]; decide), h3]
      rfl
  · have h3 : ggOf l a = gkc l := by unfold ggOf; rw [if_pos h]
    rw [if_neg (by simpa using h), gg_bad (by rw [h3]; exact h), h3]
    unfold M_gaps_Gaps_j3 M_gaps_Gaps_j2
    rw [if_neg (by simp), if_pos (by simpa using h)]
theorem gapsOf_l {F : Nat} {l : List Int} {at_ q : Int} (hm : l.length ≤ 300) (ha : Nd at_) (hr : Ris q l) : ∀ (k i : Nat) (a : Int) (o : List Int), l.length < k + i → i ≤ l.length → (i = 0 ∧ a = at_ ∨ 0 < i ∧ l[i - 1]? = some a ∧ Nd a ∧ Ris a (l.drop i)) → o.length + (l.length - i) ≤ 1000 →
    M_R_GapsOf_l8 F l at_ k (o, (i : Int)) = some (o ++ gp (decide (0 < i)) a (l.drop i))
  | 0, _, _, _, _, _, _, _ => by omega
  | k + 1, i, a, o, h, hi, hinv, ho => by
    show M_R_GapsOf_b8 F l at_ (M_R_GapsOf_l8 F l at_ k) o (i : Int) = _
    unfold M_R_GapsOf_b8
    by_cases hlt : i < l.length
    · rw [if_pos (by simp; omega)]
      rcases hinv with ⟨rfl, rfl⟩ | ⟨h0, h1, h2, h3⟩
      · obtain ⟨n, l', rfl⟩ : ∃ n l', l = n :: l' := by cases l with | nil => simp at hlt | cons n l' => exact ⟨n, l', rfl⟩
        have hn := hr.1
        rw [if_pos (by simp)]
        have hix : idx (n :: l') 0 = some n := rfl
        rw [hix]
        simp only [Option.bind_some]
        have b1 := ha.1; have b2 := ha.2; have b3 := hn.1; have b4 := hn.2
        rw [isub_i64 (by omega) (by omega), foldOf_eq F (by omega) (by omega)]
        simp only [Option.bind_some]
        rw [app_eq (by simp; omega)]
        simp only [Option.bind_some, M_R_GapsOf_j9]
        rw [iadd1_n (by omega), gapsOf_l hm ha hr k 1 n _ (by omega) (by simp) (.inr ⟨by omega, rfl, hn, hr.2.2⟩) (by simp at ho ⊢; omega)]
        simp [gp]
      · rw [List.drop_eq_getElem_cons hlt] at h3 ⊢
        have hx := h3.1
        have b1 := h2.1; have b2 := h2.2; have b3 := hx.1; have b4 := hx.2; have b5 := h3.2.1
        rw [if_neg (by simp; omega), idx_nat, List.getElem?_eq_getElem hlt]
        simp only [Option.bind_some]
        rw [isub1_n (by omega) (by omega), idx_nat, h1]
        simp only [Option.bind_some]
        rw [isub_i64 (a := l[i]) (b := a) (by omega) (by omega), isub_i64 (a := l[i] - a) (by omega) (by omega)]
        have e : iconv .u64 (l[i] - a - 1) = l[i] - a - 1 := wrap_u64 (by omega) (by omega)
        rw [e, app_eq (by simp; omega)]
        simp only [Option.bind_some, M_R_GapsOf_j9]
        rw [iadd1_n (by omega), gapsOf_l hm ha hr k (i + 1) l[i] _ (by omega) (by omega) (.inr ⟨by omega, by rw [Nat.add_sub_cancel, List.getElem?_eq_getElem hlt], hx, h3.2.2⟩) (by simp; omega)]
        have hd : decide (0 < i) = true := decide_eq_true h0
        rw [hd, gp]
        simp
    · rw [if_neg (by simp; omega), List.drop_eq_nil_of_le (by omega)]
      simp [M_R_GapsOf_j5, gp]
theorem gapsOf_eq {F : Nat} (hF : 20000 ≤ F) {l : List Int} {a q : Int} (hm : l.length ≤ 300) (ha : Nd a) (hr : Ris q l) : M_R_GapsOf F l a = some (gp false a l) := by
  unfold M_R_GapsOf
  have := gapsOf_l (F := F) hm ha hr F 0 a [] (by omega) (by omega) (.inl ⟨rfl, rfl⟩) (by simp; omega)
  rw [List.drop_zero, List.nil_append] at this
  exact this
def st (b : Bool) (a g : Int) : Option Int := if 2097152 < g then none else if Nd (if b then a + g + 1 else a + unfoldOf g) then some (if b then a + g + 1 else a + unfoldOf g) else none
theorem st_nd {b : Bool} {a g n : Int} (h : st b a g = some n) : Nd n ∧ g ≤ 2097152 ∧ n = (if b then a + g + 1 else a + unfoldOf g) := by
  unfold st at h
  by_cases h1 : 2097152 < g
  · rw [if_pos h1] at h; simp at h
  · rw [if_neg h1] at h
    by_cases h2 : Nd (if b then a + g + 1 else a + unfoldOf g)
    · rw [if_pos h2] at h
      have := Option.some.inj h
      exact ⟨this ▸ h2, by omega, this.symm⟩
    · rw [if_neg h2] at h; simp at h
theorem step_eq {F : Nat} {a g : Int} {b : Bool} (ha : Nd a) (hg : U64 g) : match st b a g with
    | none => ∃ x y, M_gaps_walker_step F a b g = some (false, x, y)
    | some n => M_gaps_walker_step F a b g = some (true, n, true) := by
  have h1 := ha.1; have h2 := ha.2; have h3 := hg.1; have h4 := hg.2
  by_cases h : 2097152 < g
  · have e : st b a g = none := by unfold st; rw [if_pos h]
    rw [e]
    unfold M_gaps_walker_step
    rw [if_pos (by simpa using h)]
    exact ⟨_, _, rfl⟩
  · have hu : -1048577 ≤ unfoldOf g ∧ unfoldOf g ≤ 1048577 := by unfold unfoldOf; split <;> omega
    have hM : M_gaps_walker_step F a b g = some (decide (Nd (if b then a + g + 1 else a + unfoldOf g)), (if b then a + g + 1 else a + unfoldOf g), true) := by
      unfold M_gaps_walker_step
      rw [if_neg (by simpa using h)]
      cases b with
      | true =>
        have e : iconv .i64 g = g := wrap_i64 (by omega) (by omega)
        rw [if_pos rfl, e, iadd_i64 (a := g) (by omega) (by omega), iadd_i64 (by omega) (by omega)]
        unfold M_gaps_walker_step_j1
        rw [node_eq, show a + (g + 1) = a + g + 1 from by omega]
        rfl
      | false =>
        rw [if_neg (by simp), unfold_eq F h3 h4]
        simp only [Option.bind_some]
        rw [iadd_i64 (by omega) (by omega)]
        unfold M_gaps_walker_step_j1
        rw [node_eq]
        rfl
    rw [hM]
    unfold st
    rw [if_neg h]
    by_cases h5 : Nd (if b then a + g + 1 else a + unfoldOf g)
    · rw [if_pos h5]
      simp only
      rw [decide_eq_true h5]
    · rw [if_neg h5, decide_eq_false h5]
      exact ⟨_, _, rfl⟩
theorem irem2_u {g : Int} (h : 0 ≤ g) : irem g 2 = g % 2 := by unfold irem; rw [Int.tmod_eq_emod_of_nonneg h]
theorem gapNext_eq {F : Nat} {a g : Int} {b : Bool} (ha : Nd a) (hg : U64 g) : M_R_GapNext F g a (!b) = some (match st b a g with | none => -1 | some n => n) := by
  have h1 := ha.1; have h2 := ha.2; have h3 := hg.1; have h4 := hg.2
  unfold M_R_GapNext
  have hj : ∀ n : Int, M_R_GapNext_j1 F n = some (if Nd n then n else -1) := by
    intro n
    unfold M_R_GapNext_j1
    rw [between_eq]
    simp only [Option.bind_some]
    by_cases h : Nd n
    · have : decide (0 ≤ n ∧ n ≤ 1048576) = true := decide_eq_true h
      rw [this, if_pos h]; rfl
    · have : decide (0 ≤ n ∧ n ≤ 1048576) = false := decide_eq_false h
      rw [this, if_neg h]; rfl
  by_cases h : 4194304 < g
  · have e : st b a g = none := by unfold st; rw [if_pos (by omega)]
    rw [if_pos (by simpa using h), e]
  · have e : iconv .i64 g = g := wrap_i64 (by omega) (by omega)
    have eq : iquo .i64 g 2 = g / 2 := by unfold iquo; rw [Int.tdiv_eq_ediv_of_nonneg h3, wrap_i64 (by omega) (by omega)]
    have hst : st b a g = if Nd (if b then a + g + 1 else a + unfoldOf g) then some (if b then a + g + 1 else a + unfoldOf g) else none := by
      unfold st
      by_cases h5 : 2097152 < g
      · rw [if_pos h5, if_neg]
        intro hn
        have hn1 := hn.1; have hn2 := hn.2
        cases b with
        | true => simp only [if_true] at hn2; omega
        | false =>
          simp only [Bool.false_eq_true, if_false] at hn1 hn2
          unfold unfoldOf at hn1 hn2
          split at hn1 <;> omega
      · rw [if_neg h5]
    rw [if_neg (by simpa using h), e, eq, hst, irem2_u h3]
    simp only [lett]
    cases b with
    | true =>
      rw [iadd_i64 (a := a) (b := g) (by omega) (by omega), iadd_i64 (a := a + g) (b := 1) (by omega) (by omega)]
      simp only [Bool.not_true, Bool.false_eq_true, if_false, if_true]
      rw [hj]
      by_cases h6 : Nd (a + g + 1) <;> simp [h6]
    | false =>
      simp only [Bool.not_false, if_true, Bool.false_eq_true, if_false]
      by_cases h7 : g % 2 = 1
      · have hun : unfoldOf g = -(g / 2) - 1 := by unfold unfoldOf; rw [if_neg (by omega)]
        rw [if_pos (by simpa using h7), isub_i64 (a := a) (b := g / 2) (by omega) (by omega), isub_i64 (a := a - g / 2) (b := 1) (by omega) (by omega), hj, hun, show a - g / 2 - 1 = a + (-(g / 2) - 1) from by omega]
        by_cases h6 : Nd (a + (-(g / 2) - 1)) <;> simp [h6]
      · have hun : unfoldOf g = g / 2 := by unfold unfoldOf; rw [if_pos (by omega)]
        rw [if_neg (by simpa using h7), iadd_i64 (by omega) (by omega), hj, hun]
        by_cases h6 : Nd (a + g / 2) <;> simp [h6]
/-- Numbers of gaps; none: they lead too far. -/
def bk : Bool → Int → List Int → Option (List Int)
  | _, _, [] => some []
  | b, a, g :: l => (st b a g).bind fun n => (bk true n l).map (n :: ·)
theorem back_l {F : Nat} {l : List Int} (hn : N64 l) (hm : l.length ≤ 300) : ∀ (k i : Nat) (a : Int) (b : Bool) (o : List Int), l.length < k + i → i ≤ l.length → Nd a → o.length + (l.length - i) ≤ 1000 →
    M_gaps_Back_l3 F l k (o, (i : Int), a, b) = some (match bk b a (l.drop i) with | none => ([], 3) | some r => (o ++ r, 0))
  | 0, _, _, _, _, _, _, _, _ => by omega
  | k + 1, i, a, b, o, h, hi, ha, ho => by
    show M_gaps_Back_b3 F l (M_gaps_Back_l3 F l k) o (i : Int) a b = _
    unfold M_gaps_Back_b3
    by_cases hlt : i < l.length
    · have hg := hn _ (List.getElem_mem hlt)
      rw [if_pos (by simp; omega), idx_nat, List.getElem?_eq_getElem hlt, List.drop_eq_getElem_cons hlt, bk]
      simp only [Option.bind_some]
      have hs := step_eq (F := F) (b := b) ha (g := l[i]) hg
      cases hst : st b a l[i] with
      | none =>
        rw [hst] at hs
        obtain ⟨x, y, e⟩ := hs
        rw [e]; rfl
      | some n =>
        rw [hst] at hs
        simp only at hs
        rw [hs]
        simp only [Option.bind_some, Bool.not_true, Bool.false_eq_true, if_false]
        rw [app_eq (by simp; omega), iadd1_n (by omega)]
        simp only [Option.bind_some]
        rw [back_l hn hm k (i + 1) _ _ _ (by omega) (by omega) (st_nd hst).1 (by simp; omega)]
        cases bk true n (l.drop (i + 1)) with
        | none => rfl
        | some r => simp
    · rw [if_neg (by simp; omega), List.drop_eq_nil_of_le (by omega)]
      simp [M_gaps_Back_j2, bk]
def gb (g : List Int) (a : Int) : List Int × Int := if 300 < g.length then ([], 2) else if Nd a then (match bk false a g with | none => ([], 3) | some r => (r, 0)) else ([], 3)
theorem gback_eq {F : Nat} (hF : 20000 ≤ F) {g : List Int} {a : Int} (hn : N64 g) : M_gaps_Back F g a = some (gb g a) := by
  unfold M_gaps_Back gb
  by_cases h : 300 < g.length
  · rw [if_pos (by simp; omega), if_pos h]
  · rw [if_neg (by simp; omega), if_neg h, node_eq]
    simp only [Option.bind_some]
    by_cases h2 : Nd a
    · have : decide (0 ≤ a ∧ a ≤ 1048576) = true := decide_eq_true h2
      rw [this, if_neg (by simp), if_pos h2]
      have := back_l (F := F) hn (by omega) F 0 a false [] (by omega) (by omega) h2 (by simp; omega)
      rw [List.drop_zero] at this
      exact this
    · have : decide (0 ≤ a ∧ a ≤ 1048576) = false := decide_eq_false h2
      rw [this, if_pos (by simp), if_neg h2]
theorem rback_l {F : Nat} {l : List Int} (hn : N64 l) (hm : l.length ≤ 300) : ∀ (k i : Nat) (a : Int) (o : List Int), l.length < k + i → i ≤ l.length → Nd a → o.length + (l.length - i) ≤ 1000 →
    M_R_GapsBack_l3 F l k (a, o, (i : Int)) = some (match bk (decide (0 < i)) a (l.drop i) with | none => ([], 3) | some r => (o ++ r, 0))
  | 0, _, _, _, _, _, _, _ => by omega
  | k + 1, i, a, o, h, hi, ha, ho => by
    show M_R_GapsBack_b3 F l (M_R_GapsBack_l3 F l k) a o (i : Int) = _
    unfold M_R_GapsBack_b3
    by_cases hlt : i < l.length
    · have hg := hn _ (List.getElem_mem hlt)
      rw [if_pos (by simp; omega), idx_nat, List.getElem?_eq_getElem hlt, List.drop_eq_getElem_cons hlt, bk]
      simp only [Option.bind_some]
      have hbe : ((i : Int) == 0) = !(decide (0 < i)) := by
        by_cases h0 : 0 < i
        · rw [decide_eq_true h0]; simp; omega
        · rw [decide_eq_false h0]; simp; omega
      rw [hbe, gapNext_eq ha hg]
      simp only [Option.bind_some]
      cases hst : st (decide (0 < i)) a l[i] with
      | none => rfl
      | some n =>
        have hnd := (st_nd hst).1
        simp only
        rw [if_neg (by simp; exact hnd.1), app_eq (by simp; omega), iadd1_n (by omega)]
        simp only [Option.bind_some]
        rw [rback_l hn hm k (i + 1) _ _ (by omega) (by omega) hnd (by simp; omega), decide_eq_true (show 0 < i + 1 by omega)]
        cases bk true n (l.drop (i + 1)) with
        | none => rfl
        | some r => simp
    · rw [if_neg (by simp; omega), List.drop_eq_nil_of_le (by omega)]
      simp [M_R_GapsBack_j2, bk]
theorem rback_eq {F : Nat} (hF : 20000 ≤ F) {g : List Int} {a : Int} (hn : N64 g) : M_R_GapsBack F g a = some (gb g a) := by
  unfold M_R_GapsBack gb
  by_cases h : 300 < g.length
  · rw [if_pos (by simp; omega), if_pos h]
  · rw [if_neg (by simp; omega), if_neg h, between_eq]
    simp only [Option.bind_some]
    by_cases h2 : Nd a
    · have : decide (0 ≤ a ∧ a ≤ 1048576) = true := decide_eq_true h2
      rw [this, if_neg (by simp), if_pos h2]
      have := rback_l (F := F) hn (by omega) F 0 a [] (by omega) (by omega) h2 (by simp; omega)
      rw [List.drop_zero] at this
      exact this
    · have : decide (0 ≤ a ∧ a ≤ 1048576) = false := decide_eq_false h2
      rw [this, if_pos (by simp), if_neg h2]
def zes (k : Nat) (g : List Int) : List Int := g.flatMap fun x => ze x.toNat k
theorem zes_cons (k : Nat) (x : Int) (g : List Int) : zes k (x :: g) = ze x.toNat k ++ zes k g := rfl
theorem zes_bit (k : Nat) (g : List Int) : Bit (zes k g) := by
  induction g with
  | nil => intro x hx; simp [zes] at hx
  | cons x g ih => rw [zes_cons]; exact bit_app (ze_bit _ _) ih
def L40 (g : List Int) : Prop := ∀ x ∈ g, 0 ≤ x ∧ x ≤ 1099511627776
theorem put_l {F k : Nat} (hF : 20000 ≤ F) (h1 : 1 ≤ k) (h2 : k ≤ 16) {g : List Int} (hg : L40 g) (hgm : g.length ≤ 10000) : ∀ (j i : Nat) (l : List Int), g.length < j + i → i ≤ g.length → Bit l → l.length ≤ 8192 →
    M_gaps_Put_l3 F g (k : Int) j ((i : Int), (l.length : Int), pk l) = some (if (l ++ zes k (g.drop i)).length ≤ 8192 then (((l ++ zes k (g.drop i)).length : Int), pk (l ++ zes k (g.drop i)), true) else (0, [], false))
  | 0, _, _, _, _, _, _ => by omega
  | j + 1, i, l, h, hi, hl, hlm => by
    show M_gaps_Put_b3 F g (k : Int) (M_gaps_Put_l3 F g (k : Int) j) (i : Int) (l.length : Int) (pk l) = _
    unfold M_gaps_Put_b3
    by_cases hlt : i < g.length
    · have hx := hg _ (List.getElem_mem hlt)
      obtain ⟨x, hxe⟩ := Int.eq_ofNat_of_zero_le hx.1
      rw [if_pos (by simp; omega), idx_nat, List.getElem?_eq_getElem hlt, List.drop_eq_getElem_cons hlt, zes_cons, hxe, Int.toNat_natCast]
      simp only [Option.bind_some]
      have hk : Zk (k : Int) := ⟨by omega, by omega⟩
      rw [zeta_eq hF ⟨by omega, by omega⟩, gz_form hk (by omega)]
      simp only [Option.bind_some, ok3]
      have hz := ze_len (n := x) (k := k) (by omega) h2
      rw [iadd_n (by omega)]
      by_cases h3 : l.length + (ze x k).length ≤ 8192
      · rw [if_neg (by simp; omega), both_pk hF hl (ze_bit _ _) hlm (by omega)]
        simp only [Option.bind_some]
        rw [iadd1_n (by omega), put_l hF h1 h2 hg hgm j (i + 1) (l ++ ze x k) (by omega) (by omega) (bit_app hl (ze_bit _ _)) (by rw [List.length_append]; omega)]
        rw [List.append_assoc]
      · rw [if_pos (by simp; omega), if_neg (by simp only [List.length_append]; omega)]
    · rw [if_neg (by simp; omega), List.drop_eq_nil_of_le (by omega)]
      have : zes k [] = [] := rfl
      rw [this, List.append_nil, if_pos hlm]
      rfl
theorem gput_eq {F k : Nat} (hF : 20000 ≤ F) (h1 : 1 ≤ k) (h2 : k ≤ 16) {g l : List Int} (hg : L40 g) (hgm : g.length ≤ 10000) (hl : Bit l) (hlm : l.length ≤ 8192) :
    M_gaps_Put F (l.length : Int) (pk l) g (k : Int) = some (if (l ++ zes k g).length ≤ 8192 then (((l ++ zes k g).length : Int), pk (l ++ zes k g), true) else (0, [], false)) := by
  unfold M_gaps_Put
  have := put_l hF h1 h2 hg hgm F 0 l (by omega) (by omega) hl hlm
  rw [List.drop_zero] at this
  exact this
theorem gp_40 : ∀ {b : Bool} {a q : Int} {l : List Int}, Nd a → Ris q l → (b = true → Ris a l) → ∀ x ∈ gp b a l, 0 ≤ x ∧ x ≤ 2097153
  | _, _, _, [], _, _, _ => by intro x hx; simp [gp] at hx
  | b, a, q, n :: l, ha, hr, hb => by
    intro x hx
    rw [gp] at hx
    have h1 := ha.1; have h2 := ha.2; have h3 := hr.1.1; have h4 := hr.1.2
    rcases List.mem_cons.1 hx with rfl | hx
    · cases b with
      | true => have := (hb rfl).2.1; simp only [if_true]; omega
      | false => simp only [Bool.false_eq_true, if_false]; unfold foldOf; split <;> omega
    · exact gp_40 hr.1 hr.2.2 (fun _ => hr.2.2) x hx
def gwOf (l : List Int) (a k : Int) : Int := if ggOf l a ≠ 0 then ggOf l a else if ¬ Zk k then 3 else if 8192 < (zes k.toNat (gp false a l)).length then 8 else 0
def gw (l : List Int) (a k : Int) : Int × List Int × Int := if gwOf l a k ≠ 0 then (0, [], gwOf l a k) else ok3 (zes k.toNat (gp false a l))
theorem gw_bad {l : List Int} {a k : Int} (h : gwOf l a k ≠ 0) : gw l a k = (0, [], gwOf l a k) := by unfold gw; rw [if_pos h]
theorem gw_form {l : List Int} {a k : Int} (h : gwOf l a k = 0) : gw l a k = ok3 (zes k.toNat (gp false a l)) := by unfold gw; rw [if_neg (by simp [h])]
theorem gwOf_1 {l : List Int} {a k : Int} (h : ggOf l a ≠ 0) : gwOf l a k = ggOf l a := by unfold gwOf; rw [if_pos h]
theorem gwOf_2 {l : List Int} {a k : Int} (h : ggOf l a = 0) (h2 : ¬ Zk k) : gwOf l a k = 3 := by unfold gwOf; rw [if_neg (by simp [h]), if_pos h2]
theorem gwOf_3 {l : List Int} {a k : Int} (h : ggOf l a = 0) (h2 : Zk k) : gwOf l a k = if 8192 < (zes k.toNat (gp false a l)).length then 8 else 0 := by unfold gwOf; rw [if_neg (by simp [h]), if_neg (fun hh => hh h2)]
theorem gwrite_eq {F : Nat} (hF : 20000 ≤ F) {l : List Int} {a k : Int} : M_gaps_Write F l a k = some (gw l a k) := by
  unfold M_gaps_Write
  rw [gaps_eq hF]
  simp only [Option.bind_some]
  by_cases h : ggOf l a = 0
  · rw [gg_form h]
    simp only
    rw [if_pos (by rfl)]
    unfold M_gaps_Write_j3
    by_cases h2 : Zk k
    · obtain ⟨k, rfl, k1, k2⟩ := zk_nat h2
      obtain ⟨r1, r2, r3⟩ := ggOf_ok.1 h
      rw [if_neg (by simp; omega)]
      unfold M_gaps_Write_j2
      have hL : L40 (gp false a l) := fun x hx => by have := gp_40 r3 r2 (fun h => by cases h) x hx; omega
      have hp := gput_eq (l := []) hF k1 k2 hL (by rw [gp_len]; omega) bit_nil (by simp)
      rw [List.nil_append, show (([] : List Int).length : Int) = 0 from rfl, pk_nil] at hp
      rw [if_neg (by simp)]
      simp only
      rw [hp]
      simp only [Option.bind_some]
      have h3 := gwOf_3 h h2
      rw [Int.toNat_natCast] at h3
      by_cases h4 : 8192 < (zes k (gp false a l)).length
      · rw [if_pos h4] at h3
        rw [if_neg (show ¬ (zes k (gp false a l)).length ≤ 8192 by omega), gw_bad (by rw [h3]; decide), h3]
        rfl
      · rw [if_neg h4] at h3
        rw [if_pos (show (zes k (gp false a l)).length ≤ 8192 by omega), gw_form h3, Int.toNat_natCast]
        rfl
    · have h3 := gwOf_2 h h2
      rw [if_pos (by unfold Zk at h2; simp; omega), gw_bad (by rw [h3]; decide), h3]
      rfl
  · have h3 := gwOf_1 (k := k) h
    rw [gg_bad h]
    simp only
    rw [if_neg (by simpa using h), gw_bad (by rw [h3]; exact h), h3]
    unfold M_gaps_Write_j3 M_gaps_Write_j2
    rw [if_neg (by simp)]
    simp only
    rw [if_pos (by simpa using h)]
/-- Numbers read behind gaps of bits: or what is wrong. -/
def gfr (l : List Int) (k : Nat) : Nat → Bool → Int → Nat → Int ⊕ (List Int × Nat)
  | 0, _, _, p => .inr ([], p)
  | m + 1, b, a, p => if (zq k l p).2.2 ≠ 0 then .inl (zq k l p).2.2 else match st b a (zq k l p).1 with
    | none => .inl 3
    | some n => match gfr l k m true n (zq k l p).2.1.toNat with
      | .inl e => .inl e
      | .inr r => .inr (n :: r.1, r.2)
def gfI (o : List Int) (r : Int ⊕ (List Int × Nat)) : List Int × Int × Int := match r with | .inl e => ([], 0, e) | .inr r => (o ++ r.1, (r.2 : Int), 0)
theorem zq_ok {k : Nat} {l : List Int} (hl : Bit l) {p : Nat} (h1 : 1 ≤ k) : (zq k l p).2.2 ≠ 0 ∨ ∃ g q : Nat, zq k l p = ((g : Int), (q : Int), 0) ∧ g ≤ 1099511627776 ∧ q ≤ l.length := by
  unfold zq
  cases hz : fz (l.drop p) with
  | none => left; simp
  | some h =>
    simp only
    by_cases h3 : 41 ≤ h * k
    · left; rw [if_pos h3]; simp
    · rw [if_neg h3]
      have p3 := pow_gap (a := h * k) h1
      have p0 : 0 < 2 ^ (h * k) := Nat.pow_pos (by decide)
      cases hf : flOf l (p + h + 1) (2 ^ (h * k + k) - 2 ^ (h * k)) with
      | none => left; simp [en]
      | some r =>
        have := fl_lt hl (n := r.1) (q := r.2) (by omega) hf
        simp only [Option.map_some, en]
        by_cases h4 : 1099511627776 < 2 ^ (h * k) + r.1 - 1
        · left; rw [if_pos h4]; simp
        · right; rw [if_neg h4]; exact ⟨_, _, rfl, by omega, this.2⟩
theorem gfrom_l {F k many : Nat} {l : List Int} (hF : 20000 ≤ F) (hl : Bit l) (hlm : l.length ≤ 8192) (h1 : 1 ≤ k) (h2 : k ≤ 16) (hm : many ≤ 300) : ∀ (j i p : Nat) (a : Int) (b : Bool) (o : List Int), many < j + i → i ≤ many → p ≤ l.length → Nd a → o.length + (many - i) ≤ 1000 →
    M_gaps_From_l3 F (l.length : Int) (pk l) (k : Int) (many : Int) j ((p : Int), o, (i : Int), a, b) = some (gfI o (gfr l k (many - i) b a p))
  | 0, _, _, _, _, _, _, _, _, _, _ => by omega
  | j + 1, i, p, a, b, o, h, hi, hp, ha, ho => by
    show M_gaps_From_b3 F (l.length : Int) (pk l) (k : Int) (many : Int) (M_gaps_From_l3 F (l.length : Int) (pk l) (k : Int) (many : Int) j) (p : Int) o (i : Int) a b = _
    unfold M_gaps_From_b3
    by_cases hlt : i < many
    · rw [if_pos (by simp; omega), fromZeta_eq hF hl hlm hp h1 h2, show many - i = (many - (i + 1)) + 1 from by omega]
      simp only [Option.bind_some]
      unfold gfr
      rcases zq_ok hl (k := k) (p := p) h1 with hz | ⟨g, q, hz, hg, hq⟩
      · rw [if_pos hz, if_pos (by simpa using hz)]
        rfl
      · rw [hz]
        simp only [ne_eq, not_true_eq_false, if_false, bne_self_eq_false, Bool.false_eq_true, Int.toNat_natCast]
        have hs := step_eq (F := F) (b := b) ha (g := (g : Int)) ⟨by omega, by omega⟩
        cases hst : st b a (g : Int) with
        | none =>
          rw [hst] at hs
          obtain ⟨x, y, e⟩ := hs
          rw [e]; rfl
        | some n =>
          rw [hst] at hs
          simp only at hs
          rw [hs]
          simp only [Option.bind_some, Bool.not_true, Bool.false_eq_true, if_false]
          rw [app_eq (by simp; omega), iadd1_n (by omega)]
          simp only [Option.bind_some]
          rw [gfrom_l hF hl hlm h1 h2 hm j (i + 1) q n true _ (by omega) (by omega) hq (st_nd hst).1 (by simp; omega)]
          cases gfr l k (many - (i + 1)) true n q with
          | inl e => rfl
          | inr r => simp [gfI]
    · rw [if_neg (by simp; omega), show many - i = 0 from by omega]
      simp [M_gaps_From_j2, gfr, gfI]
theorem gfrom_eq {F k many p : Nat} {l : List Int} {a : Int} (hF : 20000 ≤ F) (hl : Bit l) (hlm : l.length ≤ 8192) (h1 : 1 ≤ k) (h2 : k ≤ 16) (hm : many ≤ 300) (hp : p ≤ l.length) (ha : Nd a) :
    M_gaps_From F (l.length : Int) (pk l) (p : Int) a (k : Int) (many : Int) = some (gfI [] (gfr l k many false a p)) := by
  unfold M_gaps_From
  exact gfrom_l hF hl hlm h1 h2 hm F 0 p a false [] (by omega) (by omega) hp ha (by simp; omega)
def Mn (x : Int) : Prop := 0 ≤ x ∧ x ≤ 300
instance mnDec (x : Int) : Decidable (Mn x) := inferInstanceAs (Decidable (_ ∧ _))
def grOf (m : Int) (b : List Int) (p a k many : Int) : Int := if raOf m b p ≠ 0 then raOf m b p else if Nd a ∧ Zk k ∧ Mn many then 0 else 3
def gr (m : Int) (b : List Int) (p a k many : Int) : List Int × Int × Int := if grOf m b p a k many ≠ 0 then ([], 0, grOf m b p a k many) else gfI [] (gfr (bl b m.toNat) k.toNat many.toNat false a p.toNat)
theorem gr_bad {m p a k many : Int} {b : List Int} (h : grOf m b p a k many ≠ 0) : gr m b p a k many = ([], 0, grOf m b p a k many) := by unfold gr; rw [if_pos h]
theorem grOf_form {l : List Int} {p : Nat} {a k many : Int} (h1 : l.length ≤ 8192) (h : p ≤ l.length) (h2 : Nd a ∧ Zk k ∧ Mn many) : grOf (l.length : Int) (pk l) (p : Int) a k many = 0 := by
  unfold grOf; rw [ra_form h1 h, if_neg (by simp), if_pos h2]
theorem gr_form {l : List Int} (hl : Bit l) {p k many : Nat} {a : Int} (h1 : l.length ≤ 8192) (h : p ≤ l.length) (h2 : Nd a ∧ Zk (k : Int) ∧ Mn (many : Int)) : gr (l.length : Int) (pk l) (p : Int) a (k : Int) (many : Int) = gfI [] (gfr l k many false a p) := by
  unfold gr; rw [grOf_form h1 h h2, if_neg (by simp), Int.toNat_natCast, Int.toNat_natCast, Int.toNat_natCast, Int.toNat_natCast, bl_pk hl]
theorem gr_cases {m p a k many : Int} {b : List Int} (hb : U8s b) : grOf m b p a k many ≠ 0 ∨ (Nd a ∧ ∃ (l : List Int) (i k' m' : Nat), Bit l ∧ l.length ≤ 8192 ∧ m = (l.length : Int) ∧ b = pk l ∧ p = (i : Int) ∧ i ≤ l.length ∧ k = (k' : Int) ∧ 1 ≤ k' ∧ k' ≤ 16 ∧ many = (m' : Int) ∧ m' ≤ 300) := by
  rcases ra_cases hb (m := m) (a := p) with h | ⟨l, i, hl, hlm, rfl, rfl, rfl, hi⟩
  · left; unfold grOf; rw [if_pos h]; exact h
  · by_cases h2 : Nd a ∧ Zk k ∧ Mn many
    · right
      obtain ⟨k, rfl, k1, k2⟩ := zk_nat h2.2.1
      obtain ⟨j, rfl⟩ := Int.eq_ofNat_of_zero_le h2.2.2.1
      exact ⟨h2.1, l, i, k, j, hl, hlm, rfl, rfl, rfl, hi, rfl, k1, k2, rfl, by have := h2.2.2.2; omega⟩
    · left; unfold grOf; rw [ra_form hlm hi, if_neg (by simp), if_neg h2]; decide
theorem gread_eq' {F : Nat} (hF : 20000 ≤ F) {m p a k many : Int} {b : List Int} (hb : U8s b) (hm : I64 m) (lb : b.length ≤ 9223372036854775807) : M_gaps_Read F m b p a k many = some (gr m b p a k many) := by
  unfold M_gaps_Read
  rw [eCheck_eq hb hm lb]
  simp only [Option.bind_some]
  by_cases h1 : raOf m b p = 0
  · rw [h1, if_pos (by rfl), node_eq]
    simp only [Option.bind_some]
    rcases gr_cases hb (m := m) (p := p) (a := a) (k := k) (many := many) with h | ⟨hn, l, i, k', m', hl, hlm, rfl, rfl, rfl, hi, rfl, k1, k2, rfl, hm3⟩
    · have h3 : grOf m b p a k many = 3 := by
        unfold grOf at h ⊢
        rw [if_neg (by simp [h1])] at h ⊢
        split at h
        · simp at h
        · rename_i h4; rw [if_neg h4]
      have hbad : ¬ (Nd a ∧ Zk k ∧ Mn many) := by
        intro hh
        unfold grOf at h3
        rw [if_neg (by simp [h1]), if_pos hh] at h3
        simp at h3
      rw [gr_bad h, h3]
      unfold M_gaps_Read_j3
      rw [if_pos (by
        unfold Nd Zk Mn at hbad
        simp only [Bool.or_eq_true, Bool.not_eq_true', decide_eq_true_eq, decide_eq_false_iff_not]
        omega)]
      rfl
    · have hz : Zk (k' : Int) := ⟨by omega, by omega⟩
      have hmn : Mn (m' : Int) := ⟨by omega, by omega⟩
      rw [gr_form hl hlm hi ⟨hn, hz, hmn⟩]
      unfold M_gaps_Read_j3
      have hd : decide (0 ≤ a ∧ a ≤ 1048576) = true := decide_eq_true hn
      rw [hd, if_neg (by simp; omega)]
      unfold M_gaps_Read_j2
      rw [if_neg (by simp), gfrom_eq hF hl hlm k1 k2 hm3 hi hn]
      rfl
  · have h3 : grOf m b p a k many = raOf m b p := by unfold grOf; rw [if_pos h1]
    rw [if_neg (by simpa using h1), gr_bad (by rw [h3]; exact h1), h3]
    unfold M_gaps_Read_j3 M_gaps_Read_j2
    rw [if_neg (by simp), if_pos (by simpa using h1)]
theorem zetaLists_l {F k : Nat} (hF : 20000 ≤ F) (h1 : 1 ≤ k) (h2 : k ≤ 16) {g : List Int} (hg : L40 g) (hgm : g.length ≤ 300) : ∀ (j i : Nat) (o : List Int), g.length < j + i → i ≤ g.length → o.length + 200 * (g.length - i) ≤ 100000 →
    M_R_ZetaLists_l3 F g (k : Int) j (o, (i : Int)) = some (o ++ zes k (g.drop i))
  | 0, _, _, _, _, _ => by omega
  | j + 1, i, o, h, hi, ho => by
    show M_R_ZetaLists_b3 F g (k : Int) (M_R_ZetaLists_l3 F g (k : Int) j) o (i : Int) = _
    unfold M_R_ZetaLists_b3
    by_cases hlt : i < g.length
    · have hx := hg _ (List.getElem_mem hlt)
      obtain ⟨x, hxe⟩ := Int.eq_ofNat_of_zero_le hx.1
      rw [if_pos (by simp; omega), idx_nat, List.getElem?_eq_getElem hlt, List.drop_eq_getElem_cons hlt, zes_cons, hxe, Int.toNat_natCast]
      simp only [Option.bind_some]
      have hz := ze_len (n := x) (k := k) (by omega) h2
      rw [zetaList_eq hF (by omega) h1 h2]
      simp only [Option.bind_some]
      rw [app_eq (by omega), iadd1_n (by omega)]
      simp only [Option.bind_some]
      rw [zetaLists_l hF h1 h2 hg hgm j (i + 1) _ (by omega) (by omega) (by rw [List.length_append]; omega), List.append_assoc]
    · rw [if_neg (by simp; omega), List.drop_eq_nil_of_le (by omega)]
      simp [M_R_ZetaLists_j2, zes]
theorem gapsWrite_eq {F : Nat} (hF : 20000 ≤ F) {l : List Int} {a k : Int} : M_R_GapsWrite F l a k = some (gw l a k) := by
  unfold M_R_GapsWrite
  rw [rising_eq hF]
  simp only [Option.bind_some]
  by_cases h : gkc l = 0
  · rw [h, if_pos (by rfl), between_eq]
    simp only [Option.bind_some]
    by_cases h2 : Nd a
    · have hgg : ggOf l a = 0 := ggOf_ok.2 ⟨(gkc_ris.1 h).1, (gkc_ris.1 h).2, h2⟩
      have hd : decide (0 ≤ a ∧ a ≤ 1048576) = true := decide_eq_true h2
      rw [hd, if_neg (by simp), between_eq]
      simp only [Option.bind_some, M_R_GapsWrite_j7, M_R_GapsWrite_j6]
      by_cases h3 : Zk k
      · have hd2 : decide (1 ≤ k ∧ k ≤ 16) = true := decide_eq_true h3
        have h4 := gwOf_3 hgg h3
        obtain ⟨k, rfl, k1, k2⟩ := zk_nat h3
        obtain ⟨r1, r2, r3⟩ := ggOf_ok.1 hgg
        have hL : L40 (gp false a l) := fun x hx => by have := gp_40 r3 r2 (fun h => by cases h) x hx; omega
        rw [hd2, if_neg (by simp)]
        unfold M_R_GapsWrite_j4
        rw [if_neg (by simp), gapsOf_eq hF r1 r3 r2]
        simp only [Option.bind_some]
        unfold M_R_ZetaLists
        have hz := zetaLists_l (F := F) hF k1 k2 hL (by rw [gp_len]; exact r1) F 0 [] (by rw [gp_len]; omega) (by omega) (by rw [gp_len]; simp; omega)
        rw [List.drop_zero, List.nil_append] at hz
        rw [show ((0 : Nat) : Int) = 0 from rfl] at hz
        rw [hz]
        simp only [Option.bind_some]
        rw [Int.toNat_natCast] at h4
        by_cases h5 : 8192 < (zes k (gp false a l)).length
        · rw [if_pos h5] at h4
          rw [if_pos (by simp; omega), gw_bad (by rw [h4]; decide), h4]
        · rw [if_neg h5] at h4
          rw [if_neg (by simp; omega), gw_form h4, Int.toNat_natCast, packBits_eq hF (zes_bit _ _) (by omega)]
          rfl
      · have hd2 : decide (1 ≤ k ∧ k ≤ 16) = false := decide_eq_false h3
        have h4 := gwOf_2 hgg h3
        rw [hd2, if_pos (by simp), gw_bad (by rw [h4]; decide), h4]
        rfl
    · have hgg : ggOf l a = 3 := by unfold ggOf; rw [if_neg (by simp [h]), if_neg h2]
      have h4 := gwOf_1 (k := k) (show ggOf l a ≠ 0 by rw [hgg]; decide)
      have hd : decide (0 ≤ a ∧ a ≤ 1048576) = false := decide_eq_false h2
      rw [hd, if_pos (by simp), gw_bad (by rw [h4, hgg]; decide), h4, hgg]
      rfl
  · have hgg : ggOf l a = gkc l := by unfold ggOf; rw [if_pos h]
    have h4 := gwOf_1 (k := k) (show ggOf l a ≠ 0 by rw [hgg]; exact h)
    rw [if_neg (by simpa using h), gw_bad (by rw [h4, hgg]; exact h), h4, hgg]
    unfold M_R_GapsWrite_j6 M_R_GapsWrite_j4
    rw [if_neg (by simp), if_pos (by simpa using h)]
theorem gapsFrom_l {F k many : Nat} {l : List Int} (hF : 20000 ≤ F) (hl : Bit l) (hlm : l.length ≤ 8192) (h1 : 1 ≤ k) (h2 : k ≤ 16) (hm : many ≤ 300) : ∀ (j p : Nat) (a : Int) (o : List Int), many < j + o.length → o.length ≤ many → p ≤ l.length → Nd a →
    M_R_GapsFrom_l3 F l (k : Int) (many : Int) j ((p : Int), a, o) = some (gfI o (gfr l k (many - o.length) (decide (0 < o.length)) a p))
  | 0, _, _, _, _, _, _, _ => by omega
  | j + 1, p, a, o, h, ho, hp, ha => by
    show M_R_GapsFrom_b3 F l (k : Int) (many : Int) (M_R_GapsFrom_l3 F l (k : Int) (many : Int) j) (p : Int) a o = _
    unfold M_R_GapsFrom_b3
    by_cases hlt : o.length < many
    · rw [if_pos (by simp; omega), zetaRead_eq hF hl hlm hp h1 h2, show many - o.length = (many - (o.length + 1)) + 1 from by omega]
      simp only [Option.bind_some]
      unfold gfr
      rcases zq_ok hl (k := k) (p := p) h1 with hz | ⟨g, q, hz, hg, hq⟩
      · rw [if_pos hz, if_pos (by simpa using hz)]
        rfl
      · rw [hz]
        simp only [ne_eq, not_true_eq_false, if_false, bne_self_eq_false, Bool.false_eq_true, Int.toNat_natCast]
        have hbe : (((o.length : Int)) == 0) = !(decide (0 < o.length)) := by
          by_cases h0 : 0 < o.length
          · rw [decide_eq_true h0]; simp; intro hh; subst hh; simp at h0
          · rw [decide_eq_false h0]; simp; exact List.length_eq_zero_iff.1 (by omega)
        rw [hbe, gapNext_eq ha ⟨by omega, by omega⟩]
        simp only [Option.bind_some]
        cases hst : st (decide (0 < o.length)) a (g : Int) with
        | none => rfl
        | some n =>
          have hnd := (st_nd hst).1
          simp only
          rw [if_neg (by simp; exact hnd.1), app_eq (by simp; omega)]
          simp only [Option.bind_some]
          have hol : (o ++ [n]).length = o.length + 1 := by simp
          rw [gapsFrom_l hF hl hlm h1 h2 hm j q n (o ++ [n]) (by omega) (by omega) hq hnd, hol, decide_eq_true (show 0 < o.length + 1 by omega)]
          cases gfr l k (many - (o.length + 1)) true n q with
          | inl e => rfl
          | inr r => simp [gfI]
    · rw [if_neg (by simp; omega), show many - o.length = 0 from by omega]
      simp [M_R_GapsFrom_j2, gfr, gfI]
theorem gapsRead_eq {F : Nat} (hF : 20000 ≤ F) {m p a k many : Int} {b : List Int} (hb : U8s b) : M_R_GapsRead F m b p a k many = some (gr m b p a k many) := by
  unfold M_R_GapsRead
  rw [readErr_eq hF hb]
  simp only [Option.bind_some]
  by_cases h1 : raOf m b p = 0
  · rw [h1, if_pos (by rfl), between_eq]
    simp only [Option.bind_some]
    rcases gr_cases hb (m := m) (p := p) (a := a) (k := k) (many := many) with h | ⟨hn, l, i, k', m', hl, hlm, rfl, rfl, rfl, hi, rfl, k1, k2, rfl, hm3⟩
    · have h3 : grOf m b p a k many = 3 := by
        unfold grOf at h ⊢
        rw [if_neg (by simp [h1])] at h ⊢
        split at h
        · simp at h
        · rename_i h4; rw [if_neg h4]
      have hbad : ¬ (Nd a ∧ Zk k ∧ Mn many) := by
        intro hh
        unfold grOf at h3
        rw [if_neg (by simp [h1]), if_pos hh] at h3
        simp at h3
      rw [gr_bad h, h3]
      by_cases q1 : Nd a
      · have hd : decide (0 ≤ a ∧ a ≤ 1048576) = true := decide_eq_true q1
        rw [hd, if_neg (by simp), between_eq]
        simp only [Option.bind_some]
        by_cases q2 : Zk k
        · have hd2 : decide (1 ≤ k ∧ k ≤ 16) = true := decide_eq_true q2
          have q3 : ¬ Mn many := fun hh => hbad ⟨q1, q2, hh⟩
          have hd3 : decide (0 ≤ many ∧ many ≤ 300) = false := decide_eq_false q3
          rw [hd2]
          unfold M_R_GapsRead_j10
          rw [if_neg (by simp), between_eq]
          simp only [Option.bind_some]
          rw [hd3]
          rfl
        · have hd2 : decide (1 ≤ k ∧ k ≤ 16) = false := decide_eq_false q2
          rw [hd2]
          rfl
      · have hd : decide (0 ≤ a ∧ a ≤ 1048576) = false := decide_eq_false q1
        rw [hd, if_pos (by simp)]
        rfl
    · have hz : Zk (k' : Int) := ⟨by omega, by omega⟩
      have hmn : Mn (m' : Int) := ⟨by omega, by omega⟩
      have hd : decide (0 ≤ a ∧ a ≤ 1048576) = true := decide_eq_true hn
      have hd2 : decide (1 ≤ (k' : Int) ∧ (k' : Int) ≤ 16) = true := decide_eq_true hz
      have hd3 : decide (0 ≤ (m' : Int) ∧ (m' : Int) ≤ 300) = true := decide_eq_true hmn
      rw [gr_form hl hlm hi ⟨hn, hz, hmn⟩, hd, if_neg (by simp), between_eq]
      simp only [Option.bind_some]
      rw [hd2]
      unfold M_R_GapsRead_j10
      rw [if_neg (by simp), between_eq]
      simp only [Option.bind_some]
      rw [hd3]
      unfold M_R_GapsRead_j11 M_R_GapsRead_j9
      rw [if_neg (by simp)]
      unfold M_R_GapsRead_j6
      rw [if_neg (by simp), bitList_eq hF (pk_u8 hl) (by rw [pk_len]; omega) (by omega), bl_pk hl]
      simp only [Option.bind_some]
      unfold M_R_GapsFrom
      have := gapsFrom_l hF hl hlm k1 k2 hm3 F i a [] (by simp; omega) (by simp) hi hn
      rw [List.length_nil, Nat.sub_zero] at this
      rw [this]
      rfl
  · have h3 : grOf m b p a k many = raOf m b p := by unfold grOf; rw [if_pos h1]
    rw [if_neg (by simpa using h1), gr_bad (by rw [h3]; exact h1), h3]
    unfold M_R_GapsRead_j9 M_R_GapsRead_j6
    rw [if_neg (by simp), if_pos (by simpa using h1)]
theorem begun_gaps (n : Nat) : M_L_gapsBegun (n + 200) = some true := by kernel_rfl
theorem begun_gaps' {F : Nat} (hF : 20000 ≤ F) : M_L_gapsBegun F = some true := by
  obtain ⟨n, rfl⟩ : ∃ n, F = n + 200 := ⟨F - 200, by omega⟩
  exact begun_gaps n
theorem gg_short {l : List Int} {a : Int} : (gg l a).1.length ≤ 300 := by
  by_cases h : ggOf l a = 0
  · rw [gg_form h]; simp only; rw [gp_len]; exact (ggOf_ok.1 h).1
  · rw [gg_bad h]; simp
theorem bk_len : ∀ {b : Bool} {a : Int} {g r : List Int}, bk b a g = some r → r.length = g.length
  | _, _, [], r, h => by simp [bk] at h; subst h; rfl
  | b, a, x :: g, r, h => by
    unfold bk at h
    cases hs : st b a x with
    | none => rw [hs] at h; simp at h
    | some n =>
      rw [hs] at h
      simp only [Option.bind_some] at h
      cases hb : bk true n g with
      | none => rw [hb] at h; simp at h
      | some r' =>
        rw [hb] at h
        simp only [Option.map_some, Option.some.injEq] at h
        rw [← h, List.length_cons, List.length_cons, bk_len hb]
theorem gb_short {g : List Int} {a : Int} : (gb g a).1.length ≤ 300 := by
  unfold gb
  by_cases h : 300 < g.length
  · rw [if_pos h]; simp
  · rw [if_neg h]
    by_cases h2 : Nd a
    · rw [if_pos h2]
      cases hb : bk false a g with
      | none => simp
      | some r => simp only; rw [bk_len hb]; omega
    · rw [if_neg h2]; simp
theorem gw_short {l : List Int} {a k : Int} : (gw l a k).2.1.length ≤ 2000 := by
  by_cases h : gwOf l a k = 0
  · rw [gw_form h]
    have : (zes k.toNat (gp false a l)).length ≤ 8192 := by
      unfold gwOf at h
      split at h
      · rename_i h1; exact absurd h h1
      · split at h
        · simp at h
        · split at h
          · simp at h
          · omega
    simp only [ok3, pk_len]; omega
  · rw [gw_bad h]; simp
theorem same_ints' {F : Nat} {xs : List Int} (hF : xs.length < F) (hm : xs.length ≤ 9223372036854775807) : M_R_SameInts F xs xs = some true := by
  rw [sameInts_same, sameBytes_eq hF hm]; simp
theorem nd_bool {a : Int} : ((decide (a < 0)) || (decide (1048576 < a))) = !decide (Nd a) := by
  by_cases h : Nd a
  · rw [decide_eq_true h]; have := h.1; have := h.2; simp; omega
  · rw [decide_eq_false h]
    unfold Nd at h
    simp; omega
theorem law_gtell {F : Nat} (h0 : 20000 ≤ F) {l g : List Int} {a k : Int} (hg : N64 g) : M_L_GapsTell F l g a k = some true := by
  unfold M_L_GapsTell
  rw [gaps_eq h0, gback_eq h0 hg, gwrite_eq h0, rising_eq h0]
  simp only [Option.bind_some]
  have s1 := gg_short (l := l) (a := a)
  have s2 := gb_short (g := g) (a := a)
  have s3 := gw_short (l := l) (a := a) (k := k)
  have hj3 : ∀ (w : List Int) (e : Int), gg l a = (w, e) → M_L_GapsTell_j3 F l g a k (gg l a) (gb g a) (gw l a k) (gkc l) e w = some true := by
    intro w e h
    have hw : w.length ≤ 300 := by rw [h] at s1; exact s1
    unfold M_L_GapsTell_j3
    rw [rback_eq h0 hg, gapsWrite_eq h0, begun_gaps' h0, gCheck_eq h0]
    simp only [Option.bind_some, if_true, beq_self_eq_true]
    unfold M_L_GapsTell_j4
    rw [if_pos rfl, h]
    simp only
    rw [same_nums (by omega) (by omega)]
    simp only [Option.bind_some, M_L_GapsTell_j5, beq_self_eq_true, Bool.and_self, if_true]
    rw [same_ints' (by omega) (by omega)]
    simp only [Option.bind_some, M_L_GapsTell_j6, beq_self_eq_true, Bool.and_self, if_true]
    rw [same_self (by omega) (by omega)]
    simp [M_L_GapsTell_j7]
  have hj2 : M_L_GapsTell_j2 F l g a k (gg l a) (gb g a) (gw l a k) (gkc l) (ggOf l a) = some true := by
    unfold M_L_GapsTell_j2
    by_cases h : ggOf l a = 0
    · obtain ⟨r1, r2, r3⟩ := ggOf_ok.1 h
      rw [if_pos (by simpa using h), gapsOf_eq h0 r1 r3 r2]
      simp only [Option.bind_some]
      exact hj3 _ _ (by rw [gg_form h, h])
    · rw [if_neg (by simpa using h)]
      exact hj3 _ _ (gg_bad h)
  unfold ggOf at hj2
  by_cases h : gkc l = 0
  · rw [if_neg (by simp [h])] at hj2
    rw [if_pos (by simpa using h), nd_bool]
    unfold M_L_GapsTell_j8
    by_cases h2 : Nd a
    · rw [if_pos h2] at hj2
      rw [if_neg (by simp [h2]), h]
      rw [h] at hj2
      exact hj2
    · rw [if_neg h2] at hj2
      rw [if_pos (by simp [h2])]
      exact hj2
  · rw [if_pos h] at hj2
    rw [if_neg (by simpa using h)]
    unfold M_L_GapsTell_j8
    rw [if_neg (by simp)]
    exact hj2
theorem gfr_len {l : List Int} {k : Nat} : ∀ {m : Nat} {b : Bool} {a : Int} {p : Nat} {r : List Int × Nat}, gfr l k m b a p = .inr r → r.1.length = m
  | 0, _, _, _, r, h => by simp [gfr] at h; subst h; rfl
  | m + 1, b, a, p, r, h => by
    unfold gfr at h
    split at h
    · simp at h
    · split at h
      · simp at h
      · split at h
        · simp at h
        · rename_i r' hr
          simp only [Sum.inr.injEq] at h
          rw [← h]
          simp [gfr_len hr]
theorem gr_short {m p a k many : Int} {b : List Int} (hb : U8s b) : (gr m b p a k many).1.length ≤ 300 := by
  rcases gr_cases hb (m := m) (p := p) (a := a) (k := k) (many := many) with h | ⟨hn, l, i, k', m', hl, hlm, rfl, rfl, rfl, hi, rfl, k1, k2, rfl, hm3⟩
  · rw [gr_bad h]; simp
  · rw [gr_form hl hlm hi ⟨hn, ⟨by omega, by omega⟩, ⟨by omega, by omega⟩⟩]
    cases hr : gfr l k' m' false a i with
    | inl e => simp [gfI]
    | inr r => have := gfr_len hr; simp [gfI]; omega
theorem law_gread {F : Nat} (h0 : 20000 ≤ F) {m p a k many : Int} {b : List Int} (hb : U8s b) (hm : I64 m) (lb : b.length ≤ 9223372036854775807) : M_L_GapsRead F m b p a k many = some true := by
  unfold M_L_GapsRead
  rw [gread_eq' h0 hb hm lb, gapsRead_eq h0 hb, begun_gaps' h0]
  have s1 := gr_short (m := m) (p := p) (a := a) (k := k) (many := many) hb
  simp only [Option.bind_some, if_true]
  rw [same_ints' (by omega) (by omega)]
  simp [M_L_GapsRead_j1]
theorem st_gap {b : Bool} {a n : Int} (ha : Nd a) (hn : Nd n) (hb : b = true → a < n) : st b a (if b then n - a - 1 else foldOf (n - a)) = some n := by
  have h1 := ha.1; have h2 := ha.2; have h3 := hn.1; have h4 := hn.2
  unfold st
  cases b with
  | true =>
    have := hb rfl
    simp only [if_true]
    rw [if_neg (by omega), show a + (n - a - 1) + 1 = n from by omega, if_pos hn]
  | false =>
    simp only [Bool.false_eq_true, if_false]
    rw [unfold_fold, show a + (n - a) = n from by omega, if_pos hn, if_neg]
    unfold foldOf; split <;> omega
theorem bk_gp : ∀ {b : Bool} {a q : Int} {l : List Int}, Nd a → Ris q l → (b = true → Ris a l) → bk b a (gp b a l) = some l
  | _, _, _, [], _, _, _ => rfl
  | b, a, q, n :: l, ha, hr, hb => by
    rw [gp, bk, st_gap ha hr.1 (fun h => (hb h).2.1)]
    simp only [Option.bind_some]
    rw [bk_gp hr.1 hr.2.2 (fun _ => hr.2.2)]
    rfl
theorem gap_st {b : Bool} {a g n : Int} (hg : 0 ≤ g) (h : st b a g = some n) : (if b then n - a - 1 else foldOf (n - a)) = g := by
  obtain ⟨_, _, e⟩ := st_nd h
  cases b with
  | true => simp only [if_true] at e ⊢; omega
  | false =>
    simp only [Bool.false_eq_true, if_false] at e ⊢
    rw [e, show a + unfoldOf g - a = unfoldOf g from by omega, fold_unfold hg]
theorem gp_bk : ∀ {b : Bool} {a : Int} {g r : List Int}, (∀ x ∈ g, 0 ≤ x) → bk b a g = some r → gp b a r = g ∧ (b = true → Ris a r) ∧ Ris (-1) r
  | _, _, [], r, _, h => by simp [bk] at h; subst h; exact ⟨rfl, fun _ => trivial, trivial⟩
  | b, a, x :: g, r, hg, h => by
    unfold bk at h
    cases hs : st b a x with
    | none => rw [hs] at h; simp at h
    | some n =>
      rw [hs] at h
      simp only [Option.bind_some] at h
      cases hb : bk true n g with
      | none => rw [hb] at h; simp at h
      | some r' =>
        rw [hb] at h
        simp only [Option.map_some, Option.some.injEq] at h
        obtain ⟨e1, e2, e3⟩ := gp_bk (fun y hy => hg y (List.mem_cons_of_mem _ hy)) hb
        obtain ⟨s1, s2, s3⟩ := st_nd hs
        have hx := hg x List.mem_cons_self
        rw [← h]
        refine ⟨by rw [gp, e1, gap_st hx hs], fun hb => ?_, ?_⟩
        · subst hb
          simp only [if_true] at s3
          exact ⟨s1, by omega, e2 rfl⟩
        · have := s1.1
          exact ⟨s1, by omega, e2 rfl⟩
theorem law_gback {F : Nat} (h0 : 20000 ≤ F) {l g : List Int} {a : Int} (hg : N64 g) : M_L_GapsBack F l g a = some true := by
  unfold M_L_GapsBack
  rw [gaps_eq h0, gback_eq h0 hg, begun_gaps' h0]
  simp only [Option.bind_some, Bool.not_true, Bool.false_eq_true, if_false]
  have hj2 : M_L_GapsBack_j2 F g a (gb g a) = some true := by
    unfold M_L_GapsBack_j2
    unfold gb
    by_cases h1 : 300 < g.length
    · rw [if_pos h1, if_pos (by simp)]; rfl
    · rw [if_neg h1]
      by_cases h2 : Nd a
      · rw [if_pos h2]
        cases hb : bk false a g with
        | none => simp
        | some r =>
          obtain ⟨e1, _, e3⟩ := gp_bk (fun y hy => (hg y hy).1) hb
          have hl := bk_len hb
          have hgg : ggOf r a = 0 := ggOf_ok.2 ⟨by omega, e3, h2⟩
          simp only
          rw [if_neg (by simp), gaps_eq h0, gg_form hgg, e1]
          simp only [Option.bind_some, beq_self_eq_true, if_true]
          rw [same_nums (by omega) (by omega)]
          simp only [Option.bind_some, M_L_GapsBack_j3, if_true]
          rw [gCheck_eq h0, gkc_ris.2 ⟨by omega, e3⟩]
          rfl
      · rw [if_neg h2, if_pos (by simp)]; rfl
  by_cases h : ggOf l a = 0
  · obtain ⟨r1, r2, r3⟩ := ggOf_ok.1 h
    have hN : N64 (gp false a l) := fun x hx => by have := gp_40 r3 r2 (fun h => by cases h) x hx; omega
    rw [gg_form h, if_pos (by rfl)]
    simp only
    rw [gback_eq h0 hN]
    have hgb : gb (gp false a l) a = (l, 0) := by
      unfold gb
      rw [gp_len, if_neg (by omega), if_pos r3, bk_gp r3 r2 (fun h => by cases h)]
    rw [hgb]
    simp only [Option.bind_some, bne_self_eq_false, Bool.false_eq_true, if_false]
    rw [same_ints' (by omega) (by omega)]
    simp only [Option.bind_some, M_L_GapsBack_j5, Bool.not_true, Bool.false_eq_true, if_false]
    exact hj2
  · rw [gg_bad h, if_neg (by simpa using h)]
    exact hj2
theorem gp_shift (by_ : Int) : ∀ (b : Bool) (a : Int) (l : List Int), gp b (a + by_) (l.map (· + by_)) = gp b a l
  | _, _, [] => rfl
  | b, a, n :: l => by
    rw [List.map_cons, gp, gp, gp_shift by_ true n l]
    rw [show n + by_ - (a + by_) = n - a from by omega]
theorem shift_l {F : Nat} {l : List Int} {a by_ : Int} {x6 : List Int × Int} (hm : l.length ≤ 300) (hl : ∀ x ∈ l, Nd x) (hb : -1048576 ≤ by_ ∧ by_ ≤ 1048576) : ∀ (k i : Nat), l.length < k + i → i ≤ l.length →
    M_L_GapsShift_l6 F l a by_ x6 k ((l.take i).map (· + by_), (i : Int)) = M_L_GapsShift_j2 F a by_ x6 (l.map (· + by_))
  | 0, _, _, _ => by omega
  | k + 1, i, h, hi => by
    show M_L_GapsShift_b6 F l a by_ x6 (M_L_GapsShift_l6 F l a by_ x6 k) ((l.take i).map (· + by_)) (i : Int) = _
    unfold M_L_GapsShift_b6
    by_cases hlt : i < l.length
    · have hx := hl _ (List.getElem_mem hlt)
      have h1 := hx.1; have h2 := hx.2
      rw [if_pos (by simp; omega), idx_nat, List.getElem?_eq_getElem hlt]
      simp only [Option.bind_some]
      rw [iadd_i64 (by omega) (by omega), app_eq (by simp; omega), iadd1_n (by omega)]
      simp only [Option.bind_some]
      have e : (l.take i).map (· + by_) ++ [l[i] + by_] = (l.take (i + 1)).map (· + by_) := by
        rw [List.take_add_one, List.getElem?_eq_getElem hlt, List.map_append]; rfl
      rw [e]
      exact shift_l hm hl hb k (i + 1) (by omega) (by omega)
    · rw [if_neg (by simp; omega)]
      obtain rfl : i = l.length := by omega
      rw [List.take_length]
theorem ris_nd : ∀ {q : Int} {l : List Int}, Ris q l → ∀ x ∈ l, Nd x
  | _, [], _ => by intro x hx; simp at hx
  | _, n :: l, h => by
    intro x hx
    rcases List.mem_cons.1 hx with rfl | hx
    · exact h.1
    · exact ris_nd h.2.2 x hx
theorem gk_shift {by_ : Int} : ∀ {q q' : Int} {l : List Int}, Ris q l → (q' = q + by_ ∨ q' < 0) → gk q' (l.map (· + by_)) = 0 ∨ gk q' (l.map (· + by_)) = 3
  | _, _, [], _, _ => .inl rfl
  | q, q', n :: l, h, hq => by
    rw [List.map_cons]
    unfold gk
    by_cases h1 : 0 ≤ n + by_ ∧ n + by_ ≤ 1048576
    · have h2 := h.2.1
      rw [if_pos h1, if_neg (show ¬ n + by_ ≤ q' by omega)]
      exact gk_shift h.2.2 (.inl rfl)
    · rw [if_neg h1]; exact .inr rfl
theorem law_gshift {F : Nat} (h0 : 20000 ≤ F) {l : List Int} {a by_ : Int} : M_L_GapsShift F l a by_ = some true := by
  unfold M_L_GapsShift
  rw [gaps_eq h0, begun_gaps' h0]
  simp only [Option.bind_some, Bool.not_true, Bool.false_eq_true, if_false]
  by_cases h : ggOf l a = 0
  · obtain ⟨r1, r2, r3⟩ := ggOf_ok.1 h
    by_cases hb : by_ < -1048576 ∨ 1048576 < by_
    · rw [if_pos (by simp only [Bool.or_eq_true, decide_eq_true_eq]; omega)]
    · rw [gg_form h, if_neg (by simp only [Bool.or_eq_true, decide_eq_true_eq]; simp; omega)]
      have := shift_l (F := F) (a := a) (by_ := by_) (x6 := (gp false a l, 0)) r1 (ris_nd r2) (by omega) F 0 (by omega) (by omega)
      rw [List.take_zero] at this
      have e : M_L_GapsShift_l6 F l a by_ (gp false a l, 0) F ([], 0) = M_L_GapsShift_j2 F a by_ (gp false a l, 0) (l.map (· + by_)) := this
      rw [e]
      unfold M_L_GapsShift_j2
      have h1 := r3.1; have h2 := r3.2
      rw [iadd_i64 (by omega) (by omega), gaps_eq h0]
      simp only [Option.bind_some]
      have hgk : gkc (l.map (· + by_)) = 0 ∨ gkc (l.map (· + by_)) = 3 := by
        unfold gkc
        rw [List.length_map, if_neg (by omega)]
        exact gk_shift r2 (.inr (by omega))
      have hgo : ggOf (l.map (· + by_)) (a + by_) = 0 ∨ ggOf (l.map (· + by_)) (a + by_) = 3 := by
        unfold ggOf
        rcases hgk with hg | hg
        · rw [if_neg (by simp [hg])]
          by_cases h3 : Nd (a + by_)
          · rw [if_pos h3]; exact .inl rfl
          · rw [if_neg h3]; exact .inr rfl
        · rw [if_pos (by rw [hg]; decide), hg]; exact .inr rfl
      rcases hgo with hg | hg
      · rw [gg_form hg, gp_shift, if_neg (by simp), if_pos (by rfl)]
        simp only
        rw [same_nums (by rw [gp_len]; omega) (by rw [gp_len]; omega)]
        rfl
      · rw [gg_bad (by rw [hg]; decide), hg]
        rfl
  · rw [gg_bad h, if_pos (by simp [h])]
theorem zq_at {n k : Nat} (hk : 1 ≤ k) (hk2 : k ≤ 16) (hn : n ≤ 1099511627776) (p r : List Int) : zq k (p ++ ze n k ++ r) p.length = ((n : Int), ((p.length + (ze n k).length : Nat) : Int), 0) := by
  unfold zq
  have a1 := zf_le n k
  have a2 := zt_gt (n := n) hk
  have h40 := (zt_56 hn hk2).1
  have hd : (p ++ ze n k ++ r).drop p.length = un (zh n k) ++ (le (n + 1 - zf n k) (zt n k - zf n k) ++ r) := by
    rw [List.append_assoc, List.drop_left]; unfold ze; rw [List.append_assoc]
  rw [hd, fz_un]
  simp only
  rw [if_neg (by omega)]
  have := fl_le (n := n + 1 - zf n k) (m := zt n k - zf n k) (by omega) (p ++ un (zh n k)) r
  rw [List.length_append, un_len] at this
  have e : p ++ ze n k ++ r = p ++ un (zh n k) ++ le (n + 1 - zf n k) (zt n k - zf n k) ++ r := by unfold ze; simp [List.append_assoc]
  have e2 : 2 ^ (zh n k * k + k) - 2 ^ (zh n k * k) = zt n k - zf n k := rfl
  rw [e, e2, Nat.add_assoc, this]
  have hdm : 2 ^ (zh n k * k) + (n + 1 - zf n k) - 1 = n := by
    have : 2 ^ (zh n k * k) = zf n k := rfl
    omega
  simp only [Option.map_some, en, hdm]
  rw [if_neg (by omega)]
  unfold ze
  rw [List.length_append, un_len, Nat.add_assoc]
theorem gfr_zes {k : Nat} (hk : 1 ≤ k) (hk2 : k ≤ 16) : ∀ {g rs : List Int} {b : Bool} {a : Int} (p r : List Int), L40 g → bk b a g = some rs → gfr (p ++ zes k g ++ r) k g.length b a p.length = .inr (rs, p.length + (zes k g).length)
  | [], rs, b, a, p, r, _, h => by simp [bk] at h; subst h; simp [gfr, zes]
  | x :: g, rs, b, a, p, r, hg, h => by
    have hx := hg x List.mem_cons_self
    obtain ⟨n, hn⟩ := Int.eq_ofNat_of_zero_le hx.1
    unfold bk at h
    cases hs : st b a x with
    | none => rw [hs] at h; simp at h
    | some y =>
      rw [hs] at h
      simp only [Option.bind_some] at h
      cases hb : bk true y g with
      | none => rw [hb] at h; simp at h
      | some rs' =>
        rw [hb] at h
        simp only [Option.map_some, Option.some.injEq] at h
        have hz := zq_at hk hk2 (n := n) (by omega) p (zes k g ++ r)
        have e : p ++ zes k (x :: g) ++ r = p ++ ze n k ++ (zes k g ++ r) := by rw [zes_cons, hn, Int.toNat_natCast]; simp [List.append_assoc]
        have ih := gfr_zes hk hk2 (p ++ ze n k) r (fun y hy => hg y (List.mem_cons_of_mem _ hy)) hb
        have e2 : p ++ ze n k ++ zes k g ++ r = p ++ ze n k ++ (zes k g ++ r) := by simp [List.append_assoc]
        rw [e2, List.length_append] at ih
        rw [e, List.length_cons, gfr, hz]
        simp only [ne_eq, not_true_eq_false, if_false, Int.toNat_natCast]
        rw [← hn, hs]
        simp only
        rw [ih, ← h, zes_cons, hn, Int.toNat_natCast, List.length_append, Nat.add_assoc]
theorem law_gbits {F : Nat} (h0 : 20000 ≤ F) {l b c : List Int} {a k m n : Int} (hb : U8s b) (hc : U8s c) (hm : I64 m) (hn : I64 n) (lb : b.length ≤ 9223372036854775807) (lc : c.length ≤ 9223372036854775807) : M_L_GapsBits F l a k m b n c = some true := by
  unfold M_L_GapsBits
  rw [gwrite_eq h0, begun_gaps' h0, begun_bits' h0]
  simp only [Option.bind_some, Bool.not_true, Bool.false_eq_true, if_false]
  unfold M_L_GapsBits_j2
  rw [if_neg (by simp)]
  by_cases h : gwOf l a k = 0
  · have hgg : ggOf l a = 0 := by
      by_cases h1 : ggOf l a = 0
      · exact h1
      · rw [gwOf_1 h1] at h; exact h
    have hz : Zk k := by
      by_cases h1 : Zk k
      · exact h1
      · rw [gwOf_2 hgg h1] at h; simp at h
    obtain ⟨r1, r2, r3⟩ := ggOf_ok.1 hgg
    obtain ⟨k, rfl, k1, k2⟩ := zk_nat hz
    have hle : (zes k (gp false a l)).length ≤ 8192 := by
      rw [gwOf_3 hgg hz, Int.toNat_natCast] at h
      split at h
      · simp at h
      · omega
    have hL : L40 (gp false a l) := fun x hx => by have := gp_40 r3 r2 (fun h => by cases h) x hx; omega
    have hzb := zes_bit k (gp false a l)
    rw [gw_form h, Int.toNat_natCast]
    simp only [ok3]
    rw [join_eq h0 hb (pk_u8 hzb) hm (i64_len hle) lb (pk_len9 hle)]
    simp only [Option.bind_some]
    rcases chk_form hb (n := m) with h1 | ⟨x, hx, hxm, rfl, rfl⟩
    · rw [jn_bad1 h1]
      simp only
      rw [join_eq h0 (by intro y hy; simp at hy) hc ⟨by omega, by omega⟩ hn (by simp) lc]
      simp only [Option.bind_some]
      simp [h1, M_L_GapsBits_j4]
    · rw [jn_form hx hzb hxm hle]
      by_cases hs : x.length + (zes k (gp false a l)).length ≤ 8192
      · rw [if_pos hs]
        simp only
        have hA : (x ++ zes k (gp false a l)).length ≤ 8192 := by rw [List.length_append]; exact hs
        have hAb := bit_app hx hzb
        rw [join_eq h0 (pk_u8 hAb) hc (i64_len hA) hn (pk_len9 hA) lc]
        simp only [Option.bind_some]
        rcases chk_form hc (n := n) with h1 | ⟨y, hy, hym, rfl, rfl⟩
        · rw [jn_bad2 (chk_pk hA) h1]
          simp [h1, M_L_GapsBits_j4]
        · rw [jn_form hAb hy hA hym]
          by_cases hs2 : (x ++ zes k (gp false a l)).length + y.length ≤ 8192
          · have hB : (x ++ zes k (gp false a l) ++ y).length ≤ 8192 := by rw [List.length_append]; exact hs2
            have hBb := bit_app hAb hy
            rw [if_pos hs2]
            simp only [bne_self_eq_false, Bool.or_self, Bool.false_eq_true, if_false]
            rw [gread_eq' h0 (pk_u8 hBb) (i64_len hB) (pk_len9 hB)]
            have hMn : Mn (l.length : Int) := ⟨by omega, by omega⟩
            have hg := gr_form hBb (p := x.length) (k := k) (many := l.length) (a := a) hB (by rw [List.length_append, List.length_append]; omega) ⟨r3, hz, hMn⟩
            have hf := gfr_zes k1 k2 x y hL (bk_gp r3 r2 (fun h => by cases h))
            rw [gp_len] at hf
            rw [hg, hf]
            simp only [gfI, Option.bind_some, beq_self_eq_true, if_true, List.nil_append]
            rw [same_ints' (by omega) (by omega)]
            simp only [Option.bind_some, M_L_GapsBits_j5]
            rw [iadd_n (by omega)]
            simp
          · rw [if_neg hs2]
            simp [M_L_GapsBits_j4]
      · rw [if_neg hs]
        simp only
        rw [join_eq h0 (by intro y hy; simp at hy) hc ⟨by omega, by omega⟩ hn (by simp) lc]
        simp only [Option.bind_some]
        simp [M_L_GapsBits_j4]
  · rw [gw_bad h]
    simp only
    have hnil : U8s ([] : List Int) := by intro y hy; simp at hy
    rw [join_eq h0 hb hnil hm ⟨by omega, by omega⟩ lb (by simp)]
    simp only [Option.bind_some]
    have hj : U8s (jn m b 0 []).2.1 ∧ I64 (jn m b 0 []).1 := by
      by_cases h1 : (jn m b 0 []).2.2 = 0
      · obtain ⟨n', m', e1, e2, oa, ob, hs⟩ := join_inv h1
        rw [e1, e2, join_ok oa ob hs]
        exact ⟨pk_u8 (bit_app (bl_bit _ _) (bl_bit _ _)), ⟨by omega, by omega⟩⟩
      · rw [(join_err h1).1, (join_err h1).2]
        exact ⟨hnil, ⟨by omega, by omega⟩⟩
    have hjl := jn_short (n := m) (a := b) (m := 0) (b := [])
    rw [join_eq h0 hj.1 hc hj.2 hn (by omega) lc]
    simp only [Option.bind_some]
    rw [if_pos (by simp [h]), if_neg (by simpa using h), same_self (by show 0 < F; omega) (by simp)]
    rfl
theorem ris_take : ∀ {q : Int} {l : List Int} (n : Nat), Ris q l → Ris q (l.take n)
  | _, _, 0, _ => by rw [List.take_zero]; trivial
  | _, [], n + 1, _ => by simp [Ris]
  | q, x :: l, n + 1, h => ⟨h.1, h.2.1, ris_take n h.2.2⟩
theorem ris_drop : ∀ {q : Int} {l : List Int} {n : Nat} {x : Int}, Ris q l → l[n]? = some x → Ris x (l.drop (n + 1))
  | _, [], n, x, _, hx => by simp at hx
  | q, y :: l, 0, x, h, hx => by simp at hx; subst hx; exact h.2.2
  | q, y :: l, n + 1, x, h, hx => by rw [List.drop_succ_cons]; exact ris_drop h.2.2 (by simpa using hx)
theorem ris_weak {q q' : Int} {l : List Int} (h : Ris q l) (hq : q' ≤ q) : Ris q' l := by
  cases l with
  | nil => trivial
  | cons x l => exact ⟨h.1, by have := h.2.1; omega, h.2.2⟩
theorem gp_take : ∀ (n : Nat) (b : Bool) (a : Int) (l : List Int), gp b a (l.take n) = (gp b a l).take n
  | 0, _, _, l => by rw [List.take_zero, List.take_zero]; rfl
  | n + 1, b, a, [] => rfl
  | n + 1, b, a, x :: l => by rw [List.take_succ_cons, gp, gp, List.take_succ_cons, gp_take n]
theorem gp_drop : ∀ (n : Nat) (b : Bool) (a : Int) (l : List Int) {x : Int}, l[n]? = some x → (gp b a l).drop (n + 1) = gp true x (l.drop (n + 1))
  | _, _, _, [], x, h => by simp at h
  | 0, b, a, y :: l, x, h => by simp at h; subst h; rw [gp, List.drop_succ_cons, List.drop_succ_cons, List.drop_zero, List.drop_zero]
  | n + 1, b, a, y :: l, x, h => by rw [gp, List.drop_succ_cons, List.drop_succ_cons]; exact gp_drop n true y l (by simpa using h)
theorem law_gahead {F : Nat} (h0 : 20000 ≤ F) {l : List Int} {a n : Int} : M_L_GapsAhead F l a n = some true := by
  unfold M_L_GapsAhead
  rw [gaps_eq h0, begun_gaps' h0]
  simp only [Option.bind_some, Bool.not_true, Bool.false_eq_true, if_false]
  by_cases h : ggOf l a = 0
  · obtain ⟨r1, r2, r3⟩ := ggOf_ok.1 h
    by_cases hn : n < 1 ∨ (l.length : Int) ≤ n
    · rw [if_pos (by simp only [Bool.or_eq_true, decide_eq_true_eq]; omega)]
    · obtain ⟨n, rfl⟩ := Int.eq_ofNat_of_zero_le (show 0 ≤ n by omega)
      have hnl : n < l.length := by omega
      rw [gg_form h, if_neg (by simp only [Bool.or_eq_true, decide_eq_true_eq]; simp; omega)]
      have s1 := sub_n (l := l) (i := 0) (j := n) (by omega) (by omega)
      have s2 := sub_n (l := l) (i := n) (j := l.length) (by omega) (by omega)
      have s3 := sub_n (l := gp false a l) (i := 0) (j := n) (by omega) (by rw [gp_len]; omega)
      rw [show ((0 : Nat) : Int) = 0 from rfl, List.drop_zero] at s1 s3
      rw [List.take_length] at s2
      obtain ⟨x, hx⟩ : ∃ x, l[n - 1]? = some x := ⟨_, List.getElem?_eq_getElem (by omega)⟩
      have hxn : Nd x := ris_nd r2 x (List.mem_of_getElem? hx)
      have hr := ris_drop r2 hx
      rw [show n - 1 + 1 = n from by omega] at hr
      have g1 : ggOf (l.take n) a = 0 := ggOf_ok.2 ⟨by simp; omega, ris_take n r2, r3⟩
      have g2 : ggOf (l.drop n) x = 0 := ggOf_ok.2 ⟨by simp; omega, ris_weak hr (by have := hxn.1; omega), hxn⟩
      rw [s1]
      simp only [Option.bind_some]
      rw [gaps_eq h0, gg_form g1, s2]
      simp only [Option.bind_some]
      rw [isub1_n (by omega) (by omega), idx_nat, hx]
      simp only [Option.bind_some]
      rw [gaps_eq h0, gg_form g2, s3]
      simp only [Option.bind_some, bne_self_eq_false, Bool.or_self, Bool.false_eq_true, if_false]
      rw [gp_take, same_nums (by simp [gp_len]; omega) (by simp [gp_len]; omega)]
      simp only [Option.bind_some, Bool.not_true]
      unfold M_L_GapsAhead_j2
      have hL : ((gp false x (l.drop n)).length : Int) = isub .i64 (l.length : Int) (n : Int) := by
        rw [gp_len, isub_n (by omega) (by omega), List.length_drop]
      have hL2 : (((gp false x (l.drop n)).length : Int) != isub .i64 (l.length : Int) (n : Int)) = false := by rw [hL]; simp
      simp only
      rw [hL2]
      simp only [Bool.or_self, Bool.false_eq_true, if_false]
      have hd : l.drop n = l[n] :: l.drop (n + 1) := List.drop_eq_getElem_cons hnl
      have hln : l[n]? = some l[n] := List.getElem?_eq_getElem hnl
      rw [hd] at hr
      have hgn : (gp false a l)[n]? = some (l[n] - x - 1) := by
        have hdr := gp_drop (n - 1) false a l hx
        rw [show n - 1 + 1 = n from by omega, hd, gp] at hdr
        have : ((gp false a l).drop n)[0]? = some (l[n] - x - 1) := by rw [hdr]; rfl
        rwa [List.getElem?_drop, Nat.add_zero] at this
      have i0 : idx (gp false x (l.drop n)) 0 = some (foldOf (l[n] - x)) := by rw [hd]; rfl
      rw [i0, idx_nat, hgn]
      simp only [Option.bind_some]
      have q1 := hr.1.1; have q2 := hr.1.2; have q3 := hr.2.1; have q4 := hxn.1; have q5 := hxn.2
      have ef : foldOf (l[n] - x) = 2 * (l[n] - x) := by unfold foldOf; rw [if_neg (by omega)]
      have ea : iadd .u64 (l[n] - x - 1) 1 = l[n] - x := by unfold iadd; rw [wrap_u64 (by omega) (by omega)]; omega
      have em : imul .u64 2 (l[n] - x) = 2 * (l[n] - x) := by unfold imul; rw [wrap_u64 (by omega) (by omega)]
      rw [ea, em, ef, if_pos (by simp), iadd1_n (by omega)]
      have hlen1 : (gp false x (l.drop n)).length = l.length - n := by rw [gp_len, List.length_drop]
      have t1 := sub_n (l := gp false x (l.drop n)) (i := 1) (j := (gp false x (l.drop n)).length) (by omega) (Nat.le_refl _)
      have t2 := sub_n (l := gp false a l) (i := n + 1) (j := (gp false a l).length) (by rw [gp_len]; omega) (Nat.le_refl _)
      rw [List.take_length] at t1 t2
      rw [show ((1 : Nat) : Int) = 1 from rfl] at t1
      rw [t1, t2]
      simp only [Option.bind_some]
      have e1 : (gp false x (l.drop n)).drop 1 = gp true l[n] (l.drop (n + 1)) := by rw [hd, gp]; rfl
      rw [e1, gp_drop n false a l hln, same_nums (by rw [gp_len, List.length_drop]; omega) (by rw [gp_len, List.length_drop]; omega)]
      rfl
  · rw [gg_bad h, if_pos (by simp [h])]
end Go.Proofs.Ytlnmibipnabdiaa
