/- Plain facts of what the functions of this seat compute. -/
import Derived.Test.YtecangnmnkejfaaModels
import Derived.KernelRfl
namespace Go.Proofs.Ytecangnmnkejfaa
open Go SX
/-- The byte at place k of a list of bits. -/
def byt (l : List Int) (k : Nat) : Int :=
  l.getD (8 * k) 0 * 128 + l.getD (8 * k + 1) 0 * 64 + l.getD (8 * k + 2) 0 * 32 + l.getD (8 * k + 3) 0 * 16 + l.getD (8 * k + 4) 0 * 8 + l.getD (8 * k + 5) 0 * 4 + l.getD (8 * k + 6) 0 * 2 + l.getD (8 * k + 7) 0
def pk (l : List Int) : List Int := (List.range ((l.length + 7) / 8)).map (byt l)
def Bit (l : List Int) : Prop := ∀ x ∈ l, x = 0 ∨ x = 1
theorem Bit.getD {l : List Int} (h : Bit l) (i : Nat) : l.getD i 0 = 0 ∨ l.getD i 0 = 1 := by
  by_cases hi : i < l.length
  · have := h l[i] (List.getElem_mem hi)
    simpa [List.getD, hi] using this
  · left
    simp [List.getD, List.getElem?_eq_none (Nat.le_of_not_lt hi)]
theorem getD_ge {l : List Int} {i : Nat} (h : l.length ≤ i) : l.getD i 0 = 0 := by simp [List.getD, List.getElem?_eq_none h]
theorem getD_snoc (l : List Int) (x : Int) (i : Nat) : (l ++ [x]).getD i 0 = if i = l.length then x else l.getD i 0 := by
  by_cases h : i = l.length
  · subst h; simp [List.getD]
  · rw [if_neg h]
    by_cases h2 : i < l.length
    · simp [List.getD, List.getElem?_append_left h2]
    · rw [getD_ge (by simp; omega), getD_ge (by omega)]
theorem byt_range {l : List Int} (h : Bit l) (k : Nat) : 0 ≤ byt l k ∧ byt l k < 256 := by
  have h0 := h.getD (8 * k); have h1 := h.getD (8 * k + 1); have h2 := h.getD (8 * k + 2); have h3 := h.getD (8 * k + 3)
  have h4 := h.getD (8 * k + 4); have h5 := h.getD (8 * k + 5); have h6 := h.getD (8 * k + 6); have h7 := h.getD (8 * k + 7)
  unfold byt
  omega
theorem byt_snoc_other {l : List Int} {x : Int} {k : Nat} (h : k ≠ l.length / 8) : byt (l ++ [x]) k = byt l k := by
  unfold byt
  simp only [getD_snoc]
  rw [if_neg (by omega), if_neg (by omega), if_neg (by omega), if_neg (by omega), if_neg (by omega), if_neg (by omega), if_neg (by omega), if_neg (by omega)]
theorem byt_snoc_at {l : List Int} {x : Int} : byt (l ++ [x]) (l.length / 8) = byt l (l.length / 8) + x * 2 ^ (7 - l.length % 8) := by
  obtain ⟨k, hk⟩ : ∃ k, k = l.length / 8 := ⟨_, rfl⟩
  obtain ⟨r, hr⟩ : ∃ r, r = l.length % 8 := ⟨_, rfl⟩
  have hl : l.length = 8 * k + r := by omega
  have hr8 : r < 8 := by omega
  rw [← hk, ← hr]
  unfold byt
  simp only [getD_snoc, hl]
  have hg : ∀ j, r ≤ j → l.getD (8 * k + j) 0 = 0 := fun j hj => getD_ge (by omega)
  have g0 := hg 0; have g1 := hg 1; have g2 := hg 2; have g3 := hg 3; have g4 := hg 4; have g5 := hg 5; have g6 := hg 6; have g7 := hg 7
  rw [Nat.add_zero] at g0
  rcases (by omega : r = 0 ∨ r = 1 ∨ r = 2 ∨ r = 3 ∨ r = 4 ∨ r = 5 ∨ r = 6 ∨ r = 7) with rfl | rfl | rfl | rfl | rfl | rfl | rfl | rfl
  · rw [show (2 : Int) ^ (7 - 0) = 128 from by decide]
    rw [if_pos (by omega), if_neg (by omega), if_neg (by omega), if_neg (by omega), if_neg (by omega), if_neg (by omega), if_neg (by omega), if_neg (by omega)]
    have e0 := g0 (by omega)
    have e1 := g1 (by omega)
    have e2 := g2 (by omega)
    have e3 := g3 (by omega)
    have e4 := g4 (by omega)
    have e5 := g5 (by omega)
    have e6 := g6 (by omega)
    have e7 := g7 (by omega)
    omega
  · rw [show (2 : Int) ^ (7 - 1) = 64 from by decide]
    rw [if_neg (by omega), if_pos (by omega), if_neg (by omega), if_neg (by omega), if_neg (by omega), if_neg (by omega), if_neg (by omega), if_neg (by omega)]
    have e1 := g1 (by omega)
    have e2 := g2 (by omega)
    have e3 := g3 (by omega)
    have e4 := g4 (by omega)
    have e5 := g5 (by omega)
    have e6 := g6 (by omega)
    have e7 := g7 (by omega)
    omega
  · rw [show (2 : Int) ^ (7 - 2) = 32 from by decide]
    rw [if_neg (by omega), if_neg (by omega), if_pos (by omega), if_neg (by omega), if_neg (by omega), if_neg (by omega), if_neg (by omega), if_neg (by omega)]
    have e2 := g2 (by omega)
    have e3 := g3 (by omega)
    have e4 := g4 (by omega)
    have e5 := g5 (by omega)
    have e6 := g6 (by omega)
    have e7 := g7 (by omega)
    omega
  · rw [show (2 : Int) ^ (7 - 3) = 16 from by decide]
    rw [if_neg (by omega), if_neg (by omega), if_neg (by omega), if_pos (by omega), if_neg (by omega), if_neg (by omega), if_neg (by omega), if_neg (by omega)]
    have e3 := g3 (by omega)
    have e4 := g4 (by omega)
    have e5 := g5 (by omega)
    have e6 := g6 (by omega)
    have e7 := g7 (by omega)
    omega
  · rw [show (2 : Int) ^ (7 - 4) = 8 from by decide]
    rw [if_neg (by omega), if_neg (by omega), if_neg (by omega), if_neg (by omega), if_pos (by omega), if_neg (by omega), if_neg (by omega), if_neg (by omega)]
    have e4 := g4 (by omega)
    have e5 := g5 (by omega)
    have e6 := g6 (by omega)
    have e7 := g7 (by omega)
    omega
  · rw [show (2 : Int) ^ (7 - 5) = 4 from by decide]
    rw [if_neg (by omega), if_neg (by omega), if_neg (by omega), if_neg (by omega), if_neg (by omega), if_pos (by omega), if_neg (by omega), if_neg (by omega)]
    have e5 := g5 (by omega)
    have e6 := g6 (by omega)
    have e7 := g7 (by omega)
    omega
  · rw [show (2 : Int) ^ (7 - 6) = 2 from by decide]
    rw [if_neg (by omega), if_neg (by omega), if_neg (by omega), if_neg (by omega), if_neg (by omega), if_neg (by omega), if_pos (by omega), if_neg (by omega)]
    have e6 := g6 (by omega)
    have e7 := g7 (by omega)
    omega
  · rw [show (2 : Int) ^ (7 - 7) = 1 from by decide]
    rw [if_neg (by omega), if_neg (by omega), if_neg (by omega), if_neg (by omega), if_neg (by omega), if_neg (by omega), if_neg (by omega), if_pos (by omega)]
    have e7 := g7 (by omega)
    omega
theorem irem8 (n : Nat) : irem (n : Int) 8 = ((n % 8 : Nat) : Int) := by
  unfold irem; rw [Int.tmod_eq_emod_of_nonneg (by omega)]; omega
theorem iquo8 {n : Nat} (h : n ≤ 9223372036854775807) : iquo .i64 (n : Int) 8 = ((n / 8 : Nat) : Int) := by
  unfold iquo; rw [Int.tdiv_eq_ediv_of_nonneg (by omega), wrap_i64 (by omega) (by omega)]; omega
/-- A byte has nothing yet behind the last bit. -/
theorem byt_low {l : List Int} : byt l (l.length / 8) % 2 ^ (8 - l.length % 8) = 0 := by
  obtain ⟨k, hk⟩ : ∃ k, k = l.length / 8 := ⟨_, rfl⟩
  obtain ⟨r, hr⟩ : ∃ r, r = l.length % 8 := ⟨_, rfl⟩
  have hl : l.length = 8 * k + r := by omega
  have hr8 : r < 8 := by omega
  rw [← hk, ← hr]
  unfold byt
  have hg : ∀ j, r ≤ j → l.getD (8 * k + j) 0 = 0 := fun j hj => getD_ge (by omega)
  have g0 := hg 0; have g1 := hg 1; have g2 := hg 2; have g3 := hg 3; have g4 := hg 4; have g5 := hg 5; have g6 := hg 6; have g7 := hg 7
  rw [Nat.add_zero] at g0
  rcases (by omega : r = 0 ∨ r = 1 ∨ r = 2 ∨ r = 3 ∨ r = 4 ∨ r = 5 ∨ r = 6 ∨ r = 7) with rfl | rfl | rfl | rfl | rfl | rfl | rfl | rfl
  · have e0 := g0 (by omega); have e1 := g1 (by omega); have e2 := g2 (by omega); have e3 := g3 (by omega); have e4 := g4 (by omega); have e5 := g5 (by omega); have e6 := g6 (by omega); have e7 := g7 (by omega)
    rw [show (2 : Int) ^ (8 - 0) = 256 from by decide]; omega
  · have e1 := g1 (by omega); have e2 := g2 (by omega); have e3 := g3 (by omega); have e4 := g4 (by omega); have e5 := g5 (by omega); have e6 := g6 (by omega); have e7 := g7 (by omega)
    rw [show (2 : Int) ^ (8 - 1) = 128 from by decide]; omega
  · have e2 := g2 (by omega); have e3 := g3 (by omega); have e4 := g4 (by omega); have e5 := g5 (by omega); have e6 := g6 (by omega); have e7 := g7 (by omega)
    rw [show (2 : Int) ^ (8 - 2) = 64 from by decide]; omega
  · have e3 := g3 (by omega); have e4 := g4 (by omega); have e5 := g5 (by omega); have e6 := g6 (by omega); have e7 := g7 (by omega)
    rw [show (2 : Int) ^ (8 - 3) = 32 from by decide]; omega
  · have e4 := g4 (by omega); have e5 := g5 (by omega); have e6 := g6 (by omega); have e7 := g7 (by omega)
    rw [show (2 : Int) ^ (8 - 4) = 16 from by decide]; omega
  · have e5 := g5 (by omega); have e6 := g6 (by omega); have e7 := g7 (by omega)
    rw [show (2 : Int) ^ (8 - 5) = 8 from by decide]; omega
  · have e6 := g6 (by omega); have e7 := g7 (by omega)
    rw [show (2 : Int) ^ (8 - 6) = 4 from by decide]; omega
  · have e7 := g7 (by omega)
    rw [show (2 : Int) ^ (8 - 7) = 2 from by decide]; omega
theorem byt_end {l : List Int} (h : l.length % 8 = 0) : byt l (l.length / 8) = 0 := by
  unfold byt
  rw [getD_ge (by omega), getD_ge (by omega), getD_ge (by omega), getD_ge (by omega), getD_ge (by omega), getD_ge (by omega), getD_ge (by omega), getD_ge (by omega)]
  rfl
theorem ior_comm (k : IntKind) (a b : Int) : ior k a b = ior k b a := by unfold ior; rw [BitVec.or_comm]
/-- The room for one more bit. -/
def room (l : List Int) : List Int := (List.range (l.length / 8 + 1)).map (byt l)
theorem room_j1 {F : Nat} {l : List Int} (hl : Bit l) {x : Int} (hx : x = 0 ∨ x = 1) (hn : l.length ≤ 1000000) : M_bits_writer_bit_j1 F (l.length : Int) x (room l) = some (((l.length + 1 : Nat) : Int), pk (l ++ [x])) := by
  unfold M_bits_writer_bit_j1
  rw [iquo8 (by omega), irem8]
  have hg : (room l)[l.length / 8]? = some (byt l (l.length / 8)) := by simp [room]
  rw [idx_nat, hg]
  simp only [Option.bind_some]
  have hc : decide ((0 : Int) ≤ ((l.length % 8 : Nat) : Int)) = true := decide_eq_true (by omega)
  rw [hc]
  simp only [chk, if_true, lett, Int.toNat_natCast]
  have hb := byt_range hl (l.length / 8)
  have hr8 : l.length % 8 < 8 := Nat.mod_lt _ (by decide)
  have e1 : ishl .u64 x 7 = x * 128 := by
    have := ishl_u64 (a := x) (m := 7) (by decide)
    rw [show ((7 : Nat) : Int) = 7 from rfl] at this
    rw [this]
    rcases hx with rfl | rfl <;> decide
  have e2 : iconv .u8 (x * 128) = x * 128 := wrap_u8 (by omega) (by omega)
  have e3 : ishr .u8 (x * 128) ((l.length % 8 : Nat) : Int) = x * 2 ^ (7 - l.length % 8) := by
    rw [ishr_eq (by simp only [IntKind.bits]; omega)]
    have key : ∀ r : Fin 8, ((0 : Int) * 128 / 2 ^ r.val = 0 * 2 ^ (7 - r.val)) ∧ ((1 : Int) * 128 / 2 ^ r.val = 1 * 2 ^ (7 - r.val)) := by decide
    have := key ⟨l.length % 8, hr8⟩
    rcases hx with rfl | rfl
    · exact this.1
    · exact this.2
  have key2 : ∀ r : Fin 8, (1 : Int) ≤ 2 ^ (7 - r.val) ∧ (2 : Int) ^ (8 - r.val) = 2 * 2 ^ (7 - r.val) ∧ (2 : Int) ^ (7 - r.val) ≤ 128 ∧ (256 : Int) % 2 ^ (8 - r.val) = 0 ∧ (2 : Int) ^ (8 - r.val) ≤ 256 := by decide
  have hk2 := key2 ⟨l.length % 8, hr8⟩
  simp only at hk2
  have hat := byt_snoc_at (l := l) (x := x)
  have hb2 : Bit (l ++ [x]) := by
    intro y hy
    rcases List.mem_append.1 hy with h | h
    · exact hl y h
    · simp at h; subst h; exact hx
  have hbb := byt_range hb2 (l.length / 8)
  have e4 : ior .u8 (byt l (l.length / 8)) (x * 2 ^ (7 - l.length % 8)) = byt (l ++ [x]) (l.length / 8) := by
    rw [ior_comm, ior_add (m := 8 - l.length % 8) ?_ ?_ hb.1 byt_low rfl ?_]
    · rw [hat]; omega
    · rcases hx with rfl | rfl <;> omega
    · rcases hx with rfl | rfl <;> omega
    · simp only [IntKind.bits]
      rw [show (2 : Int) ^ 8 = 256 from by decide]
      omega
  rw [e1, e2, e3, e4, iadd_i64 (by omega) (by omega)]
  congr 2
  unfold room pk
  have hlen : ((l ++ [x]).length + 7) / 8 = l.length / 8 + 1 := by simp; omega
  rw [hlen]
  apply List.ext_getElem?
  intro k
  rw [List.getElem?_set]
  by_cases hk : l.length / 8 = k
  · subst hk; simp
  · rw [if_neg hk]
    simp only [List.getElem?_map]
    by_cases h3 : k < l.length / 8 + 1
    · rw [List.getElem?_range h3]
      simp only [Option.map_some]
      rw [byt_snoc_other (fun e => hk e.symm)]
    · rw [List.getElem?_eq_none (by simpa using h3)]
      rfl
theorem bit_eq {F : Nat} {l : List Int} (hl : Bit l) {x : Int} (hx : x = 0 ∨ x = 1) (hn : l.length ≤ 1000000) : M_bits_writer_bit F (l.length : Int) (pk l) x = some (((l.length + 1 : Nat) : Int), pk (l ++ [x])) := by
  unfold M_bits_writer_bit
  rw [irem8]
  by_cases h : l.length % 8 = 0
  · have h1 : ((((l.length % 8 : Nat) : Int) : Int) == 0) = true := by simp [h]
    simp only [h1, if_true]
    rw [app_eq (by simp [pk]; omega)]
    simp only [Option.bind_some]
    have : pk l ++ [0] = room l := by
      unfold pk room
      rw [show (l.length + 7) / 8 = l.length / 8 from by omega, List.range_succ, List.map_append]
      simp [byt_end h]
    rw [this]
    exact room_j1 hl hx hn
  · have h1 : ((((l.length % 8 : Nat) : Int) : Int) == 0) = false := by simp; omega
    simp only [h1, Bool.false_eq_true, if_false]
    have : pk l = room l := by
      unfold pk room
      rw [show (l.length + 7) / 8 = l.length / 8 + 1 from by omega]
    rw [this]
    exact room_j1 hl hx hn
def bitAt (b : List Int) (i : Nat) : Int := b.getD (i / 8) 0 / 2 ^ (7 - i % 8) % 2
def bl (b : List Int) (n : Nat) : List Int := (List.range n).map (bitAt b)
theorem bitAt_bit (b : List Int) (i : Nat) : bitAt b i = 0 ∨ bitAt b i = 1 := by unfold bitAt; omega
theorem bl_bit (b : List Int) (n : Nat) : Bit (bl b n) := by
  intro x hx
  obtain ⟨i, _, rfl⟩ := List.mem_map.1 hx
  exact bitAt_bit b i
theorem bl_len (b : List Int) (n : Nat) : (bl b n).length = n := by simp [bl]
def U8s (l : List Int) : Prop := ∀ n ∈ l, 0 ≤ n ∧ n < 256
theorem at_eq {F : Nat} {n : Int} {b : List Int} (hb : U8s b) {i : Nat} (hi : i / 8 < b.length) (hm : i ≤ 1000000) : M_bits_At F n b (i : Int) = some (bitAt b i) := by
  unfold M_bits_At
  rw [iquo8 (by omega), irem8, idx_nat]
  have hg : b[i / 8]? = some b[i / 8] := by simp [hi]
  rw [hg]
  simp only [Option.bind_some]
  have e1 : isub .i64 7 ((i % 8 : Nat) : Int) = ((7 - i % 8 : Nat) : Int) := by rw [isub_i64 (by omega) (by omega)]; omega
  rw [e1]
  have hc : decide ((0 : Int) ≤ ((7 - i % 8 : Nat) : Int)) = true := decide_eq_true (by omega)
  rw [hc]
  simp only [chk, if_true, lett]
  have hx := hb b[i / 8] (List.getElem_mem hi)
  rw [ishr_eq (by simp only [IntKind.bits]; omega)]
  have hp : (1 : Int) ≤ 2 ^ (7 - i % 8) := by
    have key : ∀ r : Fin 8, (1 : Int) ≤ 2 ^ (7 - r.val) := by decide
    exact key ⟨i % 8, Nat.mod_lt _ (by decide)⟩
  have h1 : 0 ≤ b[i / 8] / 2 ^ (7 - i % 8) := Int.ediv_nonneg hx.1 (by omega)
  have h2 : b[i / 8] / 2 ^ (7 - i % 8) ≤ b[i / 8] := Int.ediv_le_self _ hx.1
  have e2 : iconv .u64 (b[i / 8] / 2 ^ (7 - i % 8)) = b[i / 8] / 2 ^ (7 - i % 8) := wrap_u64 h1 (by omega)
  rw [e2]
  have e3 := iand_mask (k := .u64) (a := b[i / 8] / 2 ^ (7 - i % 8)) (m := 1) h1 (by simp only [IntKind.bits]; rw [show (2 : Int) ^ 64 = 18446744073709551616 from by decide]; omega) (by decide) rfl
  rw [show ((2 ^ 1 - 1 : Nat) : Int) = 1 from rfl, show (2 : Int) ^ 1 = 2 from rfl] at e3
  rw [e3]
  unfold bitAt
  simp [List.getD, hg]
theorem bl_succ (b : List Int) (n : Nat) : bl b (n + 1) = bl b n ++ [bitAt b n] := by simp [bl, List.range_succ]
/-- All places, one behind the other, written behind what is there. -/
theorem places_l {F : Nat} {n : Int} {b : List Int} (hb : U8s b) {yy : (Int × List Int) → Int → Option ((Int × List Int) ⊕ Empty)} (hy : ∀ (l : List Int) x, Bit l → (x = 0 ∨ x = 1) → l.length ≤ 100000 → yy ((l.length : Int), pk l) x = some (.inl (((l.length + 1 : Nat) : Int), pk (l ++ [x])))) {to : Nat} (ht : to ≤ 8 * b.length) (hm : to ≤ 10000) :
    ∀ (k i : Nat) (l : List Int), to < k + i → i ≤ to → Bit l → l.length + (to - i) ≤ 100000 →
      M_bits_places_1_l1 F yy (to : Int) n b k ((i : Int), ((l.length : Int), pk l)) = some (.inl (((l.length + (to - i) : Nat) : Int), pk (l ++ (bl b to).drop i)))
  | 0, i, l, h, hi, _, _ => by omega
  | k + 1, i, l, h, hi, hl, hc => by
    have hstep : M_bits_places_1_l1 F yy (to : Int) n b (k + 1) ((i : Int), ((l.length : Int), pk l)) = M_bits_places_1_b1 F yy (to : Int) n b (M_bits_places_1_l1 F yy (to : Int) n b k) (i : Int) ((l.length : Int), pk l) := rfl
    rw [hstep]
    unfold M_bits_places_1_b1
    by_cases hlt : i < to
    · have h1 : (i : Int) < (to : Int) := by omega
      simp only [h1, decide_true, if_true]
      rw [at_eq hb (by omega) (by omega)]
      simp only [Option.bind_some]
      have hx := bitAt_bit b i
      rw [hy l _ hl hx (by omega)]
      simp only [Option.bind_some, Sum.elim_inl]
      rw [iadd_i64 (by omega) (by omega), show (i : Int) + 1 = ((i + 1 : Nat) : Int) from by omega]
      have hl2 : Bit (l ++ [bitAt b i]) := by
        intro y hy2
        rcases List.mem_append.1 hy2 with h | h
        · exact hl y h
        · simp at h; subst h; exact hx
      have := places_l (F := F) (n := n) hb hy ht hm k (i + 1) (l ++ [bitAt b i]) (by omega) (by omega) hl2 (by simp; omega)
      rw [show (l ++ [bitAt b i]).length = l.length + 1 from by simp] at this
      rw [this]
      have hd : (bl b to).drop i = bitAt b i :: (bl b to).drop (i + 1) := by
        rw [List.drop_eq_getElem_cons (by rw [bl_len]; exact hlt)]
        congr 1
        simp [bl]
      rw [hd, List.append_assoc, show l.length + 1 + (to - (i + 1)) = l.length + (to - i) from by omega]
      rfl
    · have h1 : ¬ (i : Int) < (to : Int) := by omega
      simp only [h1, decide_false, Bool.false_eq_true, if_false]
      rw [List.drop_eq_nil_of_le (by rw [bl_len]; omega), List.append_nil, show l.length + (to - i) = l.length from by omega]
structure Ok (n : Nat) (b : List Int) : Prop where
  max : n ≤ 8192
  len : b.length = (n + 7) / 8
  low : n % 8 ≠ 0 → b.getD (n / 8) 0 % 2 ^ (8 - n % 8) = 0
theorem bl_getD {b : List Int} {n i : Nat} : (bl b n).getD i 0 = if i < n then bitAt b i else 0 := by
  by_cases h : i < n
  · rw [if_pos h]; simp [bl, List.getD, h]
  · rw [if_neg h]; exact getD_ge (by rw [bl_len]; omega)
theorem bits8 {x : Int} (h0 : 0 ≤ x) (h1 : x < 256) : x / 128 % 2 * 128 + x / 64 % 2 * 64 + x / 32 % 2 * 32 + x / 16 % 2 * 16 + x / 8 % 2 * 8 + x / 4 % 2 * 4 + x / 2 % 2 * 2 + x / 1 % 2 = x := by omega
theorem bitAt_8 (b : List Int) (k : Nat) : bitAt b (8 * k) = b.getD k 0 / 128 % 2 ∧ bitAt b (8 * k + 1) = b.getD k 0 / 64 % 2 ∧ bitAt b (8 * k + 2) = b.getD k 0 / 32 % 2 ∧ bitAt b (8 * k + 3) = b.getD k 0 / 16 % 2 ∧
    bitAt b (8 * k + 4) = b.getD k 0 / 8 % 2 ∧ bitAt b (8 * k + 5) = b.getD k 0 / 4 % 2 ∧ bitAt b (8 * k + 6) = b.getD k 0 / 2 % 2 ∧ bitAt b (8 * k + 7) = b.getD k 0 / 1 % 2 := by
  unfold bitAt
  rw [show 8 * k / 8 = k from by omega, show (8 * k + 1) / 8 = k from by omega, show (8 * k + 2) / 8 = k from by omega, show (8 * k + 3) / 8 = k from by omega, show (8 * k + 4) / 8 = k from by omega, show (8 * k + 5) / 8 = k from by omega, show (8 * k + 6) / 8 = k from by omega, show (8 * k + 7) / 8 = k from by omega,
    show 8 * k % 8 = 0 from by omega, show (8 * k + 1) % 8 = 1 from by omega, show (8 * k + 2) % 8 = 2 from by omega, show (8 * k + 3) % 8 = 3 from by omega, show (8 * k + 4) % 8 = 4 from by omega, show (8 * k + 5) % 8 = 5 from by omega, show (8 * k + 6) % 8 = 6 from by omega, show (8 * k + 7) % 8 = 7 from by omega]
  exact ⟨rfl, rfl, rfl, rfl, rfl, rfl, rfl, rfl⟩
theorem byt_bl {n : Nat} {b : List Int} (hb : U8s b) (h : Ok n b) {k : Nat} (hk : k < (n + 7) / 8) : byt (bl b n) k = b.getD k 0 := by
  have hx : 0 ≤ b.getD k 0 ∧ b.getD k 0 < 256 := by
    have hlt : k < b.length := by rw [h.len]; exact hk
    have := hb b[k] (List.getElem_mem hlt)
    simpa [List.getD, hlt] using this
  obtain ⟨c0, c1, c2, c3, c4, c5, c6, c7⟩ := bitAt_8 b k
  unfold byt
  simp only [bl_getD]
  rw [c0, c1, c2, c3, c4, c5, c6, c7]
  by_cases hf : 8 * k + 8 ≤ n
  · rw [if_pos (by omega), if_pos (by omega), if_pos (by omega), if_pos (by omega), if_pos (by omega), if_pos (by omega), if_pos (by omega), if_pos (by omega)]
    exact bits8 hx.1 hx.2
  · have hkn : n / 8 = k := by omega
    obtain ⟨r, hr⟩ : ∃ r, r = n % 8 := ⟨_, rfl⟩
    have hn : n = 8 * k + r := by omega
    have hlow := h.low (by omega)
    rw [hkn, ← hr] at hlow
    generalize b.getD k 0 = x at hx hlow
    rcases (by omega : r = 1 ∨ r = 2 ∨ r = 3 ∨ r = 4 ∨ r = 5 ∨ r = 6 ∨ r = 7) with rfl | rfl | rfl | rfl | rfl | rfl | rfl
    · rw [if_pos (by omega), if_neg (by omega), if_neg (by omega), if_neg (by omega), if_neg (by omega), if_neg (by omega), if_neg (by omega), if_neg (by omega)]
      rw [show (2 : Int) ^ (8 - 1) = 128 from by decide] at hlow
      omega
    · rw [if_pos (by omega), if_pos (by omega), if_neg (by omega), if_neg (by omega), if_neg (by omega), if_neg (by omega), if_neg (by omega), if_neg (by omega)]
      rw [show (2 : Int) ^ (8 - 2) = 64 from by decide] at hlow
      omega
    · rw [if_pos (by omega), if_pos (by omega), if_pos (by omega), if_neg (by omega), if_neg (by omega), if_neg (by omega), if_neg (by omega), if_neg (by omega)]
      rw [show (2 : Int) ^ (8 - 3) = 32 from by decide] at hlow
      omega
    · rw [if_pos (by omega), if_pos (by omega), if_pos (by omega), if_pos (by omega), if_neg (by omega), if_neg (by omega), if_neg (by omega), if_neg (by omega)]
      rw [show (2 : Int) ^ (8 - 4) = 16 from by decide] at hlow
      omega
    · rw [if_pos (by omega), if_pos (by omega), if_pos (by omega), if_pos (by omega), if_pos (by omega), if_neg (by omega), if_neg (by omega), if_neg (by omega)]
      rw [show (2 : Int) ^ (8 - 5) = 8 from by decide] at hlow
      omega
    · rw [if_pos (by omega), if_pos (by omega), if_pos (by omega), if_pos (by omega), if_pos (by omega), if_pos (by omega), if_neg (by omega), if_neg (by omega)]
      rw [show (2 : Int) ^ (8 - 6) = 4 from by decide] at hlow
      omega
    · rw [if_pos (by omega), if_pos (by omega), if_pos (by omega), if_pos (by omega), if_pos (by omega), if_pos (by omega), if_pos (by omega), if_neg (by omega)]
      rw [show (2 : Int) ^ (8 - 7) = 2 from by decide] at hlow
      omega
theorem pk_bl {n : Nat} {b : List Int} (hb : U8s b) (h : Ok n b) : pk (bl b n) = b := by
  unfold pk
  rw [bl_len]
  apply List.ext_getElem?
  intro k
  by_cases hk : k < (n + 7) / 8
  · rw [List.getElem?_map, List.getElem?_range hk]
    simp only [Option.map_some]
    rw [byt_bl hb h hk]
    have hlt : k < b.length := by rw [h.len]; exact hk
    simp [List.getD, hlt]
  · rw [List.getElem?_eq_none (by simpa using hk), List.getElem?_eq_none (by rw [h.len]; omega)]
/-- What 'Check' tells. -/
def chkOf (n : Int) (b : List Int) : Int :=
  if n < 0 ∨ 8192 < n then 3 else if (b.length : Int) ≠ (n + 7) / 8 then 1 else if n % 8 ≠ 0 ∧ b.getD (n.toNat / 8) 0 % 2 ^ (8 - n.toNat % 8) ≠ 0 then 1 else 0
theorem chkOf_ok {n : Int} {b : List Int} (h : chkOf n b = 0) : ∃ m : Nat, n = m ∧ Ok m b := by
  unfold chkOf at h
  split at h
  · simp at h
  · rename_i h1
    split at h
    · simp at h
    · rename_i h2
      split at h
      · simp at h
      · rename_i h3
        obtain ⟨m, rfl⟩ := Int.eq_ofNat_of_zero_le (show 0 ≤ n by omega)
        refine ⟨m, rfl, by omega, by omega, fun hm => ?_⟩
        simp only [Int.toNat_natCast] at h3
        by_cases hz : b.getD (m / 8) 0 % 2 ^ (8 - m % 8) = 0
        · exact hz
        · exact absurd ⟨by omega, hz⟩ h3
theorem check_eq {F : Nat} {n : Int} {b : List Int} (hb : U8s b) (h1 : -9223372036854775808 ≤ n) (h2 : n < 9223372036854775808) (hm : b.length ≤ 9223372036854775807) : M_bits_Check F n b = some (chkOf n b) := by
  unfold M_bits_Check chkOf
  by_cases c1 : n < 0 ∨ 8192 < n
  · have : (decide (n < 0) || decide (8192 < n)) = true := by simpa using c1
    rw [if_pos this, if_pos c1]
  · have : (decide (n < 0) || decide (8192 < n)) = false := by simpa using c1
    rw [this, if_neg c1]
    simp only [Bool.false_eq_true, if_false]
    obtain ⟨m, rfl⟩ := Int.eq_ofNat_of_zero_le (show 0 ≤ n by omega)
    have e1 : iquo .i64 (iadd .i64 (m : Int) 7) 8 = ((m : Int) + 7) / 8 := by
      rw [iadd_i64 (by omega) (by omega), show (m : Int) + 7 = ((m + 7 : Nat) : Int) from by omega, iquo8 (by omega)]
      omega
    rw [e1, irem8]
    by_cases c2 : (b.length : Int) ≠ ((m : Int) + 7) / 8
    · have : ((b.length : Int) != ((m : Int) + 7) / 8) = true := by simpa using c2
      rw [if_pos this, if_pos c2]
    · have : ((b.length : Int) != ((m : Int) + 7) / 8) = false := by simpa using c2
      rw [this, if_neg c2]
      simp only [Bool.false_eq_true, if_false]
      by_cases c3 : m % 8 = 0
      · have : ((((m % 8 : Nat) : Int)) != 0) = false := by simp [c3]
        have hn : ¬ ((m : Int) % 8 ≠ 0 ∧ b.getD ((m : Int).toNat / 8) 0 % 2 ^ (8 - (m : Int).toNat % 8) ≠ 0) := fun h => h.1 (by omega)
        rw [this, if_neg hn]
        simp [M_bits_Check_j2]
      · have : ((((m % 8 : Nat) : Int)) != 0) = true := by simp; omega
        rw [this]
        simp only [if_true]
        have hlen : b.length = m / 8 + 1 := by omega
        have e2 : isub .i64 (b.length : Int) 1 = ((m / 8 : Nat) : Int) := by rw [isub_i64 (by omega) (by omega)]; omega
        have hg : b[m / 8]? = some b[m / 8] := by simp [hlen]
        rw [e2, idx_nat, hg]
        simp only [Option.bind_some]
        have hc : decide ((0 : Int) ≤ ((m % 8 : Nat) : Int)) = true := decide_eq_true (by omega)
        rw [hc]
        simp only [chk, if_true]
        have hx := hb b[m / 8] (List.getElem_mem (by omega))
        have hgd : b.getD (m / 8) 0 = b[m / 8] := by simp [List.getD, hg]
        rw [Int.toNat_natCast, hgd]
        generalize b[m / 8] = x at hx
        have e3 : (ishl .u8 x ((m % 8 : Nat) : Int) != 0) = decide (x % 2 ^ (8 - m % 8) ≠ 0) := by
          have key : ishl .u8 x ((m % 8 : Nat) : Int) = (x * 2 ^ (m % 8)) % 256 := by
            unfold ishl
            have h : min (((m % 8 : Nat) : Int).toNat) (IntKind.bits .u8) = m % 8 := by simp [IntKind.bits]; omega
            rw [h, wrap_u8_mod]
          rw [key]
          rcases (by omega : m % 8 = 1 ∨ m % 8 = 2 ∨ m % 8 = 3 ∨ m % 8 = 4 ∨ m % 8 = 5 ∨ m % 8 = 6 ∨ m % 8 = 7) with h | h | h | h | h | h | h <;> rw [h]
          · rw [show (2 : Int) ^ 1 = 2 from rfl, show (2 : Int) ^ (8 - 1) = 128 from by decide]; by_cases hz : x % 128 = 0 <;> simp [hz] <;> omega
          · rw [show (2 : Int) ^ 2 = 4 from rfl, show (2 : Int) ^ (8 - 2) = 64 from by decide]; by_cases hz : x % 64 = 0 <;> simp [hz] <;> omega
          · rw [show (2 : Int) ^ 3 = 8 from rfl, show (2 : Int) ^ (8 - 3) = 32 from by decide]; by_cases hz : x % 32 = 0 <;> simp [hz] <;> omega
          · rw [show (2 : Int) ^ 4 = 16 from by decide]; try rw [show (2 : Int) ^ (8 - 4) = 16 from by decide]
            by_cases hz : x % 16 = 0 <;> simp [hz] <;> omega
          · rw [show (2 : Int) ^ 5 = 32 from by decide, show (2 : Int) ^ (8 - 5) = 8 from by decide]; by_cases hz : x % 8 = 0 <;> simp [hz] <;> omega
          · rw [show (2 : Int) ^ 6 = 64 from by decide, show (2 : Int) ^ (8 - 6) = 4 from by decide]; by_cases hz : x % 4 = 0 <;> simp [hz] <;> omega
          · rw [show (2 : Int) ^ 7 = 128 from by decide, show (2 : Int) ^ (8 - 7) = 2 from by decide]; by_cases hz : x % 2 = 0 <;> simp [hz] <;> omega
        rw [e3]
        unfold M_bits_Check_j2
        by_cases hz : x % 2 ^ (8 - m % 8) = 0
        · rw [if_neg (by simp [hz]), if_neg (by simp [hz])]
        · rw [if_pos (by simp [hz]), if_pos ⟨by omega, hz⟩]
theorem begun_bits (n : Nat) : M_L_bitsBegun (n + 200) = some true := by kernel_rfl
theorem clone_eq {F : Nat} {x : List Int} (h : x.length ≤ 1000000) : M_slices_Clone_byte_byte F x = some x := by
  unfold M_slices_Clone_byte_byte
  rw [app_eq (by simp; omega)]
  rfl
theorem own_eq {F : Nat} {n : Int} {b : List Int} (h : b.length ≤ 1000000) : M_bits_own F n b = some (n, b) := by
  unfold M_bits_own
  rw [clone_eq h]
  rfl
theorem both_eq {F : Nat} (hF : 20000 ≤ F) {n m : Nat} {a b : List Int} (ha : U8s a) (hb : U8s b) (oa : Ok n a) (ob : Ok m b) : M_bits_Both F n a m b = some (((n + m : Nat) : Int), pk (bl a n ++ bl b m)) := by
  unfold M_bits_Both
  have hal : a.length ≤ 1000000 := by rw [oa.len]; have := oa.max; omega
  rw [own_eq hal]
  simp only [Option.bind_some, M_bits_places, M_bits_places_1]
  have hm := ob.max
  have hn := oa.max
  have := places_l (F := F) (n := (m : Int)) hb (yy := fun (p : Int × List Int) (x53 : Int) => M_bits_Both_r2 F p.1 p.2 x53) (fun l x hl hx hlen => by
    simp only [M_bits_Both_r2]
    rw [bit_eq hl hx (by omega)]
    rfl) (to := m) (by rw [ob.len]; omega) (by omega) F 0 (bl a n) (by omega) (by omega) (bl_bit a n) (by rw [bl_len]; omega)
  rw [bl_len, pk_bl ha oa, List.drop_zero, Nat.sub_zero] at this
  rw [show ((0 : Nat) : Int) = 0 from rfl] at this
  have h2 : M_bits_places_1_l1 F (fun (x : Int × List Int) (x53 : Int) => match x with | (x45, x48) => M_bits_Both_r2 F x45 x48 x53) (m : Int) (m : Int) b F (0, ((n : Int), a)) = some (.inl (((n + m : Nat) : Int), pk (bl a n ++ bl b m))) := this
  rw [h2]
  rfl
def joinOf (n : Int) (a : List Int) (m : Int) (b : List Int) : Int :=
  if chkOf n a ≠ 0 then chkOf n a else if chkOf m b ≠ 0 then chkOf m b else if 8192 < n + m then 8 else 0
def jn (n : Int) (a : List Int) (m : Int) (b : List Int) : Int × List Int × Int :=
  if joinOf n a m b ≠ 0 then (0, [], joinOf n a m b) else (n + m, pk (bl a n.toNat ++ bl b m.toNat), 0)
def I64 (n : Int) : Prop := -9223372036854775808 ≤ n ∧ n < 9223372036854775808
theorem join_eq {F : Nat} (hF : 20000 ≤ F) {n m : Int} {a b : List Int} (ha : U8s a) (hb : U8s b) (hn : I64 n) (hm : I64 m) (la : a.length ≤ 9223372036854775807) (lb : b.length ≤ 9223372036854775807) : M_bits_Join F n a m b = some (jn n a m b) := by
  unfold M_bits_Join jn joinOf
  rw [check_eq ha hn.1 hn.2 la]
  simp only [Option.bind_some]
  by_cases h1 : chkOf n a = 0
  · obtain ⟨n', rfl, oa⟩ := chkOf_ok h1
    have hb1 : (chkOf (n' : Int) a == 0) = true := by simp [h1]
    rw [if_pos hb1, check_eq hb hm.1 hm.2 lb]
    simp only [Option.bind_some]
    unfold M_bits_Join_j1
    by_cases h2 : chkOf m b = 0
    · obtain ⟨m', rfl, ob⟩ := chkOf_ok h2
      have e1 : iadd .i64 (n' : Int) (m' : Int) = (n' : Int) + (m' : Int) := by
        have := oa.max; have := ob.max
        exact iadd_i64 (by omega) (by omega)
      rw [e1, h1, h2]
      by_cases h3 : (8192 : Int) < (n' : Int) + (m' : Int)
      · simp [h3, M_bits_Join_j2]
      · simp only [h3, beq_self_eq_true, decide_false, Bool.and_false, Bool.false_eq_true, if_false, ne_eq, not_true_eq_false, M_bits_Join_j2, bne_self_eq_false]
        rw [both_eq hF ha hb oa ob]
        simp
    · have hb2 : (chkOf m b == 0) = false := by simpa using h2
      have hb3 : (chkOf m b != 0) = true := by simpa using h2
      rw [hb2]
      simp only [Bool.false_and, Bool.false_eq_true, if_false, M_bits_Join_j2, hb3, if_true, h1, ne_eq, not_true_eq_false, h2, not_false_eq_true]
  · have hb1 : (chkOf n a == 0) = false := by simpa using h1
    have hb3 : (chkOf n a != 0) = true := by simpa using h1
    rw [hb1]
    simp only [Bool.false_eq_true, if_false, M_bits_Join_j1, hb1, Bool.false_and, M_bits_Join_j2, hb3, if_true, ne_eq, h1, not_false_eq_true]
def cutOf (n : Int) (b : List Int) (i j : Int) : Int := if chkOf n b ≠ 0 then chkOf n b else if i < 0 ∨ n < i ∨ j < i ∨ n < j then 3 else 0
def ct (n : Int) (b : List Int) (i j : Int) : Int × List Int × Int :=
  if cutOf n b i j ≠ 0 then (0, [], cutOf n b i j) else (j - i, pk ((bl b j.toNat).drop i.toNat), 0)
theorem cut_eq {F : Nat} (hF : 20000 ≤ F) {n i j : Int} {b : List Int} (hb : U8s b) (hn : I64 n) (lb : b.length ≤ 9223372036854775807) : M_bits_Cut F n b i j = some (ct n b i j) := by
  unfold M_bits_Cut ct cutOf
  rw [check_eq hb hn.1 hn.2 lb]
  simp only [Option.bind_some]
  by_cases h1 : chkOf n b = 0
  · obtain ⟨n', rfl, ob⟩ := chkOf_ok h1
    have hb1 : (chkOf (n' : Int) b == 0) = true := by simp [h1]
    rw [if_pos hb1]
    by_cases h2 : i < 0 ∨ (n' : Int) < i ∨ j < i ∨ (n' : Int) < j
    · have : ((((decide (i < 0)) || (decide ((n' : Int) < i))) || (decide (j < i))) || (decide ((n' : Int) < j))) = true := by
        simp only [Bool.or_eq_true, decide_eq_true_eq]; omega
      rw [this, if_pos h2]
      simp [M_bits_Cut_j5, M_bits_Cut_j2, h1]
    · have : ((((decide (i < 0)) || (decide ((n' : Int) < i))) || (decide (j < i))) || (decide ((n' : Int) < j))) = false := by
        rw [Bool.eq_false_iff]; intro h; apply h2; simp only [Bool.or_eq_true, decide_eq_true_eq] at h; omega
      rw [this, if_neg h2, h1]
      obtain ⟨i', rfl⟩ := Int.eq_ofNat_of_zero_le (show 0 ≤ i by omega)
      obtain ⟨j', rfl⟩ := Int.eq_ofNat_of_zero_le (show 0 ≤ j by omega)
      have hmx := ob.max
      have := places_l (F := F) (n := (n' : Int)) hb (yy := fun (p : Int × List Int) (x53 : Int) => M_bits_Cut_r4 F p.1 p.2 x53) (fun l x hl hx hlen => by
        simp only [M_bits_Cut_r4]
        rw [bit_eq hl hx (by omega)]
        rfl) (to := j') (by rw [ob.len]; omega) (by omega) F i' [] (by omega) (by omega) (by intro x hx; simp at hx) (by simp; omega)
      have h3 : M_bits_places_1_l1 F (fun (x : Int × List Int) (x59 : Int) => match x with | (x51, x54) => M_bits_Cut_r4 F x51 x54 x59) (j' : Int) (n' : Int) b F ((i' : Int), (0, ([] : List Int))) = some (.inl (((([] : List Int).length + (j' - i') : Nat) : Int), pk ([] ++ (bl b j').drop i'))) := this
      simp only [M_bits_Cut_j5, M_bits_Cut_j2, Bool.false_eq_true, if_false, bne_self_eq_false, M_bits_places, Option.bind_some, M_bits_places_1, ne_eq, not_true_eq_false, Int.toNat_natCast]
      rw [h3]
      simp only [Option.bind_some, Sum.elim_inl, List.nil_append, List.length_nil, Nat.zero_add]
      congr 2
      omega
  · have hb1 : (chkOf n b == 0) = false := by simpa using h1
    have hb3 : (chkOf n b != 0) = true := by simpa using h1
    rw [hb1]
    simp only [Bool.false_eq_true, if_false, M_bits_Cut_j5, M_bits_Cut_j2, hb3, if_true, ne_eq, h1, not_false_eq_true]
theorem pk_getD {l : List Int} {k : Nat} (hk : k < (l.length + 7) / 8) : (pk l).getD k 0 = byt l k := by
  unfold pk
  simp [List.getD, hk]
theorem pk_u8 {l : List Int} (h : Bit l) : U8s (pk l) := by
  intro x hx
  obtain ⟨k, _, rfl⟩ := List.mem_map.1 hx
  exact byt_range h k
theorem pk_len (l : List Int) : (pk l).length = (l.length + 7) / 8 := by simp [pk]
theorem ok_pk {l : List Int} (hm : l.length ≤ 8192) : Ok l.length (pk l) where
  max := hm
  len := pk_len l
  low := fun h => by
    rw [pk_getD (by omega)]
    exact byt_low
theorem bitAt_pk {l : List Int} (h : Bit l) {i : Nat} (hi : i < l.length) : bitAt (pk l) i = l.getD i 0 := by
  obtain ⟨k, hk⟩ : ∃ k, k = i / 8 := ⟨_, rfl⟩
  obtain ⟨r, hr⟩ : ∃ r, r = i % 8 := ⟨_, rfl⟩
  have hl : i = 8 * k + r := by omega
  have hr8 : r < 8 := by omega
  obtain ⟨c0, c1, c2, c3, c4, c5, c6, c7⟩ := bitAt_8 (pk l) k
  have hb : (pk l).getD k 0 = byt l k := pk_getD (by omega)
  rw [hb] at c0 c1 c2 c3 c4 c5 c6 c7
  have hbd : ∀ q, 0 ≤ l.getD q 0 ∧ l.getD q 0 ≤ 1 := fun q => by have := h.getD q; omega
  have h0 := hbd (8 * k); have h1 := hbd (8 * k + 1); have h2 := hbd (8 * k + 2); have h3 := hbd (8 * k + 3)
  have h4 := hbd (8 * k + 4); have h5 := hbd (8 * k + 5); have h6 := hbd (8 * k + 6); have h7 := hbd (8 * k + 7)
  clear hbd hb
  unfold byt at c0 c1 c2 c3 c4 c5 c6 c7
  rcases (by omega : r = 0 ∨ r = 1 ∨ r = 2 ∨ r = 3 ∨ r = 4 ∨ r = 5 ∨ r = 6 ∨ r = 7) with rfl | rfl | rfl | rfl | rfl | rfl | rfl | rfl
  · rw [hl, Nat.add_zero, c0]; clear c0 c1 c2 c3 c4 c5 c6 c7; generalize l.getD (8 * k) 0 = y0 at *; generalize l.getD (8 * k + 1) 0 = y1 at *; generalize l.getD (8 * k + 2) 0 = y2 at *; generalize l.getD (8 * k + 3) 0 = y3 at *; generalize l.getD (8 * k + 4) 0 = y4 at *; generalize l.getD (8 * k + 5) 0 = y5 at *; generalize l.getD (8 * k + 6) 0 = y6 at *; generalize l.getD (8 * k + 7) 0 = y7 at *; clear h hi hl hr hk hr8; omega
  · rw [hl, c1]; clear c0 c1 c2 c3 c4 c5 c6 c7; generalize l.getD (8 * k) 0 = y0 at *; generalize l.getD (8 * k + 1) 0 = y1 at *; generalize l.getD (8 * k + 2) 0 = y2 at *; generalize l.getD (8 * k + 3) 0 = y3 at *; generalize l.getD (8 * k + 4) 0 = y4 at *; generalize l.getD (8 * k + 5) 0 = y5 at *; generalize l.getD (8 * k + 6) 0 = y6 at *; generalize l.getD (8 * k + 7) 0 = y7 at *; clear h hi hl hr hk hr8; omega
  · rw [hl, c2]; clear c0 c1 c2 c3 c4 c5 c6 c7; generalize l.getD (8 * k) 0 = y0 at *; generalize l.getD (8 * k + 1) 0 = y1 at *; generalize l.getD (8 * k + 2) 0 = y2 at *; generalize l.getD (8 * k + 3) 0 = y3 at *; generalize l.getD (8 * k + 4) 0 = y4 at *; generalize l.getD (8 * k + 5) 0 = y5 at *; generalize l.getD (8 * k + 6) 0 = y6 at *; generalize l.getD (8 * k + 7) 0 = y7 at *; clear h hi hl hr hk hr8; omega
  · rw [hl, c3]; clear c0 c1 c2 c3 c4 c5 c6 c7; generalize l.getD (8 * k) 0 = y0 at *; generalize l.getD (8 * k + 1) 0 = y1 at *; generalize l.getD (8 * k + 2) 0 = y2 at *; generalize l.getD (8 * k + 3) 0 = y3 at *; generalize l.getD (8 * k + 4) 0 = y4 at *; generalize l.getD (8 * k + 5) 0 = y5 at *; generalize l.getD (8 * k + 6) 0 = y6 at *; generalize l.getD (8 * k + 7) 0 = y7 at *; clear h hi hl hr hk hr8; omega
  · rw [hl, c4]; clear c0 c1 c2 c3 c4 c5 c6 c7; generalize l.getD (8 * k) 0 = y0 at *; generalize l.getD (8 * k + 1) 0 = y1 at *; generalize l.getD (8 * k + 2) 0 = y2 at *; generalize l.getD (8 * k + 3) 0 = y3 at *; generalize l.getD (8 * k + 4) 0 = y4 at *; generalize l.getD (8 * k + 5) 0 = y5 at *; generalize l.getD (8 * k + 6) 0 = y6 at *; generalize l.getD (8 * k + 7) 0 = y7 at *; clear h hi hl hr hk hr8; omega
  · rw [hl, c5]; clear c0 c1 c2 c3 c4 c5 c6 c7; generalize l.getD (8 * k) 0 = y0 at *; generalize l.getD (8 * k + 1) 0 = y1 at *; generalize l.getD (8 * k + 2) 0 = y2 at *; generalize l.getD (8 * k + 3) 0 = y3 at *; generalize l.getD (8 * k + 4) 0 = y4 at *; generalize l.getD (8 * k + 5) 0 = y5 at *; generalize l.getD (8 * k + 6) 0 = y6 at *; generalize l.getD (8 * k + 7) 0 = y7 at *; clear h hi hl hr hk hr8; omega
  · rw [hl, c6]; clear c0 c1 c2 c3 c4 c5 c6 c7; generalize l.getD (8 * k) 0 = y0 at *; generalize l.getD (8 * k + 1) 0 = y1 at *; generalize l.getD (8 * k + 2) 0 = y2 at *; generalize l.getD (8 * k + 3) 0 = y3 at *; generalize l.getD (8 * k + 4) 0 = y4 at *; generalize l.getD (8 * k + 5) 0 = y5 at *; generalize l.getD (8 * k + 6) 0 = y6 at *; generalize l.getD (8 * k + 7) 0 = y7 at *; clear h hi hl hr hk hr8; omega
  · rw [hl, c7]; clear c0 c1 c2 c3 c4 c5 c6 c7; generalize l.getD (8 * k) 0 = y0 at *; generalize l.getD (8 * k + 1) 0 = y1 at *; generalize l.getD (8 * k + 2) 0 = y2 at *; generalize l.getD (8 * k + 3) 0 = y3 at *; generalize l.getD (8 * k + 4) 0 = y4 at *; generalize l.getD (8 * k + 5) 0 = y5 at *; generalize l.getD (8 * k + 6) 0 = y6 at *; generalize l.getD (8 * k + 7) 0 = y7 at *; clear h hi hl hr hk hr8; omega
theorem bl_pk {l : List Int} (h : Bit l) : bl (pk l) l.length = l := by
  apply List.ext_getElem?
  intro i
  by_cases hi : i < l.length
  · have h1 : (bl (pk l) l.length)[i]? = some (bitAt (pk l) i) := by simp [bl, hi]
    rw [h1, bitAt_pk h hi]
    simp [List.getD, hi]
  · rw [List.getElem?_eq_none (by rw [bl_len]; omega), List.getElem?_eq_none (by omega)]
theorem same_l (F : Nat) {xs ys : List Int} (hl : xs.length = ys.length) (hm : xs.length ≤ 9223372036854775807) : ∀ (k i : Nat), xs.length < k + i → i ≤ xs.length →
    M_R_SameBytes_l3 F xs ys k (i : Int) = some (decide (xs.drop i = ys.drop i))
  | 0, i, h, _ => by omega
  | k + 1, i, h, hi => by
    show M_R_SameBytes_b3 F xs ys (M_R_SameBytes_l3 F xs ys k) i = _
    unfold M_R_SameBytes_b3
    by_cases hlt : i < xs.length
    · have hlt' : (i : Int) < (xs.length : Int) := by omega
      have hlt2 : i < ys.length := by omega
      have hg : xs[i]? = some xs[i] := by simp [hlt]
      have hg2 : ys[i]? = some ys[i] := by simp [hlt2]
      simp only [hlt', decide_true, if_true, idx_nat, hg, hg2, Option.bind_some]
      have e : (xs.drop i = ys.drop i) ↔ (xs[i] = ys[i] ∧ xs.drop (i + 1) = ys.drop (i + 1)) := by
        rw [List.drop_eq_getElem_cons hlt, List.drop_eq_getElem_cons hlt2, List.cons.injEq]
      simp only [e]
      by_cases he : xs[i] = ys[i]
      · simp only [he, bne_self_eq_false, Bool.false_eq_true, if_false, true_and]
        rw [iadd_i64 (by omega) (by omega), show (i : Int) + 1 = ((i + 1 : Nat) : Int) from by omega, same_l F hl hm k (i + 1) (by omega) (by omega)]
      · have : (xs[i] != ys[i]) = true := by simpa using he
        simp only [this, if_true, he, false_and, decide_false]
    · have hlt' : ¬ (i : Int) < (xs.length : Int) := by omega
      simp only [hlt', decide_false, Bool.false_eq_true, if_false]
      rw [List.drop_eq_nil_of_le (by omega), List.drop_eq_nil_of_le (by omega)]
      rfl
theorem sameBytes_eq {F : Nat} {xs ys : List Int} (hF : xs.length < F) (hm : xs.length ≤ 9223372036854775807) : M_R_SameBytes F xs ys = some (decide (xs = ys)) := by
  unfold M_R_SameBytes
  by_cases hl : xs.length = ys.length
  · have : (((xs.length : Int) : Int) != (ys.length : Int)) = false := by simp [hl]
    simp only [this, Bool.false_eq_true, if_false]
    have := same_l F hl hm F 0 (by omega) (by omega)
    simpa using this
  · have : (((xs.length : Int) : Int) != (ys.length : Int)) = true := by simp; omega
    simp only [this, if_true]
    have : xs ≠ ys := fun e => hl (by rw [e])
    simp [this]
theorem sameBits_eq {F : Nat} {n m : Int} {xs ys : List Int} (hF : xs.length < F) (hm : xs.length ≤ 9223372036854775807) : M_R_SameBits F n xs m ys = some (decide (n = m ∧ xs = ys)) := by
  unfold M_R_SameBits
  by_cases h : n = m
  · have hb : (n == m) = true := by simp [h]
    rw [if_pos hb, sameBytes_eq hF hm]
    simp [M_R_SameBits_j1, h]
  · have hb : (n == m) = false := by simpa using h
    rw [hb]
    simp [M_R_SameBits_j1, h]
theorem chkOf_of_ok {n : Nat} {b : List Int} (h : Ok n b) : chkOf (n : Int) b = 0 := by
  unfold chkOf
  have := h.max
  have := h.len
  rw [if_neg (by omega), if_neg (by omega), if_neg]
  rintro ⟨h1, h2⟩
  rw [Int.toNat_natCast] at h2
  exact h2 (h.low (by omega))
theorem bl_take {b : List Int} {n m : Nat} (h : n ≤ m) : (bl b m).take n = bl b n := by
  unfold bl
  rw [← List.map_take, List.take_range, Nat.min_eq_left h]
theorem bit_app {l k : List Int} (h : Bit l) (h2 : Bit k) : Bit (l ++ k) := by
  intro x hx
  rcases List.mem_append.1 hx with h3 | h3
  · exact h x h3
  · exact h2 x h3
theorem cut_pk {l : List Int} (hl : Bit l) (hm : l.length ≤ 8192) {i j : Nat} (hi : i ≤ j) (hj : j ≤ l.length) : ct (l.length : Int) (pk l) i j = (((j - i : Nat) : Int), pk ((l.take j).drop i), 0) := by
  have : cutOf (l.length : Int) (pk l) i j = 0 := by
    unfold cutOf
    rw [chkOf_of_ok (ok_pk hm), if_neg (by simp), if_neg (by omega)]
  unfold ct
  rw [this, if_neg (by simp), Int.toNat_natCast, Int.toNat_natCast, ← bl_take hj, bl_pk hl]
  congr 1
  omega
theorem begun_bits' {F : Nat} (hF : 20000 ≤ F) : M_L_bitsBegun F = some true := by
  obtain ⟨n, rfl⟩ : ∃ n, F = n + 200 := ⟨F - 200, by omega⟩
  exact begun_bits n
theorem two64 : (2 : Nat) ^ 64 = 18446744073709551616 := by decide
theorem ishr_n {n k : Nat} (hn : n < 18446744073709551616) : ishr .u64 (n : Int) (k : Int) = ((n / 2 ^ k : Nat) : Int) := by
  unfold ishr
  rw [Int.fdiv_eq_ediv_of_nonneg _ (by exact_mod_cast Nat.zero_le _), Int.toNat_natCast]
  simp only [IntKind.bits]
  by_cases h : k ≤ 64
  · rw [Nat.min_eq_left h]; norm_cast
  · rw [Nat.min_eq_right (by omega)]
    have h1 : n / 2 ^ 64 = 0 := Nat.div_eq_of_lt (by omega)
    have h2 : n / 2 ^ k = 0 := Nat.div_eq_of_lt (Nat.lt_of_lt_of_le hn (by rw [← two64]; exact Nat.pow_le_pow_right (by decide) (by omega)))
    rw [h2]
    have : ((n : Int) / 2 ^ 64) = ((n / 2 ^ 64 : Nat) : Int) := by norm_cast
    rw [this, h1]
theorem iand1_n {n : Nat} (hn : n < 18446744073709551616) : iand .u64 (n : Int) 1 = ((n % 2 : Nat) : Int) := by
  have e := iand_mask (k := .u64) (a := (n : Int)) (m := 1) (by omega) (by simp only [IntKind.bits]; rw [show (2 : Int) ^ 64 = 18446744073709551616 from by decide]; omega) (by decide) rfl
  rw [show ((2 ^ 1 - 1 : Nat) : Int) = 1 from rfl, show (2 : Int) ^ 1 = 2 from rfl] at e
  rw [e]; omega
theorem ishl_n {n k : Nat} (hk : k ≤ 64) : ishl .u64 (n : Int) (k : Int) = ((n * 2 ^ k % 18446744073709551616 : Nat) : Int) := by
  rw [ishl_u64 hk, Int.natCast_emod, Int.natCast_mul, Int.natCast_pow]; rfl
theorem ior_n {a b m : Nat} (ha : a < 2 ^ m) (hb : b % 2 ^ m = 0) (h : a + b < 18446744073709551616) : ior .u64 (b : Int) (a : Int) = ((b + a : Nat) : Int) := by
  rw [ior_comm, ior_add (m := m) (by omega) (by exact_mod_cast ha) (by omega) (by exact_mod_cast hb) rfl (by simp only [IntKind.bits]; rw [show (2 : Int) ^ 64 = 18446744073709551616 from by decide]; omega)]
  omega
theorem iadd_n {a b : Nat} (h : a + b < 9223372036854775808) : iadd .i64 (a : Int) (b : Int) = ((a + b : Nat) : Int) := by rw [iadd_i64 (by omega) (by omega)]; omega
theorem iadd1_n {a : Nat} (h : a + 1 < 9223372036854775808) : iadd .i64 (a : Int) 1 = ((a + 1 : Nat) : Int) := by rw [iadd_i64 (by omega) (by omega)]; omega
theorem isub_n {a b : Nat} (h : b ≤ a) (h2 : a < 9223372036854775808) : isub .i64 (a : Int) (b : Int) = ((a - b : Nat) : Int) := by rw [isub_i64 (by omega) (by omega)]; omega
theorem isub1_n {a : Nat} (h : 1 ≤ a) (h2 : a < 9223372036854775808) : isub .i64 (a : Int) 1 = ((a - 1 : Nat) : Int) := by rw [isub_i64 (by omega) (by omega)]; omega
/-- The bits of a number, in so many places, the highest one first. -/
def nb (n : Nat) : Nat → List Int
  | 0 => []
  | w + 1 => ((n / 2 ^ w % 2 : Nat) : Int) :: nb n w
theorem nb_len (n : Nat) : ∀ w, (nb n w).length = w
  | 0 => rfl
  | w + 1 => by simp [nb, nb_len n w]
theorem nb_bit (n : Nat) : ∀ w, Bit (nb n w)
  | 0 => by intro x hx; simp [nb] at hx
  | w + 1 => by
    intro x hx
    rcases List.mem_cons.1 hx with rfl | h
    · omega
    · exact nb_bit n w x h
/-- The number of bits. -/
def bv (l : List Int) : Nat := l.foldl (fun n b => 2 * n + b.toNat) 0
theorem bv_from (l : List Int) : ∀ m, l.foldl (fun n b => 2 * n + b.toNat) m = m * 2 ^ l.length + bv l := by
  induction l with
  | nil => intro m; simp [bv]
  | cons x l ih =>
    intro m
    show l.foldl _ _ = _
    rw [ih]
    show _ = _ + l.foldl _ _
    rw [ih, List.length_cons, Nat.pow_succ]
    generalize 2 ^ l.length = p
    rw [Nat.add_mul, Nat.add_mul]
    have : 2 * m * p = m * (p * 2) := by rw [Nat.mul_comm 2 m, Nat.mul_assoc, Nat.mul_comm 2 p]
    omega
theorem bv_app (l k : List Int) : bv (l ++ k) = bv l * 2 ^ k.length + bv k := by
  unfold bv
  rw [List.foldl_append, bv_from k]; rfl
theorem bv_cons (x : Int) (l : List Int) : bv (x :: l) = x.toNat * 2 ^ l.length + bv l := by
  have := bv_app [x] l
  simpa [bv] using this
theorem number_l {F : Nat} {n : Nat} (hn : n < 18446744073709551616) : ∀ (w k : Nat) (l : List Int), w < k → Bit l → l.length + w ≤ 100000 →
    M_bits_writer_number_l1 F (n : Int) k ((w : Int) - 1, (l.length : Int), pk l) = some (((l.length + w : Nat) : Int), pk (l ++ nb n w))
  | _, 0, _, h, _, _ => by omega
  | 0, k + 1, l, _, _, _ => by
    show M_bits_writer_number_b1 F (n : Int) _ (((0 : Nat) : Int) - 1) (l.length : Int) (pk l) = _
    unfold M_bits_writer_number_b1
    rw [if_neg (by simp)]
    simp [nb]
  | w + 1, k + 1, l, h, hl, hm => by
    show M_bits_writer_number_b1 F (n : Int) (M_bits_writer_number_l1 F (n : Int) k) (((w + 1 : Nat) : Int) - 1) (l.length : Int) (pk l) = _
    unfold M_bits_writer_number_b1
    rw [show ((w + 1 : Nat) : Int) - 1 = (w : Int) from by omega, if_pos (by simp)]
    have hc : decide ((0 : Int) ≤ (w : Int)) = true := decide_eq_true (by omega)
    rw [hc]
    simp only [chk, if_true]
    rw [ishr_n hn, iand1_n (by have := Nat.div_le_self n (2 ^ w); omega)]
    have hx : ((n / 2 ^ w % 2 : Nat) : Int) = 0 ∨ ((n / 2 ^ w % 2 : Nat) : Int) = 1 := by omega
    rw [bit_eq hl hx (by omega)]
    simp only [Option.bind_some]
    rw [isub_i64 (by omega) (by omega)]
    have := number_l (F := F) hn w k (l ++ [((n / 2 ^ w % 2 : Nat) : Int)]) (by omega) (bit_app hl (by intro y hy; simp only [List.mem_singleton] at hy; rw [hy]; exact hx)) (by simp; omega)
    rw [show (l ++ [((n / 2 ^ w % 2 : Nat) : Int)]).length = l.length + 1 from by simp] at this
    rw [this, List.append_assoc, show l.length + 1 + w = l.length + (w + 1) from by omega]
    rfl
theorem number_eq {F : Nat} {n w : Nat} {l : List Int} (hn : n < 18446744073709551616) (hF : w < F) (hl : Bit l) (hm : l.length + w ≤ 100000) :
    M_bits_writer_number F (l.length : Int) (pk l) (n : Int) (w : Int) = some (((l.length + w : Nat) : Int), pk (l ++ nb n w)) := by
  unfold M_bits_writer_number
  rw [isub_i64 (by omega) (by omega)]
  exact number_l hn w F l hF hl hm
theorem add_eq {F : Nat} {n w m : Nat} {b : List Int} (hn : n < 18446744073709551616) (hF : w < F) (hb : U8s b) (ob : Ok m b) (hw : w ≤ 10000) :
    M_bits_Add F (m : Int) b (n : Int) (w : Int) = some (((m + w : Nat) : Int), pk (bl b m ++ nb n w)) := by
  unfold M_bits_Add
  have := ob.max
  rw [own_eq (by rw [ob.len]; omega)]
  simp only [Option.bind_some]
  have h := number_eq (F := F) (l := bl b m) hn hF (bl_bit _ _) (by rw [bl_len]; omega)
  rw [bl_len, pk_bl hb ob] at h
  rw [h]; rfl
def putOf (m : Int) (b : List Int) (n w : Int) : Int :=
  if chkOf m b ≠ 0 then chkOf m b else if w < 0 ∨ 64 < w ∨ 2 ^ w.toNat ≤ n then 3 else if 8192 < m + w then 8 else 0
def pt (m : Int) (b : List Int) (n w : Int) : Int × List Int × Int :=
  if putOf m b n w ≠ 0 then (0, [], putOf m b n w) else (m + w, pk (bl b m.toNat ++ nb n.toNat w.toNat), 0)
def U64 (n : Int) : Prop := 0 ≤ n ∧ n < 18446744073709551616
theorem pt_err {m : Int} {b : List Int} {n w e : Int} (h : putOf m b n w = e) (he : e ≠ 0) : pt m b n w = (0, [], e) := by
  unfold pt; rw [h, if_pos he]
theorem pt_ok {m : Int} {b : List Int} {n w : Int} (h : putOf m b n w = 0) : pt m b n w = (m + w, pk (bl b m.toNat ++ nb n.toNat w.toNat), 0) := by
  unfold pt; rw [h]; rfl
theorem put_eq {F : Nat} (hF : 20000 ≤ F) {m n w : Int} {b : List Int} (hb : U8s b) (hm : I64 m) (hn : U64 n) (lb : b.length ≤ 9223372036854775807) : M_bits_Put F m b n w = some (pt m b n w) := by
  unfold M_bits_Put
  rw [check_eq hb hm.1 hm.2 lb]
  simp only [Option.bind_some]
  by_cases h1 : chkOf m b = 0
  · obtain ⟨m, rfl, ob⟩ := chkOf_ok h1
    obtain ⟨n, rfl⟩ := Int.eq_ofNat_of_zero_le hn.1
    have hn2 : n < 18446744073709551616 := by have := hn.2; omega
    have hmx := ob.max
    simp only [h1, bne_self_eq_false, Bool.false_eq_true, if_false]
    by_cases h2 : w < 0 ∨ 64 < w
    · rw [if_pos (by simpa using h2), pt_err (e := 3) (by unfold putOf; rw [if_neg (by simp [h1]), if_pos (by omega)]) (by decide)]
      rfl
    · rw [if_neg (by simpa using h2)]
      obtain ⟨w, rfl⟩ := Int.eq_ofNat_of_zero_le (show 0 ≤ w by omega)
      have hlt : n / 2 ^ w = 0 ↔ ¬ (2 : Int) ^ (w : Int).toNat ≤ (n : Int) := by
        rw [Int.toNat_natCast, show (2 : Int) ^ w = ((2 ^ w : Nat) : Int) from by norm_cast, Nat.div_eq_zero_iff]
        have : 0 < 2 ^ w := Nat.pow_pos (by decide)
        omega
      have hj6 : n / 2 ^ w = 0 → M_bits_Put_j6 F (m : Int) b (n : Int) (w : Int) 0 false = some (pt m b n w) := by
        intro h0
        unfold M_bits_Put_j6
        simp only [Bool.false_eq_true, if_false]
        rw [iadd_i64 (by omega) (by omega)]
        by_cases h3 : 8192 < (m : Int) + w
        · rw [if_pos (by simpa using h3), pt_err (e := 8) (by unfold putOf; rw [if_neg (by simp [h1]), if_neg (by omega), if_pos h3]) (by decide)]; rfl
        · rw [if_neg (by simpa using h3), pt_ok (by unfold putOf; rw [if_neg (by simp [h1]), if_neg (by omega), if_neg h3])]
          unfold M_bits_Put_j4
          simp only [bne_self_eq_false, Bool.false_eq_true, if_false]
          rw [add_eq hn2 (by omega) hb ob (by omega)]
          simp
      by_cases h4 : w = 64
      · subst h4
        rw [if_neg (by simp)]
        exact hj6 (Nat.div_eq_of_lt (by omega))
      · rw [if_pos (by simp; omega)]
        have hc : decide ((0 : Int) ≤ (w : Int)) = true := decide_eq_true (by omega)
        rw [hc]
        simp only [chk, if_true]
        rw [ishr_n hn2]
        by_cases h5 : n / 2 ^ w = 0
        · rw [h5]
          exact hj6 h5
        · have : ((((n / 2 ^ w : Nat) : Int)) != 0) = true := by rw [bne_iff_ne]; omega
          rw [this, pt_err (e := 3) (by unfold putOf; rw [if_neg (by simp [h1]), if_pos (by omega)]) (by decide)]
          rfl
  · have hb3 : (chkOf m b != 0) = true := by simpa using h1
    rw [if_pos hb3, pt_err (e := chkOf m b) (by unfold putOf; rw [if_pos h1]) h1]
    simp only [M_bits_Put_j4, hb3, if_true]
theorem bl_get {b : List Int} {n i : Nat} (h : i < n) : (bl b n)[i]? = some (bitAt b i) := by simp [bl, h]
theorem read_l {F : Nat} {n : Int} {m a w : Nat} {b : List Int} (hb : U8s b) (hlen : m ≤ 8 * b.length) (hm : m ≤ 10000) (ha : a + w ≤ m) (hw : w ≤ 64) : ∀ (k i v : Nat), w < k + i → i ≤ w → v < 2 ^ i →
    M_bits_Read_l3 F n b (a : Int) (w : Int) k ((v : Int), (i : Int)) = some (((v * 2 ^ (w - i) + bv (((bl b m).drop (a + i)).take (w - i)) : Nat) : Int), true)
  | 0, _, _, _, _, _ => by omega
  | k + 1, i, v, h, hi, hv => by
    show M_bits_Read_b3 F n b (a : Int) (w : Int) (M_bits_Read_l3 F n b (a : Int) (w : Int) k) (v : Int) (i : Int) = _
    unfold M_bits_Read_b3
    by_cases hlt : i < w
    · rw [if_pos (by simp; omega), iadd_n (by omega), at_eq hb (by omega) (by omega)]
      simp only [Option.bind_some]
      have hx := bitAt_bit b (a + i)
      have hv64 : 2 * v + 1 < 18446744073709551616 := by
        have : 2 ^ (i + 1) ≤ 2 ^ 64 := Nat.pow_le_pow_right (by decide) (by omega)
        rw [Nat.pow_succ, two64] at this
        omega
      obtain ⟨x, hxe⟩ : ∃ x : Nat, bitAt b (a + i) = (x : Int) := Int.eq_ofNat_of_zero_le (by omega)
      have hx1 : x < 2 := by omega
      have e1 : ishl .u64 (v : Int) 1 = ((v * 2 : Nat) : Int) := by
        have := ishl_n (n := v) (k := 1) (by decide)
        rw [show ((1 : Nat) : Int) = 1 from rfl] at this
        rw [this]; omega
      have e2 : ior .u64 ((v * 2 : Nat) : Int) (x : Int) = ((v * 2 + x : Nat) : Int) := ior_n (m := 1) (by omega) (by omega) (by omega)
      rw [hxe, e1, e2, iadd1_n (by omega)]
      rw [read_l hb hlen hm ha hw k (i + 1) (v * 2 + x) (by omega) (by omega) (by rw [Nat.pow_succ]; omega)]
      have hd : ((bl b m).drop (a + i)).take (w - i) = (x : Int) :: ((bl b m).drop (a + (i + 1))).take (w - (i + 1)) := by
        rw [List.drop_eq_getElem_cons (by rw [bl_len]; omega), show w - i = (w - (i + 1)) + 1 from by omega, List.take_succ_cons, show a + i + 1 = a + (i + 1) from by omega]
        congr 1
        have := bl_get (b := b) (n := m) (i := a + i) (by omega)
        rw [List.getElem?_eq_getElem (by rw [bl_len]; omega)] at this
        rw [← hxe]; exact Option.some.inj this
      rw [hd, bv_cons, Int.toNat_natCast]
      have hl : (((bl b m).drop (a + (i + 1))).take (w - (i + 1))).length = w - (i + 1) := by simp [bl_len]; omega
      rw [hl, show w - i = (w - (i + 1)) + 1 from by omega, Nat.pow_succ, Nat.add_mul]
      congr 3
      rw [Nat.mul_assoc, Nat.mul_comm 2, Nat.add_assoc]
    · rw [if_neg (by simp; omega)]
      rw [show w - i = 0 from by omega]
      simp [M_bits_Read_j2, bv]
theorem read_eq {F : Nat} {m a w : Nat} {b : List Int} (hF : 100 ≤ F) (hb : U8s b) (ob : Ok m b) (ha : a ≤ m) (hw : w ≤ 64) :
    M_bits_Read F (m : Int) b (a : Int) (w : Int) = some (if a + w ≤ m then (((bv (((bl b m).drop a).take w) : Nat) : Int), true) else (0, false)) := by
  unfold M_bits_Read
  have hmx := ob.max
  rw [isub_n ha (by omega)]
  by_cases h : a + w ≤ m
  · rw [if_neg (by simp; omega), if_pos h]
    have := read_l (F := F) (n := (m : Int)) (m := m) (a := a) (w := w) hb (by rw [ob.len]; omega) (by omega) h hw F 0 0 (by omega) (by omega) (by decide)
    simpa using this
  · rw [if_pos (by simp; omega), if_neg h]
def getOf (m : Int) (b : List Int) (a w : Int) : Int :=
  if chkOf m b ≠ 0 then chkOf m b else if w < 0 ∨ 64 < w ∨ a < 0 ∨ m < a then 3 else if m < a + w then 7 else 0
def gt (m : Int) (b : List Int) (a w : Int) : Int × Int :=
  if getOf m b a w ≠ 0 then (0, getOf m b a w) else (((bv (((bl b m.toNat).drop a.toNat).take w.toNat) : Nat) : Int), 0)
theorem gt_err {m : Int} {b : List Int} {a w e : Int} (h : getOf m b a w = e) (he : e ≠ 0) : gt m b a w = (0, e) := by
  unfold gt; rw [h, if_pos he]
theorem gt_ok {m : Int} {b : List Int} {a w : Int} (h : getOf m b a w = 0) : gt m b a w = (((bv (((bl b m.toNat).drop a.toNat).take w.toNat) : Nat) : Int), 0) := by
  unfold gt; rw [h]; rfl
theorem get_eq {F : Nat} (hF : 20000 ≤ F) {m a w : Int} {b : List Int} (hb : U8s b) (hm : I64 m) (lb : b.length ≤ 9223372036854775807) : M_bits_Get F m b a w = some (gt m b a w) := by
  unfold M_bits_Get
  rw [check_eq hb hm.1 hm.2 lb]
  simp only [Option.bind_some]
  by_cases h1 : chkOf m b = 0
  · obtain ⟨m, rfl, ob⟩ := chkOf_ok h1
    have hmx := ob.max
    rw [h1, if_pos (by rfl)]
    by_cases h2 : w < 0 ∨ 64 < w ∨ a < 0 ∨ (m : Int) < a
    · rw [show (((decide (w < 0) || decide (64 < w)) || decide (a < 0)) || decide ((m : Int) < a)) = true from by simp only [Bool.or_eq_true, decide_eq_true_eq]; omega,
        gt_err (e := 3) (by unfold getOf; rw [if_neg (by simp [h1]), if_pos h2]) (by decide)]
      rfl
    · rw [show (((decide (w < 0) || decide (64 < w)) || decide (a < 0)) || decide ((m : Int) < a)) = false from by rw [Bool.eq_false_iff]; intro h; apply h2; simp only [Bool.or_eq_true, decide_eq_true_eq] at h; omega]
      obtain ⟨w, rfl⟩ := Int.eq_ofNat_of_zero_le (show 0 ≤ w by omega)
      obtain ⟨a, rfl⟩ := Int.eq_ofNat_of_zero_le (show 0 ≤ a by omega)
      simp only [M_bits_Get_j3, M_bits_Get_j2, Bool.false_eq_true, if_false, bne_self_eq_false]
      rw [read_eq (by omega) hb ob (by omega) (by omega)]
      simp only [Option.bind_some]
      by_cases h3 : a + w ≤ m
      · rw [gt_ok (by unfold getOf; rw [if_neg (by simp [h1]), if_neg h2, if_neg (by omega)])]
        simp [h3]
      · rw [gt_err (e := 7) (by unfold getOf; rw [if_neg (by simp [h1]), if_neg h2, if_pos (by omega)]) (by decide)]
        simp [h3]
  · have hb1 : (chkOf m b == 0) = false := by simpa using h1
    have hb3 : (chkOf m b != 0) = true := by simpa using h1
    rw [hb1, gt_err (e := chkOf m b) (by unfold getOf; rw [if_pos h1]) h1]
    simp only [M_bits_Get_j3, M_bits_Get_j2, Bool.false_eq_true, if_false, hb3, if_true]
theorem irem2_n (n : Nat) : irem (n : Int) 2 = ((n % 2 : Nat) : Int) := by
  unfold irem; rw [Int.tmod_eq_emod_of_nonneg (by omega)]; omega
theorem iquo2_n {n : Nat} (h : n ≤ 9223372036854775807) : iquo .i64 (n : Int) 2 = ((n / 2 : Nat) : Int) := by
  unfold iquo; rw [Int.tdiv_eq_ediv_of_nonneg (by omega), wrap_i64 (by omega) (by omega)]; omega
theorem iconv_i64_n {n : Nat} (h : n < 9223372036854775808) : iconv .i64 (n : Int) = (n : Int) := wrap_i64 (by omega) (by omega)
theorem iconv_u64_n {n : Nat} (h : n < 18446744073709551616) : iconv .u64 (n : Int) = (n : Int) := wrap_u64 (by omega) (by omega)
theorem div_pow_succ (x k : Nat) : x / 2 ^ (k + 1) = x / 2 / 2 ^ k := by rw [Nat.pow_succ, Nat.mul_comm, Nat.div_div_eq_div_mul]
theorem bitList_in {F : Nat} {rec38 : (List Int × Int) → Option (List Int)} {l : List Int} {i : Nat} (hm : i ≤ 100000) : ∀ (k j x : Nat), 7 - i % 8 < k + j → j ≤ 7 - i % 8 → x < 256 →
    M_R_BitList_l45 F rec38 l (i : Int) k ((x : Int), (j : Int)) = M_R_BitList_j44 F rec38 l (i : Int) ((x / 2 ^ (7 - i % 8 - j) : Nat) : Int)
  | 0, _, _, _, _, _ => by omega
  | k + 1, j, x, h, hj, hx => by
    show M_R_BitList_b45 F rec38 l (i : Int) (M_R_BitList_l45 F rec38 l (i : Int) k) (x : Int) (j : Int) = _
    unfold M_R_BitList_b45
    rw [irem8, isub_i64 (by omega) (by omega)]
    by_cases hlt : j < 7 - i % 8
    · rw [if_pos (by simp; omega), iquo2_n (by omega), iadd1_n (by omega), bitList_in hm k (j + 1) (x / 2) (by omega) (by omega) (by omega)]
      rw [show 7 - i % 8 - j = (7 - i % 8 - (j + 1)) + 1 from by omega, div_pow_succ]
    · rw [if_neg (by simp; omega), show 7 - i % 8 - j = 0 from by omega]
      simp
theorem bitList_l {F : Nat} (hF : 100 ≤ F) {b : List Int} (hb : U8s b) {n : Nat} (hn : n ≤ 8 * b.length) (hm : n ≤ 100000) : ∀ (k i : Nat), n < k + i → i ≤ n →
    M_R_BitList_l38 F (n : Int) b k (bl b i, (i : Int)) = some (bl b n)
  | 0, _, _, _ => by omega
  | k + 1, i, h, hi => by
    show M_R_BitList_b38 F (n : Int) b (M_R_BitList_l38 F (n : Int) b k) (bl b i) (i : Int) = _
    unfold M_R_BitList_b38
    by_cases hlt : i < n
    · rw [if_pos (by simp; omega), iquo8 (by omega), idx_nat]
      have hg : b[i / 8]? = some b[i / 8] := by rw [List.getElem?_eq_getElem (by omega)]
      rw [hg]
      simp only [Option.bind_some]
      have hx := hb b[i / 8] (List.getElem_mem (by omega))
      obtain ⟨x, hxe⟩ := Int.eq_ofNat_of_zero_le hx.1
      rw [hxe, iconv_i64_n (by omega)]
      rw [show ((0 : Int)) = ((0 : Nat) : Int) from rfl, bitList_in (by omega) F 0 x (by omega) (by omega) (by omega)]
      unfold M_R_BitList_j44
      rw [irem2_n, app_eq (by rw [bl_len]; simp; omega)]
      simp only [Option.bind_some, M_R_BitList_j42]
      rw [iadd1_n (by omega)]
      have e : bl b i ++ [((x / 2 ^ (7 - i % 8 - 0) % 2 : Nat) : Int)] = bl b (i + 1) := by
        rw [bl_succ]
        congr 2
        unfold bitAt
        simp only [List.getD, hg, Option.getD_some, hxe, Nat.sub_zero]
        norm_cast
      rw [e]
      exact bitList_l hF hb hn hm k (i + 1) (by omega) (by omega)
    · rw [if_neg (by simp; omega)]
      obtain rfl : i = n := by omega
      rfl
theorem bitList_eq {F : Nat} (hF : 20000 ≤ F) {b : List Int} (hb : U8s b) {n : Nat} (hn : n ≤ 8 * b.length) (hm : n ≤ 10000) : M_R_BitList F (n : Int) b = some (bl b n) := by
  unfold M_R_BitList
  exact bitList_l (by omega) hb hn (by omega) F 0 (by omega) (by omega)
theorem bit_n {l : List Int} (h : Bit l) {i : Nat} (hi : i < l.length) : ∃ x : Nat, l[i]? = some (x : Int) ∧ x < 2 := by
  have := h l[i] (List.getElem_mem hi)
  obtain ⟨x, hx⟩ := Int.eq_ofNat_of_zero_le (show 0 ≤ l[i] by omega)
  exact ⟨x, by rw [List.getElem?_eq_getElem hi, hx], by omega⟩
theorem imul2_n {n : Nat} (h : n < 4611686018427387904) : imul .i64 2 (n : Int) = ((2 * n : Nat) : Int) := by rw [imul_i64 (by omega) (by omega)]; omega
/-- The first so many of eight bits from a place on, as a number. -/
def byN (l : List Int) (i : Nat) : Nat → Nat
  | 0 => 0
  | k + 1 => 2 * byN l i k + (l.getD (i + k) 0).toNat
theorem byN_lt {l : List Int} (h : Bit l) (i : Nat) : ∀ k, byN l i k < 2 ^ k
  | 0 => by simp [byN]
  | k + 1 => by
    have := byN_lt h i k
    have h2 := h.getD (i + k)
    unfold byN
    rw [Nat.pow_succ]
    omega
theorem byN_8 {l : List Int} (h : Bit l) (i : Nat) : ((byN l (8 * i) 8 : Nat) : Int) = byt l i := by
  have h0 := h.getD (8 * i); have h1 := h.getD (8 * i + 1); have h2 := h.getD (8 * i + 2); have h3 := h.getD (8 * i + 3)
  have h4 := h.getD (8 * i + 4); have h5 := h.getD (8 * i + 5); have h6 := h.getD (8 * i + 6); have h7 := h.getD (8 * i + 7)
  unfold byt
  simp only [byN, Nat.add_zero]
  omega
theorem packBits_in {F : Nat} {rec98 : (Int × List Int) → Option (Int × List Int)} {l o : List Int} (hl : Bit l) {i : Nat} (hm : i ≤ 100000) (hlm : l.length ≤ 100000) : ∀ (k j : Nat), 8 < k + j → j ≤ 8 →
    M_R_PackBits_l116 F rec98 l (i : Int) o k ((byN l i j : Nat), (j : Int)) = M_R_PackBits_j113 F rec98 (i : Int) o ((byN l i 8 : Nat) : Int)
  | 0, _, _, _ => by omega
  | k + 1, j, h, hj => by
    show M_R_PackBits_b116 F rec98 l (i : Int) o (M_R_PackBits_l116 F rec98 l (i : Int) o k) ((byN l i j : Nat) : Int) (j : Int) = _
    unfold M_R_PackBits_b116
    by_cases hlt : j < 8
    · have hb := byN_lt hl i j
      have hp : 2 ^ j ≤ 2 ^ 8 := Nat.pow_le_pow_right (by decide) hj
      rw [show 2 ^ 8 = 256 from by decide] at hp
      rw [if_pos (by simp; omega), iadd_n (by omega)]
      by_cases h2 : i + j < l.length
      · rw [if_pos (by simp; omega), idx_nat]
        obtain ⟨x, hx, hx2⟩ := bit_n hl h2
        rw [hx]
        simp only [Option.bind_some, M_R_PackBits_j117]
        rw [imul2_n (by omega), iadd_n (by omega), iadd1_n (by omega)]
        have e : 2 * byN l i j + x = byN l i (j + 1) := by
          simp [byN, List.getD, hx]
        rw [e]
        exact packBits_in hl hm hlm k (j + 1) (by omega) (by omega)
      · rw [if_neg (by simp; omega)]
        simp only [M_R_PackBits_j117]
        rw [imul2_n (by omega), iadd1_n (by omega)]
        have e : 2 * byN l i j = byN l i (j + 1) := by
          show _ = 2 * _ + (l.getD (i + j) 0).toNat
          rw [getD_ge (by omega)]; rfl
        rw [e]
        exact packBits_in hl hm hlm k (j + 1) (by omega) (by omega)
    · rw [if_neg (by simp; omega)]
      obtain rfl : j = 8 := by omega
      rfl
theorem packBits_l {F : Nat} (hF : 100 ≤ F) {l : List Int} (hl : Bit l) (hm : l.length ≤ 90000) : ∀ (k i : Nat), (l.length + 7) / 8 < k + i → i ≤ (l.length + 7) / 8 →
    M_R_PackBits_l98 F l k (((8 * i : Nat) : Int), (List.range i).map (byt l)) = some ((l.length : Int), pk l)
  | 0, _, _, _ => by omega
  | k + 1, i, h, hi => by
    show M_R_PackBits_b98 F l (M_R_PackBits_l98 F l k) ((8 * i : Nat) : Int) ((List.range i).map (byt l)) = _
    unfold M_R_PackBits_b98
    by_cases hlt : 8 * i < l.length
    · rw [if_pos (by simp; omega)]
      have := packBits_in (F := F) (rec98 := M_R_PackBits_l98 F l k) (o := (List.range i).map (byt l)) hl (i := 8 * i) (by omega) (by omega) F 0 (by omega) (by omega)
      rw [show ((byN l (8 * i) 0 : Nat) : Int) = 0 from rfl, show ((0 : Nat) : Int) = 0 from rfl] at this
      rw [this]
      unfold M_R_PackBits_j113
      rw [byN_8 hl]
      have hr := byt_range hl i
      rw [show iconv .u8 (byt l i) = byt l i from wrap_u8 hr.1 hr.2, app_eq (by simp; omega)]
      simp only [Option.bind_some, M_R_PackBits_j108]
      rw [show ((8 : Int)) = ((8 : Nat) : Int) from rfl, iadd_n (by omega), show 8 * i + 8 = 8 * (i + 1) from by omega]
      have e : (List.range i).map (byt l) ++ [byt l i] = (List.range (i + 1)).map (byt l) := by rw [List.range_succ, List.map_append]; rfl
      rw [e]
      exact packBits_l hF hl hm k (i + 1) (by omega) (by omega)
    · rw [if_neg (by simp; omega)]
      obtain rfl : i = (l.length + 7) / 8 := by omega
      rfl
theorem packBits_eq {F : Nat} (hF : 20000 ≤ F) {l : List Int} (hl : Bit l) (hm : l.length ≤ 90000) : M_R_PackBits F l = some ((l.length : Int), pk l) := by
  unfold M_R_PackBits
  exact packBits_l (by omega) hl hm F 0 (by omega) (by omega)
theorem between_eq {F : Nat} {a b c : Int} : M_R_between F a b c = some (decide (b ≤ a ∧ a ≤ c)) := by
  unfold M_R_between
  congr 1
  by_cases h : b ≤ a <;> by_cases h2 : a ≤ c <;> simp [h, h2]
theorem bitsCheck_l {F : Nat} {l : List Int} (hm : l.length ≤ 100000) : ∀ (k i : Nat), l.length < k + i → i ≤ l.length →
    M_R_BitsCheck_l4 F l k (i : Int) = some (if (l.drop i).all (· == 0) then 0 else 1)
  | 0, _, _, _ => by omega
  | k + 1, i, h, hi => by
    show M_R_BitsCheck_b4 F l (M_R_BitsCheck_l4 F l k) (i : Int) = _
    unfold M_R_BitsCheck_b4
    by_cases hlt : i < l.length
    · rw [if_pos (by simp; omega), idx_nat, List.getElem?_eq_getElem hlt, List.drop_eq_getElem_cons hlt, List.all_cons]
      simp only [Option.bind_some]
      by_cases h0 : l[i] = 0
      · rw [h0, if_neg (by simp), iadd1_n (by omega), bitsCheck_l hm k (i + 1) (by omega) (by omega)]
        simp
      · rw [if_pos (by simpa using h0)]
        simp [h0]
    · rw [if_neg (by simp; omega), List.drop_eq_nil_of_le (by omega)]
      rfl
theorem all_low {b : List Int} (hb : U8s b) {m : Nat} (hlen : b.length = (m + 7) / 8) (hr : m % 8 ≠ 0) : ((bl b (8 * ((m + 7) / 8))).drop m).all (· == 0) = decide (b.getD (m / 8) 0 % 2 ^ (8 - m % 8) = 0) := by
  obtain ⟨q, hq⟩ : ∃ q, q = m / 8 := ⟨_, rfl⟩
  obtain ⟨r, hrr⟩ : ∃ r, r = m % 8 := ⟨_, rfl⟩
  have hm : m = 8 * q + r := by omega
  have hx : 0 ≤ b.getD q 0 ∧ b.getD q 0 < 256 := by
    have hlt : q < b.length := by omega
    have := hb b[q] (List.getElem_mem hlt)
    simpa [List.getD, hlt] using this
  have hc : (m + 7) / 8 = q + 1 := by omega
  obtain ⟨c0, c1, c2, c3, c4, c5, c6, c7⟩ := bitAt_8 b q
  have hall : ((bl b (8 * (q + 1))).drop m).all (· == 0) = true ↔ (∀ i, m ≤ i → i < 8 * q + 8 → bitAt b i = 0) := by
    rw [List.all_eq_true]
    constructor
    · intro h i h1 h2
      have hg : ((bl b (8 * (q + 1))).drop m)[i - m]? = some (bitAt b i) := by
        rw [List.getElem?_drop, show m + (i - m) = i from by omega]; exact bl_get (by omega)
      have := h _ (List.mem_of_getElem? hg)
      simpa using this
    · intro h x hx
      obtain ⟨j, hj⟩ := List.getElem?_of_mem hx
      rw [List.getElem?_drop] at hj
      have hjl : m + j < 8 * (q + 1) := by
        have := (List.getElem?_eq_some_iff.1 hj).1; rwa [bl_len] at this
      rw [bl_get hjl] at hj
      rw [← Option.some.inj hj, h _ (by omega) (by omega)]; rfl
  rw [hc, ← hq, ← hrr, Bool.eq_iff_iff, decide_eq_true_iff, hall]
  have hall2 : (∀ i, m ≤ i → i < 8 * q + 8 → bitAt b i = 0) ↔ (∀ j, r ≤ j → j < 8 → bitAt b (8 * q + j) = 0) := by
    constructor
    · intro h j h1 h2; exact h _ (by omega) (by omega)
    · intro h i h1 h2
      have := h (i - 8 * q) (by omega) (by omega)
      rwa [show 8 * q + (i - 8 * q) = i from by omega] at this
  rw [hall2]
  generalize b.getD q 0 = x at *
  have mk : ∀ j, j < 8 → (∀ j', r ≤ j' → j' < 8 → bitAt b (8 * q + j') = 0) → r ≤ j → bitAt b (8 * q + j) = 0 := fun j h1 h h2 => h j h2 h1
  constructor
  · intro h
    have g1 := mk 1 (by omega) h; have g2 := mk 2 (by omega) h; have g3 := mk 3 (by omega) h; have g4 := mk 4 (by omega) h
    have g5 := mk 5 (by omega) h; have g6 := mk 6 (by omega) h; have g7 := mk 7 (by omega) h
    rw [c1] at g1; rw [c2] at g2; rw [c3] at g3; rw [c4] at g4; rw [c5] at g5; rw [c6] at g6; rw [c7] at g7
    clear c0 c1 c2 c3 c4 c5 c6 c7 mk hall hall2 h
    rcases (by omega : r = 1 ∨ r = 2 ∨ r = 3 ∨ r = 4 ∨ r = 5 ∨ r = 6 ∨ r = 7) with h | h | h | h | h | h | h <;> subst h <;> simp only [Nat.reduceSub, Int.reducePow] <;> omega
  · intro h j h1 h2
    clear mk hall hall2
    rcases (by omega : r = 1 ∨ r = 2 ∨ r = 3 ∨ r = 4 ∨ r = 5 ∨ r = 6 ∨ r = 7) with hh | hh | hh | hh | hh | hh | hh <;> subst hh <;> simp only [Nat.reduceSub, Int.reducePow] at h <;>
      rcases (by omega : j = 1 ∨ j = 2 ∨ j = 3 ∨ j = 4 ∨ j = 5 ∨ j = 6 ∨ j = 7) with g | g | g | g | g | g | g <;> subst g <;> first | (exfalso; omega) | (rw [c1]; omega) | (rw [c2]; omega) | (rw [c3]; omega) | (rw [c4]; omega) | (rw [c5]; omega) | (rw [c6]; omega) | (rw [c7]; omega)
theorem bitsCheck_eq {F : Nat} (hF : 20000 ≤ F) {n : Int} {b : List Int} (hb : U8s b) : M_R_BitsCheck F n b = some (chkOf n b) := by
  unfold M_R_BitsCheck chkOf
  rw [between_eq]
  simp only [Option.bind_some]
  by_cases c1 : n < 0 ∨ 8192 < n
  · rw [if_pos (by simp; omega), if_pos c1]
  · rw [if_neg (by simp; omega), if_neg c1]
    obtain ⟨m, rfl⟩ := Int.eq_ofNat_of_zero_le (show 0 ≤ n by omega)
    have hj : ∀ c : Nat, c = (m + 7) / 8 → M_R_BitsCheck_j1 F (m : Int) b (c : Int) = some (if (b.length : Int) ≠ ((m : Int) + 7) / 8 then 1 else if (m : Int) % 8 ≠ 0 ∧ b.getD ((m : Int).toNat / 8) 0 % 2 ^ (8 - (m : Int).toNat % 8) ≠ 0 then 1 else 0) := by
      intro c hc
      unfold M_R_BitsCheck_j1
      by_cases c2 : b.length = c
      · rw [if_neg (by simp [c2]), if_neg (by omega)]
        rw [imul_i64 (by omega) (by omega), show (8 : Int) * (c : Int) = ((8 * c : Nat) : Int) from by omega, bitList_eq hF hb (by omega) (by omega)]
        simp only [Option.bind_some]
        rw [bitsCheck_l (by rw [bl_len]; omega) F m (by rw [bl_len]; omega) (by rw [bl_len]; omega), Int.toNat_natCast]
        by_cases hr : m % 8 = 0
        · rw [List.drop_eq_nil_of_le (by rw [bl_len]; omega), List.all_nil, if_pos rfl, if_neg (by omega)]
        · rw [hc, all_low hb (by omega) hr]
          by_cases hz : b.getD (m / 8) 0 % 2 ^ (8 - m % 8) = 0
          · rw [if_pos (decide_eq_true hz), if_neg (fun h => h.2 hz)]
          · rw [if_neg (by simp only [decide_eq_true_eq]; exact hz), if_pos ⟨by omega, hz⟩]
      · rw [if_pos (by rw [bne_iff_ne]; omega), if_pos (by omega)]
    rw [irem8, iquo8 (by omega)]
    by_cases h8 : 0 < m % 8
    · rw [if_pos (by simp; omega), iadd1_n (by omega)]
      exact hj _ (by omega)
    · rw [if_neg (by simp; omega)]
      exact hj _ (by omega)
theorem chk_form {n : Int} {b : List Int} (hb : U8s b) : chkOf n b ≠ 0 ∨ ∃ l : List Int, Bit l ∧ l.length ≤ 8192 ∧ n = (l.length : Int) ∧ b = pk l := by
  by_cases h : chkOf n b = 0
  · obtain ⟨m, rfl, ob⟩ := chkOf_ok h
    exact .inr ⟨bl b m, bl_bit _ _, by rw [bl_len]; exact ob.max, by rw [bl_len], (pk_bl hb ob).symm⟩
  · exact .inl h
theorem chk_pk {l : List Int} (hm : l.length ≤ 8192) : chkOf (l.length : Int) (pk l) = 0 := chkOf_of_ok (ok_pk hm)
theorem jn_bad2 {n m : Int} {a b : List Int} (h0 : chkOf n a = 0) (h : chkOf m b ≠ 0) : jn n a m b = (0, [], chkOf m b) := by
  unfold jn joinOf; simp [h0, h]
theorem jn_form {l k : List Int} (hl : Bit l) (hk : Bit k) (h1 : l.length ≤ 8192) (h2 : k.length ≤ 8192) :
    jn (l.length : Int) (pk l) (k.length : Int) (pk k) = if l.length + k.length ≤ 8192 then (((l ++ k).length : Int), pk (l ++ k), 0) else (0, [], 8) := by
  by_cases h : l.length + k.length ≤ 8192
  · have e : joinOf (l.length : Int) (pk l) (k.length : Int) (pk k) = 0 := by
      unfold joinOf; rw [chk_pk h1, chk_pk h2, if_neg (by simp), if_neg (by simp), if_neg (by omega)]
    unfold jn
    rw [e, if_pos h, if_neg (by simp), Int.toNat_natCast, Int.toNat_natCast, bl_pk hl, bl_pk hk]; simp
  · have e : joinOf (l.length : Int) (pk l) (k.length : Int) (pk k) = 8 := by
      unfold joinOf; rw [chk_pk h1, chk_pk h2, if_neg (by simp), if_neg (by simp), if_pos (by omega)]
    unfold jn
    rw [e, if_neg h, if_pos (by decide)]
theorem ct_form {l : List Int} (hl : Bit l) (h1 : l.length ≤ 8192) {i j : Nat} (hi : i ≤ j) (hj : j ≤ l.length) :
    ct (l.length : Int) (pk l) (i : Int) (j : Int) = ((((l.take j).drop i).length : Int), pk ((l.take j).drop i), 0) := by
  rw [cut_pk hl h1 hi hj]
  simp
  omega
theorem gt_form {l : List Int} (hl : Bit l) (h1 : l.length ≤ 8192) {a w : Nat} (hw : w ≤ 64) (h : a + w ≤ l.length) : gt (l.length : Int) (pk l) (a : Int) (w : Int) = (((bv ((l.drop a).take w) : Nat) : Int), 0) := by
  rw [gt_ok (by unfold getOf; rw [if_neg (by simp [chk_pk h1]), if_neg (by omega), if_neg (by omega)])]
  simp only [Int.toNat_natCast, bl_pk hl]
theorem pt_form {l : List Int} (hl : Bit l) (h1 : l.length ≤ 8192) {n w : Nat} (hw : w ≤ 64) (hn : n < 2 ^ w) (h : l.length + w ≤ 8192) :
    pt (l.length : Int) (pk l) (n : Int) (w : Int) = (((l ++ nb n w).length : Int), pk (l ++ nb n w), 0) := by
  have hc : (n : Int) < 2 ^ (w : Int).toNat := by rw [Int.toNat_natCast]; exact_mod_cast hn
  rw [pt_ok (by unfold putOf; rw [if_neg (by simp [chk_pk h1]), if_neg (by omega), if_neg (by omega)])]
  simp [bl_pk hl, nb_len]
theorem i64_len {l : List Int} (h : l.length ≤ 8192) : I64 (l.length : Int) := ⟨by omega, by omega⟩
theorem pk_len9 {l : List Int} (h : l.length ≤ 8192) : (pk l).length ≤ 9223372036854775807 := by rw [pk_len]; omega
theorem pk_small {l : List Int} (h : l.length ≤ 8192) : (pk l).length ≤ 2000 := by rw [pk_len]; omega
theorem sameInts_l (F : Nat) (xs ys : List Int) : ∀ k, M_R_SameInts_l3 F xs ys k = M_R_SameBytes_l3 F xs ys k
  | 0 => rfl
  | k + 1 => by
    funext i
    show M_R_SameInts_b3 F xs ys (M_R_SameInts_l3 F xs ys k) i = M_R_SameBytes_b3 F xs ys (M_R_SameBytes_l3 F xs ys k) i
    rw [sameInts_l F xs ys k]; rfl
theorem sameInts_same (F : Nat) (xs ys : List Int) : M_R_SameInts F xs ys = M_R_SameBytes F xs ys := by
  unfold M_R_SameInts M_R_SameBytes; rw [sameInts_l]
theorem bit_one : Bit [1] := by intro x hx; right; simpa using hx
theorem add_pk {F : Nat} {n w : Nat} {l : List Int} (hn : n < 18446744073709551616) (hF : w < F) (hl : Bit l) (hm : l.length ≤ 8192) (hw : w ≤ 10000) :
    M_bits_Add F (l.length : Int) (pk l) (n : Int) (w : Int) = some (((l ++ nb n w).length : Int), pk (l ++ nb n w)) := by
  rw [add_eq hn hF (pk_u8 hl) (ok_pk hm) hw, bl_pk hl, List.length_append, nb_len]
theorem at_pk {F : Nat} {m : Int} {l : List Int} (hl : Bit l) (hm : l.length ≤ 90000) {i : Nat} (hi : i < l.length) : M_bits_At F m (pk l) (i : Int) = some l[i] := by
  rw [at_eq (pk_u8 hl) (by rw [pk_len]; omega) (by omega), bitAt_pk hl hi]
  simp [List.getD, hi]
/-- What is wrong with bits, and a place. -/
def raOf (m : Int) (b : List Int) (a : Int) : Int := if chkOf m b ≠ 0 then chkOf m b else if a < 0 ∨ m < a then 3 else 0
theorem ra_bad {m a : Int} {b : List Int} (h : chkOf m b ≠ 0) : raOf m b a = chkOf m b := by unfold raOf; rw [if_pos h]
theorem ra_range {l : List Int} {a : Int} (h1 : l.length ≤ 8192) (h : ¬ (0 ≤ a ∧ a ≤ (l.length : Int))) : raOf (l.length : Int) (pk l) a = 3 := by
  unfold raOf; rw [if_neg (by simp [chk_pk h1]), if_pos (by omega)]
theorem ra_form {l : List Int} {a : Nat} (h1 : l.length ≤ 8192) (h : a ≤ l.length) : raOf (l.length : Int) (pk l) (a : Int) = 0 := by
  unfold raOf; rw [if_neg (by simp [chk_pk h1]), if_neg (by omega)]
theorem ra_cases {m a : Int} {b : List Int} (hb : U8s b) : raOf m b a ≠ 0 ∨ ∃ (l : List Int) (i : Nat), Bit l ∧ l.length ≤ 8192 ∧ m = (l.length : Int) ∧ b = pk l ∧ a = (i : Int) ∧ i ≤ l.length := by
  rcases chk_form hb (n := m) with h | ⟨l, hl, hm, rfl, rfl⟩
  · left; rw [ra_bad h]; exact h
  · by_cases h : 0 ≤ a ∧ a ≤ (l.length : Int)
    · obtain ⟨i, rfl⟩ := Int.eq_ofNat_of_zero_le h.1
      exact .inr ⟨l, i, hl, hm, rfl, rfl, rfl, by omega⟩
    · left; rw [ra_range hm h]; decide
theorem readErr_eq {F : Nat} (hF : 20000 ≤ F) {m a : Int} {b : List Int} (hb : U8s b) : M_R_ReadErr F m b a = some (raOf m b a) := by
  unfold M_R_ReadErr raOf
  rw [bitsCheck_eq hF hb]
  simp only [Option.bind_some]
  by_cases h1 : chkOf m b = 0
  · rw [if_pos (by simpa using h1), if_neg (by simp [h1]), between_eq]
    simp only [Option.bind_some, M_R_ReadErr_j3, M_R_ReadErr_j2]
    by_cases h : a < 0 ∨ m < a
    · rw [if_pos h, if_pos (by simp; omega)]
    · rw [if_neg h, if_neg (by simp; omega), h1]
  · rw [if_neg (by simpa using h1), if_pos h1]
    rfl
/-- How many bits a number has. -/
def len (x : Nat) : Nat := if x = 0 then 0 else x.log2 + 1
theorem eCheck_eq {F : Nat} {m a : Int} {b : List Int} (hb : U8s b) (hm : I64 m) (lb : b.length ≤ 9223372036854775807) : M_elias_Check F m b a = some (raOf m b a) := by
  unfold M_elias_Check raOf
  rw [check_eq hb hm.1 hm.2 lb]
  simp only [Option.bind_some]
  by_cases h1 : chkOf m b = 0
  · rw [if_pos (by simpa using h1), if_neg (by simp [h1])]
    simp only [M_elias_Check_j3, M_elias_Check_j2]
    by_cases h : a < 0 ∨ m < a
    · rw [if_pos h, if_pos (by simp; omega)]
    · rw [if_neg h, if_neg (by simp; omega), h1]
  · rw [if_neg (by simpa using h1), if_pos h1]
    rfl
/-- A reading call: what is wrong with bits and place, or what is read. -/
def rd (f : List Int → Nat → Int × Int × Int) (m : Int) (b : List Int) (a : Int) : Int × Int × Int := if raOf m b a ≠ 0 then (0, 0, raOf m b a) else f (bl b m.toNat) a.toNat
theorem rd_bad {f : List Int → Nat → Int × Int × Int} {m a : Int} {b : List Int} (h : raOf m b a ≠ 0) : rd f m b a = (0, 0, raOf m b a) := by unfold rd; rw [if_pos h]
theorem rd_form {f : List Int → Nat → Int × Int × Int} {l : List Int} (hl : Bit l) {a : Nat} (h1 : l.length ≤ 8192) (h : a ≤ l.length) : rd f (l.length : Int) (pk l) (a : Int) = f l a := by
  unfold rd; rw [ra_form h1 h, if_neg (by simp), Int.toNat_natCast, Int.toNat_natCast, bl_pk hl]
theorem same_ints {F : Nat} {xs ys : List Int} (hF : ys.length < F) (hm : ys.length ≤ 9223372036854775807) : M_R_SameInts F xs ys = some (decide (xs = ys)) := by
  rw [sameInts_same]
  by_cases h : xs.length = ys.length
  · rw [sameBytes_eq (by omega) (by omega)]
  · unfold M_R_SameBytes
    rw [if_pos (by rw [bne_iff_ne]; omega), decide_eq_false (fun e => h (by rw [e]))]
def nup : Nat → Nat × Nat
  | 0 => (1, 2)
  | i + 1 => ((nup i).2, (nup i).1 + (nup i).2)
def nu (i : Nat) : Nat := (nup i).1
theorem nup_2 (i : Nat) : (nup i).2 = nu (i + 1) := rfl
theorem nu_0 : nu 0 = 1 := rfl
theorem nu_s (i : Nat) : nu (i + 2) = nu (i + 1) + nu i := by
  show (nup i).1 + (nup i).2 = _
  rw [nup_2, Nat.add_comm]; rfl
theorem nu_pos : ∀ i, 1 ≤ nu i
  | 0 => Nat.le_refl 1
  | 1 => by decide
  | i + 2 => by rw [nu_s]; have := nu_pos i; omega
theorem nu_lt (i : Nat) : nu i < nu (i + 1) := by
  cases i with
  | zero => decide
  | succ i => rw [nu_s]; have := nu_pos i; omega
theorem nu_mono {i j : Nat} (h : i ≤ j) : nu i ≤ nu j := by
  induction j with
  | zero => rw [show i = 0 from by omega]; exact Nat.le_refl _
  | succ j ih =>
    by_cases e : i = j + 1
    · rw [e]; exact Nat.le_refl _
    · exact Nat.le_trans (ih (by omega)) (Nat.le_of_lt (nu_lt j))
theorem nu_lt_iff {i j : Nat} : nu i < nu j ↔ i < j := by
  constructor
  · intro h
    by_cases e : i < j
    · exact e
    · have := nu_mono (show j ≤ i by omega); omega
  · intro h; exact Nat.lt_of_lt_of_le (nu_lt i) (nu_mono h)
theorem nu_65 : nu 65 = 44945570212853 := by decide +kernel
theorem nu_big {i : Nat} (h : i ≤ 65) : nu i ≤ 44945570212853 := by rw [← nu_65]; exact nu_mono h
def fibs : List Int := [1, 2, 3, 5, 8, 13, 21, 34, 55, 89, 144, 233, 377, 610, 987, 1597, 2584, 4181, 6765, 10946, 17711, 28657, 46368, 75025, 121393, 196418, 317811, 514229, 832040, 1346269, 2178309, 3524578, 5702887, 9227465, 14930352, 24157817, 39088169, 63245986, 102334155, 165580141, 267914296, 433494437, 701408733, 1134903170, 1836311903, 2971215073, 4807526976, 7778742049, 12586269025, 20365011074, 32951280099, 53316291173, 86267571272, 139583862445, 225851433717, 365435296162, 591286729879, 956722026041, 1548008755920, 2504730781961, 4052739537881, 6557470319842, 10610209857723, 17167680177565]
theorem fibs_len : fibs.length = 64 := by decide +kernel
theorem fibs_fin : ∀ i : Fin 64, fibs[i.val]? = some ((nu i.val : Nat) : Int) := by decide +kernel
theorem fibs_get {i : Nat} (h : i < 64) : fibs[i]? = some ((nu i : Nat) : Int) := fibs_fin ⟨i, h⟩
theorem numbers_k (n : Nat) : M_fib_numbers (n + 200) = some fibs := by kernel_rfl
theorem fnumbers_eq {F : Nat} (hF : 20000 ≤ F) : M_fib_numbers F = some fibs := by
  obtain ⟨n, rfl⟩ : ∃ n, F = n + 200 := ⟨F - 200, by omega⟩
  exact numbers_k n
def fnum (i : Int) : Int × Int := if 0 ≤ i ∧ i < 64 then (((nu i.toNat : Nat) : Int), 0) else (0, 3)
theorem fnumber_eq {F : Nat} (hF : 20000 ≤ F) {i : Int} : M_fib_Number F i = some (fnum i) := by
  unfold M_fib_Number fnum
  by_cases h : 0 ≤ i ∧ i < 64
  · obtain ⟨i, rfl⟩ := Int.eq_ofNat_of_zero_le h.1
    rw [if_neg (by simp; omega), if_pos h, fnumbers_eq hF, Int.toNat_natCast]
    simp only [Option.bind_some]
    rw [fibs_len, decide_eq_true rfl, idx_nat, fibs_get (by omega)]
    rfl
  · rw [if_pos (by simp; omega), if_neg h]
theorem iadd_u64_n {a b : Nat} (h : a + b < 18446744073709551616) : iadd .u64 (a : Int) (b : Int) = ((a + b : Nat) : Int) := by
  unfold iadd; rw [← Int.natCast_add]; exact wrap_u64 (by omega) (by omega)
theorem isub_u64_n {a b : Nat} (h : b ≤ a) (h2 : a < 18446744073709551616) : isub .u64 (a : Int) (b : Int) = ((a - b : Nat) : Int) := by
  unfold isub; rw [show (a : Int) - (b : Int) = ((a - b : Nat) : Int) from by omega]; exact wrap_u64 (by omega) (by omega)
def pv : Nat → Nat
  | 0 => 1
  | k + 1 => nu k
theorem nu_pv (k : Nat) : nu (k + 1) = nu k + pv k := by
  cases k with
  | zero => rfl
  | succ k => exact nu_s k
theorem pv_le (k : Nat) : pv k ≤ nu k := by
  cases k with
  | zero => exact Nat.le_refl 1
  | succ k => exact Nat.le_of_lt (nu_lt k)
theorem rnum_l {F i : Nat} (hi : i ≤ 64) : ∀ (k j : Nat), i < k + j → j ≤ i → M_R_FibNum_l3 F (i : Int) k ((nu j : Nat), (pv j : Nat), (j : Int)) = some ((nu i : Nat) : Int)
  | 0, _, _, _ => by omega
  | k + 1, j, h, hj => by
    show M_R_FibNum_b3 F (i : Int) (M_R_FibNum_l3 F (i : Int) k) ((nu j : Nat) : Int) ((pv j : Nat) : Int) (j : Int) = _
    unfold M_R_FibNum_b3
    by_cases hlt : j < i
    · have h1 := nu_big (i := j) (by omega)
      have h2 := pv_le j
      rw [if_pos (by simp; omega), iadd_u64_n (by omega), iadd1_n (by omega), ← nu_pv]
      exact rnum_l hi k (j + 1) (by omega) (by omega)
    · obtain rfl : j = i := by omega
      rw [if_neg (by simp)]; rfl
theorem rnum_eq {F i : Nat} (hF : 20000 ≤ F) (hi : i ≤ 64) : M_R_FibNum F (i : Int) = some ((nu i : Nat) : Int) := by
  unfold M_R_FibNum
  exact rnum_l hi F 0 (by omega) (by omega)
def gd : Nat → Nat → List Nat
  | 0, _ => []
  | k + 1, n => if nu k ≤ n then gd k (n - nu k) ++ [k] else gd k n
/-- How much parts are together. -/
def sm (l : List Nat) : Nat := (l.map nu).sum
theorem sm_app (l k : List Nat) : sm (l ++ k) = sm l + sm k := by simp [sm]
theorem sm_1 (k : Nat) : sm [k] = nu k := by simp [sm]
theorem sm_mem {l : List Nat} {i : Nat} (h : i ∈ l) : nu i ≤ sm l := by
  induction l with
  | nil => simp at h
  | cons x l ih =>
    have e : sm (x :: l) = nu x + sm l := by simp [sm]
    rcases List.mem_cons.1 h with rfl | h
    · omega
    · have := ih h; omega
/-- Rising, no two next to each other. -/
def Sp : List Nat → Prop
  | [] => True
  | [_] => True
  | a :: b :: l => a + 2 ≤ b ∧ Sp (b :: l)
theorem sp_app {l : List Nat} {k : Nat} (h : Sp l) (hl : ∀ i ∈ l, i + 2 ≤ k) : Sp (l ++ [k]) := by
  induction l with
  | nil => trivial
  | cons a l ih =>
    cases l with
    | nil => exact ⟨hl a List.mem_cons_self, trivial⟩
    | cons b l => exact ⟨h.1, ih h.2 (fun i hi => hl i (List.mem_cons_of_mem _ hi))⟩
theorem gd_spec : ∀ (k n : Nat), n < nu k → sm (gd k n) = n ∧ Sp (gd k n) ∧ ∀ i ∈ gd k n, i < k
  | 0, n, h => by
    have : n = 0 := by rw [nu_0] at h; omega
    subst this; exact ⟨rfl, trivial, fun i hi => by simp [gd] at hi⟩
  | k + 1, n, h => by
    unfold gd
    by_cases hk : nu k ≤ n
    · rw [if_pos hk]
      have h2 : n - nu k < pv k := by rw [nu_pv] at h; omega
      obtain ⟨h3, h4, h5⟩ := gd_spec k (n - nu k) (by have := pv_le k; omega)
      refine ⟨by rw [sm_app, sm_1, h3]; omega, sp_app h4 (fun i hi => ?_), fun i hi => ?_⟩
      · have h6 := sm_mem hi
        rw [h3] at h6
        cases k with
        | zero => have := h5 i hi; omega
        | succ k =>
          have : nu i < nu k := Nat.lt_of_le_of_lt h6 h2
          have := nu_lt_iff.1 this; omega
      · rcases List.mem_append.1 hi with hi | hi
        · have := h5 i hi; omega
        · simp at hi; omega
    · rw [if_neg hk]
      obtain ⟨h3, h4, h5⟩ := gd_spec k n (by omega)
      exact ⟨h3, h4, fun i hi => by have := h5 i hi; omega⟩
/-- More room changes nothing. -/
theorem gd_more {n k : Nat} (h : n < nu k) : ∀ j, gd (k + j) n = gd k n
  | 0 => rfl
  | j + 1 => by
    have := nu_mono (show k ≤ k + j by omega)
    rw [← Nat.add_assoc, gd, if_neg (by omega), gd_more h j]
/-- The greatest of them. -/
theorem gd_top {n k i : Nat} (h1 : nu i ≤ n) (h2 : n < nu (i + 1)) (hk : i < k) : gd k n = gd i (n - nu i) ++ [i] := by
  have := gd_more h2 (k - (i + 1))
  rw [show i + 1 + (k - (i + 1)) = k from by omega] at this
  rw [this, gd, if_pos h1]
theorem gd_0 (k : Nat) : gd k 0 = [] := by
  have := gd_more (n := 0) (k := 0) (by decide) k
  rw [Nat.zero_add] at this
  exact this
theorem getRev {α : Type} {l : List α} {i : Nat} (h : i < l.length) : l.reverse[i]? = l[l.length - 1 - i]? := by
  rw [List.getElem?_reverse h]
theorem rev_l {F : Nat} {xs : List Int} (hm : xs.length ≤ 100000) : ∀ (k i : Nat) (ys : List Int), xs.length < k + i → 2 * i ≤ xs.length + 1 → ys.length = xs.length → (∀ p, p < i → ys[p]? = xs[xs.length - 1 - p]?) → (∀ p, p < i → ys[xs.length - 1 - p]? = xs[p]?) → (∀ p, i ≤ p → p + i < xs.length → ys[p]? = xs[p]?) →
    M_slices_Reverse_int_int_l1 F k (ys, (i : Int), (xs.length : Int) - 1 - (i : Int)) = some xs.reverse
  | 0, _, _, _, _, _, _, _, _ => by omega
  | k + 1, i, ys, hk, hi, hl, h1, h2, h3 => by
    show M_slices_Reverse_int_int_b1 F (M_slices_Reverse_int_int_l1 F k) ys (i : Int) ((xs.length : Int) - 1 - (i : Int)) = _
    unfold M_slices_Reverse_int_int_b1
    by_cases hlt : (i : Int) < (xs.length : Int) - 1 - (i : Int)
    · have ej : (xs.length : Int) - 1 - (i : Int) = ((xs.length - 1 - i : Nat) : Int) := by omega
      have hi1 : i < ys.length := by omega
      have hj1 : xs.length - 1 - i < ys.length := by omega
      rw [if_pos (by simpa using hlt), ej, idx_nat, idx_nat, List.getElem?_eq_getElem hj1, List.getElem?_eq_getElem hi1]
      simp only [Option.bind_some, lett, Int.toNat_natCast]
      rw [iadd1_n (by omega), isub1_n (by omega) (by omega)]
      have e2 : ((xs.length - 1 - i - 1 : Nat) : Int) = (xs.length : Int) - 1 - ((i + 1 : Nat) : Int) := by omega
      rw [e2]
      have hyi : ys[i]? = xs[i]? := h3 i (Nat.le_refl _) (by omega)
      have hyj : ys[xs.length - 1 - i]? = xs[xs.length - 1 - i]? := h3 _ (by omega) (by omega)
      rw [List.getElem?_eq_getElem hi1] at hyi
      rw [List.getElem?_eq_getElem hj1] at hyj
      refine rev_l hm k (i + 1) _ (by omega) (by omega) (by rw [List.length_set, List.length_set, hl]) (fun p hp => ?_) (fun p hp => ?_) (fun p hp hp2 => ?_)
      · rw [List.getElem?_set, List.getElem?_set, List.length_set]
        by_cases e : p = i
        · subst e
          rw [if_neg (by omega), if_pos rfl, if_pos hi1, hyj]
        · rw [if_neg (by omega), if_neg (by omega)]
          exact h1 p (by omega)
      · rw [List.getElem?_set, List.getElem?_set, List.length_set]
        by_cases e : p = i
        · subst e
          rw [if_pos rfl, if_pos hj1, hyi]
        · rw [if_neg (by omega), if_neg (by omega)]
          exact h2 p (by omega)
      · rw [List.getElem?_set, List.getElem?_set, List.length_set, if_neg (by omega), if_neg (by omega)]
        exact h3 p (by omega) (by omega)
    · rw [if_neg (by simpa using hlt)]
      congr 1
      apply List.ext_getElem?
      intro p
      by_cases hp : p < xs.length
      · rw [getRev hp]
        by_cases h4 : p < i
        · exact h1 p h4
        · by_cases h5 : p + i < xs.length
          · rw [h3 p (by omega) h5, show xs.length - 1 - p = p from by omega]
          · have := h2 (xs.length - 1 - p) (by omega)
            rwa [show xs.length - 1 - (xs.length - 1 - p) = p from by omega] at this
      · rw [List.getElem?_eq_none (by omega), List.getElem?_eq_none (by rw [List.length_reverse]; omega)]
theorem reverse_eq {F : Nat} {xs : List Int} (hF : xs.length < F) (hm : xs.length ≤ 100000) : M_slices_Reverse_int_int F xs = some xs.reverse := by
  unfold M_slices_Reverse_int_int
  have e : isub .i64 (xs.length : Int) 1 = (xs.length : Int) - 1 - ((0 : Nat) : Int) := by rw [isub_i64 (by omega) (by omega)]; omega
  rw [e]
  exact rev_l hm F 0 xs (by omega) (by omega) rfl (fun p h => by omega) (fun p h => by omega) (fun p _ _ => rfl)
def lci (l : List Nat) : List Int := l.map fun x : Nat => (x : Int)
theorem lci_len (l : List Nat) : (lci l).length = l.length := by simp [lci]
theorem lci_get {l : List Nat} {i : Nat} (hi : i < l.length) : (lci l)[i]? = some ((l[i] : Nat) : Int) := by simp [lci, hi]
theorem gd_len (k : Nat) : ∀ n, (gd k n).length ≤ k := by
  induction k with
  | zero => intro n; simp [gd]
  | succ k ih =>
    intro n; unfold gd
    split
    · rw [List.length_append]; have := ih (n - nu k); simp; omega
    · have := ih n; omega
theorem parts_l {F : Nat} (hF : 20000 ≤ F) : ∀ (k i n : Nat) (L : List Nat), i < k → i ≤ 64 → n < 18446744073709551616 → L.length + i ≤ 64 →
    M_fib_parts_l8 F fibs k ((n : Int), lci L, (i : Int) - 1) = some (lci (gd i n ++ L.reverse))
  | 0, _, _, _, _, _, _, _ => by omega
  | k + 1, i, n, L, hk, hi, hn, hL => by
    show M_fib_parts_b8 F fibs (M_fib_parts_l8 F fibs k) (n : Int) (lci L) ((i : Int) - 1) = _
    unfold M_fib_parts_b8
    cases i with
    | zero =>
      rw [if_neg (by simp)]
      unfold M_fib_parts_j5
      rw [reverse_eq (by rw [lci_len]; omega) (by rw [lci_len]; omega)]
      simp only [Option.bind_some]
      rw [List.length_reverse, decide_eq_true rfl]
      simp [chk, gd, lci]
    | succ i =>
      rw [show ((i + 1 : Nat) : Int) - 1 = (i : Int) from by omega, if_pos (by simp), idx_nat, fibs_get (by omega)]
      simp only [Option.bind_some]
      have e1 : isub .i64 (i : Int) 1 = (i : Int) - 1 := by rw [isub_i64 (by omega) (by omega)]
      unfold gd
      by_cases h : nu i ≤ n
      · rw [if_pos (by simp only [decide_eq_true_eq]; omega), if_pos h, app_eq (by rw [lci_len]; simp; omega)]
        simp only [Option.bind_some, M_fib_parts_j9]
        rw [isub_u64_n h hn, e1]
        have := parts_l hF k i (n - nu i) (L ++ [i]) (by omega) (by omega) (by omega) (by simp; omega)
        rw [show lci L ++ [(i : Int)] = lci (L ++ [i]) from by simp [lci], this]
        simp
      · rw [if_neg (by simp only [decide_eq_true_eq]; omega), if_neg h]
        simp only [M_fib_parts_j9]
        rw [e1]
        exact parts_l hF k i n L (by omega) (by omega) hn (by omega)
theorem fparts_eq {F n : Nat} (hF : 20000 ≤ F) (hn : n < 18446744073709551616) : M_fib_parts F (n : Int) = some (lci (gd 64 n)) := by
  unfold M_fib_parts
  rw [fnumbers_eq hF]
  simp only [Option.bind_some]
  rw [fibs_len, decide_eq_true rfl]
  simp only [chk, if_true]
  have := parts_l hF F 64 n [] (by omega) (by omega) hn (by simp)
  rw [List.reverse_nil, List.append_nil] at this
  exact this
theorem rparts_l {F : Nat} (hF : 20000 ≤ F) {self : Int → Option (List Int)} {n i : Nat} (hi : i < 64) (h1 : nu i ≤ n) (h2 : n < nu (i + 1)) : ∀ (k j : Nat), i < k + j → j ≤ i →
    M_R_FibParts_l3 F self (n : Int) k (j : Int) = M_R_FibParts_j2 F self (n : Int) (i : Int)
  | 0, _, _, _ => by omega
  | k + 1, j, hk, hj => by
    show M_R_FibParts_b3 F self (n : Int) (M_R_FibParts_l3 F self (n : Int) k) (j : Int) = _
    unfold M_R_FibParts_b3
    rw [iadd1_n (by omega), rnum_eq hF (by omega)]
    simp only [Option.bind_some]
    by_cases hlt : j < i
    · have := nu_mono (show j + 1 ≤ i by omega)
      rw [if_pos (by simp only [decide_eq_true_eq]; omega)]
      exact rparts_l hF hi h1 h2 k (j + 1) (by omega) (by omega)
    · obtain rfl : j = i := by omega
      rw [if_neg (by simp only [decide_eq_true_eq]; omega)]
theorem top_ex {n : Nat} (h : 1 ≤ n) : ∀ {k : Nat}, n < nu k → ∃ i, i < k ∧ nu i ≤ n ∧ n < nu (i + 1)
  | 0, h2 => by rw [nu_0] at h2; omega
  | k + 1, h2 => by
    by_cases h3 : nu k ≤ n
    · exact ⟨k, by omega, h3, h2⟩
    · obtain ⟨i, a, b, c⟩ := top_ex h (k := k) (by omega)
      exact ⟨i, by omega, b, c⟩
theorem rparts_eq : ∀ (m F n : Nat), 20000 + m ≤ F → n < nu m → m ≤ 64 → M_R_FibParts F (n : Int) = some (lci (gd 64 n))
  | m, 0, _, h, _, _ => by omega
  | m, F + 1, n, hF, hn, hm => by
    show (if ((n : Int) == 0) then some ([] : List Int) else M_R_FibParts_l3 F (M_R_FibParts F) (n : Int) F 0) = _
    by_cases h0 : n = 0
    · subst h0; rw [if_pos (by simp), gd_0]; rfl
    · obtain ⟨i, h1, h2, h3⟩ := top_ex (show 1 ≤ n by omega) hn
      have hl := rparts_l (F := F) (by omega) (self := M_R_FibParts F) (show i < 64 by omega) h2 h3 F 0 (by omega) (by omega)
      rw [show ((0 : Nat) : Int) = 0 from rfl] at hl
      rw [if_neg (by simpa using h0), hl]
      unfold M_R_FibParts_j2
      have hb := nu_big (i := m) (by omega)
      have hpv : n - nu i < nu i := by
        have := nu_pv i; have := pv_le i; omega
      rw [rnum_eq (by omega) (by omega)]
      simp only [Option.bind_some]
      rw [isub_u64_n h2 (by omega), rparts_eq i F (n - nu i) (by omega) hpv (by omega)]
      simp only [Option.bind_some]
      have hg := gd_len 64 (n - nu i)
      rw [app_eq (by rw [lci_len]; simp; omega)]
      simp only [Option.bind_some]
      rw [gd_top h2 h3 (show i < 64 by omega)]
      have := gd_more hpv (64 - i)
      rw [show i + (64 - i) = 64 from by omega] at this
      rw [this]
      simp [lci]
  termination_by _ F _ => F
theorem sp_snoc {l : List Nat} {x : Nat} : Sp (l ++ [x]) ↔ Sp l ∧ ∀ i ∈ l, i + 2 ≤ x := by
  constructor
  · intro h
    induction l with
    | nil => exact ⟨trivial, fun i hi => by simp at hi⟩
    | cons a l ih =>
      cases l with
      | nil => exact ⟨trivial, fun i hi => by simp at hi; rw [hi]; exact h.1⟩
      | cons b l =>
        have h2 := ih h.2
        refine ⟨⟨h.1, h2.1⟩, fun i hi => ?_⟩
        rcases List.mem_cons.1 hi with rfl | hi
        · have := h2.2 b List.mem_cons_self; have := h.1; omega
        · exact h2.2 i hi
  · intro h; exact sp_app h.1 h.2
theorem list_snoc {l : List Nat} (h : l ≠ []) : ∃ k x, l = k ++ [x] := ⟨l.dropLast, l.getLast h, (List.dropLast_concat_getLast h).symm⟩
theorem sp_lt : ∀ (k : Nat) (l : List Nat), Sp l → (∀ i ∈ l, i < k) → sm l < nu k
  | k, l, h, hl => by
    by_cases e : l = []
    · subst e; have := nu_pos k; show 0 < nu k; omega
    · obtain ⟨l, x, rfl⟩ := list_snoc e
      have hx := hl x (by simp)
      obtain ⟨h1, h2⟩ := sp_snoc.1 h
      have h3 : sm l < pv x := by
        cases x with
        | zero =>
          have : l = [] := by
            cases l with
            | nil => rfl
            | cons a l => have := h2 a List.mem_cons_self; omega
          subst this; decide
        | succ x => exact sp_lt x l h1 (fun i hi => by have := h2 i hi; omega)
      have h4 := nu_pv x
      have h5 := nu_mono (show x + 1 ≤ k by omega)
      rw [sm_app, sm_1]; omega
  termination_by k => k
def fs : Int → Int → List Int → Int × Int
  | _, s, [] => (s, 0)
  | last, s, i :: l => if i < 0 ∨ 64 ≤ i then (0, 3) else if i ≤ last + 1 then (0, 4) else fs i (s + ((nu i.toNat : Nat) : Int)) l
def FI (last s : Int) : Prop := (last = -2 ∧ s = 0) ∨ ∃ a t : Nat, last = (a : Int) ∧ s = (t : Int) ∧ a < 64 ∧ t < nu (a + 1)
theorem fi_step {last s i : Int} (h : FI last s) (h0 : 0 ≤ i) (h1 : i < 64) (h2 : last + 1 < i) : FI i (s + ((nu i.toNat : Nat) : Int)) := by
  obtain ⟨i, rfl⟩ := Int.eq_ofNat_of_zero_le h0
  rw [Int.toNat_natCast]
  right
  rcases h with ⟨rfl, rfl⟩ | ⟨a, t, rfl, rfl, h3, h4⟩
  · exact ⟨i, nu i, rfl, by omega, by omega, nu_lt i⟩
  · refine ⟨i, t + nu i, rfl, by omega, by omega, ?_⟩
    have h5 := nu_pv i
    cases i with
    | zero => omega
    | succ i =>
      have : nu (a + 1) ≤ nu i := nu_mono (by omega)
      have e : pv (i + 1) = nu i := rfl
      omega
theorem fi_s {last s : Int} (h : FI last s) : 0 ≤ s ∧ s ≤ 44945570212853 ∧ -2 ≤ last ∧ last < 64 := by
  rcases h with ⟨rfl, rfl⟩ | ⟨a, t, rfl, rfl, h3, h4⟩
  · omega
  · have := nu_big (i := a + 1) (by omega); omega
theorem nat_add {s : Int} {k : Nat} (h : 0 ≤ s) (h2 : s ≤ 44945570212853) (h3 : k ≤ 44945570212853) : iadd .u64 s (k : Int) = s + (k : Int) := by
  obtain ⟨s, rfl⟩ := Int.eq_ofNat_of_zero_le h
  rw [iadd_u64_n (by omega)]; omega
theorem fsum_l {F : Nat} {l : List Int} (hm : l.length ≤ 9223372036854775807) : ∀ (k i : Nat) (last s : Int), l.length < k + i → i ≤ l.length → FI last s →
    M_fib_Sum_l3 F l fibs k (s, last, (i : Int)) = some (fs last s (l.drop i))
  | 0, _, _, _, _, _, _ => by omega
  | k + 1, i, last, s, hk, hi, hf => by
    show M_fib_Sum_b3 F l fibs (M_fib_Sum_l3 F l fibs k) s last (i : Int) = _
    unfold M_fib_Sum_b3
    by_cases hlt : i < l.length
    · rw [if_pos (by simpa using hlt), idx_nat, List.getElem?_eq_getElem hlt, List.drop_eq_getElem_cons hlt]
      simp only [Option.bind_some]
      have hb := fi_s hf
      generalize l[i] = x
      unfold fs
      by_cases h1 : x < 0 ∨ 64 ≤ x
      · rw [if_pos (by simpa using h1), if_pos h1]
      · rw [if_neg (by simpa using h1), if_neg h1, iadd_i64 (by omega) (by omega)]
        by_cases h2 : x ≤ last + 1
        · rw [if_pos (by simpa using h2), if_pos h2]
        · rw [if_neg (by simpa using h2), if_neg h2]
          have h3 := fi_step hf (i := x) (by omega) (by omega) (by omega)
          obtain ⟨x, rfl⟩ := Int.eq_ofNat_of_zero_le (show 0 ≤ x by omega)
          rw [idx_nat, fibs_get (by omega)]
          simp only [Option.bind_some]
          have := nu_big (i := x) (by omega)
          rw [nat_add hb.1 hb.2.1 this, iadd1_n (by omega)]
          rw [Int.toNat_natCast] at h3 ⊢
          exact fsum_l hm k (i + 1) _ _ (by omega) (by omega) h3
    · rw [if_neg (by simpa using hlt), List.drop_eq_nil_of_le (by omega)]; rfl
theorem fsum_eq {F : Nat} {l : List Int} (hF : 20000 ≤ F) (hl : l.length < F) (hm : l.length ≤ 9223372036854775807) : M_fib_Sum F l = some (fs (-2) 0 l) := by
  unfold M_fib_Sum
  rw [fnumbers_eq hF]
  simp only [Option.bind_some]
  rw [fibs_len, decide_eq_true rfl]
  simp only [chk, if_true]
  exact fsum_l hm F 0 _ _ (by omega) (by omega) (.inl ⟨rfl, rfl⟩)
theorem rsum_l {F : Nat} (hF : 20000 ≤ F) {l : List Int} (hm : l.length ≤ 9223372036854775807) : ∀ (k i : Nat) (last s : Int), l.length < k + i → i ≤ l.length → FI last s → (i = 0 ∧ last = -2 ∨ 0 < i ∧ l[i - 1]? = some last) →
    M_R_FibSum_l23 F l k (s, (i : Int)) = some (fs last s (l.drop i))
  | 0, _, _, _, _, _, _, _ => by omega
  | k + 1, i, last, s, hk, hi, hf, hlast => by
    show M_R_FibSum_b23 F l (M_R_FibSum_l23 F l k) s (i : Int) = _
    unfold M_R_FibSum_b23
    by_cases hlt : i < l.length
    · have hg : l[i]? = some l[i] := List.getElem?_eq_getElem hlt
      rw [if_pos (by simpa using hlt), idx_nat, hg, List.drop_eq_getElem_cons hlt]
      simp only [Option.bind_some]
      have hb := fi_s hf
      rw [between_eq]
      simp only [Option.bind_some]
      unfold fs
      by_cases h1 : l[i] < 0 ∨ 64 ≤ l[i]
      · rw [decide_eq_false (by omega), if_pos (by decide), if_pos h1]
      · rw [decide_eq_true (by omega), if_neg (by decide), if_neg h1]
        have hj : ∀ b : Bool, (b = true ↔ l[i] ≤ last + 1) → M_R_FibSum_j27 F (M_R_FibSum_l23 F l k) l s (i : Int) b = some (if l[i] ≤ last + 1 then (0, 4) else fs l[i] (s + ((nu l[i].toNat : Nat) : Int)) (l.drop (i + 1))) := by
          intro b hb2
          unfold M_R_FibSum_j27
          by_cases h2 : l[i] ≤ last + 1
          · rw [if_pos (hb2.2 h2), if_pos h2]
          · rw [if_neg (fun e => h2 (hb2.1 e)), if_neg h2, idx_nat, hg]
            simp only [Option.bind_some]
            have h3 := fi_step hf (i := l[i]) (by omega) (by omega) (by omega)
            obtain ⟨x, hx⟩ := Int.eq_ofNat_of_zero_le (show 0 ≤ l[i] by omega)
            have hrec := rsum_l hF hm k (i + 1) l[i] (s + ((nu l[i].toNat : Nat) : Int)) (by omega) (by omega) h3 (.inr ⟨by omega, by rw [Nat.add_sub_cancel]; exact hg⟩)
            rw [← hrec, hx, rnum_eq hF (by omega)]
            simp only [Option.bind_some]
            have := nu_big (i := x) (by omega)
            rw [nat_add hb.1 hb.2.1 this, iadd1_n (by omega), Int.toNat_natCast]
        rcases hlast with ⟨rfl, rfl⟩ | ⟨h0, hl⟩
        · rw [if_neg (by simp)]
          exact hj false (by simp; omega)
        · rw [if_pos (by simp; omega), isub1_n (by omega) (by omega), idx_nat, hl]
          simp only [Option.bind_some]
          rw [iadd_i64 (by omega) (by omega)]
          exact hj _ (by simp; omega)
    · rw [if_neg (by simpa using hlt), List.drop_eq_nil_of_le (by omega)]; rfl
theorem rsum_eq {F : Nat} {l : List Int} (hF : 20000 ≤ F) (hl : l.length < F) (hm : l.length ≤ 9223372036854775807) : M_R_FibSum F l = some (fs (-2) 0 l) := by
  unfold M_R_FibSum
  exact rsum_l hF hm F 0 _ _ (by omega) (by omega) (.inl ⟨rfl, rfl⟩) (.inl ⟨rfl, rfl⟩)
theorem begun_fib (n : Nat) : M_L_fibBegun (n + 200) = some true := by kernel_rfl
theorem begun_fib' {F : Nat} (hF : 20000 ≤ F) : M_L_fibBegun F = some true := by
  obtain ⟨n, rfl⟩ : ∃ n, F = n + 200 := ⟨F - 200, by omega⟩
  exact begun_fib n
def fprt (n : Nat) : List Int × Int := if 1099511627776 < n then ([], 3) else (lci (gd 64 n), 0)
theorem fParts_eq {F n : Nat} (hF : 20000 ≤ F) (hn : n < 18446744073709551616) : M_fib_Parts F (n : Int) = some (fprt n) := by
  unfold M_fib_Parts fprt
  by_cases h : 1099511627776 < n
  · rw [if_pos (by simp; omega), if_pos h]
  · rw [if_neg (by simp; omega), if_neg h, fparts_eq hF hn]; rfl
theorem nu_60 : nu 60 = 4052739537881 := by decide +kernel
theorem small_lt {n : Nat} (h : n ≤ 1099511627777) : n < nu 60 := by rw [nu_60]; omega
theorem gd_64 {n : Nat} (h : n ≤ 1099511627777) : sm (gd 64 n) = n ∧ Sp (gd 64 n) ∧ ∀ i ∈ gd 64 n, i < 60 := by
  have := gd_more (small_lt h) 4
  rw [this]
  exact gd_spec 60 n (small_lt h)
def zb (l : List Nat) (m : Nat) : List Int := (List.range m).map fun i => if i ∈ l then 1 else 0
theorem zb_s (l : List Nat) (m : Nat) : zb l (m + 1) = zb l m ++ [if m ∈ l then 1 else 0] := by unfold zb; rw [List.range_succ, List.map_append]; rfl
theorem zb_len (l : List Nat) (m : Nat) : (zb l m).length = m := by simp [zb]
theorem zb_bit (l : List Nat) (m : Nat) : Bit (zb l m) := by
  intro x hx
  unfold zb at hx
  obtain ⟨i, _, rfl⟩ := List.mem_map.1 hx
  split
  · right; rfl
  · left; rfl
theorem zb_get {l : List Nat} {m i : Nat} (h : i < m) : (zb l m)[i]? = some (if i ∈ l then 1 else 0) := by
  unfold zb; rw [List.getElem?_map, List.getElem?_range h]; rfl
def tp (n : Nat) : Nat := (gd 64 (n + 1)).getLast?.getD 0
def fc (n : Nat) : List Int := zb (gd 64 (n + 1)) (tp n + 1) ++ [1]
theorem tp_spec {n : Nat} (h : n ≤ 1099511627776) : ∃ k, gd 64 (n + 1) = k ++ [tp n] ∧ tp n < 60 ∧ nu (tp n) ≤ n + 1 ∧ n + 1 < nu (tp n + 1) := by
  obtain ⟨h1, h2, h3⟩ := gd_64 (show n + 1 ≤ 1099511627777 by omega)
  have hne : gd 64 (n + 1) ≠ [] := by
    intro e; rw [e] at h1; simp [sm] at h1
  obtain ⟨k, x, e⟩ := list_snoc hne
  have ht : tp n = x := by unfold tp; rw [e, List.getLast?_concat]; rfl
  rw [ht]
  rw [e] at h1 h2 h3
  refine ⟨k, e, h3 x (by simp), ?_, ?_⟩
  · have := sm_mem (l := k ++ [x]) (i := x) (by simp); omega
  · rw [← h1]
    refine sp_lt _ _ h2 (fun i hi => ?_)
    rcases List.mem_append.1 hi with hi | hi
    · have := (sp_snoc.1 h2).2 i hi; omega
    · simp at hi; omega
theorem fc_len (n : Nat) : (fc n).length = tp n + 2 := by unfold fc; rw [List.length_append, zb_len]; rfl
theorem fc_bit (n : Nat) : Bit (fc n) := bit_app (zb_bit _ _) bit_one
theorem contains_l {F : Nat} {l : List Nat} {x : Nat} (hm : l.length ≤ 100000) : ∀ (k i : Nat), l.length < k + i → i ≤ l.length → (∀ j, j < i → l[j]? ≠ some x) →
    ∃ q : Int, M_slices_Index_int_int_l3 F (lci l) (x : Int) k (i : Int) = some q ∧ (0 ≤ q ↔ x ∈ l)
  | 0, _, _, _, _ => by omega
  | k + 1, i, hk, hi, hn => by
    have e : M_slices_Index_int_int_l3 F (lci l) (x : Int) (k + 1) (i : Int) = M_slices_Index_int_int_b3 F (lci l) (x : Int) (M_slices_Index_int_int_l3 F (lci l) (x : Int) k) (i : Int) := rfl
    rw [e]
    unfold M_slices_Index_int_int_b3
    by_cases hlt : i < l.length
    · rw [if_pos (by rw [lci_len]; simpa using hlt), idx_nat, lci_get hlt]
      simp only [Option.bind_some]
      by_cases h : x = l[i]
      · rw [if_pos (by simp [h])]
        exact ⟨i, rfl, by rw [h]; simp⟩
      · rw [if_neg (by rw [beq_iff_eq]; omega), iadd1_n (by omega)]
        refine contains_l hm k (i + 1) (by omega) (by omega) (fun j hj => ?_)
        by_cases e2 : j = i
        · subst e2; rw [List.getElem?_eq_getElem hlt]; intro e3; simp at e3; exact h e3.symm
        · exact hn j (by omega)
    · rw [if_neg (by rw [lci_len]; simpa using hlt)]
      refine ⟨-1, rfl, ⟨fun h => by omega, fun h => ?_⟩⟩
      obtain ⟨j, hj⟩ := List.getElem?_of_mem h
      have := (List.getElem?_eq_some_iff.1 hj).1
      exact absurd hj (hn j (by omega))
theorem contains_eq {F : Nat} {l : List Nat} {x : Nat} (hF : l.length < F) (hm : l.length ≤ 100000) : M_slices_Contains_int_int F (lci l) (x : Int) = some (decide (x ∈ l)) := by
  unfold M_slices_Contains_int_int M_slices_Index_int_int
  obtain ⟨q, h1, h2⟩ := contains_l (F := F) (x := x) hm F 0 (by omega) (by omega) (fun j h => by omega)
  rw [show ((0 : Nat) : Int) = 0 from rfl] at h1
  rw [h1]
  simp only [Option.bind_some, h2]
theorem raw_l' {F : Nat} (hF : 20000 ≤ F) {l : List Nat} (hl : l.length ≤ 64) {x : Nat} (hx : x < 64) : ∀ (k i : Nat), x + 1 < k + i → i ≤ x + 1 →
    M_fib_Raw_l13 F (lci l) (x : Int) k ((i : Int), ((zb l i).length : Int), pk (zb l i)) = some (((zb l (x + 1) ++ [1]).length : Int), pk (zb l (x + 1) ++ [1]))
  | 0, _, _, _ => by omega
  | k + 1, i, hk, hi => by
    show M_fib_Raw_b13 F (lci l) (x : Int) (M_fib_Raw_l13 F (lci l) (x : Int) k) (i : Int) ((zb l i).length : Int) (pk (zb l i)) = _
    unfold M_fib_Raw_b13
    rw [iadd1_n (by omega)]
    by_cases hlt : i < x + 1
    · have a1 := add_pk (F := F) (n := 1) (w := 1) (l := zb l i) (by decide) (by omega) (zb_bit _ _) (by rw [zb_len]; omega) (by decide)
      have a0 := add_pk (F := F) (n := 0) (w := 1) (l := zb l i) (by decide) (by omega) (zb_bit _ _) (by rw [zb_len]; omega) (by decide)
      rw [show ((1 : Nat) : Int) = 1 from rfl, show nb 1 1 = [1] from rfl] at a1
      rw [show ((0 : Nat) : Int) = 0 from rfl, show ((1 : Nat) : Int) = 1 from rfl, show nb 0 1 = [0] from rfl] at a0
      have hrec := raw_l' hF hl hx k (i + 1) (by omega) (by omega)
      rw [if_pos (by simp only [decide_eq_true_eq]; omega), contains_eq (by omega) (by omega)]
      simp only [Option.bind_some]
      rw [zb_s] at hrec
      by_cases h : i ∈ l
      · rw [if_pos h] at hrec
        rw [decide_eq_true h, if_pos rfl]
        unfold M_fib_Raw_j15
        rw [a1]
        simp only [Option.bind_some]
        rw [iadd1_n (by omega)]
        exact hrec
      · rw [if_neg h] at hrec
        rw [decide_eq_false h, if_neg (by decide)]
        unfold M_fib_Raw_j15
        rw [a0]
        simp only [Option.bind_some]
        rw [iadd1_n (by omega)]
        exact hrec
    · obtain rfl : i = x + 1 := by omega
      rw [if_neg (by simp)]
      unfold M_fib_Raw_j8
      have a1 := add_pk (F := F) (n := 1) (w := 1) (l := zb l (x + 1)) (by decide) (by omega) (zb_bit _ _) (by rw [zb_len]; omega) (by decide)
      rw [show ((1 : Nat) : Int) = 1 from rfl, show nb 1 1 = [1] from rfl] at a1
      rw [a1]; rfl
theorem fraw_eq' {F n : Nat} (hF : 20000 ≤ F) (hn : n ≤ 1099511627776) : M_fib_Raw F (n : Int) = some (((fc n).length : Int), pk (fc n)) := by
  unfold M_fib_Raw
  obtain ⟨k, h1, h2, _, _⟩ := tp_spec hn
  have hlen := gd_len 64 (n + 1)
  rw [show iadd .u64 (n : Int) 1 = ((n + 1 : Nat) : Int) from iadd_u64_n (b := 1) (by omega), fparts_eq hF (by omega)]
  simp only [Option.bind_some]
  have hk : (gd 64 (n + 1)).length = k.length + 1 := by rw [h1]; simp
  rw [lci_len, isub1_n (by omega) (by omega), idx_nat, hk, Nat.add_sub_cancel]
  have hg : (lci (gd 64 (n + 1)))[k.length]? = some ((tp n : Nat) : Int) := by rw [h1]; simp [lci]
  rw [hg]
  simp only [Option.bind_some]
  have := raw_l' (F := F) hF hlen (show tp n < 64 by omega) F 0 (by omega) (by omega)
  rw [show zb (gd 64 (n + 1)) 0 = [] from rfl, show pk [] = [] from by decide] at this
  exact this
def fcd (n : Nat) : Int × List Int × Int := if 1099511627776 < n then (0, [], 3) else (((fc n).length : Int), pk (fc n), 0)
theorem fcode_eq {F n : Nat} (hF : 20000 ≤ F) : M_fib_Code F (n : Int) = some (fcd n) := by
  unfold M_fib_Code fcd
  by_cases h : 1099511627776 < n
  · rw [if_pos (by simp; omega), if_pos h]
  · rw [if_neg (by simp; omega), if_neg h, fraw_eq' hF (by omega)]; rfl
theorem rlist_l {F : Nat} {l : List Nat} (hl : l.length ≤ 64) {m : Nat} (hm : ∀ i ∈ l, i < m) : ∀ (k i : Nat) (ys : List Int), l.length < k + i → i ≤ l.length → ys.length = m → (∀ p, p < m → ys[p]? = some (if p ∈ l.take i then 1 else 0)) →
    M_R_FibList_l3 F (lci l) k (ys, (i : Int)) = M_R_FibList_j2 F (zb l m)
  | 0, _, _, _, _, _, _ => by omega
  | k + 1, i, ys, hk, hi, hy, hp => by
    show M_R_FibList_b3 F (lci l) (M_R_FibList_l3 F (lci l) k) ys (i : Int) = _
    unfold M_R_FibList_b3
    by_cases hlt : i < l.length
    · have hx := hm _ (List.getElem_mem hlt)
      rw [if_pos (by rw [lci_len]; simpa using hlt), idx_nat, lci_get hlt]
      simp only [Option.bind_some]
      rw [idx_nat, hp _ hx]
      simp only [Option.bind_some, lett, Int.toNat_natCast]
      rw [iadd1_n (by omega)]
      refine rlist_l hl hm k (i + 1) _ (by omega) (by omega) (by rw [List.length_set, hy]) (fun p hpm => ?_)
      rw [List.getElem?_set, List.take_add_one, List.getElem?_eq_getElem hlt]
      by_cases e : l[i] = p
      · rw [if_pos e, if_pos (by omega), if_pos (by rw [← e]; exact List.mem_append.2 (.inr (List.mem_singleton.2 rfl)))]
      · rw [if_neg e, hp p hpm]
        congr 1
        have : p ∈ l.take i ++ (some l[i]).toList ↔ p ∈ l.take i := by
          rw [List.mem_append]
          simp only [Option.toList_some, List.mem_singleton]
          constructor
          · rintro (h | h)
            · exact h
            · exact absurd h.symm e
          · exact .inl
        simp only [this]
    · rw [if_neg (by rw [lci_len]; simpa using hlt)]
      congr 1
      apply List.ext_getElem?
      intro p
      by_cases h : p < m
      · rw [hp p h, zb_get h, List.take_of_length_le (by omega)]
      · rw [List.getElem?_eq_none (by omega), List.getElem?_eq_none (by rw [zb_len]; omega)]
theorem rflist_eq {F n : Nat} (hF : 20100 ≤ F) (hn : n ≤ 1099511627776) : M_R_FibList F (n : Int) = some (fc n) := by
  unfold M_R_FibList
  obtain ⟨k, h1, h2, h3, _⟩ := tp_spec hn
  have hlen := gd_len 64 (n + 1)
  have hg64 := gd_64 (show n + 1 ≤ 1099511627777 by omega)
  rw [show iadd .u64 (n : Int) 1 = ((n + 1 : Nat) : Int) from iadd_u64_n (b := 1) (by omega), rparts_eq 60 F (n + 1) (by omega) (small_lt (by omega)) (by omega)]
  simp only [Option.bind_some]
  have hk : (gd 64 (n + 1)).length = k.length + 1 := by rw [h1]; simp
  rw [lci_len, isub1_n (by omega) (by omega), idx_nat, hk, Nat.add_sub_cancel]
  have hg : (lci (gd 64 (n + 1)))[k.length]? = some ((tp n : Nat) : Int) := by rw [h1]; simp [lci]
  rw [hg]
  simp only [Option.bind_some]
  rw [iadd1_n (by omega)]
  have hmk : mk 17592186044416 (0 : Int) ((tp n + 1 : Nat) : Int) = some (List.replicate (tp n + 1) 0) := by
    unfold mk
    rw [if_pos (by omega), Int.toNat_natCast]
  rw [hmk]
  simp only [Option.bind_some]
  have hall : ∀ i ∈ gd 64 (n + 1), i < tp n + 1 := by
    intro i hi
    rw [h1] at hi
    have hs := hg64.2.1
    rw [h1] at hs
    rcases List.mem_append.1 hi with hi | hi
    · have := (sp_snoc.1 hs).2 i hi; omega
    · simp at hi; omega
  have := rlist_l (F := F) hlen hall F 0 (List.replicate (tp n + 1) 0) (by omega) (by omega) (by simp) (fun p hp => by
    rw [List.getElem?_replicate, if_pos hp]; simp)
  rw [show ((0 : Nat) : Int) = 0 from rfl] at this
  rw [this]
  unfold M_R_FibList_j2
  rw [app_eq (by rw [zb_len]; simp; omega)]
  rfl
def pr : List Int → Option Nat
  | a :: b :: l => if a = 1 ∧ b = 1 then some 0 else (pr (b :: l)).map (· + 1)
  | _ => none
def Pq (r : List Int) (i : Nat) : Prop := r[i]? = some 1 ∧ r[i + 1]? = some 1
theorem pr_some : ∀ {e : Nat} {r : List Int}, Pq r e → (∀ i, i < e → ¬ Pq r i) → pr r = some e
  | 0, r, h, _ => by
    match r, h with
    | [], h => simp [Pq] at h
    | [a], h => simp [Pq] at h
    | a :: b :: l, h =>
      unfold Pq at h
      simp at h
      unfold pr; rw [if_pos h]
  | e + 1, r, h, hn => by
    match r, h with
    | [], h => simp [Pq] at h
    | [a], h => simp [Pq] at h
    | a :: b :: l, h =>
      have h0 := hn 0 (by omega)
      have ih := pr_some (e := e) (r := b :: l) (by unfold Pq at h ⊢; simpa using h) (fun i hi => by
        have := hn (i + 1) (by omega)
        unfold Pq at this ⊢; simpa using this)
      unfold pr
      rw [if_neg (by unfold Pq at h0; simpa using h0), ih]; rfl
theorem pr_spec : ∀ {r : List Int} {e : Nat}, pr r = some e → Pq r e ∧ ∀ i, i < e → ¬ Pq r i
  | [], _, h => by simp [pr] at h
  | [a], _, h => by simp [pr] at h
  | a :: b :: l, e, h => by
    unfold pr at h
    by_cases h1 : a = 1 ∧ b = 1
    · rw [if_pos h1] at h
      obtain rfl := Option.some.inj h
      exact ⟨by unfold Pq; simpa using h1, fun i hi => by omega⟩
    · rw [if_neg h1] at h
      obtain ⟨e', h2, rfl⟩ := Option.map_eq_some_iff.1 h
      obtain ⟨h3, h4⟩ := pr_spec h2
      refine ⟨by unfold Pq at h3 ⊢; simpa using h3, fun i hi => ?_⟩
      cases i with
      | zero => unfold Pq; simpa using h1
      | succ i => have := h4 i (by omega); unfold Pq at this ⊢; simpa using this
theorem pr_none : ∀ {r : List Int}, pr r = none → ∀ i, ¬ Pq r i
  | [], _, i => by simp [Pq]
  | [a], _, i => by simp [Pq]
  | a :: b :: l, h, i => by
    unfold pr at h
    by_cases h1 : a = 1 ∧ b = 1
    · rw [if_pos h1] at h; simp at h
    · rw [if_neg h1] at h
      have ih := pr_none (Option.map_eq_none_iff.1 h)
      cases i with
      | zero => unfold Pq; simpa using h1
      | succ i => have := ih i; unfold Pq at this ⊢; simpa using this
theorem pr_no {r : List Int} (h : ∀ i, ¬ Pq r i) : pr r = none := by
  cases hp : pr r with
  | none => rfl
  | some e => exact absurd (pr_spec hp).1 (h e)
/-- How much the ones ahead of a place are together. -/
def sv (r : List Int) : Nat → Nat
  | 0 => 0
  | j + 1 => sv r j + if r[j]? = some 1 then nu j else 0
theorem sv_le (r : List Int) : ∀ j, sv r j ≤ nu (j + 1)
  | 0 => by show 0 ≤ _; omega
  | j + 1 => by
    have ih := sv_le r j
    rw [nu_s]
    unfold sv
    split <;> omega
theorem sv_mono (r : List Int) {i j : Nat} (h : i ≤ j) : sv r i ≤ sv r j := by
  induction j with
  | zero => rw [show i = 0 from by omega]; exact Nat.le_refl _
  | succ j ih =>
    by_cases e : i = j + 1
    · rw [e]; exact Nat.le_refl _
    · have := ih (by omega)
      have : sv r j ≤ sv r (j + 1) := by show sv r j ≤ sv r j + _; omega
      omega
theorem sv_one {r : List Int} {i j : Nat} (h : r[i]? = some 1) (hj : i < j) : nu i ≤ sv r j := by
  have h1 : nu i ≤ sv r (i + 1) := by
    show nu i ≤ sv r i + _
    rw [if_pos h]; omega
  have := sv_mono r (show i + 1 ≤ j by omega)
  omega
def fr (l : List Int) (a : Nat) : Int × Int × Int := match pr (l.drop a) with
  | none => (0, 0, 7)
  | some e => if 60 < e ∨ 1099511627776 < sv (l.drop a) (e + 1) - 1 then (0, 0, 3) else (((sv (l.drop a) (e + 1) - 1 : Nat) : Int), ((a + e + 2 : Nat) : Int), 0)
theorem fr_none {l : List Int} {a : Nat} (h : pr (l.drop a) = none) : fr l a = (0, 0, 7) := by unfold fr; rw [h]
theorem fr_some {l : List Int} {a e : Nat} (h : pr (l.drop a) = some e) : fr l a = if 60 < e ∨ 1099511627776 < sv (l.drop a) (e + 1) - 1 then (0, 0, 3) else (((sv (l.drop a) (e + 1) - 1 : Nat) : Int), ((a + e + 2 : Nat) : Int), 0) := by unfold fr; rw [h]
theorem dr_get (l : List Int) (a i : Nat) : (l.drop a)[i]? = l[a + i]? := List.getElem?_drop
theorem rread_in {F : Nat} (hF : 20000 ≤ F) {l : List Int} (hl : Bit l) {a e : Nat} (he : e ≤ 60) (hal : a + e < l.length) (hm : l.length ≤ 100000) : ∀ (k j : Nat), e + 1 < k + j → j ≤ e + 1 →
    M_R_FibRead_l23 F l (a : Int) ((a + e : Nat) : Int) k (((sv (l.drop a) j : Nat) : Int), ((a + j : Nat) : Int)) = M_R_FibRead_j22 F ((a + e : Nat) : Int) ((sv (l.drop a) (e + 1) : Nat) : Int)
  | 0, _, _, _ => by omega
  | k + 1, j, hk, hj => by
    show M_R_FibRead_b23 F l (a : Int) ((a + e : Nat) : Int) (M_R_FibRead_l23 F l (a : Int) ((a + e : Nat) : Int) k) ((sv (l.drop a) j : Nat) : Int) ((a + j : Nat) : Int) = _
    unfold M_R_FibRead_b23
    by_cases hlt : j ≤ e
    · have hi : a + j < l.length := by omega
      obtain ⟨b, hb, hb1⟩ : ∃ b : Nat, l[a + j] = (b : Int) ∧ b ≤ 1 := by
        rcases hl _ (List.getElem_mem hi) with h | h
        · exact ⟨0, h, by omega⟩
        · exact ⟨1, h, by omega⟩
      have hs := sv_le (l.drop a) j
      have hn := nu_big (i := j + 1) (by omega)
      have hn2 := nu_big (i := j) (by omega)
      rw [if_pos (by simp only [decide_eq_true_eq]; omega), idx_nat, List.getElem?_eq_getElem hi]
      simp only [Option.bind_some]
      rw [isub_n (by omega) (by omega), show a + j - a = j from by omega, rnum_eq hF (by omega)]
      simp only [Option.bind_some]
      have e1 : imul .u64 (iconv .u64 l[a + j]) ((nu j : Nat) : Int) = (((if (l.drop a)[j]? = some 1 then nu j else 0) : Nat) : Int) := by
        rw [dr_get, List.getElem?_eq_getElem hi, hb, iconv_u64_n (by omega)]
        unfold imul
        rcases (show b = 0 ∨ b = 1 by omega) with rfl | rfl
        · simp; exact wrap_u64 (by omega) (by omega)
        · simp; exact wrap_u64 (by omega) (by omega)
      rw [e1, iadd_u64_n (by split <;> omega), iadd1_n (by omega)]
      exact rread_in hF hl he hal hm k (j + 1) (by omega) (by omega)
    · obtain rfl : j = e + 1 := by omega
      rw [if_neg (by simp only [decide_eq_true_eq]; omega)]
theorem rread_l {F : Nat} {l : List Int} {a : Nat} (hm : l.length ≤ 100000) (ha : a ≤ l.length) : ∀ (k j : Nat), l.length < k + a + j → a + j ≤ l.length → (∀ i, i < j → ¬ Pq (l.drop a) i) →
    M_R_FibRead_l36 F l (a : Int) k ((a + j : Nat) : Int) = match pr (l.drop a) with | none => some (0, 0, 7) | some e => M_R_FibRead_j20 F l (a : Int) ((a + e : Nat) : Int)
  | 0, _, _, _, _ => by omega
  | k + 1, j, hk, hj, hn => by
    show M_R_FibRead_b36 F l (a : Int) (M_R_FibRead_l36 F l (a : Int) k) ((a + j : Nat) : Int) = _
    unfold M_R_FibRead_b36
    rw [iadd1_n (by omega)]
    by_cases hlt : a + j + 1 < l.length
    · have hi : a + j < l.length := by omega
      have q0 : (l.drop a)[j]? = some l[a + j] := by rw [dr_get, List.getElem?_eq_getElem hi]
      have q1 : (l.drop a)[j + 1]? = some l[a + j + 1] := by rw [dr_get, ← Nat.add_assoc, List.getElem?_eq_getElem hlt]
      rw [if_pos (by simp only [decide_eq_true_eq]; omega), idx_nat, idx_nat, List.getElem?_eq_getElem hi, List.getElem?_eq_getElem hlt]
      simp only [Option.bind_some]
      have hgo : ¬ Pq (l.drop a) j → M_R_FibRead_j41 F (M_R_FibRead_l36 F l (a : Int) k) l (a : Int) ((a + j : Nat) : Int) true = match pr (l.drop a) with | none => some (0, 0, 7) | some e => M_R_FibRead_j20 F l (a : Int) ((a + e : Nat) : Int) := by
        intro hnp
        unfold M_R_FibRead_j41
        rw [if_pos rfl, iadd1_n (by omega)]
        exact rread_l hm ha k (j + 1) (by omega) (by omega) (fun i hi => by
          by_cases e : i = j
          · rw [e]; exact hnp
          · exact hn i (by omega))
      by_cases h0 : l[a + j] = 1
      · rw [if_pos (by simpa using h0)]
        unfold M_R_FibRead_j42
        by_cases h1 : l[a + j + 1] = 1
        · have hp := pr_some (r := l.drop a) (e := j) ⟨by rw [q0, h0], by rw [q1, h1]⟩ hn
          rw [hp, show ((l[a + j + 1] == 1) = true) from by simpa using h1]
          unfold M_R_FibRead_j41
          rw [if_neg (by decide)]
        · rw [show ((l[a + j + 1] == 1) = false) from by simpa using h1]
          exact hgo (fun h => by have := h.2; rw [q1] at this; simp at this; exact h1 this)
      · rw [if_neg (by simpa using h0)]
        unfold M_R_FibRead_j42
        exact hgo (fun h => by have := h.1; rw [q0] at this; simp at this; exact h0 this)
    · rw [if_neg (by simp only [decide_eq_true_eq]; omega)]
      have hp : pr (l.drop a) = none := pr_no (fun i h => by
        have h2 := (List.getElem?_eq_some_iff.1 h.2).1
        rw [List.length_drop] at h2
        exact hn i (by omega) h)
      rw [hp]
      unfold M_R_FibRead_j41
      rw [if_neg (by decide)]
      unfold M_R_FibRead_j20
      rw [iadd1_n (by omega), if_pos (by simp only [decide_eq_true_eq]; omega)]
theorem rread_eq {F : Nat} (hF : 20000 ≤ F) {l : List Int} (hl : Bit l) {a : Nat} (hm : l.length ≤ 10000) (ha : a ≤ l.length) : M_R_FibRead F l (a : Int) = some (fr l a) := by
  unfold M_R_FibRead
  have h1 := rread_l (F := F) (l := l) (by omega) ha F 0 (by omega) (by omega) (fun i h => by omega)
  rw [Nat.add_zero] at h1
  rw [h1]
  cases hp : pr (l.drop a) with
  | none => rw [fr_none hp]
  | some e =>
    rw [fr_some hp]
    simp only
    obtain ⟨h2, h3⟩ := pr_spec hp
    have h4 := (List.getElem?_eq_some_iff.1 h2.2).1
    rw [List.length_drop] at h4
    unfold M_R_FibRead_j20
    rw [iadd1_n (by omega), if_neg (by simp only [decide_eq_true_eq]; omega), isub_n (by omega) (by omega), show a + e - a = e from by omega]
    by_cases he : 60 < e
    · rw [if_pos (by simp only [decide_eq_true_eq]; omega), if_pos (.inl he)]
    · rw [if_neg (by simp only [decide_eq_true_eq]; omega)]
      have h5 := rread_in hF hl (a := a) (e := e) (by omega) (by omega) (by omega) F 0 (by omega) (by omega)
      rw [Nat.add_zero, show sv (l.drop a) 0 = 0 from rfl, show ((0 : Nat) : Int) = 0 from rfl] at h5
      rw [h5]
      unfold M_R_FibRead_j22
      have hs := sv_one (j := e + 1) h2.1 (by omega)
      have hs1 := nu_pos e
      have hs2 := sv_le (l.drop a) (e + 1)
      have hs3 := nu_big (i := e + 1 + 1) (by omega)
      have e1 : isub .u64 ((sv (l.drop a) (e + 1) : Nat) : Int) 1 = ((sv (l.drop a) (e + 1) - 1 : Nat) : Int) := isub_u64_n (b := 1) (by omega) (by omega)
      have e2 : iadd .i64 ((a + e : Nat) : Int) 2 = ((a + e + 2 : Nat) : Int) := iadd_n (b := 2) (by omega)
      rw [e1, e2]
      by_cases h6 : 1099511627776 < sv (l.drop a) (e + 1) - 1
      · rw [if_pos (by simp only [decide_eq_true_eq]; omega), if_pos (.inr h6)]
      · rw [if_neg (by simp only [decide_eq_true_eq]; omega), if_neg (by omega)]
theorem nu_61 : nu 61 = 6557470319842 := by decide +kernel
theorem ffrom_l {F : Nat} {l : List Int} (hl : Bit l) {a : Nat} (hm : l.length ≤ 10000) (ha : a ≤ l.length) : ∀ (k j : Nat) (last : Int) (much : Bool), l.length < k + a + j → a + j ≤ l.length → (∀ i, i + 1 < j → ¬ Pq (l.drop a) i) →
    ((last = 1 ↔ 0 < j ∧ (l.drop a)[j - 1]? = some 1)) → (j ≤ 64 → much = true → 2199023255552 < sv (l.drop a) j) → (64 < j → (l.drop a)[j - 1]? = some 1 → much = true) →
    M_fib_From_l25 F (l.length : Int) (pk l) (a : Int) fibs k (((sv (l.drop a) (min j 64) : Nat) : Int), last, much, ((a + j : Nat) : Int)) = some (fr l a)
  | 0, _, _, _, _, _, _, _, _, _ => by omega
  | k + 1, j, last, much, hk, hj, hn, hla, hA, hB => by
    show M_fib_From_b25 F (l.length : Int) (pk l) (a : Int) fibs (M_fib_From_l25 F (l.length : Int) (pk l) (a : Int) fibs k) ((sv (l.drop a) (min j 64) : Nat) : Int) last much ((a + j : Nat) : Int) = _
    unfold M_fib_From_b25
    have hsv := sv_le (l.drop a) (min j 64)
    have hsb := nu_big (i := min j 64 + 1) (by omega)
    by_cases hlt : a + j < l.length
    · have q0 : (l.drop a)[j]? = some l[a + j] := by rw [dr_get, List.getElem?_eq_getElem hlt]
      rw [if_pos (by simp only [decide_eq_true_eq]; omega), at_pk hl (by omega) hlt]
      simp only [Option.bind_some]
      have hnn : ¬ (l[a + j] = 1 ∧ last = 1) → ∀ i, i + 1 < j + 1 → ¬ Pq (l.drop a) i := by
        intro hc i hi hp
        by_cases e : i + 1 < j
        · exact hn i e hp
        · obtain rfl : j = i + 1 := by omega
          have h1 := hp.2
          rw [q0] at h1
          exact hc ⟨Option.some.inj h1, hla.2 ⟨by omega, by simpa using hp.1⟩⟩
      have hrec : ∀ (b : Bool) (s : Nat), ¬ (l[a + j] = 1 ∧ last = 1) → s = sv (l.drop a) (min (j + 1) 64) → (j + 1 ≤ 64 → b = true → 2199023255552 < sv (l.drop a) (j + 1)) → (64 < j + 1 → l[a + j] = 1 → b = true) →
          M_fib_From_j30 F (M_fib_From_l25 F (l.length : Int) (pk l) (a : Int) fibs k) ((a + j : Nat) : Int) l[a + j] (s : Int) b = some (fr l a) := by
        intro b s hc hs h1 h2
        unfold M_fib_From_j30
        rw [iadd1_n (by omega), hs]
        refine ffrom_l hl hm ha k (j + 1) l[a + j] b (by omega) (by omega) (hnn hc) ?_ h1 ?_
        · rw [Nat.add_sub_cancel, q0]
          constructor
          · intro h; exact ⟨by omega, by rw [h]⟩
          · intro h; exact Option.some.inj h.2
        · rw [Nat.add_sub_cancel, q0]
          intro h3 h4; exact h2 h3 (Option.some.inj h4)
      by_cases hc : l[a + j] = 1 ∧ last = 1
      · obtain ⟨h0, hpv⟩ := hla.1 hc.2
        have hpq : Pq (l.drop a) (j - 1) := ⟨hpv, by rw [Nat.sub_add_cancel h0, q0, hc.1]⟩
        have hp := pr_some hpq (fun i hi => hn i (by omega))
        rw [fr_some hp, Nat.sub_add_cancel h0]
        have hs1 := sv_one (j := min j 64) (i := min (j - 1) 0) (r := l.drop a)
        rw [if_pos (by simp [hc.1, hc.2])]
        unfold M_fib_From_j31
        have hiff : (much || decide (1099511627776 < isub .u64 ((sv (l.drop a) (min j 64) : Nat) : Int) 1)) = true ↔ (60 < j - 1 ∨ 1099511627776 < sv (l.drop a) j - 1) := by
          by_cases hj64 : j ≤ 64
          · rw [Nat.min_eq_left hj64] at hsv hsb ⊢
            have h5 := sv_one (j := j) hpv (by omega)
            have h6 := nu_pos (j - 1)
            have e1 : isub .u64 ((sv (l.drop a) j : Nat) : Int) 1 = ((sv (l.drop a) j - 1 : Nat) : Int) := isub_u64_n (b := 1) (by omega) (by omega)
            rw [e1, Bool.or_eq_true, decide_eq_true_eq]
            constructor
            · rintro (h | h)
              · have := hA hj64 h; right; omega
              · right; omega
            · rintro (h | h)
              · have h7 := nu_mono (show 61 ≤ j - 1 by omega)
                rw [nu_61] at h7
                right; omega
              · right; omega
          · rw [hB (by omega) hpv]
            simp; omega
        by_cases hx : 60 < j - 1 ∨ 1099511627776 < sv (l.drop a) j - 1
        · rw [if_pos (hiff.2 hx), if_pos hx]
        · have hj64 : j ≤ 64 := by omega
          have h5 := sv_one (j := j) hpv (by omega)
          have h6 := nu_pos (j - 1)
          have e1 : isub .u64 ((sv (l.drop a) j : Nat) : Int) 1 = ((sv (l.drop a) j - 1 : Nat) : Int) := isub_u64_n (b := 1) (by omega) (by rw [Nat.min_eq_left hj64] at hsv hsb; omega)
          rw [if_neg (fun h => hx (hiff.1 h)), if_neg hx, if_pos (by simp [hc.1, hc.2]), Nat.min_eq_left hj64, e1, iadd1_n (by omega)]
          congr 3
          omega
      · rw [if_neg (by simpa using hc)]
        unfold M_fib_From_j31
        rw [if_neg (by decide), if_neg (by simpa using hc), isub_n (by omega) (by omega), show a + j - a = j from by omega]
        by_cases h1 : l[a + j] = 1
        · by_cases h64 : 64 ≤ j
          · rw [if_pos (by simp [h1]; omega)]
            exact hrec true _ hc (by rw [show min j 64 = 64 from by omega, show min (j + 1) 64 = 64 from by omega]) (fun h => by omega) (fun _ _ => rfl)
          · have e2 : sv (l.drop a) (j + 1) = sv (l.drop a) j + nu j := by
              show sv (l.drop a) j + _ = _
              rw [q0, h1, if_pos rfl]
            have hnj := nu_big (i := j) (by omega)
            rw [if_neg (by simp; omega), if_pos (by simpa using h1), idx_nat, fibs_get (by omega)]
            simp only [Option.bind_some]
            rw [show min j 64 = j from by omega] at hsv hsb ⊢
            rw [iadd_u64_n (by omega)]
            refine hrec _ _ hc (by rw [show min (j + 1) 64 = j + 1 from by omega, e2]) (fun _ h => ?_) (fun h => by omega)
            rw [Bool.or_eq_true, decide_eq_true_eq] at h
            rcases h with h | h
            · have := hA (by omega) h; omega
            · omega
        · have e2 : sv (l.drop a) (j + 1) = sv (l.drop a) j := by
            show sv (l.drop a) j + _ = _
            rw [q0, if_neg (by simpa using h1)]; omega
          rw [if_neg (by simp [h1]), if_neg (by simpa using h1)]
          refine hrec much _ hc ?_ (fun h5 h6 => ?_) (fun _ h => absurd h h1)
          · by_cases h64 : j < 64
            · rw [show min j 64 = j from by omega, show min (j + 1) 64 = j + 1 from by omega, e2]
            · rw [show min j 64 = 64 from by omega, show min (j + 1) 64 = 64 from by omega]
          · rw [e2]; exact hA (by omega) h6
    · rw [if_neg (by simp only [decide_eq_true_eq]; omega)]
      have hp : pr (l.drop a) = none := pr_no (fun i h => by
        have h2 := (List.getElem?_eq_some_iff.1 h.2).1
        rw [List.length_drop] at h2
        exact hn i (by omega) h)
      rw [fr_none hp]; rfl
theorem ffrom_eq {F : Nat} (hF : 20000 ≤ F) {l : List Int} (hl : Bit l) {a : Nat} (hm : l.length ≤ 8192) (ha : a ≤ l.length) : M_fib_From F (l.length : Int) (pk l) (a : Int) = some (fr l a) := by
  unfold M_fib_From
  rw [fnumbers_eq hF]
  simp only [Option.bind_some]
  rw [fibs_len, decide_eq_true rfl]
  simp only [chk, if_true]
  exact ffrom_l hl (by omega) ha F 0 0 false (by omega) (by omega) (fun i h => by omega) (by simp) (fun _ h => by simp at h) (fun h => by omega)
theorem fibread_eq {F : Nat} (hF : 20000 ≤ F) {m a : Int} {b : List Int} (hb : U8s b) (hm : I64 m) (lb : b.length ≤ 9223372036854775807) : M_fib_Read F m b a = some (rd fr m b a) := by
  unfold M_fib_Read
  rw [eCheck_eq hb hm lb]
  simp only [Option.bind_some]
  rcases ra_cases hb (m := m) (a := a) with h | ⟨l, i, hl, hlm, rfl, rfl, rfl, hi⟩
  · rw [if_pos (by simpa using h), rd_bad h]
  · rw [ra_form hlm hi, if_neg (by simp), rd_form hl hlm hi, ffrom_eq hF hl hlm hi]
    rfl
theorem law_fibtells {F : Nat} (h0 : 20100 ≤ F) {i n m a : Int} {l b : List Int} (hn : U64 n) (hl : l.length < F) (hlm : l.length ≤ 9223372036854775807) (hb : U8s b) (hm : I64 m) (lb : b.length ≤ 9223372036854775807) : M_L_FibTells F i n l m b a = some true := by
  obtain ⟨n, rfl⟩ := Int.eq_ofNat_of_zero_le hn.1
  have hn2 : n < 18446744073709551616 := by have := hn.2; omega
  have h2 : 20000 ≤ F := by omega
  have hj3 : ∀ (x25 x26 x43 x47 : Int) (x46 x50 : List Int), fnum i = (x26, x25) → fprt n = (x46, x43) → fcd n = (x47, x50, x43) →
      M_L_FibTells_j2 F l m b a (fnum i) (fprt n) (fs (-2) 0 l) (fcd n) (rd fr m b a) x25 x26 x43 x46 x47 x50 = some true := by
    intro x25 x26 x43 x47 x46 x50 e1 e2 e3
    have hj : ∀ u v w, rd fr m b a = (v, w, u) → M_L_FibTells_j3 F (fnum i) (fprt n) (fs (-2) 0 l) (fcd n) (rd fr m b a) x25 x26 x43 x46 x47 x50 (fs (-2) 0 l) u v w = some true := by
      intro u v w e4
      unfold M_L_FibTells_j3
      have hx46 : x46.length ≤ 64 := by
        have h5 := congrArg (fun z => z.1) e2
        simp only at h5
        rw [← h5]
        unfold fprt
        by_cases h : 1099511627776 < n
        · rw [if_pos h]; simp
        · rw [if_neg h]; simp only; rw [lci_len]; exact gd_len 64 n
      have hx50 : x50.length ≤ 2000 := by
        have h5 := congrArg (fun z => z.2.1) e3
        simp only at h5
        rw [← h5]
        unfold fcd
        by_cases h : 1099511627776 < n
        · rw [if_pos h]; simp
        · rw [if_neg h]; simp only
          obtain ⟨_, _, h6, _⟩ := tp_spec (show n ≤ 1099511627776 by omega)
          exact pk_small (by rw [fc_len]; omega)
      rw [begun_fib' h2, e1, e2, e3, e4]
      simp only [Option.bind_some]
      rw [if_pos (by simp), same_ints (by omega) (by omega), decide_eq_true rfl]
      simp only [Option.bind_some]
      unfold M_L_FibTells_j4
      rw [if_pos (by simp), sameBits_eq (by simp only; omega) (by simp only; omega), decide_eq_true ⟨rfl, rfl⟩]
      simp only [Option.bind_some]
      unfold M_L_FibTells_j5
      simp
    unfold M_L_FibTells_j2
    rw [rsum_eq h2 hl hlm, readErr_eq h2 hb]
    simp only [Option.bind_some]
    rcases ra_cases hb (m := m) (a := a) with h | ⟨k, j, hk, hkm, rfl, rfl, rfl, hj2⟩
    · rw [if_neg (by simpa using h)]
      exact hj _ _ _ (rd_bad h)
    · rw [ra_form hkm hj2, if_pos (by rfl), bitList_eq h2 hb (by rw [pk_len]; omega) (by omega), bl_pk hk]
      simp only [Option.bind_some]
      rw [rread_eq h2 hk (by omega) hj2]
      simp only [Option.bind_some]
      exact hj _ _ _ (rd_form hk hkm hj2)
  have hj1 : ∀ (x25 x26 : Int), fnum i = (x26, x25) → M_L_FibTells_j1 F (n : Int) l m b a (fnum i) (fprt n) (fs (-2) 0 l) (fcd n) (rd fr m b a) x25 x26 = some true := by
    intro x25 x26 e1
    unfold M_L_FibTells_j1
    by_cases h : 1099511627776 < n
    · rw [if_pos (by simp; omega)]
      exact hj3 _ _ _ _ _ _ e1 (by unfold fprt; rw [if_pos h]) (by unfold fcd; rw [if_pos h])
    · obtain ⟨_, _, h6, _⟩ := tp_spec (show n ≤ 1099511627776 by omega)
      rw [if_neg (by simp; omega), rparts_eq 60 F n (by omega) (small_lt (by omega)) (by omega), rflist_eq h0 (by omega)]
      simp only [Option.bind_some]
      rw [packBits_eq h2 (fc_bit n) (by rw [fc_len]; omega)]
      simp only [Option.bind_some]
      exact hj3 _ _ _ _ _ _ e1 (by unfold fprt; rw [if_neg h]) (by unfold fcd; rw [if_neg h])
  unfold M_L_FibTells
  rw [fnumber_eq h2, fParts_eq h2 hn2, fsum_eq h2 hl hlm, fcode_eq h2, fibread_eq h2 hb hm lb]
  simp only [Option.bind_some]
  by_cases hi : 0 ≤ i ∧ i < 64
  · obtain ⟨i, rfl⟩ := Int.eq_ofNat_of_zero_le hi.1
    rw [if_neg (by simp; omega), rnum_eq h2 (by omega)]
    simp only [Option.bind_some]
    exact hj1 _ _ (by unfold fnum; rw [if_pos hi, Int.toNat_natCast])
  · rw [if_pos (by simp; omega)]
    exact hj1 _ _ (by unfold fnum; rw [if_neg hi])
/-- In a code two ones stand at its end, and there alone. -/
theorem fc_get {n i : Nat} (h : i < tp n + 1) : (fc n)[i]? = some (if i ∈ gd 64 (n + 1) then 1 else 0) := by
  unfold fc
  rw [List.getElem?_append_left (by rw [zb_len]; exact h), zb_get h]
theorem fc_end (n : Nat) : (fc n)[tp n + 1]? = some 1 := by
  unfold fc
  rw [List.getElem?_append_right (by rw [zb_len]; exact Nat.le_refl _), zb_len, Nat.sub_self]; rfl
theorem sp_far {l : List Nat} (h : Sp l) : ∀ {i : Nat}, i ∈ l → i + 1 ∉ l := by
  induction l with
  | nil => intro i hi; simp at hi
  | cons a l ih =>
    intro i hi hj
    have ha : ∀ b ∈ l, a + 2 ≤ b := by
      clear ih hi hj
      cases l with
      | nil => intro b hb; simp at hb
      | cons c l =>
        have h1 := h.1
        intro b hb
        have : ∀ {l : List Nat} {c : Nat}, Sp (c :: l) → ∀ b ∈ c :: l, c ≤ b := by
          intro l
          induction l with
          | nil => intro c _ b hb; simp at hb; omega
          | cons d l ih2 =>
            intro c hs b hb
            rcases List.mem_cons.1 hb with rfl | hb
            · exact Nat.le_refl _
            · have := ih2 hs.2 b hb; have := hs.1; omega
        have := this h.2 b hb
        omega
    have hs : Sp l := by
      cases l with
      | nil => trivial
      | cons c l => exact h.2
    rcases List.mem_cons.1 hi with rfl | hi
    · rcases List.mem_cons.1 hj with hj | hj
      · omega
      · have := ha _ hj; omega
    · rcases List.mem_cons.1 hj with hj | hj
      · have := ha _ hi; omega
      · exact ih hs hi hj
theorem pr_fc {n : Nat} (hn : n ≤ 1099511627776) (r : List Int) : pr (fc n ++ r) = some (tp n) := by
  obtain ⟨k, h1, h2, _, _⟩ := tp_spec hn
  obtain ⟨_, g2, _⟩ := gd_64 (show n + 1 ≤ 1099511627777 by omega)
  have hl := fc_len n
  have hmem : tp n ∈ gd 64 (n + 1) := by rw [h1]; simp
  refine pr_some ⟨?_, ?_⟩ (fun i hi hp => ?_)
  · rw [List.getElem?_append_left (by omega), fc_get (by omega), if_pos hmem]
  · rw [List.getElem?_append_left (by omega), fc_end]
  · have a1 := hp.1; have a2 := hp.2
    rw [List.getElem?_append_left (by omega), fc_get (by omega)] at a1
    rw [List.getElem?_append_left (by omega), fc_get (by omega)] at a2
    by_cases m1 : i ∈ gd 64 (n + 1)
    · by_cases m2 : i + 1 ∈ gd 64 (n + 1)
      · exact sp_far g2 m1 m2
      · rw [if_neg m2] at a2; simp at a2
    · rw [if_neg m1] at a1; simp at a1
/-- The ones of a list are together what its places are. -/
theorem sv_sm : ∀ {m : Nat} {l : List Nat} {r : List Int}, Sp l → (∀ i ∈ l, i < m) → (∀ i, i < m → (r[i]? = some 1 ↔ i ∈ l)) → sv r m = sm l
  | 0, l, r, _, hl, _ => by
    cases l with
    | nil => rfl
    | cons a l => have := hl a List.mem_cons_self; omega
  | m + 1, l, r, hs, hl, hr => by
    show sv r m + _ = _
    by_cases h : m ∈ l
    · have hne : l ≠ [] := by intro e; rw [e] at h; simp at h
      obtain ⟨k, x, rfl⟩ := list_snoc hne
      obtain ⟨h1, h2⟩ := sp_snoc.1 hs
      have hx : x = m := by
        rcases List.mem_append.1 h with h | h
        · have := h2 m h; have := hl x (by simp); omega
        · simp at h; omega
      subst hx
      rw [if_pos ((hr x (by omega)).2 h), sv_sm h1 (fun i hi => by have := h2 i hi; omega) (fun i hi => by
        rw [hr i (by omega), List.mem_append]
        constructor
        · rintro (h3 | h3)
          · exact h3
          · simp at h3; omega
        · exact .inl), sm_app, sm_1]
    · rw [if_neg (fun e => h ((hr m (by omega)).1 e)), Nat.add_zero]
      exact sv_sm hs (fun i hi => by
        have := hl i hi
        have : i ≠ m := fun e => h (e ▸ hi)
        omega) (fun i hi => hr i (by omega))
theorem sv_fc {n : Nat} (hn : n ≤ 1099511627776) (r : List Int) : sv (fc n ++ r) (tp n + 1) = n + 1 := by
  obtain ⟨k, h1, h2, _, _⟩ := tp_spec hn
  obtain ⟨g1, g2, _⟩ := gd_64 (show n + 1 ≤ 1099511627777 by omega)
  have hl := fc_len n
  rw [sv_sm g2 (fun i hi => ?_) (fun i hi => ?_), g1]
  · rw [h1] at hi
    rw [h1] at g2
    rcases List.mem_append.1 hi with hi | hi
    · have := (sp_snoc.1 g2).2 i hi; omega
    · simp at hi; omega
  · rw [List.getElem?_append_left (by omega), fc_get hi]
    by_cases m : i ∈ gd 64 (n + 1) <;> simp [m]
theorem fr_fc {n : Nat} (hn : n ≤ 1099511627776) {b : List Int} {a : Nat} {r : List Int} (h : b.drop a = fc n ++ r) : fr b a = ((n : Int), ((a + (fc n).length : Nat) : Int), 0) := by
  obtain ⟨_, _, h2, _, _⟩ := tp_spec hn
  rw [fr_some (e := tp n) (by rw [h]; exact pr_fc hn r), h, sv_fc hn, if_neg (by omega), fc_len, Nat.add_sub_cancel, Nat.add_assoc]
theorem fcd_big {n : Nat} (h : 1099511627776 < n) : fcd n = (0, [], 3) := by unfold fcd; rw [if_pos h]
theorem fcd_ok {n : Nat} (h : n ≤ 1099511627776) : fcd n = (((fc n).length : Int), pk (fc n), 0) := by unfold fcd; rw [if_neg (by omega)]
theorem fc_short {n : Nat} (h : n ≤ 1099511627776) : (fc n).length ≤ 62 := by
  obtain ⟨_, _, h2, _, _⟩ := tp_spec h
  rw [fc_len]; omega
theorem law_fiblong {F : Nat} (h0 : 20000 ≤ F) {a b : Int} (ha : U64 a) (hb : U64 b) : M_L_FibLong F a b = some true := by
  obtain ⟨a, rfl⟩ := Int.eq_ofNat_of_zero_le ha.1
  obtain ⟨b, rfl⟩ := Int.eq_ofNat_of_zero_le hb.1
  unfold M_L_FibLong
  rw [fcode_eq h0, fcode_eq h0, begun_fib' h0]
  simp only [Option.bind_some]
  rw [if_neg (by decide)]
  by_cases h1 : a ≤ 1099511627776
  · by_cases h2 : b ≤ 1099511627776
    · rw [fcd_ok h1, fcd_ok h2]
      by_cases h3 : a ≤ b
      · obtain ⟨_, _, t1, t2, t3⟩ := tp_spec h1
        obtain ⟨_, _, u1, u2, u3⟩ := tp_spec h2
        have hle : tp a < tp b + 1 := nu_lt_iff.1 (by omega)
        have e1 : isub .i64 ((tp a + 2 : Nat) : Int) 2 = ((tp a : Nat) : Int) := isub_n (b := 2) (by omega) (by omega)
        have e2 : isub .i64 ((tp a + 2 : Nat) : Int) 1 = ((tp a + 1 : Nat) : Int) := isub_n (b := 1) (by omega) (by omega)
        rw [if_neg (by simp; omega)]
        simp only
        rw [fc_len, fc_len, e1, e2, fnumber_eq h0, fnumber_eq h0]
        simp only [Option.bind_some]
        unfold fnum
        rw [if_pos (by omega), if_pos (by omega), show iadd .u64 (a : Int) 1 = ((a + 1 : Nat) : Int) from iadd_u64_n (b := 1) (by omega), Int.toNat_natCast, Int.toNat_natCast]
        simp
        omega
      · rw [if_pos (by simp; omega)]
    · rw [fcd_big (n := b) (by omega), if_pos (by simp)]
  · rw [fcd_big (n := a) (by omega), if_pos (by simp)]
theorem law_fibback {F : Nat} (h0 : 20000 ≤ F) {n m : Int} {b : List Int} (hn : U64 n) (hb : U8s b) (hm : I64 m) (lb : b.length ≤ 9223372036854775807) : M_L_FibBack F n m b = some true := by
  obtain ⟨n, rfl⟩ := Int.eq_ofNat_of_zero_le hn.1
  unfold M_L_FibBack
  rw [fcode_eq h0, begun_fib' h0]
  simp only [Option.bind_some]
  rw [if_neg (by decide), begun_bits' h0]
  simp only [Option.bind_some, Bool.not_true]
  unfold M_L_FibBack_j2
  rw [if_neg (by decide)]
  by_cases h : n ≤ 1099511627776
  · have hs := fc_short h
    have hpl := pk_small (l := fc n) (by omega)
    rw [fcd_ok h, if_neg (by simp), join_eq h0 (pk_u8 (fc_bit n)) hb ⟨by omega, by omega⟩ hm (by omega) lb]
    simp only [Option.bind_some]
    rcases chk_form hb (n := m) with h1 | ⟨k, hk, hkm, rfl, rfl⟩
    · rw [jn_bad2 (chk_pk (by omega)) h1, if_pos (by simpa using h1)]
    · rw [jn_form (fc_bit n) hk (by omega) hkm]
      by_cases h2 : (fc n).length + k.length ≤ 8192
      · have hl : (fc n ++ k).length ≤ 8192 := by rw [List.length_append]; omega
        have hbit := bit_app (fc_bit n) hk
        rw [if_pos h2, if_neg (by simp)]
        simp only
        have e0 : fr (fc n ++ k) 0 = ((n : Int), ((0 + (fc n).length : Nat) : Int), 0) := fr_fc h (r := k) (by rw [List.drop_zero])
        have hrd := fibread_eq (F := F) h0 (m := ((fc n ++ k).length : Int)) (a := ((0 : Nat) : Int)) (pk_u8 hbit) ⟨by omega, by omega⟩ (pk_len9 hl)
        rw [rd_form hbit hl (Nat.zero_le _), e0, show ((0 : Nat) : Int) = 0 from rfl] at hrd
        rw [hrd]
        simp
      · rw [if_neg h2, if_pos (by decide)]
  · rw [fcd_big (by omega), if_pos (by simp), sameBits_eq (by simp; omega) (by simp), decide_eq_true ⟨rfl, rfl⟩]
    rfl
/-- Where no two ones stand together, the ones are less than the next number. -/
theorem sv_sparse {r : List Int} : ∀ {j : Nat}, (∀ i, i + 1 < j → ¬ Pq r i) → sv r j < nu j
  | 0, _ => by show 0 < nu 0; decide
  | 1, _ => by
    show 0 + (if r[0]? = some 1 then nu 0 else 0) < nu 1
    split <;> decide
  | j + 2, h => by
    have h1 := sv_sparse (r := r) (j := j + 1) (fun i hi => h i (by omega))
    have h0 := sv_sparse (r := r) (j := j) (fun i hi => h i (by omega))
    have e1 : sv r (j + 2) = sv r (j + 1) + if r[j + 1]? = some 1 then nu (j + 1) else 0 := rfl
    have e0 : sv r (j + 1) = sv r j + if r[j]? = some 1 then nu j else 0 := rfl
    rw [nu_s, e1]
    by_cases h3 : r[j + 1]? = some 1
    · have h4 : r[j]? ≠ some 1 := fun h5 => h j (by omega) ⟨h5, h3⟩
      rw [if_pos h3, e0, if_neg h4]; omega
    · rw [if_neg h3]; omega
/-- A list that ends as a code ends: what is read of it finds its end. -/
theorem fr_near {X r : List Int} {N to : Nat} (hN : X.length = N) (h4 : 4 ≤ N) (hN2 : N ≤ 62) (e3 : X[N - 3]? = some 0) (e2 : X[N - 2]? = some 1) (e1 : X[N - 1]? = some 1) (hnu : nu (N - 1) ≤ 1099511627776) (hto : to ≤ N - 2) :
    ∃ (v nx : Nat), fr (X ++ r) to = ((v : Int), (nx : Int), 0) ∧ to + 2 ≤ nx ∧ (nx = N ∨ nx ≤ N - 2) := by
  have hg : ∀ i, i < N → (X ++ r)[i]? = X[i]? := fun i hi => List.getElem?_append_left (by omega)
  have hd : ∀ i, ((X ++ r).drop to)[i]? = (X ++ r)[to + i]? := fun i => List.getElem?_drop
  have hend : Pq ((X ++ r).drop to) (N - 2 - to) := by
    refine ⟨?_, ?_⟩
    · rw [hd, show to + (N - 2 - to) = N - 2 from by omega, hg _ (by omega), e2]
    · rw [hd, show to + (N - 2 - to + 1) = N - 1 from by omega, hg _ (by omega), e1]
  cases hp : pr ((X ++ r).drop to) with
  | none => exact absurd hend (pr_none hp _)
  | some e =>
    obtain ⟨h1, h2⟩ := pr_spec hp
    have he : e ≤ N - 2 - to := by
      by_cases h : e ≤ N - 2 - to
      · exact h
      · exact absurd hend (h2 _ (by omega))
    have hs := sv_sparse (r := (X ++ r).drop to) (j := e + 1) (fun i hi => h2 i (by omega))
    have hm := nu_mono (show e + 1 ≤ N - 1 by omega)
    rw [fr_some hp, if_neg (by omega)]
    refine ⟨_, to + e + 2, rfl, by omega, ?_⟩
    have n3 : to + e ≠ N - 3 := fun h => by
      have := h1.1
      rw [hd, h, hg _ (by omega), e3] at this; simp at this
    have n4 : to + e + 1 ≠ N - 3 := fun h => by
      have := h1.2
      rw [hd, ← Nat.add_assoc, h, hg _ (by omega), e3] at this; simp at this
    omega
theorem fnext_l {F : Nat} {m : Int} {A X C : List Int} {mm N : Nat} (hm : m = (mm : Int)) (hmm : mm ≤ 1099511627776) (hA : A = X ++ C) (hC : C = fc mm) (hN : X.length = N) (h4 : 4 ≤ N) (hN2 : N ≤ 62) (e3 : X[N - 3]? = some 0) (e2 : X[N - 2]? = some 1) (e1 : X[N - 1]? = some 1) (hnu : nu (N - 1) ≤ 1099511627776)
    (hrd : ∀ t : Nat, t ≤ A.length → M_fib_Read F (A.length : Int) (pk A) (t : Int) = some (fr A t)) {x4 : Int × List Int × Int} (hx4 : x4.1 = (N : Int)) : ∀ (k to : Nat), N < k + to → to ≤ N - 2 →
    M_L_FibNext_l5 F m x4 ((A.length : Int), pk A, 0) k (to : Int) = some true
  | 0, _, _, _ => by omega
  | k + 1, to, hk, hto => by
    show M_L_FibNext_b5 F m x4 ((A.length : Int), pk A, 0) (M_L_FibNext_l5 F m x4 ((A.length : Int), pk A, 0) k) (to : Int) = _
    unfold M_L_FibNext_b5
    obtain ⟨v, nx, hf, h1, h2⟩ := fr_near (r := C) hN h4 hN2 e3 e2 e1 hnu hto
    have hAl : A.length = N + C.length := by rw [hA, List.length_append, hN]
    rw [← hA] at hf
    rw [hx4, if_pos (by simp only [decide_eq_true_eq]; omega)]
    simp only
    rw [hrd to (by omega), hf]
    simp only [Option.bind_some]
    rw [if_neg (by simp; omega)]
    rcases h2 with rfl | h2
    · have hdrop : A.drop nx = fc mm ++ [] := by rw [hA, List.drop_left' hN, List.append_nil, hC]
      rw [if_pos (by simp), hrd nx (by omega), fr_fc hmm hdrop]
      simp only [Option.bind_some]
      rw [hm, ← hC, hAl]
      simp
    · rw [if_neg (by rw [beq_iff_eq]; omega)]
      exact fnext_l hm hmm hA hC hN h4 hN2 e3 e2 e1 hnu hrd hx4 k nx (by omega) (by omega)
theorem law_fibnext {F : Nat} (h0 : 20000 ≤ F) {n m a : Int} (hn : U64 n) (hm : U64 m) : M_L_FibNext F n m a = some true := by
  obtain ⟨n, rfl⟩ := Int.eq_ofNat_of_zero_le hn.1
  obtain ⟨m, rfl⟩ := Int.eq_ofNat_of_zero_le hm.1
  unfold M_L_FibNext
  rw [fcode_eq h0, fcode_eq h0, begun_fib' h0]
  simp only [Option.bind_some]
  rw [if_neg (by decide), begun_bits' h0]
  simp only [Option.bind_some, Bool.not_true]
  unfold M_L_FibNext_j2
  rw [if_neg (by decide)]
  by_cases hn1 : n ≤ 274877906944
  rotate_left
  · by_cases hn2 : n ≤ 1099511627776
    · rw [if_pos (by simp; omega)]
    · rw [fcd_big (n := n) (by omega), if_pos (by simp)]
  by_cases hm1 : m ≤ 1099511627776
  rotate_left
  · rw [fcd_big (n := m) (by omega), if_pos (by simp)]
  rw [fcd_ok (n := n) (by omega), fcd_ok hm1]
  obtain ⟨kk, t0, t1, t2, t3⟩ := tp_spec (n := n) (by omega)
  obtain ⟨_, g2, _⟩ := gd_64 (show n + 1 ≤ 1099511627777 by omega)
  have hN := fc_len n
  have hsm := fc_short (n := n) (by omega)
  have hsm2 := fc_short hm1
  simp only
  have e3' : isub .i64 ((fc n).length : Int) 3 = ((fc n).length : Int) - 3 := by rw [isub_i64 (by omega) (by omega)]
  rw [e3']
  by_cases ha : 0 ≤ a ∧ a < ((fc n).length : Int) - 3
  rotate_left
  · rw [if_pos (by simp; omega)]
  obtain ⟨a, rfl⟩ := Int.eq_ofNat_of_zero_le ha.1
  have ha2 : a + 3 < (fc n).length := by omega
  have hal : a < (fc n).length := by omega
  have hb := fc_bit n
  obtain ⟨b, eb, hb1⟩ : ∃ b : Nat, (fc n)[a] = (b : Int) ∧ b ≤ 1 := by
    rcases hb _ (List.getElem_mem hal) with h | h
    · exact ⟨0, h, by omega⟩
    · exact ⟨1, h, by omega⟩
  have hu := pk_u8 hb
  have hl9 := pk_len9 (l := fc n) (by omega)
  have hi := i64_len (l := fc n) (by omega)
  have hgt : gt ((fc n).length : Int) (pk (fc n)) (a : Int) 1 = ((b : Int), 0) := by
    have h := gt_form hb (by omega) (a := a) (w := 1) (by omega) (by omega)
    have e : ((fc n).drop a).take 1 = [(b : Int)] := by rw [List.drop_eq_getElem_cons hal, eb]; rfl
    rw [e, show ((1 : Nat) : Int) = 1 from rfl] at h
    rw [h]
    simp [bv]
  have hc1 := ct_form hb (show (fc n).length ≤ 8192 by omega) (i := 0) (j := a) (by omega) (by omega)
  rw [List.drop_zero, show ((0 : Nat) : Int) = 0 from rfl] at hc1
  have hc2 := ct_form hb (show (fc n).length ≤ 8192 by omega) (i := a + 1) (j := (fc n).length) (by omega) (by omega)
  rw [List.take_length] at hc2
  have hbt : Bit ((fc n).take a) := fun x hx => hb x (List.mem_of_mem_take hx)
  have hbd : Bit ((fc n).drop (a + 1)) := fun x hx => hb x (List.mem_of_mem_drop hx)
  have htl : ((fc n).take a).length = a := by rw [List.length_take]; omega
  have hdl : ((fc n).drop (a + 1)).length = (fc n).length - (a + 1) := List.length_drop
  rw [if_neg (by simp; omega), get_eq h0 hu hi hl9, cut_eq h0 hu hi hl9, iadd1_n (by omega), cut_eq h0 hu hi hl9, hgt, hc1, hc2]
  simp only [Option.bind_some]
  have hw1 : Bit (nb (1 - b) 1) := nb_bit _ _
  have hnb : nb (1 - b) 1 = [((1 - b : Nat) : Int)] := by
    rcases (show b = 0 ∨ b = 1 by omega) with rfl | rfl <;> rfl
  have hput := pt_form hbt (by omega) (n := 1 - b) (w := 1) (by omega) (by omega) (by omega)
  rw [hnb, show ((1 : Nat) : Int) = 1 from rfl] at hput
  rw [hnb] at hw1
  have e5 : isub .u64 1 (b : Int) = ((1 - b : Nat) : Int) := isub_u64_n (a := 1) hb1 (by omega)
  rw [e5, put_eq h0 (pk_u8 hbt) (i64_len (by omega)) ⟨by omega, by omega⟩ (pk_len9 (by omega)), hput]
  simp only [Option.bind_some]
  have hbx := bit_app hbt hw1
  have hxl : ((fc n).take a ++ [((1 - b : Nat) : Int)]).length = a + 1 := by rw [List.length_append, htl]; rfl
  rw [join_eq h0 (pk_u8 hbx) (pk_u8 hbd) (i64_len (by omega)) (i64_len (by omega)) (pk_len9 (by omega)) (pk_len9 (by omega)), jn_form hbx hbd (by omega) (by omega), if_pos (by omega)]
  simp only [Option.bind_some]
  have hbX := bit_app hbx hbd
  generalize hX : (fc n).take a ++ [((1 - b : Nat) : Int)] ++ (fc n).drop (a + 1) = X at hbX
  have hXl : X.length = (fc n).length := by rw [← hX, List.length_append, hxl, hdl]; omega
  have hXg : ∀ i, a < i → X[i]? = (fc n)[i]? := by
    intro i hi
    rw [← hX, List.getElem?_append_right (by omega), hxl, List.getElem?_drop, show a + 1 + (i - (a + 1)) = i from by omega]
  rw [join_eq h0 (pk_u8 hbX) (pk_u8 (fc_bit m)) (i64_len (by omega)) (i64_len (by omega)) (pk_len9 (by omega)) (pk_len9 (by omega)), jn_form hbX (fc_bit m) (by omega) (by omega), if_pos (by omega)]
  simp only [Option.bind_some]
  rw [if_neg (by simp)]
  have hbA := bit_app hbX (fc_bit m)
  have hAl : (X ++ fc m).length ≤ 8192 := by rw [List.length_append]; omega
  have hmem : tp n ∈ gd 64 (n + 1) := by rw [t0]; simp
  have hno : tp n - 1 ∉ gd 64 (n + 1) := fun h => sp_far g2 h (by rw [show tp n - 1 + 1 = tp n from by omega]; exact hmem)
  have hpv := nu_pv (tp n)
  have hpl := pv_le (tp n)
  exact fnext_l (A := X ++ fc m) (X := X) (C := fc m) (mm := m) (N := (fc n).length) rfl hm1 rfl rfl hXl (by omega) (by omega)
    (by rw [hXg _ (by omega), hN, show tp n + 2 - 3 = tp n - 1 from by omega, fc_get (by omega), if_neg hno])
    (by rw [hXg _ (by omega), hN, show tp n + 2 - 2 = tp n from by omega, fc_get (by omega), if_pos hmem])
    (by rw [hXg _ (by omega), hN, show tp n + 2 - 1 = tp n + 1 from by omega, fc_end])
    (by rw [hN, show tp n + 2 - 1 = tp n + 1 from by omega]; omega)
    (fun t ht => by
      rw [fibread_eq h0 (pk_u8 hbA) (i64_len hAl) (pk_len9 hAl), rd_form hbA hAl ht])
    rfl F 0 (by omega) (by omega)
end Go.Proofs.Ytecangnmnkejfaa
