/- Plain facts of what the functions of this seat compute. -/
import Derived.Test.YtbdfbheddihefaaModels
import Derived.KernelRfl
namespace Go.Proofs.Ytbdfbheddihefaa
open Go SX
/-- The byte at place k of a list of bits. -/
def byt (l : List Int) (k : Nat) : Int :=
  l.getD (8 * k) 0 * 128 + l.getD (8 * k + 1) 0 * 64 + l.getD (8 * k + 2) 0 * 32 + l.getD (8 * k + 3) 0 * 16 + l.getD (8 * k + 4) 0 * 8 + l.getD (8 * k + 5) 0 * 4 + l.getD (8 * k + 6) 0 * 2 + l.getD (8 * k + 7) 0
def pk (l : List Int) : List Int := (List.range ((l.length + 7) / 8)).map (byt l)
def Bit (l : List Int) : Prop := ∀ x ∈ l, x = 0 ∨ x = 1
theorem Bit.getD {l : List Int} (h : Bit l) (i : Nat) : l.getD i 0 = 0 ∨ l.getD i 0 = 1 := by
  by_cases hi : i < l.length
  · have := h l[i] (List.getElem_mem hi)
    simpa [List.getD, hi] using this
  · left
    simp [List.getD, List.getElem?_eq_none (Nat.le_of_not_lt hi)]
theorem getD_ge {l : List Int} {i : Nat} (h : l.length ≤ i) : l.getD i 0 = 0 := by simp [List.getD, List.getElem?_eq_none h]
theorem getD_snoc (l : List Int) (x : Int) (i : Nat) : (l ++ [x]).getD i 0 = if i = l.length then x else l.getD i 0 := by
  by_cases h : i = l.length
  · subst h; simp [List.getD]
  · rw [if_neg h]
    by_cases h2 : i < l.length
    · simp [List.getD, List.getElem?_append_left h2]
    · rw [getD_ge (by simp; omega), getD_ge (by omega)]
theorem byt_range {l : List Int} (h : Bit l) (k : Nat) : 0 ≤ byt l k ∧ byt l k < 256 := by
  have h0 := h.getD (8 * k); have h1 := h.getD (8 * k + 1); have h2 := h.getD (8 * k + 2); have h3 := h.getD (8 * k + 3)
  have h4 := h.getD (8 * k + 4); have h5 := h.getD (8 * k + 5); have h6 := h.getD (8 * k + 6); have h7 := h.getD (8 * k + 7)
  unfold byt
  omega
theorem byt_snoc_other {l : List Int} {x : Int} {k : Nat} (h : k ≠ l.length / 8) : byt (l ++ [x]) k = byt l k := by
  unfold byt
  simp only [getD_snoc]
  rw [if_neg (by omega), if_neg (by omega), if_neg (by omega), if_neg (by omega), if_neg (by omega), if_neg (by omega), if_neg (by omega), if_neg (by omega)]
theorem byt_snoc_at {l : List Int} {x : Int} : byt (l ++ [x]) (l.length / 8) = byt l (l.length / 8) + x * 2 ^ (7 - l.length % 8) := by
  obtain ⟨k, hk⟩ : ∃ k, k = l.length / 8 := ⟨_, rfl⟩
  obtain ⟨r, hr⟩ : ∃ r, r = l.length % 8 := ⟨_, rfl⟩
  have hl : l.length = 8 * k + r := by omega
  have hr8 : r < 8 := by omega
  rw [← hk, ← hr]
  unfold byt
  simp only [getD_snoc, hl]
  have hg : ∀ j, r ≤ j → l.getD (8 * k + j) 0 = 0 := fun j hj => getD_ge (by omega)
  have g0 := hg 0; have g1 := hg 1; have g2 := hg 2; have g3 := hg 3; have g4 := hg 4; have g5 := hg 5; have g6 := hg 6; have g7 := hg 7
  rw [Nat.add_zero] at g0
  rcases (by omega : r = 0 ∨ r = 1 ∨ r = 2 ∨ r = 3 ∨ r = 4 ∨ r = 5 ∨ r = 6 ∨ r = 7) with rfl | rfl | rfl | rfl | rfl | rfl | rfl | rfl
  · rw [show (2 : Int) ^ (7 - 0) = 128 from by decide]
    rw [if_pos (by omega), if_neg (by omega), if_neg (by omega), if_neg (by omega), if_neg (by omega), if_neg (by omega), if_neg (by omega), if_neg (by omega)]
    have e0 := g0 (by omega)
    have e1 := g1 (by omega)
    have e2 := g2 (by omega)
    have e3 := g3 (by omega)
    have e4 := g4 (by omega)
    have e5 := g5 (by omega)
    have e6 := g6 (by omega)
    have e7 := g7 (by omega)
    omega
  · rw [show (2 : Int) ^ (7 - 1) = 64 from by decide]
    rw [if_neg (by omega), if_pos (by omega), if_neg (by omega), if_neg (by omega), if_neg (by omega), if_neg (by omega), if_neg (by omega), if_neg (by omega)]
    have e1 := g1 (by omega)
    have e2 := g2 (by omega)
    have e3 := g3 (by omega)
    have e4 := g4 (by omega)
    have e5 := g5 (by omega)
    have e6 := g6 (by omega)
    have e7 := g7 (by omega)
    omega
  · rw [show (2 : Int) ^ (7 - 2) = 32 from by decide]
    rw [if_neg (by omega), if_neg (by omega), if_pos (by omega), if_neg (by omega), if_neg (by omega), if_neg (by omega), if_neg (by omega), if_neg (by omega)]
    have e2 := g2 (by omega)
    have e3 := g3 (by omega)
    have e4 := g4 (by omega)
    have e5 := g5 (by omega)
    have e6 := g6 (by omega)
    have e7 := g7 (by omega)
    omega
  · rw [show (2 : Int) ^ (7 - 3) = 16 from by decide]
    rw [if_neg (by omega), if_neg (by omega), if_neg (by omega), if_pos (by omega), if_neg (by omega), if_neg (by omega), if_neg (by omega), if_neg (by omega)]
    have e3 := g3 (by omega)
    have e4 := g4 (by omega)
    have e5 := g5 (by omega)
    have e6 := g6 (by omega)
    have e7 := g7 (by omega)
    omega
  · rw [show (2 : Int) ^ (7 - 4) = 8 from by decide]
    rw [if_neg (by omega), if_neg (by omega), if_neg (by omega), if_neg (by omega), if_pos (by omega), if_neg (by omega), if_neg (by omega), if_neg (by omega)]
    have e4 := g4 (by omega)
    have e5 := g5 (by omega)
    have e6 := g6 (by omega)
    have e7 := g7 (by omega)
    omega
  · rw [show (2 : Int) ^ (7 - 5) = 4 from by decide]
    rw [if_neg (by omega), if_neg (by omega), if_neg (by omega), if_neg (by omega), if_neg (by omega), if_pos (by omega), if_neg (by omega), if_neg (by omega)]
    have e5 := g5 (by omega)
    have e6 := g6 (by omega)
    have e7 := g7 (by omega)
    omega
  · rw [show (2 : Int) ^ (7 - 6) = 2 from by decide]
    rw [if_neg (by omega), if_neg (by omega), if_neg (by omega), if_neg (by omega), if_neg (by omega), if_neg (by omega), if_pos (by omega), if_neg (by omega)]
    have e6 := g6 (by omega)
    have e7 := g7 (by omega)
    omega
  · rw [show (2 : Int) ^ (7 - 7) = 1 from by decide]
    rw [if_neg (by omega), if_neg (by omega), if_neg (by omega), if_neg (by omega), if_neg (by omega), if_neg (by omega), if_neg (by omega), if_pos (by omega)]
    have e7 := g7 (by omega)
    omega
theorem irem8 (n : Nat) : irem (n : Int) 8 = ((n % 8 : Nat) : Int) := by
  unfold irem; rw [Int.tmod_eq_emod_of_nonneg (by omega)]; omega
theorem iquo8 {n : Nat} (h : n ≤ 9223372036854775807) : iquo .i64 (n : Int) 8 = ((n / 8 : Nat) : Int) := by
  unfold iquo; rw [Int.tdiv_eq_ediv_of_nonneg (by omega), wrap_i64 (by omega) (by omega)]; omega
/-- A byte has nothing yet behind the last bit. -/
theorem byt_low {l : List Int} : byt l (l.length / 8) % 2 ^ (8 - l.length % 8) = 0 := by
  obtain ⟨k, hk⟩ : ∃ k, k = l.length / 8 := ⟨_, rfl⟩
  obtain ⟨r, hr⟩ : ∃ r, r = l.length % 8 := ⟨_, rfl⟩
  have hl : l.length = 8 * k + r := by omega
  have hr8 : r < 8 := by omega
  rw [← hk, ← hr]
  unfold byt
  have hg : ∀ j, r ≤ j → l.getD (8 * k + j) 0 = 0 := fun j hj => getD_ge (by omega)
  have g0 := hg 0; have g1 := hg 1; have g2 := hg 2; have g3 := hg 3; have g4 := hg 4; have g5 := hg 5; have g6 := hg 6; have g7 := hg 7
  rw [Nat.add_zero] at g0
  rcases (by omega : r = 0 ∨ r = 1 ∨ r = 2 ∨ r = 3 ∨ r = 4 ∨ r = 5 ∨ r = 6 ∨ r = 7) with rfl | rfl | rfl | rfl | rfl | rfl | rfl | rfl
  · have e0 := g0 (by omega); have e1 := g1 (by omega); have e2 := g2 (by omega); have e3 := g3 (by omega); have e4 := g4 (by omega); have e5 := g5 (by omega); have e6 := g6 (by omega); have e7 := g7 (by omega)
    rw [show (2 : Int) ^ (8 - 0) = 256 from by decide]; omega
  · have e1 := g1 (by omega); have e2 := g2 (by omega); have e3 := g3 (by omega); have e4 := g4 (by omega); have e5 := g5 (by omega); have e6 := g6 (by omega); have e7 := g7 (by omega)
    rw [show (2 : Int) ^ (8 - 1) = 128 from by decide]; omega
  · have e2 := g2 (by omega); have e3 := g3 (by omega); have e4 := g4 (by omega); have e5 := g5 (by omega); have e6 := g6 (by omega); have e7 := g7 (by omega)
    rw [show (2 : Int) ^ (8 - 2) = 64 from by decide]; omega
  · have e3 := g3 (by omega); have e4 := g4 (by omega); have e5 := g5 (by omega); have e6 := g6 (by omega); have e7 := g7 (by omega)
    rw [show (2 : Int) ^ (8 - 3) = 32 from by decide]; omega
  · have e4 := g4 (by omega); have e5 := g5 (by omega); have e6 := g6 (by omega); have e7 := g7 (by omega)
    rw [show (2 : Int) ^ (8 - 4) = 16 from by decide]; omega
  · have e5 := g5 (by omega); have e6 := g6 (by omega); have e7 := g7 (by omega)
    rw [show (2 : Int) ^ (8 - 5) = 8 from by decide]; omega
  · have e6 := g6 (by omega); have e7 := g7 (by omega)
    rw [show (2 : Int) ^ (8 - 6) = 4 from by decide]; omega
  · have e7 := g7 (by omega)
    rw [show (2 : Int) ^ (8 - 7) = 2 from by decide]; omega
theorem byt_end {l : List Int} (h : l.length % 8 = 0) : byt l (l.length / 8) = 0 := by
  unfold byt
  rw [getD_ge (by omega), getD_ge (by omega), getD_ge (by omega), getD_ge (by omega), getD_ge (by omega), getD_ge (by omega), getD_ge (by omega), getD_ge (by omega)]
  rfl
theorem ior_comm (k : IntKind) (a b : Int) : ior k a b = ior k b a := by unfold ior; rw [BitVec.or_comm]
/-- The room for one more bit. -/
def room (l : List Int) : List Int := (List.range (l.length / 8 + 1)).map (byt l)
theorem room_j1 {F : Nat} {l : List Int} (hl : Bit l) {x : Int} (hx : x = 0 ∨ x = 1) (hn : l.length ≤ 1000000) : M_bits_writer_bit_j1 F (l.length : Int) x (room l) = some (((l.length + 1 : Nat) : Int), pk (l ++ [x])) := by
  unfold M_bits_writer_bit_j1
  rw [iquo8 (by omega), irem8]
  have hg : (room l)[l.length / 8]? = some (byt l (l.length / 8)) := by simp [room]
  rw [idx_nat, hg]
  simp only [Option.bind_some]
  have hc : decide ((0 : Int) ≤ ((l.length % 8 : Nat) : Int)) = true := decide_eq_true (by omega)
  rw [hc]
  simp only [chk, if_true, lett, Int.toNat_natCast]
  have hb := byt_range hl (l.length / 8)
  have hr8 : l.length % 8 < 8 := Nat.mod_lt _ (by decide)
  have e1 : ishl .u64 x 7 = x * 128 := by
    have := ishl_u64 (a := x) (m := 7) (by decide)
    rw [show ((7 : Nat) : Int) = 7 from rfl] at this
    rw [this]
    rcases hx with rfl | rfl <;> decide
  have e2 : iconv .u8 (x * 128) = x * 128 := wrap_u8 (by omega) (by omega)
  have e3 : ishr .u8 (x * 128) ((l.length % 8 : Nat) : Int) = x * 2 ^ (7 - l.length % 8) := by
    rw [ishr_eq (by simp only [IntKind.bits]; omega)]
    have key : ∀ r : Fin 8, ((0 : Int) * 128 / 2 ^ r.val = 0 * 2 ^ (7 - r.val)) ∧ ((1 : Int) * 128 / 2 ^ r.val = 1 * 2 ^ (7 - r.val)) := by decide
    have := key ⟨l.length % 8, hr8⟩
    rcases hx with rfl | rfl
    · exact this.1
    · exact this.2
  have key2 : ∀ r : Fin 8, (1 : Int) ≤ 2 ^ (7 - r.val) ∧ (2 : Int) ^ (8 - r.val) = 2 * 2 ^ (7 - r.val) ∧ (2 : Int) ^ (7 - r.val) ≤ 128 ∧ (256 : Int) % 2 ^ (8 - r.val) = 0 ∧ (2 : Int) ^ (8 - r.val) ≤ 256 := by decide
  have hk2 := key2 ⟨l.length % 8, hr8⟩
  simp only at hk2
  have hat := byt_snoc_at (l := l) (x := x)
  have hb2 : Bit (l ++ [x]) := by
    intro y hy
    rcases List.mem_append.1 hy with h | h
    · exact hl y h
    · simp at h; subst h; exact hx
  have hbb := byt_range hb2 (l.length / 8)
  have e4 : ior .u8 (byt l (l.length / 8)) (x * 2 ^ (7 - l.length % 8)) = byt (l ++ [x]) (l.length / 8) := by
    rw [ior_comm, ior_add (m := 8 - l.length % 8) ?_ ?_ hb.1 byt_low rfl ?_]
    · rw [hat]; omega
    · rcases hx with rfl | rfl <;> omega
    · rcases hx with rfl | rfl <;> omega
    · simp only [IntKind.bits]
      rw [show (2 : Int) ^ 8 = 256 from by decide]
      omega
  rw [e1, e2, e3, e4, iadd_i64 (by omega) (by omega)]
  congr 2
  unfold room pk
  have hlen : ((l ++ [x]).length + 7) / 8 = l.length / 8 + 1 := by simp; omega
  rw [hlen]
  apply List.ext_getElem?
  intro k
  rw [List.getElem?_set]
  by_cases hk : l.length / 8 = k
  · subst hk; simp
  · rw [if_neg hk]
    simp only [List.getElem?_map]
    by_cases h3 : k < l.length / 8 + 1
    · rw [List.getElem?_range h3]
      simp only [Option.map_some]
      rw [byt_snoc_other (fun e => hk e.symm)]
    · rw [List.getElem?_eq_none (by simpa using h3)]
      rfl
theorem bit_eq {F : Nat} {l : List Int} (hl : Bit l) {x : Int} (hx : x = 0 ∨ x = 1) (hn : l.length ≤ 1000000) : M_bits_writer_bit F (l.length : Int) (pk l) x = some (((l.length + 1 : Nat) : Int), pk (l ++ [x])) := by
  unfold M_bits_writer_bit
  rw [irem8]
  by_cases h : l.length % 8 = 0
  · have h1 : ((((l.length % 8 : Nat) : Int) : Int) == 0) = true := by simp [h]
    simp only [h1, if_true]
    rw [app_eq (by simp [pk]; omega)]
    simp only [Option.bind_some]
    have : pk l ++ [0] = room l := by
      unfold pk room
      rw [show (l.length + 7) / 8 = l.length / 8 from by omega, List.range_succ, List.map_append]
      simp [byt_end h]
    rw [this]
    exact room_j1 hl hx hn
  · have h1 : ((((l.length % 8 : Nat) : Int) : Int) == 0) = false := by simp; omega
    simp only [h1, Bool.false_eq_true, if_false]
    have : pk l = room l := by
      unfold pk room
      rw [show (l.length + 7) / 8 = l.length / 8 + 1 from by omega]
    rw [this]
    exact room_j1 hl hx hn
def bitAt (b : List Int) (i : Nat) : Int := b.getD (i / 8) 0 / 2 ^ (7 - i % 8) % 2
def bl (b : List Int) (n : Nat) : List Int := (List.range n).map (bitAt b)
theorem bitAt_bit (b : List Int) (i : Nat) : bitAt b i = 0 ∨ bitAt b i = 1 := by unfold bitAt; omega
theorem bl_bit (b : List Int) (n : Nat) : Bit (bl b n) := by
  intro x hx
  obtain ⟨i, _, rfl⟩ := List.mem_map.1 hx
  exact bitAt_bit b i
theorem bl_len (b : List Int) (n : Nat) : (bl b n).length = n := by simp [bl]
def U8s (l : List Int) : Prop := ∀ n ∈ l, 0 ≤ n ∧ n < 256
theorem at_eq {F : Nat} {n : Int} {b : List Int} (hb : U8s b) {i : Nat} (hi : i / 8 < b.length) (hm : i ≤ 1000000) : M_bits_At F n b (i : Int) = some (bitAt b i) := by
  unfold M_bits_At
  rw [iquo8 (by omega), irem8, idx_nat]
  have hg : b[i / 8]? = some b[i / 8] := by simp [hi]
  rw [hg]
  simp only [Option.bind_some]
  have e1 : isub .i64 7 ((i % 8 : Nat) : Int) = ((7 - i % 8 : Nat) : Int) := by rw [isub_i64 (by omega) (by omega)]; omega
  rw [e1]
  have hc : decide ((0 : Int) ≤ ((7 - i % 8 : Nat) : Int)) = true := decide_eq_true (by omega)
  rw [hc]
  simp only [chk, if_true, lett]
  have hx := hb b[i / 8] (List.getElem_mem hi)
  rw [ishr_eq (by simp only [IntKind.bits]; omega)]
  have hp : (1 : Int) ≤ 2 ^ (7 - i % 8) := by
    have key : ∀ r : Fin 8, (1 : Int) ≤ 2 ^ (7 - r.val) := by decide
    exact key ⟨i % 8, Nat.mod_lt _ (by decide)⟩
  have h1 : 0 ≤ b[i / 8] / 2 ^ (7 - i % 8) := Int.ediv_nonneg hx.1 (by omega)
  have h2 : b[i / 8] / 2 ^ (7 - i % 8) ≤ b[i / 8] := Int.ediv_le_self _ hx.1
  have e2 : iconv .u64 (b[i / 8] / 2 ^ (7 - i % 8)) = b[i / 8] / 2 ^ (7 - i % 8) := wrap_u64 h1 (by omega)
  rw [e2]
  have e3 := iand_mask (k := .u64) (a := b[i / 8] / 2 ^ (7 - i % 8)) (m := 1) h1 (by simp only [IntKind.bits]; rw [show (2 : Int) ^ 64 = 18446744073709551616 from by decide]; omega) (by decide) rfl
  rw [show ((2 ^ 1 - 1 : Nat) : Int) = 1 from rfl, show (2 : Int) ^ 1 = 2 from rfl] at e3
  rw [e3]
  unfold bitAt
  simp [List.getD, hg]
theorem bl_succ (b : List Int) (n : Nat) : bl b (n + 1) = bl b n ++ [bitAt b n] := by simp [bl, List.range_succ]
/-- All places, one behind the other, written behind what is there. -/
theorem places_l {F : Nat} {n : Int} {b : List Int} (hb : U8s b) {yy : (Int × List Int) → Int → Option ((Int × List Int) ⊕ Empty)} (hy : ∀ (l : List Int) x, Bit l → (x = 0 ∨ x = 1) → l.length ≤ 100000 → yy ((l.length : Int), pk l) x = some (.inl (((l.length + 1 : Nat) : Int), pk (l ++ [x])))) {to : Nat} (ht : to ≤ 8 * b.length) (hm : to ≤ 10000) :
    ∀ (k i : Nat) (l : List Int), to < k + i → i ≤ to → Bit l → l.length + (to - i) ≤ 100000 →
      M_bits_places_1_l1 F yy (to : Int) n b k ((i : Int), ((l.length : Int), pk l)) = some (.inl (((l.length + (to - i) : Nat) : Int), pk (l ++ (bl b to).drop i)))
  | 0, i, l, h, hi, _, _ => by omega
  | k + 1, i, l, h, hi, hl, hc => by
    have hstep : M_bits_places_1_l1 F yy (to : Int) n b (k + 1) ((i : Int), ((l.length : Int), pk l)) = M_bits_places_1_b1 F yy (to : Int) n b (M_bits_places_1_l1 F yy (to : Int) n b k) (i : Int) ((l.length : Int), pk l) := rfl
    rw [hstep]
    unfold M_bits_places_1_b1
    by_cases hlt : i < to
    · have h1 : (i : Int) < (to : Int) := by omega
      simp only [h1, decide_true, if_true]
      rw [at_eq hb (by omega) (by omega)]
      simp only [Option.bind_some]
      have hx := bitAt_bit b i
      rw [hy l _ hl hx (by omega)]
      simp only [Option.bind_some, Sum.elim_inl]
      rw [iadd_i64 (by omega) (by omega), show (i : Int) + 1 = ((i + 1 : Nat) : Int) from by omega]
      have hl2 : Bit (l ++ [bitAt b i]) := by
        intro y hy2
        rcases List.mem_append.1 hy2 with h | h
        · exact hl y h
        · simp at h; subst h; exact hx
      have := places_l (F := F) (n := n) hb hy ht hm k (i + 1) (l ++ [bitAt b i]) (by omega) (by omega) hl2 (by simp; omega)
      rw [show (l ++ [bitAt b i]).length = l.length + 1 from by simp] at this
      rw [this]
      have hd : (bl b to).drop i = bitAt b i :: (bl b to).drop (i + 1) := by
        rw [List.drop_eq_getElem_cons (by rw [bl_len]; exact hlt)]
        congr 1
        simp [bl]
      rw [hd, List.append_assoc, show l.length + 1 + (to - (i + 1)) = l.length + (to - i) from by omega]
      rfl
    · have h1 : ¬ (i : Int) < (to : Int) := by omega
      simp only [h1, decide_false, Bool.false_eq_true, if_false]
      rw [List.drop_eq_nil_of_le (by rw [bl_len]; omega), List.append_nil, show l.length + (to - i) = l.length from by omega]
structure Ok (n : Nat) (b : List Int) : Prop where
  max : n ≤ 8192
  len : b.length = (n + 7) / 8
  low : n % 8 ≠ 0 → b.getD (n / 8) 0 % 2 ^ (8 - n % 8) = 0
theorem bl_getD {b : List Int} {n i : Nat} : (bl b n).getD i 0 = if i < n then bitAt b i else 0 := by
  by_cases h : i < n
  · rw [if_pos h]; simp [bl, List.getD, h]
  · rw [if_neg h]; exact getD_ge (by rw [bl_len]; omega)
theorem bits8 {x : Int} (h0 : 0 ≤ x) (h1 : x < 256) : x / 128 % 2 * 128 + x / 64 % 2 * 64 + x / 32 % 2 * 32 + x / 16 % 2 * 16 + x / 8 % 2 * 8 + x / 4 % 2 * 4 + x / 2 % 2 * 2 + x / 1 % 2 = x := by omega
theorem bitAt_8 (b : List Int) (k : Nat) : bitAt b (8 * k) = b.getD k 0 / 128 % 2 ∧ bitAt b (8 * k + 1) = b.getD k 0 / 64 % 2 ∧ bitAt b (8 * k + 2) = b.getD k 0 / 32 % 2 ∧ bitAt b (8 * k + 3) = b.getD k 0 / 16 % 2 ∧
    bitAt b (8 * k + 4) = b.getD k 0 / 8 % 2 ∧ bitAt b (8 * k + 5) = b.getD k 0 / 4 % 2 ∧ bitAt b (8 * k + 6) = b.getD k 0 / 2 % 2 ∧ bitAt b (8 * k + 7) = b.getD k 0 / 1 % 2 := by
  unfold bitAt
  rw [show 8 * k / 8 = k from by omega, show (8 * k + 1) / 8 = k from by omega, show (8 * k + 2) / 8 = k from by omega, show (8 * k + 3) / 8 = k from by omega, show (8 * k + 4) / 8 = k from by omega, show (8 * k + 5) / 8 = k from by omega, show (8 * k + 6) / 8 = k from by omega, show (8 * k + 7) / 8 = k from by omega,
    show 8 * k % 8 = 0 from by omega, show (8 * k + 1) % 8 = 1 from by omega, show (8 * k + 2) % 8 = 2 from by omega, show (8 * k + 3) % 8 = 3 from by omega, show (8 * k + 4) % 8 = 4 from by omega, show (8 * k + 5) % 8 = 5 from by omega, show (8 * k + 6) % 8 = 6 from by omega, show (8 * k + 7) % 8 = 7 from by omega]
  exact ⟨rfl, rfl, rfl, rfl, rfl, rfl, rfl, rfl⟩
theorem byt_bl {n : Nat} {b : List Int} (hb : U8s b) (h : Ok n b) {k : Nat} (hk : k < (n + 7) / 8) : byt (bl b n) k = b.getD k 0 := by
  have hx : 0 ≤ b.getD k 0 ∧ b.getD k 0 < 256 := by
    have hlt : k < b.length := by rw [h.len]; exact hk
    have := hb b[k] (List.getElem_mem hlt)
    simpa [List.getD, hlt] using this
  obtain ⟨c0, c1, c2, c3, c4, c5, c6, c7⟩ := bitAt_8 b k
  unfold byt
  simp only [bl_getD]
  rw [c0, c1, c2, c3, c4, c5, c6, c7]
  by_cases hf : 8 * k + 8 ≤ n
  · rw [if_pos (by omega), if_pos (by omega), if_pos (by omega), if_pos (by omega), if_pos (by omega), if_pos (by omega), if_pos (by omega), if_pos (by omega)]
    exact bits8 hx.1 hx.2
  · have hkn : n / 8 = k := by omega
    obtain ⟨r, hr⟩ : ∃ r, r = n % 8 := ⟨_, rfl⟩
    have hn : n = 8 * k + r := by omega
    have hlow := h.low (by omega)
    rw [hkn, ← hr] at hlow
    generalize b.getD k 0 = x at hx hlow
    rcases (by omega : r = 1 ∨ r = 2 ∨ r = 3 ∨ r = 4 ∨ r = 5 ∨ r = 6 ∨ r = 7) with rfl | rfl | rfl | rfl | rfl | rfl | rfl
    · rw [if_pos (by omega), if_neg (by omega), if_neg (by omega), if_neg (by omega), if_neg (by omega), if_neg (by omega), if_neg (by omega), if_neg (by omega)]
      rw [show (2 : Int) ^ (8 - 1) = 128 from by decide] at hlow
      omega
    · rw [if_pos (by omega), if_pos (by omega), if_neg (by omega), if_neg (by omega), if_neg (by omega), if_neg (by omega), if_neg (by omega), if_neg (by omega)]
      rw [show (2 : Int) ^ (8 - 2) = 64 from by decide] at hlow
      omega
    · rw [if_pos (by omega), if_pos (by omega), if_pos (by omega), if_neg (by omega), if_neg (by omega), if_neg (by omega), if_neg (by omega), if_neg (by omega)]
      rw [show (2 : Int) ^ (8 - 3) = 32 from by decide] at hlow
      omega
    · rw [if_pos (by omega), if_pos (by omega), if_pos (by omega), if_pos (by omega), if_neg (by omega), if_neg (by omega), if_neg (by omega), if_neg (by omega)]
      rw [show (2 : Int) ^ (8 - 4) = 16 from by decide] at hlow
      omega
    · rw [if_pos (by omega), if_pos (by omega), if_pos (by omega), if_pos (by omega), if_pos (by omega), if_neg (by omega), if_neg (by omega), if_neg (by omega)]
      rw [show (2 : Int) ^ (8 - 5) = 8 from by decide] at hlow
      omega
    · rw [if_pos (by omega), if_pos (by omega), if_pos (by omega), if_pos (by omega), if_pos (by omega), if_pos (by omega), if_neg (by omega), if_neg (by omega)]
      rw [show (2 : Int) ^ (8 - 6) = 4 from by decide] at hlow
      omega
    · rw [if_pos (by omega), if_pos (by omega), if_pos (by omega), if_pos (by omega), if_pos (by omega), if_pos (by omega), if_pos (by omega), if_neg (by omega)]
      rw [show (2 : Int) ^ (8 - 7) = 2 from by decide] at hlow
      omega
theorem pk_bl {n : Nat} {b : List Int} (hb : U8s b) (h : Ok n b) : pk (bl b n) = b := by
  unfold pk
  rw [bl_len]
  apply List.ext_getElem?
  intro k
  by_cases hk : k < (n + 7) / 8
  · rw [List.getElem?_map, List.getElem?_range hk]
    simp only [Option.map_some]
    rw [byt_bl hb h hk]
    have hlt : k < b.length := by rw [h.len]; exact hk
    simp [List.getD, hlt]
  · rw [List.getElem?_eq_none (by simpa using hk), List.getElem?_eq_none (by rw [h.len]; omega)]
/-- What 'Check' tells. -/
def chkOf (n : Int) (b : List Int) : Int :=
  if n < 0 ∨ 8192 < n then 3 else if (b.length : Int) ≠ (n + 7) / 8 then 1 else if n % 8 ≠ 0 ∧ b.getD (n.toNat / 8) 0 % 2 ^ (8 - n.toNat % 8) ≠ 0 then 1 else 0
theorem chkOf_ok {n : Int} {b : List Int} (h : chkOf n b = 0) : ∃ m : Nat, n = m ∧ Ok m b := by
  unfold chkOf at h
  split at h
  · simp at h
  · rename_i h1
    split at h
    · simp at h
    · rename_i h2
      split at h
      · simp at h
      · rename_i h3
        obtain ⟨m, rfl⟩ := Int.eq_ofNat_of_zero_le (show 0 ≤ n by omega)
        refine ⟨m, rfl, by omega, by omega, fun hm => ?_⟩
        simp only [Int.toNat_natCast] at h3
        by_cases hz : b.getD (m / 8) 0 % 2 ^ (8 - m % 8) = 0
        · exact hz
        · exact absurd ⟨by omega, hz⟩ h3
theorem check_eq {F : Nat} {n : Int} {b : List Int} (hb : U8s b) (h1 : -9223372036854775808 ≤ n) (h2 : n < 9223372036854775808) (hm : b.length ≤ 9223372036854775807) : M_bits_Check F n b = some (chkOf n b) := by
  unfold M_bits_Check chkOf
  by_cases c1 : n < 0 ∨ 8192 < n
  · have : (decide (n < 0) || decide (8192 < n)) = true := by simpa using c1
    rw [if_pos this, if_pos c1]
  · have : (decide (n < 0) || decide (8192 < n)) = false := by simpa using c1
    rw [this, if_neg c1]
    simp only [Bool.false_eq_true, if_false]
    obtain ⟨m, rfl⟩ := Int.eq_ofNat_of_zero_le (show 0 ≤ n by omega)
    have e1 : iquo .i64 (iadd .i64 (m : Int) 7) 8 = ((m : Int) + 7) / 8 := by
      rw [iadd_i64 (by omega) (by omega), show (m : Int) + 7 = ((m + 7 : Nat) : Int) from by omega, iquo8 (by omega)]
      omega
    rw [e1, irem8]
    by_cases c2 : (b.length : Int) ≠ ((m : Int) + 7) / 8
    · have : ((b.length : Int) != ((m : Int) + 7) / 8) = true := by simpa using c2
      rw [if_pos this, if_pos c2]
    · have : ((b.length : Int) != ((m : Int) + 7) / 8) = false := by simpa using c2
      rw [this, if_neg c2]
      simp only [Bool.false_eq_true, if_false]
      by_cases c3 : m % 8 = 0
      · have : ((((m % 8 : Nat) : Int)) != 0) = false := by simp [c3]
        have hn : ¬ ((m : Int) % 8 ≠ 0 ∧ b.getD ((m : Int).toNat / 8) 0 % 2 ^ (8 - (m : Int).toNat % 8) ≠ 0) := fun h => h.1 (by omega)
        rw [this, if_neg hn]
        simp [M_bits_Check_j2]
      · have : ((((m % 8 : Nat) : Int)) != 0) = true := by simp; omega
        rw [this]
        simp only [if_true]
        have hlen : b.length = m / 8 + 1 := by omega
        have e2 : isub .i64 (b.length : Int) 1 = ((m / 8 : Nat) : Int) := by rw [isub_i64 (by omega) (by omega)]; omega
        have hg : b[m / 8]? = some b[m / 8] := by simp [hlen]
        rw [e2, idx_nat, hg]
        simp only [Option.bind_some]
        have hc : decide ((0 : Int) ≤ ((m % 8 : Nat) : Int)) = true := decide_eq_true (by omega)
        rw [hc]
        simp only [chk, if_true]
        have hx := hb b[m / 8] (List.getElem_mem (by omega))
        have hgd : b.getD (m / 8) 0 = b[m / 8] := by simp [List.getD, hg]
        rw [Int.toNat_natCast, hgd]
        generalize b[m / 8] = x at hx
        have e3 : (ishl .u8 x ((m % 8 : Nat) : Int) != 0) = decide (x % 2 ^ (8 - m % 8) ≠ 0) := by
          have key : ishl .u8 x ((m % 8 : Nat) : Int) = (x * 2 ^ (m % 8)) % 256 := by
            unfold ishl
            have h : min (((m % 8 : Nat) : Int).toNat) (IntKind.bits .u8) = m % 8 := by simp [IntKind.bits]; omega
            rw [h, wrap_u8_mod]
          rw [key]
          rcases (by omega : m % 8 = 1 ∨ m % 8 = 2 ∨ m % 8 = 3 ∨ m % 8 = 4 ∨ m % 8 = 5 ∨ m % 8 = 6 ∨ m % 8 = 7) with h | h | h | h | h | h | h <;> rw [h]
          · rw [show (2 : Int) ^ 1 = 2 from rfl, show (2 : Int) ^ (8 - 1) = 128 from by decide]; by_cases hz : x % 128 = 0 <;> simp [hz] <;> omega
          · rw [show (2 : Int) ^ 2 = 4 from rfl, show (2 : Int) ^ (8 - 2) = 64 from by decide]; by_cases hz : x % 64 = 0 <;> simp [hz] <;> omega
          · rw [show (2 : Int) ^ 3 = 8 from rfl, show (2 : Int) ^ (8 - 3) = 32 from by decide]; by_cases hz : x % 32 = 0 <;> simp [hz] <;> omega
          · rw [show (2 : Int) ^ 4 = 16 from by decide]; try rw [show (2 : Int) ^ (8 - 4) = 16 from by decide]
            by_cases hz : x % 16 = 0 <;> simp [hz] <;> omega
          · rw [show (2 : Int) ^ 5 = 32 from by decide, show (2 : Int) ^ (8 - 5) = 8 from by decide]; by_cases hz : x % 8 = 0 <;> simp [hz] <;> omega
          · rw [show (2 : Int) ^ 6 = 64 from by decide, show (2 : Int) ^ (8 - 6) = 4 from by decide]; by_cases hz : x % 4 = 0 <;> simp [hz] <;> omega
          · rw [show (2 : Int) ^ 7 = 128 from by decide, show (2 : Int) ^ (8 - 7) = 2 from by decide]; by_cases hz : x % 2 = 0 <;> simp [hz] <;> omega
        rw [e3]
        unfold M_bits_Check_j2
        by_cases hz : x % 2 ^ (8 - m % 8) = 0
        · rw [if_neg (by simp [hz]), if_neg (by simp [hz])]
        · rw [if_pos (by simp [hz]), if_pos ⟨by omega, hz⟩]
theorem begun_bits (n : Nat) : M_L_bitsBegun (n + 200) = some true := by kernel_rfl
theorem clone_eq {F : Nat} {x : List Int} (h : x.length ≤ 1000000) : M_slices_Clone_byte_byte F x = some x := by
  unfold M_slices_Clone_byte_byte
  rw [app_eq (by simp; omega)]
  rfl
theorem own_eq {F : Nat} {n : Int} {b : List Int} (h : b.length ≤ 1000000) : M_bits_own F n b = some (n, b) := by
  unfold M_bits_own
  rw [clone_eq h]
  rfl
theorem both_eq {F : Nat} (hF : 20000 ≤ F) {n m : Nat} {a b : List Int} (ha : U8s a) (hb : U8s b) (oa : Ok n a) (ob : Ok m b) : M_bits_Both F n a m b = some (((n + m : Nat) : Int), pk (bl a n ++ bl b m)) := by
  unfold M_bits_Both
  have hal : a.length ≤ 1000000 := by rw [oa.len]; have := oa.max; omega
  rw [own_eq hal]
  simp only [Option.bind_some, M_bits_places, M_bits_places_1]
  have hm := ob.max
  have hn := oa.max
  have := places_l (F := F) (n := (m : Int)) hb (yy := fun (p : Int × List Int) (x53 : Int) => M_bits_Both_r2 F p.1 p.2 x53) (fun l x hl hx hlen => by
    simp only [M_bits_Both_r2]
    rw [bit_eq hl hx (by omega)]
    rfl) (to := m) (by rw [ob.len]; omega) (by omega) F 0 (bl a n) (by omega) (by omega) (bl_bit a n) (by rw [bl_len]; omega)
  rw [bl_len, pk_bl ha oa, List.drop_zero, Nat.sub_zero] at this
  rw [show ((0 : Nat) : Int) = 0 from rfl] at this
  have h2 : M_bits_places_1_l1 F (fun (x : Int × List Int) (x53 : Int) => match x with | (x45, x48) => M_bits_Both_r2 F x45 x48 x53) (m : Int) (m : Int) b F (0, ((n : Int), a)) = some (.inl (((n + m : Nat) : Int), pk (bl a n ++ bl b m))) := this
  rw [h2]
  rfl
def joinOf (n : Int) (a : List Int) (m : Int) (b : List Int) : Int :=
  if chkOf n a ≠ 0 then chkOf n a else if chkOf m b ≠ 0 then chkOf m b else if 8192 < n + m then 8 else 0
def jn (n : Int) (a : List Int) (m : Int) (b : List Int) : Int × List Int × Int :=
  if joinOf n a m b ≠ 0 then (0, [], joinOf n a m b) else (n + m, pk (bl a n.toNat ++ bl b m.toNat), 0)
def I64 (n : Int) : Prop := -9223372036854775808 ≤ n ∧ n < 9223372036854775808
theorem join_eq {F : Nat} (hF : 20000 ≤ F) {n m : Int} {a b : List Int} (ha : U8s a) (hb : U8s b) (hn : I64 n) (hm : I64 m) (la : a.length ≤ 9223372036854775807) (lb : b.length ≤ 9223372036854775807) : M_bits_Join F n a m b = some (jn n a m b) := by
  unfold M_bits_Join jn joinOf
  rw [check_eq ha hn.1 hn.2 la]
  simp only [Option.bind_some]
  by_cases h1 : chkOf n a = 0
  · obtain ⟨n', rfl, oa⟩ := chkOf_ok h1
    have hb1 : (chkOf (n' : Int) a == 0) = true := by simp [h1]
    rw [if_pos hb1, check_eq hb hm.1 hm.2 lb]
    simp only [Option.bind_some]
    unfold M_bits_Join_j1
    by_cases h2 : chkOf m b = 0
    · obtain ⟨m', rfl, ob⟩ := chkOf_ok h2
      have e1 : iadd .i64 (n' : Int) (m' : Int) = (n' : Int) + (m' : Int) := by
        have := oa.max; have := ob.max
        exact iadd_i64 (by omega) (by omega)
      rw [e1, h1, h2]
      by_cases h3 : (8192 : Int) < (n' : Int) + (m' : Int)
      · simp [h3, M_bits_Join_j2]
      · simp only [h3, beq_self_eq_true, decide_false, Bool.and_false, Bool.false_eq_true, if_false, ne_eq, not_true_eq_false, M_bits_Join_j2, bne_self_eq_false]
        rw [both_eq hF ha hb oa ob]
        simp
    · have hb2 : (chkOf m b == 0) = false := by simpa using h2
      have hb3 : (chkOf m b != 0) = true := by simpa using h2
      rw [hb2]
      simp only [Bool.false_and, Bool.false_eq_true, if_false, M_bits_Join_j2, hb3, if_true, h1, ne_eq, not_true_eq_false, h2, not_false_eq_true]
  · have hb1 : (chkOf n a == 0) = false := by simpa using h1
    have hb3 : (chkOf n a != 0) = true := by simpa using h1
    rw [hb1]
    simp only [Bool.false_eq_true, if_false, M_bits_Join_j1, hb1, Bool.false_and, M_bits_Join_j2, hb3, if_true, ne_eq, h1, not_false_eq_true]
theorem pk_getD {l : List Int} {k : Nat} (hk : k < (l.length + 7) / 8) : (pk l).getD k 0 = byt l k := by
  unfold pk
  simp [List.getD, hk]
theorem pk_u8 {l : List Int} (h : Bit l) : U8s (pk l) := by
  intro x hx
  obtain ⟨k, _, rfl⟩ := List.mem_map.1 hx
  exact byt_range h k
theorem pk_len (l : List Int) : (pk l).length = (l.length + 7) / 8 := by simp [pk]
theorem ok_pk {l : List Int} (hm : l.length ≤ 8192) : Ok l.length (pk l) where
  max := hm
  len := pk_len l
  low := fun h => by
    rw [pk_getD (by omega)]
    exact byt_low
theorem bitAt_pk {l : List Int} (h : Bit l) {i : Nat} (hi : i < l.length) : bitAt (pk l) i = l.getD i 0 := by
  obtain ⟨k, hk⟩ : ∃ k, k = i / 8 := ⟨_, rfl⟩
  obtain ⟨r, hr⟩ : ∃ r, r = i % 8 := ⟨_, rfl⟩
  have hl : i = 8 * k + r := by omega
  have hr8 : r < 8 := by omega
  obtain ⟨c0, c1, c2, c3, c4, c5, c6, c7⟩ := bitAt_8 (pk l) k
  have hb : (pk l).getD k 0 = byt l k := pk_getD (by omega)
  rw [hb] at c0 c1 c2 c3 c4 c5 c6 c7
  have hbd : ∀ q, 0 ≤ l.getD q 0 ∧ l.getD q 0 ≤ 1 := fun q => by have := h.getD q; omega
  have h0 := hbd (8 * k); have h1 := hbd (8 * k + 1); have h2 := hbd (8 * k + 2); have h3 := hbd (8 * k + 3)
  have h4 := hbd (8 * k + 4); have h5 := hbd (8 * k + 5); have h6 := hbd (8 * k + 6); have h7 := hbd (8 * k + 7)
  clear hbd hb
  unfold byt at c0 c1 c2 c3 c4 c5 c6 c7
  rcases (by omega : r = 0 ∨ r = 1 ∨ r = 2 ∨ r = 3 ∨ r = 4 ∨ r = 5 ∨ r = 6 ∨ r = 7) with rfl | rfl | rfl | rfl | rfl | rfl | rfl | rfl
  · rw [hl, Nat.add_zero, c0]; clear c0 c1 c2 c3 c4 c5 c6 c7; generalize l.getD (8 * k) 0 = y0 at *; generalize l.getD (8 * k + 1) 0 = y1 at *; generalize l.getD (8 * k + 2) 0 = y2 at *; generalize l.getD (8 * k + 3) 0 = y3 at *; generalize l.getD (8 * k + 4) 0 = y4 at *; generalize l.getD (8 * k + 5) 0 = y5 at *; generalize l.getD (8 * k + 6) 0 = y6 at *; generalize l.getD (8 * k + 7) 0 = y7 at *; clear h hi hl hr hk hr8; omega
  · rw [hl, c1]; clear c0 c1 c2 c3 c4 c5 c6 c7; generalize l.getD (8 * k) 0 = y0 at *; generalize l.getD (8 * k + 1) 0 = y1 at *; generalize l.getD (8 * k + 2) 0 = y2 at *; generalize l.getD (8 * k + 3) 0 = y3 at *; generalize l.getD (8 * k + 4) 0 = y4 at *; generalize l.getD (8 * k + 5) 0 = y5 at *; generalize l.getD (8 * k + 6) 0 = y6 at *; generalize l.getD (8 * k + 7) 0 = y7 at *; clear h hi hl hr hk hr8; omega
  · rw [hl, c2]; clear c0 c1 c2 c3 c4 c5 c6 c7; generalize l.getD (8 * k) 0 = y0 at *; generalize l.getD (8 * k + 1) 0 = y1 at *; generalize l.getD (8 * k + 2) 0 = y2 at *; generalize l.getD (8 * k + 3) 0 = y3 at *; generalize l.getD (8 * k + 4) 0 = y4 at *; generalize l.getD (8 * k + 5) 0 = y5 at *; generalize l.getD (8 * k + 6) 0 = y6 at *; generalize l.getD (8 * k + 7) 0 = y7 at *; clear h hi hl hr hk hr8; omega
  · rw [hl, c3]; clear c0 c1 c2 c3 c4 c5 c6 c7; generalize l.getD (8 * k) 0 = y0 at *; generalize l.getD (8 * k + 1) 0 = y1 at *; generalize l.getD (8 * k + 2) 0 = y2 at *; generalize l.getD (8 * k + 3) 0 = y3 at *; generalize l.getD (8 * k + 4) 0 = y4 at *; generalize l.getD (8 * k + 5) 0 = y5 at *; generalize l.getD (8 * k + 6) 0 = y6 at *; generalize l.getD (8 * k + 7) 0 = y7 at *; clear h hi hl hr hk hr8; omega
  · rw [hl, c4]; clear c0 c1 c2 c3 c4 c5 c6 c7; generalize l.getD (8 * k) 0 = y0 at *; generalize l.getD (8 * k + 1) 0 = y1 at *; generalize l.getD (8 * k + 2) 0 = y2 at *; generalize l.getD (8 * k + 3) 0 = y3 at *; generalize l.getD (8 * k + 4) 0 = y4 at *; generalize l.getD (8 * k + 5) 0 = y5 at *; generalize l.getD (8 * k + 6) 0 = y6 at *; generalize l.getD (8 * k + 7) 0 = y7 at *; clear h hi hl hr hk hr8; omega
  · rw [hl, c5]; clear c0 c1 c2 c3 c4 c5 c6 c7; generalize l.getD (8 * k) 0 = y0 at *; generalize l.getD (8 * k + 1) 0 = y1 at *; generalize l.getD (8 * k + 2) 0 = y2 at *; generalize l.getD (8 * k + 3) 0 = y3 at *; generalize l.getD (8 * k + 4) 0 = y4 at *; generalize l.getD (8 * k + 5) 0 = y5 at *; generalize l.getD (8 * k + 6) 0 = y6 at *; generalize l.getD (8 * k + 7) 0 = y7 at *; clear h hi hl hr hk hr8; omega
  · rw [hl, c6]; clear c0 c1 c2 c3 c4 c5 c6 c7; generalize l.getD (8 * k) 0 = y0 at *; generalize l.getD (8 * k + 1) 0 = y1 at *; generalize l.getD (8 * k + 2) 0 = y2 at *; generalize l.getD (8 * k + 3) 0 = y3 at *; generalize l.getD (8 * k + 4) 0 = y4 at *; generalize l.getD (8 * k + 5) 0 = y5 at *; generalize l.getD (8 * k + 6) 0 = y6 at *; generalize l.getD (8 * k + 7) 0 = y7 at *; clear h hi hl hr hk hr8; omega
  · rw [hl, c7]; clear c0 c1 c2 c3 c4 c5 c6 c7; generalize l.getD (8 * k) 0 = y0 at *; generalize l.getD (8 * k + 1) 0 = y1 at *; generalize l.getD (8 * k + 2) 0 = y2 at *; generalize l.getD (8 * k + 3) 0 = y3 at *; generalize l.getD (8 * k + 4) 0 = y4 at *; generalize l.getD (8 * k + 5) 0 = y5 at *; generalize l.getD (8 * k + 6) 0 = y6 at *; generalize l.getD (8 * k + 7) 0 = y7 at *; clear h hi hl hr hk hr8; omega
theorem bl_pk {l : List Int} (h : Bit l) : bl (pk l) l.length = l := by
  apply List.ext_getElem?
  intro i
  by_cases hi : i < l.length
  · have h1 : (bl (pk l) l.length)[i]? = some (bitAt (pk l) i) := by simp [bl, hi]
    rw [h1, bitAt_pk h hi]
    simp [List.getD, hi]
  · rw [List.getElem?_eq_none (by rw [bl_len]; omega), List.getElem?_eq_none (by omega)]
theorem same_l (F : Nat) {xs ys : List Int} (hl : xs.length = ys.length) (hm : xs.length ≤ 9223372036854775807) : ∀ (k i : Nat), xs.length < k + i → i ≤ xs.length →
    M_R_SameBytes_l3 F xs ys k (i : Int) = some (decide (xs.drop i = ys.drop i))
  | 0, i, h, _ => by omega
  | k + 1, i, h, hi => by
    show M_R_SameBytes_b3 F xs ys (M_R_SameBytes_l3 F xs ys k) i = _
    unfold M_R_SameBytes_b3
    by_cases hlt : i < xs.length
    · have hlt' : (i : Int) < (xs.length : Int) := by omega
      have hlt2 : i < ys.length := by omega
      have hg : xs[i]? = some xs[i] := by simp [hlt]
      have hg2 : ys[i]? = some ys[i] := by simp [hlt2]
      simp only [hlt', decide_true, if_true, idx_nat, hg, hg2, Option.bind_some]
      have e : (xs.drop i = ys.drop i) ↔ (xs[i] = ys[i] ∧ xs.drop (i + 1) = ys.drop (i + 1)) := by
        rw [List.drop_eq_getElem_cons hlt, List.drop_eq_getElem_cons hlt2, List.cons.injEq]
      simp only [e]
      by_cases he : xs[i] = ys[i]
      · simp only [he, bne_self_eq_false, Bool.false_eq_true, if_false, true_and]
        rw [iadd_i64 (by omega) (by omega), show (i : Int) + 1 = ((i + 1 : Nat) : Int) from by omega, same_l F hl hm k (i + 1) (by omega) (by omega)]
      · have : (xs[i] != ys[i]) = true := by simpa using he
        simp only [this, if_true, he, false_and, decide_false]
    · have hlt' : ¬ (i : Int) < (xs.length : Int) := by omega
      simp only [hlt', decide_false, Bool.false_eq_true, if_false]
      rw [List.drop_eq_nil_of_le (by omega), List.drop_eq_nil_of_le (by omega)]
      rfl
theorem sameBytes_eq {F : Nat} {xs ys : List Int} (hF : xs.length < F) (hm : xs.length ≤ 9223372036854775807) : M_R_SameBytes F xs ys = some (decide (xs = ys)) := by
  unfold M_R_SameBytes
  by_cases hl : xs.length = ys.length
  · have : (((xs.length : Int) : Int) != (ys.length : Int)) = false := by simp [hl]
    simp only [this, Bool.false_eq_true, if_false]
    have := same_l F hl hm F 0 (by omega) (by omega)
    simpa using this
  · have : (((xs.length : Int) : Int) != (ys.length : Int)) = true := by simp; omega
    simp only [this, if_true]
    have : xs ≠ ys := fun e => hl (by rw [e])
    simp [this]
theorem chkOf_of_ok {n : Nat} {b : List Int} (h : Ok n b) : chkOf (n : Int) b = 0 := by
  unfold chkOf
  have := h.max
  have := h.len
  rw [if_neg (by omega), if_neg (by omega), if_neg]
  rintro ⟨h1, h2⟩
  rw [Int.toNat_natCast] at h2
  exact h2 (h.low (by omega))
theorem bit_app {l k : List Int} (h : Bit l) (h2 : Bit k) : Bit (l ++ k) := by
  intro x hx
  rcases List.mem_append.1 hx with h3 | h3
  · exact h x h3
  · exact h2 x h3
theorem begun_bits' {F : Nat} (hF : 20000 ≤ F) : M_L_bitsBegun F = some true := by
  obtain ⟨n, rfl⟩ : ∃ n, F = n + 200 := ⟨F - 200, by omega⟩
  exact begun_bits n
theorem two64 : (2 : Nat) ^ 64 = 18446744073709551616 := by decide
theorem ishl_n {n k : Nat} (hk : k ≤ 64) : ishl .u64 (n : Int) (k : Int) = ((n * 2 ^ k % 18446744073709551616 : Nat) : Int) := by
  rw [ishl_u64 hk, Int.natCast_emod, Int.natCast_mul, Int.natCast_pow]; rfl
theorem ior_n {a b m : Nat} (ha : a < 2 ^ m) (hb : b % 2 ^ m = 0) (h : a + b < 18446744073709551616) : ior .u64 (b : Int) (a : Int) = ((b + a : Nat) : Int) := by
  rw [ior_comm, ior_add (m := m) (by omega) (by exact_mod_cast ha) (by omega) (by exact_mod_cast hb) rfl (by simp only [IntKind.bits]; rw [show (2 : Int) ^ 64 = 18446744073709551616 from by decide]; omega)]
  omega
theorem iadd_n {a b : Nat} (h : a + b < 9223372036854775808) : iadd .i64 (a : Int) (b : Int) = ((a + b : Nat) : Int) := by rw [iadd_i64 (by omega) (by omega)]; omega
theorem iadd1_n {a : Nat} (h : a + 1 < 9223372036854775808) : iadd .i64 (a : Int) 1 = ((a + 1 : Nat) : Int) := by rw [iadd_i64 (by omega) (by omega)]; omega
theorem isub_n {a b : Nat} (h : b ≤ a) (h2 : a < 9223372036854775808) : isub .i64 (a : Int) (b : Int) = ((a - b : Nat) : Int) := by rw [isub_i64 (by omega) (by omega)]; omega
theorem isub1_n {a : Nat} (h : 1 ≤ a) (h2 : a < 9223372036854775808) : isub .i64 (a : Int) 1 = ((a - 1 : Nat) : Int) := by rw [isub_i64 (by omega) (by omega)]; omega
/-- The number of bits. -/
def bv (l : List Int) : Nat := l.foldl (fun n b => 2 * n + b.toNat) 0
theorem bv_from (l : List Int) : ∀ m, l.foldl (fun n b => 2 * n + b.toNat) m = m * 2 ^ l.length + bv l := by
  induction l with
  | nil => intro m; simp [bv]
  | cons x l ih =>
    intro m
    show l.foldl _ _ = _
    rw [ih]
    show _ = _ + l.foldl _ _
    rw [ih, List.length_cons, Nat.pow_succ]
    generalize 2 ^ l.length = p
    rw [Nat.add_mul, Nat.add_mul]
    have : 2 * m * p = m * (p * 2) := by rw [Nat.mul_comm 2 m, Nat.mul_assoc, Nat.mul_comm 2 p]
    omega
theorem bv_app (l k : List Int) : bv (l ++ k) = bv l * 2 ^ k.length + bv k := by
  unfold bv
  rw [List.foldl_append, bv_from k]; rfl
theorem bv_cons (x : Int) (l : List Int) : bv (x :: l) = x.toNat * 2 ^ l.length + bv l := by
  have := bv_app [x] l
  simpa [bv] using this
theorem bl_get {b : List Int} {n i : Nat} (h : i < n) : (bl b n)[i]? = some (bitAt b i) := by simp [bl, h]
theorem read_l {F : Nat} {n : Int} {m a w : Nat} {b : List Int} (hb : U8s b) (hlen : m ≤ 8 * b.length) (hm : m ≤ 10000) (ha : a + w ≤ m) (hw : w ≤ 64) : ∀ (k i v : Nat), w < k + i → i ≤ w → v < 2 ^ i →
    M_bits_Read_l3 F n b (a : Int) (w : Int) k ((v : Int), (i : Int)) = some (((v * 2 ^ (w - i) + bv (((bl b m).drop (a + i)).take (w - i)) : Nat) : Int), true)
  | 0, _, _, _, _, _ => by omega
  | k + 1, i, v, h, hi, hv => by
    show M_bits_Read_b3 F n b (a : Int) (w : Int) (M_bits_Read_l3 F n b (a : Int) (w : Int) k) (v : Int) (i : Int) = _
    unfold M_bits_Read_b3
    by_cases hlt : i < w
    · rw [if_pos (by simp; omega), iadd_n (by omega), at_eq hb (by omega) (by omega)]
      simp only [Option.bind_some]
      have hx := bitAt_bit b (a + i)
      have hv64 : 2 * v + 1 < 18446744073709551616 := by
        have : 2 ^ (i + 1) ≤ 2 ^ 64 := Nat.pow_le_pow_right (by decide) (by omega)
        rw [Nat.pow_succ, two64] at this
        omega
      obtain ⟨x, hxe⟩ : ∃ x : Nat, bitAt b (a + i) = (x : Int) := Int.eq_ofNat_of_zero_le (by omega)
      have hx1 : x < 2 := by omega
      have e1 : ishl .u64 (v : Int) 1 = ((v * 2 : Nat) : Int) := by
        have := ishl_n (n := v) (k := 1) (by decide)
        rw [show ((1 : Nat) : Int) = 1 from rfl] at this
        rw [this]; omega
      have e2 : ior .u64 ((v * 2 : Nat) : Int) (x : Int) = ((v * 2 + x : Nat) : Int) := ior_n (m := 1) (by omega) (by omega) (by omega)
      rw [hxe, e1, e2, iadd1_n (by omega)]
      rw [read_l hb hlen hm ha hw k (i + 1) (v * 2 + x) (by omega) (by omega) (by rw [Nat.pow_succ]; omega)]
      have hd : ((bl b m).drop (a + i)).take (w - i) = (x : Int) :: ((bl b m).drop (a + (i + 1))).take (w - (i + 1)) := by
        rw [List.drop_eq_getElem_cons (by rw [bl_len]; omega), show w - i = (w - (i + 1)) + 1 from by omega, List.take_succ_cons, show a + i + 1 = a + (i + 1) from by omega]
        congr 1
        have := bl_get (b := b) (n := m) (i := a + i) (by omega)
        rw [List.getElem?_eq_getElem (by rw [bl_len]; omega)] at this
        rw [← hxe]; exact Option.some.inj this
      rw [hd, bv_cons, Int.toNat_natCast]
      have hl : (((bl b m).drop (a + (i + 1))).take (w - (i + 1))).length = w - (i + 1) := by simp [bl_len]; omega
      rw [hl, show w - i = (w - (i + 1)) + 1 from by omega, Nat.pow_succ, Nat.add_mul]
      congr 3
      rw [Nat.mul_assoc, Nat.mul_comm 2, Nat.add_assoc]
    · rw [if_neg (by simp; omega)]
      rw [show w - i = 0 from by omega]
      simp [M_bits_Read_j2, bv]
theorem read_eq {F : Nat} {m a w : Nat} {b : List Int} (hF : 100 ≤ F) (hb : U8s b) (ob : Ok m b) (ha : a ≤ m) (hw : w ≤ 64) :
    M_bits_Read F (m : Int) b (a : Int) (w : Int) = some (if a + w ≤ m then (((bv (((bl b m).drop a).take w) : Nat) : Int), true) else (0, false)) := by
  unfold M_bits_Read
  have hmx := ob.max
  rw [isub_n ha (by omega)]
  by_cases h : a + w ≤ m
  · rw [if_neg (by simp; omega), if_pos h]
    have := read_l (F := F) (n := (m : Int)) (m := m) (a := a) (w := w) hb (by rw [ob.len]; omega) (by omega) h hw F 0 0 (by omega) (by omega) (by decide)
    simpa using this
  · rw [if_pos (by simp; omega), if_neg h]
def getOf (m : Int) (b : List Int) (a w : Int) : Int :=
  if chkOf m b ≠ 0 then chkOf m b else if w < 0 ∨ 64 < w ∨ a < 0 ∨ m < a then 3 else if m < a + w then 7 else 0
def gt (m : Int) (b : List Int) (a w : Int) : Int × Int :=
  if getOf m b a w ≠ 0 then (0, getOf m b a w) else (((bv (((bl b m.toNat).drop a.toNat).take w.toNat) : Nat) : Int), 0)
theorem gt_err {m : Int} {b : List Int} {a w e : Int} (h : getOf m b a w = e) (he : e ≠ 0) : gt m b a w = (0, e) := by
  unfold gt; rw [h, if_pos he]
theorem gt_ok {m : Int} {b : List Int} {a w : Int} (h : getOf m b a w = 0) : gt m b a w = (((bv (((bl b m.toNat).drop a.toNat).take w.toNat) : Nat) : Int), 0) := by
  unfold gt; rw [h]; rfl
theorem get_eq {F : Nat} (hF : 20000 ≤ F) {m a w : Int} {b : List Int} (hb : U8s b) (hm : I64 m) (lb : b.length ≤ 9223372036854775807) : M_bits_Get F m b a w = some (gt m b a w) := by
  unfold M_bits_Get
  rw [check_eq hb hm.1 hm.2 lb]
  simp only [Option.bind_some]
  by_cases h1 : chkOf m b = 0
  · obtain ⟨m, rfl, ob⟩ := chkOf_ok h1
    have hmx := ob.max
    rw [h1, if_pos (by rfl)]
    by_cases h2 : w < 0 ∨ 64 < w ∨ a < 0 ∨ (m : Int) < a
    · rw [show (((decide (w < 0) || decide (64 < w)) || decide (a < 0)) || decide ((m : Int) < a)) = true from by simp only [Bool.or_eq_true, decide_eq_true_eq]; omega,
        gt_err (e := 3) (by unfold getOf; rw [if_neg (by simp [h1]), if_pos h2]) (by decide)]
      rfl
    · rw [show (((decide (w < 0) || decide (64 < w)) || decide (a < 0)) || decide ((m : Int) < a)) = false from by rw [Bool.eq_false_iff]; intro h; apply h2; simp only [Bool.or_eq_true, decide_eq_true_eq] at h; omega]
      obtain ⟨w, rfl⟩ := Int.eq_ofNat_of_zero_le (show 0 ≤ w by omega)
      obtain ⟨a, rfl⟩ := Int.eq_ofNat_of_zero_le (show 0 ≤ a by omega)
      simp only [M_bits_Get_j3, M_bits_Get_j2, Bool.false_eq_true, if_false, bne_self_eq_false]
      rw [read_eq (by omega) hb ob (by omega) (by omega)]
      simp only [Option.bind_some]
      by_cases h3 : a + w ≤ m
      · rw [gt_ok (by unfold getOf; rw [if_neg (by simp [h1]), if_neg h2, if_neg (by omega)])]
        simp [h3]
      · rw [gt_err (e := 7) (by unfold getOf; rw [if_neg (by simp [h1]), if_neg h2, if_pos (by omega)]) (by decide)]
        simp [h3]
  · have hb1 : (chkOf m b == 0) = false := by simpa using h1
    have hb3 : (chkOf m b != 0) = true := by simpa using h1
    rw [hb1, gt_err (e := chkOf m b) (by unfold getOf; rw [if_pos h1]) h1]
    simp only [M_bits_Get_j3, M_bits_Get_j2, Bool.false_eq_true, if_false, hb3, if_true]
theorem irem2_n (n : Nat) : irem (n : Int) 2 = ((n % 2 : Nat) : Int) := by
  unfold irem; rw [Int.tmod_eq_emod_of_nonneg (by omega)]; omega
theorem iquo2_n {n : Nat} (h : n ≤ 9223372036854775807) : iquo .i64 (n : Int) 2 = ((n / 2 : Nat) : Int) := by
  unfold iquo; rw [Int.tdiv_eq_ediv_of_nonneg (by omega), wrap_i64 (by omega) (by omega)]; omega
theorem iconv_i64_n {n : Nat} (h : n < 9223372036854775808) : iconv .i64 (n : Int) = (n : Int) := wrap_i64 (by omega) (by omega)
theorem div_pow_succ (x k : Nat) : x / 2 ^ (k + 1) = x / 2 / 2 ^ k := by rw [Nat.pow_succ, Nat.mul_comm, Nat.div_div_eq_div_mul]
theorem bitList_in {F : Nat} {rec38 : (List Int × Int) → Option (List Int)} {l : List Int} {i : Nat} (hm : i ≤ 100000) : ∀ (k j x : Nat), 7 - i % 8 < k + j → j ≤ 7 - i % 8 → x < 256 →
    M_R_BitList_l45 F rec38 l (i : Int) k ((x : Int), (j : Int)) = M_R_BitList_j44 F rec38 l (i : Int) ((x / 2 ^ (7 - i % 8 - j) : Nat) : Int)
  | 0, _, _, _, _, _ => by omega
  | k + 1, j, x, h, hj, hx => by
    show M_R_BitList_b45 F rec38 l (i : Int) (M_R_BitList_l45 F rec38 l (i : Int) k) (x : Int) (j : Int) = _
    unfold M_R_BitList_b45
    rw [irem8, isub_i64 (by omega) (by omega)]
    by_cases hlt : j < 7 - i % 8
    · rw [if_pos (by simp; omega), iquo2_n (by omega), iadd1_n (by omega), bitList_in hm k (j + 1) (x / 2) (by omega) (by omega) (by omega)]
      rw [show 7 - i % 8 - j = (7 - i % 8 - (j + 1)) + 1 from by omega, div_pow_succ]
    · rw [if_neg (by simp; omega), show 7 - i % 8 - j = 0 from by omega]
      simp
theorem bitList_l {F : Nat} (hF : 100 ≤ F) {b : List Int} (hb : U8s b) {n : Nat} (hn : n ≤ 8 * b.length) (hm : n ≤ 100000) : ∀ (k i : Nat), n < k + i → i ≤ n →
    M_R_BitList_l38 F (n : Int) b k (bl b i, (i : Int)) = some (bl b n)
  | 0, _, _, _ => by omega
  | k + 1, i, h, hi => by
    show M_R_BitList_b38 F (n : Int) b (M_R_BitList_l38 F (n : Int) b k) (bl b i) (i : Int) = _
    unfold M_R_BitList_b38
    by_cases hlt : i < n
    · rw [if_pos (by simp; omega), iquo8 (by omega), idx_nat]
      have hg : b[i / 8]? = some b[i / 8] := by rw [List.getElem?_eq_getElem (by omega)]
      rw [hg]
      simp only [Option.bind_some]
      have hx := hb b[i / 8] (List.getElem_mem (by omega))
      obtain ⟨x, hxe⟩ := Int.eq_ofNat_of_zero_le hx.1
      rw [hxe, iconv_i64_n (by omega)]
      rw [show ((0 : Int)) = ((0 : Nat) : Int) from rfl, bitList_in (by omega) F 0 x (by omega) (by omega) (by omega)]
      unfold M_R_BitList_j44
      rw [irem2_n, app_eq (by rw [bl_len]; simp; omega)]
      simp only [Option.bind_some, M_R_BitList_j42]
      rw [iadd1_n (by omega)]
      have e : bl b i ++ [((x / 2 ^ (7 - i % 8 - 0) % 2 : Nat) : Int)] = bl b (i + 1) := by
        rw [bl_succ]
        congr 2
        unfold bitAt
        simp only [List.getD, hg, Option.getD_some, hxe, Nat.sub_zero]
        norm_cast
      rw [e]
      exact bitList_l hF hb hn hm k (i + 1) (by omega) (by omega)
    · rw [if_neg (by simp; omega)]
      obtain rfl : i = n := by omega
      rfl
theorem bitList_eq {F : Nat} (hF : 20000 ≤ F) {b : List Int} (hb : U8s b) {n : Nat} (hn : n ≤ 8 * b.length) (hm : n ≤ 10000) : M_R_BitList F (n : Int) b = some (bl b n) := by
  unfold M_R_BitList
  exact bitList_l (by omega) hb hn (by omega) F 0 (by omega) (by omega)
theorem bit_n {l : List Int} (h : Bit l) {i : Nat} (hi : i < l.length) : ∃ x : Nat, l[i]? = some (x : Int) ∧ x < 2 := by
  have := h l[i] (List.getElem_mem hi)
  obtain ⟨x, hx⟩ := Int.eq_ofNat_of_zero_le (show 0 ≤ l[i] by omega)
  exact ⟨x, by rw [List.getElem?_eq_getElem hi, hx], by omega⟩
theorem between_eq {F : Nat} {a b c : Int} : M_R_between F a b c = some (decide (b ≤ a ∧ a ≤ c)) := by
  unfold M_R_between
  congr 1
  by_cases h : b ≤ a <;> by_cases h2 : a ≤ c <;> simp [h, h2]
theorem bitsCheck_l {F : Nat} {l : List Int} (hm : l.length ≤ 100000) : ∀ (k i : Nat), l.length < k + i → i ≤ l.length →
    M_R_BitsCheck_l4 F l k (i : Int) = some (if (l.drop i).all (· == 0) then 0 else 1)
  | 0, _, _, _ => by omega
  | k + 1, i, h, hi => by
    show M_R_BitsCheck_b4 F l (M_R_BitsCheck_l4 F l k) (i : Int) = _
    unfold M_R_BitsCheck_b4
    by_cases hlt : i < l.length
    · rw [if_pos (by simp; omega), idx_nat, List.getElem?_eq_getElem hlt, List.drop_eq_getElem_cons hlt, List.all_cons]
      simp only [Option.bind_some]
      by_cases h0 : l[i] = 0
      · rw [h0, if_neg (by simp), iadd1_n (by omega), bitsCheck_l hm k (i + 1) (by omega) (by omega)]
        simp
      · rw [if_pos (by simpa using h0)]
        simp [h0]
    · rw [if_neg (by simp; omega), List.drop_eq_nil_of_le (by omega)]
      rfl
theorem all_low {b : List Int} (hb : U8s b) {m : Nat} (hlen : b.length = (m + 7) / 8) (hr : m % 8 ≠ 0) : ((bl b (8 * ((m + 7) / 8))).drop m).all (· == 0) = decide (b.getD (m / 8) 0 % 2 ^ (8 - m % 8) = 0) := by
  obtain ⟨q, hq⟩ : ∃ q, q = m / 8 := ⟨_, rfl⟩
  obtain ⟨r, hrr⟩ : ∃ r, r = m % 8 := ⟨_, rfl⟩
  have hm : m = 8 * q + r := by omega
  have hx : 0 ≤ b.getD q 0 ∧ b.getD q 0 < 256 := by
    have hlt : q < b.length := by omega
    have := hb b[q] (List.getElem_mem hlt)
    simpa [List.getD, hlt] using this
  have hc : (m + 7) / 8 = q + 1 := by omega
  obtain ⟨c0, c1, c2, c3, c4, c5, c6, c7⟩ := bitAt_8 b q
  have hall : ((bl b (8 * (q + 1))).drop m).all (· == 0) = true ↔ (∀ i, m ≤ i → i < 8 * q + 8 → bitAt b i = 0) := by
    rw [List.all_eq_true]
    constructor
    · intro h i h1 h2
      have hg : ((bl b (8 * (q + 1))).drop m)[i - m]? = some (bitAt b i) := by
        rw [List.getElem?_drop, show m + (i - m) = i from by omega]; exact bl_get (by omega)
      have := h _ (List.mem_of_getElem? hg)
      simpa using this
    · intro h x hx
      obtain ⟨j, hj⟩ := List.getElem?_of_mem hx
      rw [List.getElem?_drop] at hj
      have hjl : m + j < 8 * (q + 1) := by
        have := (List.getElem?_eq_some_iff.1 hj).1; rwa [bl_len] at this
      rw [bl_get hjl] at hj
      rw [← Option.some.inj hj, h _ (by omega) (by omega)]; rfl
  rw [hc, ← hq, ← hrr, Bool.eq_iff_iff, decide_eq_true_iff, hall]
  have hall2 : (∀ i, m ≤ i → i < 8 * q + 8 → bitAt b i = 0) ↔ (∀ j, r ≤ j → j < 8 → bitAt b (8 * q + j) = 0) := by
    constructor
    · intro h j h1 h2; exact h _ (by omega) (by omega)
    · intro h i h1 h2
      have := h (i - 8 * q) (by omega) (by omega)
      rwa [show 8 * q + (i - 8 * q) = i from by omega] at this
  rw [hall2]
  generalize b.getD q 0 = x at *
  have mk : ∀ j, j < 8 → (∀ j', r ≤ j' → j' < 8 → bitAt b (8 * q + j') = 0) → r ≤ j → bitAt b (8 * q + j) = 0 := fun j h1 h h2 => h j h2 h1
  constructor
  · intro h
    have g1 := mk 1 (by omega) h; have g2 := mk 2 (by omega) h; have g3 := mk 3 (by omega) h; have g4 := mk 4 (by omega) h
    have g5 := mk 5 (by omega) h; have g6 := mk 6 (by omega) h; have g7 := mk 7 (by omega) h
    rw [c1] at g1; rw [c2] at g2; rw [c3] at g3; rw [c4] at g4; rw [c5] at g5; rw [c6] at g6; rw [c7] at g7
    clear c0 c1 c2 c3 c4 c5 c6 c7 mk hall hall2 h
    rcases (by omega : r = 1 ∨ r = 2 ∨ r = 3 ∨ r = 4 ∨ r = 5 ∨ r = 6 ∨ r = 7) with h | h | h | h | h | h | h <;> subst h <;> simp only [Nat.reduceSub, Int.reducePow] <;> omega
  · intro h j h1 h2
    clear mk hall hall2
    rcases (by omega : r = 1 ∨ r = 2 ∨ r = 3 ∨ r = 4 ∨ r = 5 ∨ r = 6 ∨ r = 7) with hh | hh | hh | hh | hh | hh | hh <;> subst hh <;> simp only [Nat.reduceSub, Int.reducePow] at h <;>
      rcases (by omega : j = 1 ∨ j = 2 ∨ j = 3 ∨ j = 4 ∨ j = 5 ∨ j = 6 ∨ j = 7) with g | g | g | g | g | g | g <;> subst g <;> first | (exfalso; omega) | (rw [c1]; omega) | (rw [c2]; omega) | (rw [c3]; omega) | (rw [c4]; omega) | (rw [c5]; omega) | (rw [c6]; omega) | (rw [c7]; omega)
theorem bitsCheck_eq {F : Nat} (hF : 20000 ≤ F) {n : Int} {b : List Int} (hb : U8s b) : M_R_BitsCheck F n b = some (chkOf n b) := by
  unfold M_R_BitsCheck chkOf
  rw [between_eq]
  simp only [Option.bind_some]
  by_cases c1 : n < 0 ∨ 8192 < n
  · rw [if_pos (by simp; omega), if_pos c1]
  · rw [if_neg (by simp; omega), if_neg c1]
    obtain ⟨m, rfl⟩ := Int.eq_ofNat_of_zero_le (show 0 ≤ n by omega)
    have hj : ∀ c : Nat, c = (m + 7) / 8 → M_R_BitsCheck_j1 F (m : Int) b (c : Int) = some (if (b.length : Int) ≠ ((m : Int) + 7) / 8 then 1 else if (m : Int) % 8 ≠ 0 ∧ b.getD ((m : Int).toNat / 8) 0 % 2 ^ (8 - (m : Int).toNat % 8) ≠ 0 then 1 else 0) := by
      intro c hc
      unfold M_R_BitsCheck_j1
      by_cases c2 : b.length = c
      · rw [if_neg (by simp [c2]), if_neg (by omega)]
        rw [imul_i64 (by omega) (by omega), show (8 : Int) * (c : Int) = ((8 * c : Nat) : Int) from by omega, bitList_eq hF hb (by omega) (by omega)]
        simp only [Option.bind_some]
        rw [bitsCheck_l (by rw [bl_len]; omega) F m (by rw [bl_len]; omega) (by rw [bl_len]; omega), Int.toNat_natCast]
        by_cases hr : m % 8 = 0
        · rw [List.drop_eq_nil_of_le (by rw [bl_len]; omega), List.all_nil, if_pos rfl, if_neg (by omega)]
        · rw [hc, all_low hb (by omega) hr]
          by_cases hz : b.getD (m / 8) 0 % 2 ^ (8 - m % 8) = 0
          · rw [if_pos (decide_eq_true hz), if_neg (fun h => h.2 hz)]
          · rw [if_neg (by simp only [decide_eq_true_eq]; exact hz), if_pos ⟨by omega, hz⟩]
      · rw [if_pos (by rw [bne_iff_ne]; omega), if_pos (by omega)]
    rw [irem8, iquo8 (by omega)]
    by_cases h8 : 0 < m % 8
    · rw [if_pos (by simp; omega), iadd1_n (by omega)]
      exact hj _ (by omega)
    · rw [if_neg (by simp; omega)]
      exact hj _ (by omega)
theorem bit_take {l : List Int} (h : Bit l) (i : Nat) : Bit (l.take i) := fun x hx => h x (List.mem_of_mem_take hx)
theorem chk_form {n : Int} {b : List Int} (hb : U8s b) : chkOf n b ≠ 0 ∨ ∃ l : List Int, Bit l ∧ l.length ≤ 8192 ∧ n = (l.length : Int) ∧ b = pk l := by
  by_cases h : chkOf n b = 0
  · obtain ⟨m, rfl, ob⟩ := chkOf_ok h
    exact .inr ⟨bl b m, bl_bit _ _, by rw [bl_len]; exact ob.max, by rw [bl_len], (pk_bl hb ob).symm⟩
  · exact .inl h
theorem chk_pk {l : List Int} (hm : l.length ≤ 8192) : chkOf (l.length : Int) (pk l) = 0 := chkOf_of_ok (ok_pk hm)
theorem jn_bad1 {n m : Int} {a b : List Int} (h : chkOf n a ≠ 0) : jn n a m b = (0, [], chkOf n a) := by
  unfold jn joinOf; simp [h]
theorem jn_bad2 {n m : Int} {a b : List Int} (h0 : chkOf n a = 0) (h : chkOf m b ≠ 0) : jn n a m b = (0, [], chkOf m b) := by
  unfold jn joinOf; simp [h0, h]
theorem jn_form {l k : List Int} (hl : Bit l) (hk : Bit k) (h1 : l.length ≤ 8192) (h2 : k.length ≤ 8192) :
    jn (l.length : Int) (pk l) (k.length : Int) (pk k) = if l.length + k.length ≤ 8192 then (((l ++ k).length : Int), pk (l ++ k), 0) else (0, [], 8) := by
  by_cases h : l.length + k.length ≤ 8192
  · have e : joinOf (l.length : Int) (pk l) (k.length : Int) (pk k) = 0 := by
      unfold joinOf; rw [chk_pk h1, chk_pk h2, if_neg (by simp), if_neg (by simp), if_neg (by omega)]
    unfold jn
    rw [e, if_pos h, if_neg (by simp), Int.toNat_natCast, Int.toNat_natCast, bl_pk hl, bl_pk hk]; simp
  · have e : joinOf (l.length : Int) (pk l) (k.length : Int) (pk k) = 8 := by
      unfold joinOf; rw [chk_pk h1, chk_pk h2, if_neg (by simp), if_neg (by simp), if_pos (by omega)]
    unfold jn
    rw [e, if_neg h, if_pos (by decide)]
theorem gt_short {l : List Int} {a w : Int} (h1 : l.length ≤ 8192) (h : 0 ≤ w ∧ w ≤ 64 ∧ 0 ≤ a ∧ a ≤ (l.length : Int)) (h2 : (l.length : Int) < a + w) : gt (l.length : Int) (pk l) a w = (0, 7) :=
  gt_err (by unfold getOf; rw [if_neg (by simp [chk_pk h1]), if_neg (by omega), if_pos h2]) (by decide)
theorem gt_form {l : List Int} (hl : Bit l) (h1 : l.length ≤ 8192) {a w : Nat} (hw : w ≤ 64) (h : a + w ≤ l.length) : gt (l.length : Int) (pk l) (a : Int) (w : Int) = (((bv ((l.drop a).take w) : Nat) : Int), 0) := by
  rw [gt_ok (by unfold getOf; rw [if_neg (by simp [chk_pk h1]), if_neg (by omega), if_neg (by omega)])]
  simp only [Int.toNat_natCast, bl_pk hl]
theorem i64_len {l : List Int} (h : l.length ≤ 8192) : I64 (l.length : Int) := ⟨by omega, by omega⟩
theorem pk_len9 {l : List Int} (h : l.length ≤ 8192) : (pk l).length ≤ 9223372036854775807 := by rw [pk_len]; omega
theorem sameInts_l (F : Nat) (xs ys : List Int) : ∀ k, M_R_SameInts_l3 F xs ys k = M_R_SameBytes_l3 F xs ys k
  | 0 => rfl
  | k + 1 => by
    funext i
    show M_R_SameInts_b3 F xs ys (M_R_SameInts_l3 F xs ys k) i = M_R_SameBytes_b3 F xs ys (M_R_SameBytes_l3 F xs ys k) i
    rw [sameInts_l F xs ys k]; rfl
theorem sameInts_same (F : Nat) (xs ys : List Int) : M_R_SameInts F xs ys = M_R_SameBytes F xs ys := by
  unfold M_R_SameInts M_R_SameBytes; rw [sameInts_l]
theorem equalInts_l (F : Nat) (xs ys : List Int) : ∀ k, M_slices_Equal_int_int_l3 F xs ys k = M_R_SameBytes_l3 F xs ys k
  | 0 => rfl
  | k + 1 => by
    funext i
    show M_slices_Equal_int_int_b3 F xs ys (M_slices_Equal_int_int_l3 F xs ys k) i = M_R_SameBytes_b3 F xs ys (M_R_SameBytes_l3 F xs ys k) i
    rw [equalInts_l F xs ys k]; rfl
theorem equalInts_same (F : Nat) (xs ys : List Int) : M_slices_Equal_int_int F xs ys = M_R_SameBytes F xs ys := by
  unfold M_slices_Equal_int_int M_R_SameBytes; rw [equalInts_l]
theorem at_pk {F : Nat} {m : Int} {l : List Int} (hl : Bit l) (hm : l.length ≤ 90000) {i : Nat} (hi : i < l.length) : M_bits_At F m (pk l) (i : Int) = some l[i] := by
  rw [at_eq (pk_u8 hl) (by rw [pk_len]; omega) (by omega), bitAt_pk hl hi]
  simp [List.getD, hi]
/-- What is wrong with bits, and a place. -/
def raOf (m : Int) (b : List Int) (a : Int) : Int := if chkOf m b ≠ 0 then chkOf m b else if a < 0 ∨ m < a then 3 else 0
theorem ra_bad {m a : Int} {b : List Int} (h : chkOf m b ≠ 0) : raOf m b a = chkOf m b := by unfold raOf; rw [if_pos h]
theorem ra_range {l : List Int} {a : Int} (h1 : l.length ≤ 8192) (h : ¬ (0 ≤ a ∧ a ≤ (l.length : Int))) : raOf (l.length : Int) (pk l) a = 3 := by
  unfold raOf; rw [if_neg (by simp [chk_pk h1]), if_pos (by omega)]
theorem ra_form {l : List Int} {a : Nat} (h1 : l.length ≤ 8192) (h : a ≤ l.length) : raOf (l.length : Int) (pk l) (a : Int) = 0 := by
  unfold raOf; rw [if_neg (by simp [chk_pk h1]), if_neg (by omega)]
theorem ra_cases {m a : Int} {b : List Int} (hb : U8s b) : raOf m b a ≠ 0 ∨ ∃ (l : List Int) (i : Nat), Bit l ∧ l.length ≤ 8192 ∧ m = (l.length : Int) ∧ b = pk l ∧ a = (i : Int) ∧ i ≤ l.length := by
  rcases chk_form hb (n := m) with h | ⟨l, hl, hm, rfl, rfl⟩
  · left; rw [ra_bad h]; exact h
  · by_cases h : 0 ≤ a ∧ a ≤ (l.length : Int)
    · obtain ⟨i, rfl⟩ := Int.eq_ofNat_of_zero_le h.1
      exact .inr ⟨l, i, hl, hm, rfl, rfl, rfl, by omega⟩
    · left; rw [ra_range hm h]; decide
theorem readErr_eq {F : Nat} (hF : 20000 ≤ F) {m a : Int} {b : List Int} (hb : U8s b) : M_R_ReadErr F m b a = some (raOf m b a) := by
  unfold M_R_ReadErr raOf
  rw [bitsCheck_eq hF hb]
  simp only [Option.bind_some]
  by_cases h1 : chkOf m b = 0
  · rw [if_pos (by simpa using h1), if_neg (by simp [h1]), between_eq]
    simp only [Option.bind_some, M_R_ReadErr_j3, M_R_ReadErr_j2]
    by_cases h : a < 0 ∨ m < a
    · rw [if_pos h, if_pos (by simp; omega)]
    · rw [if_neg h, if_neg (by simp; omega), h1]
  · rw [if_neg (by simpa using h1), if_pos h1]
    rfl
def ones (l : List Int) : Nat := (l.map Int.toNat).sum
theorem ones_app (l k : List Int) : ones (l ++ k) = ones l + ones k := by simp [ones]
theorem ones_le {l : List Int} (h : Bit l) : ones l ≤ l.length := by
  induction l with
  | nil => simp [ones]
  | cons x l ih =>
    have := ih (fun y hy => h y (List.mem_cons_of_mem _ hy))
    have h2 := h x List.mem_cons_self
    simp [ones] at this ⊢
    omega
theorem eCheck_eq {F : Nat} {m a : Int} {b : List Int} (hb : U8s b) (hm : I64 m) (lb : b.length ≤ 9223372036854775807) : M_elias_Check F m b a = some (raOf m b a) := by
  unfold M_elias_Check raOf
  rw [check_eq hb hm.1 hm.2 lb]
  simp only [Option.bind_some]
  by_cases h1 : chkOf m b = 0
  · rw [if_pos (by simpa using h1), if_neg (by simp [h1])]
    simp only [M_elias_Check_j3, M_elias_Check_j2]
    by_cases h : a < 0 ∨ m < a
    · rw [if_pos h, if_pos (by simp; omega)]
    · rw [if_neg h, if_neg (by simp; omega), h1]
  · rw [if_neg (by simpa using h1), if_pos h1]
    rfl
theorem ones_split (l : List Int) {i j : Nat} (h : i ≤ j) : ones (l.take j) = ones (l.take i) + ones ((l.take j).drop i) := by
  conv => lhs; rw [← List.take_append_drop i (l.take j), ones_app, List.take_take, Nat.min_eq_left h]
theorem ones_from {F : Nat} {m : Int} {l : List Int} (hF : 20000 ≤ F) (hl : Bit l) (hm : l.length ≤ 10000) {i j : Nat} (hj : j ≤ l.length) (hi : i ≤ j) : M_rank_ones F m (pk l) (i : Int) (j : Int) = some ((ones ((l.take j).drop i) : Nat) : Int) := by
  unfold M_rank_ones
  obtain ⟨p, hp⟩ : ∃ p, p = ones (l.take i) := ⟨_, rfl⟩
  -- the loop from a place on counts what is ahead as if it had begun with it
  have key : ∀ (k i' : Nat) (c : Nat), j < k + i' → i' ≤ j → c + ones (l.take j) ≤ ones (l.take i') + 1000000 + ones (l.take j) →
      M_rank_ones_l3 F m (pk l) (j : Int) k ((c : Int), (i' : Int)) = some ((c + ones ((l.take j).drop i') : Nat) : Int) := by
    intro k
    induction k with
    | zero => intro i' c h; omega
    | succ k ih =>
      intro i' c h hi' hc
      show M_rank_ones_b3 F m (pk l) (j : Int) (M_rank_ones_l3 F m (pk l) (j : Int) k) (c : Int) (i' : Int) = _
      unfold M_rank_ones_b3
      by_cases hlt : i' < j
      · obtain ⟨x, hx, hx2⟩ := bit_n hl (i := i') (by omega)
        have hx3 : l[i']'(by omega) = (x : Int) := by rw [List.getElem?_eq_getElem (by omega)] at hx; exact Option.some.inj hx
        rw [if_pos (by simp; omega), at_pk hl (by omega) (by omega), hx3]
        simp only [Option.bind_some]
        have h2 := ones_le (bit_take hl i')
        have h3 : (l.take i').length ≤ l.length := by simp; omega
        have h1 : ones (l.take (i' + 1)) = ones (l.take i') + x := by
          rw [List.take_add_one, hx, ones_app]; simp [ones]
        rw [iconv_i64_n (by omega), iadd_n (by omega), iadd1_n (by omega), ih (i' + 1) (c + x) (by omega) (by omega) (by omega)]
        have hd : (l.take j).drop i' = (x : Int) :: (l.take j).drop (i' + 1) := by
          rw [List.drop_eq_getElem_cons (by simp; omega)]
          congr 1
          rw [List.getElem_take]; exact hx3
        rw [hd]
        have : ones ((x : Int) :: (l.take j).drop (i' + 1)) = x + ones ((l.take j).drop (i' + 1)) := by simp [ones]
        rw [this, Nat.add_assoc]
      · rw [if_neg (by simp; omega), List.drop_eq_nil_of_le (by simp; omega)]
        rfl
  have := key F i 0 (by omega) hi (by omega)
  rw [Nat.zero_add] at this
  exact this
theorem ones_eq {F : Nat} {m : Int} {l : List Int} (hF : 20000 ≤ F) (hl : Bit l) (hm : l.length ≤ 10000) {j : Nat} (hj : j ≤ l.length) : M_rank_ones F m (pk l) 0 (j : Int) = some ((ones (l.take j) : Nat) : Int) := by
  have := ones_from (m := m) hF hl hm hj (Nat.zero_le j)
  rwa [List.drop_zero] at this
def rk (m : Int) (b : List Int) (a : Int) : Int × Int := if raOf m b a ≠ 0 then (0, raOf m b a) else (((ones ((bl b m.toNat).take a.toNat) : Nat) : Int), 0)
theorem rk_form {l : List Int} (hl : Bit l) {a : Nat} (h1 : l.length ≤ 8192) (h : a ≤ l.length) : rk (l.length : Int) (pk l) (a : Int) = (((ones (l.take a) : Nat) : Int), 0) := by
  unfold rk; rw [ra_form h1 h, if_neg (by simp), Int.toNat_natCast, Int.toNat_natCast, bl_pk hl]
theorem rk_bad {m a : Int} {b : List Int} (h : raOf m b a ≠ 0) : rk m b a = (0, raOf m b a) := by unfold rk; rw [if_pos h]
theorem rank_eq {F : Nat} (hF : 20000 ≤ F) {m a : Int} {b : List Int} (hb : U8s b) (hm : I64 m) (lb : b.length ≤ 9223372036854775807) : M_rank_Rank F m b a = some (rk m b a) := by
  unfold M_rank_Rank
  rw [eCheck_eq hb hm lb]
  simp only [Option.bind_some]
  rcases ra_cases hb (m := m) (a := a) with h | ⟨x, i, hx, hxm, rfl, rfl, rfl, hi⟩
  · rw [if_pos (by simpa using h), rk_bad h]
  · rw [ra_form hxm hi, if_neg (by simp), ones_eq hF hx (by omega) hi, rk_form hx hxm hi]
    rfl
/-- The place of the one behind so many of a kind. -/
def plc (bit : Int) : List Int → Nat → Option Nat
  | [], _ => none
  | x :: l, i => if x = bit then (match i with | 0 => some 0 | i + 1 => (plc bit l i).map (· + 1)) else (plc bit l i).map (· + 1)
theorem plc_cons (bit x : Int) (l : List Int) (i : Nat) : plc bit (x :: l) i = if x = bit then (match i with | 0 => some 0 | i + 1 => (plc bit l i).map (· + 1)) else (plc bit l i).map (· + 1) := rfl
def cnt (bit : Int) (l : List Int) : Nat := (l.filter (· = bit)).length
theorem cnt_cons (bit x : Int) (l : List Int) : cnt bit (x :: l) = (if x = bit then 1 else 0) + cnt bit l := by
  unfold cnt
  by_cases h : x = bit <;> simp [h] <;> omega
theorem cnt_nil (bit : Int) : cnt bit [] = 0 := rfl
theorem plc_some {bit : Int} {l : List Int} {i a : Nat} (h : plc bit l i = some a) : l[a]? = some bit ∧ cnt bit (l.take a) = i := by
  induction l generalizing i a with
  | nil => simp [plc] at h
  | cons x l ih =>
    unfold plc at h
    split at h
    · rename_i hx
      cases i with
      | zero => simp at h; subst h; subst hx; simp [cnt_nil]
      | succ i =>
        simp only at h
        cases hp : plc bit l i with
        | none => rw [hp] at h; simp at h
        | some q =>
          rw [hp] at h; simp at h; subst h
          obtain ⟨h1, h2⟩ := ih hp
          refine ⟨by simpa using h1, ?_⟩
          rw [List.take_succ_cons, cnt_cons, if_pos hx, h2]; omega
    · rename_i hx
      cases hp : plc bit l i with
      | none => rw [hp] at h; simp at h
      | some q =>
        rw [hp] at h; simp at h; subst h
        obtain ⟨h1, h2⟩ := ih hp
        refine ⟨by simpa using h1, ?_⟩
        rw [List.take_succ_cons, cnt_cons, if_neg hx, h2]; omega
theorem plc_of {bit : Int} {l : List Int} {a : Nat} (h : l[a]? = some bit) : plc bit l (cnt bit (l.take a)) = some a := by
  induction l generalizing a with
  | nil => simp at h
  | cons x l ih =>
    cases a with
    | zero => simp at h; subst h; simp [plc, cnt_nil]
    | succ a =>
      have h' : l[a]? = some bit := by simpa using h
      rw [List.take_succ_cons, cnt_cons]
      unfold plc
      by_cases hx : x = bit
      · rw [if_pos hx, if_pos hx, Nat.add_comm]; simp only; rw [ih h']; rfl
      · rw [if_neg hx, if_neg hx, Nat.zero_add, ih h']; rfl
theorem plc_none {bit : Int} {l : List Int} {i : Nat} : plc bit l i = none ↔ cnt bit l ≤ i := by
  induction l generalizing i with
  | nil => simp [plc, cnt_nil]
  | cons x l ih =>
    unfold plc
    rw [cnt_cons]
    by_cases hx : x = bit
    · rw [if_pos hx, if_pos hx]
      cases i with
      | zero => simp
      | succ i => simp only [Option.map_eq_none_iff]; rw [ih]; omega
    · rw [if_neg hx, if_neg hx, Option.map_eq_none_iff, ih]; omega
theorem plc_lt {bit : Int} {l : List Int} {i a : Nat} (h : plc bit l i = some a) : a < l.length := (List.getElem?_eq_some_iff.1 (plc_some h).1).1
theorem cnt_1 {l : List Int} (h : Bit l) : cnt 1 l = ones l := by
  induction l with
  | nil => rfl
  | cons x l ih =>
    rw [cnt_cons, ih (fun y hy => h y (List.mem_cons_of_mem _ hy))]
    rcases h x List.mem_cons_self with rfl | rfl <;> simp [ones]
theorem cnt_0 {l : List Int} (h : Bit l) : cnt 0 l + ones l = l.length := by
  induction l with
  | nil => rfl
  | cons x l ih =>
    have := ih (fun y hy => h y (List.mem_cons_of_mem _ hy))
    rw [cnt_cons]
    rcases h x List.mem_cons_self with rfl | rfl <;> simp [ones] at this ⊢ <;> omega
theorem place_l {F : Nat} {l : List Int} (hl : Bit l) (hm : l.length ≤ 10000) (bit : Int) : ∀ (k j i : Nat), l.length < k + j → j ≤ l.length → i < 9223372036854775808 →
    (∃ s, plc bit (l.drop j) i = none ∧ M_rank_places_1_l3 F (fun (x31 : Int) (x37 : Int) => M_rank_Place_r2 F x31 x37) (l.length : Int) (pk l) bit k ((j : Int), (i : Int)) = some (.inl s)) ∨
    (∃ a q, plc bit (l.drop j) i = some a ∧ M_rank_places_1_l3 F (fun (x31 : Int) (x37 : Int) => M_rank_Place_r2 F x31 x37) (l.length : Int) (pk l) bit k ((j : Int), (i : Int)) = some (.inr (((j + a : Nat) : Int), q)))
  | 0, _, _, _, _, _ => by omega
  | k + 1, j, i, h, hj, hi => by
    have e : M_rank_places_1_l3 F (fun (x31 : Int) (x37 : Int) => M_rank_Place_r2 F x31 x37) (l.length : Int) (pk l) bit (k + 1) ((j : Int), (i : Int)) =
      M_rank_places_1_b3 F (fun (x31 : Int) (x37 : Int) => M_rank_Place_r2 F x31 x37) (l.length : Int) (pk l) bit (M_rank_places_1_l3 F (fun (x31 : Int) (x37 : Int) => M_rank_Place_r2 F x31 x37) (l.length : Int) (pk l) bit k) (j : Int) (i : Int) := rfl
    rw [e]
    unfold M_rank_places_1_b3
    by_cases hlt : j < l.length
    · rw [if_pos (by simp; omega), at_pk hl (by omega) hlt, List.drop_eq_getElem_cons hlt, plc_cons]
      simp only [Option.bind_some]
      by_cases h1 : l[j] = bit
      · rw [if_pos h1, if_pos (by simpa using h1)]
        cases i with
        | zero =>
          right
          exact ⟨0, 0, rfl, rfl⟩
        | succ i =>
          have : M_rank_Place_r2 F ((i + 1 : Nat) : Int) (j : Int) = some (.inl (i : Int)) := by
            unfold M_rank_Place_r2
            rw [if_neg (by simp; omega), isub1_n (by omega) (by omega), Nat.add_sub_cancel]
          rw [this]
          simp only [Option.bind_some, Sum.elim_inl, M_rank_places_1_j4]
          rw [iadd1_n (by omega)]
          rcases place_l (F := F) hl hm bit k (j + 1) i (by omega) (by omega) (by omega) with ⟨s, h2, h3⟩ | ⟨a, q, h2, h3⟩
          · left; exact ⟨s, by rw [h2]; rfl, h3⟩
          · right; exact ⟨a + 1, q, by rw [h2]; rfl, by rw [h3, show j + 1 + a = j + (a + 1) from by omega]⟩
      · rw [if_neg h1, if_neg (by simpa using h1)]
        simp only [M_rank_places_1_j4]
        rw [iadd1_n (by omega)]
        rcases place_l (F := F) hl hm bit k (j + 1) i (by omega) (by omega) hi with ⟨s, h2, h3⟩ | ⟨a, q, h2, h3⟩
        · left; exact ⟨s, by rw [h2]; rfl, h3⟩
        · right; exact ⟨a + 1, q, by rw [h2]; rfl, by rw [h3, show j + 1 + a = j + (a + 1) from by omega]⟩
    · rw [if_neg (by simp; omega), List.drop_eq_nil_of_le (by omega)]
      left; exact ⟨_, rfl, rfl⟩
theorem place_eq {F : Nat} (hF : 20000 ≤ F) {l : List Int} (hl : Bit l) (hm : l.length ≤ 10000) {bit : Int} {i : Nat} (hi : i < 9223372036854775808) :
    M_rank_Place F (l.length : Int) (pk l) bit (i : Int) = some (match plc bit l i with | none => -1 | some a => (a : Int)) := by
  unfold M_rank_Place
  simp only [M_rank_places, Option.bind_some, M_rank_places_1]
  rcases place_l (F := F) hl hm bit F 0 i (by omega) (by omega) hi with ⟨s, h2, h3⟩ | ⟨a, q, h2, h3⟩
  · rw [List.drop_zero] at h2
    rw [show ((0 : Nat) : Int) = 0 from rfl] at h3
    rw [h3, h2]; rfl
  · rw [List.drop_zero] at h2
    rw [show ((0 : Nat) : Int) = 0 from rfl] at h3
    rw [h3, h2, Nat.zero_add]; rfl
def slOf (m : Int) (b : List Int) (bit i : Int) : Int := if chkOf m b ≠ 0 then chkOf m b else if bit < 0 ∨ 1 < bit ∨ i < 0 then 3 else 0
def sl (m : Int) (b : List Int) (bit i : Int) : Int × Int := if slOf m b bit i ≠ 0 then (0, slOf m b bit i) else match plc bit (bl b m.toNat) i.toNat with | none => (0, 5) | some a => ((a : Int), 0)
theorem slOf_bad {m bit i : Int} {b : List Int} (h : chkOf m b ≠ 0) : slOf m b bit i = chkOf m b := by unfold slOf; rw [if_pos h]
theorem slOf_range {l : List Int} {bit i : Int} (h1 : l.length ≤ 8192) (h : bit < 0 ∨ 1 < bit ∨ i < 0) : slOf (l.length : Int) (pk l) bit i = 3 := by
  unfold slOf; rw [if_neg (by simp [chk_pk h1]), if_pos h]
theorem slOf_form {l : List Int} {bit i : Int} (h1 : l.length ≤ 8192) (h : ¬ (bit < 0 ∨ 1 < bit ∨ i < 0)) : slOf (l.length : Int) (pk l) bit i = 0 := by
  unfold slOf; rw [if_neg (by simp [chk_pk h1]), if_neg h]
theorem sl_bad {m bit i : Int} {b : List Int} (h : slOf m b bit i ≠ 0) : sl m b bit i = (0, slOf m b bit i) := by unfold sl; rw [if_pos h]
theorem sl_form {l : List Int} (hl : Bit l) {bit : Int} {i : Nat} (h1 : l.length ≤ 8192) (h : 0 ≤ bit ∧ bit ≤ 1) : sl (l.length : Int) (pk l) bit (i : Int) = match plc bit l i with | none => (0, 5) | some a => ((a : Int), 0) := by
  unfold sl; rw [slOf_form h1 (by omega), if_neg (by simp), Int.toNat_natCast, Int.toNat_natCast, bl_pk hl]
theorem sl_cases {m bit i : Int} {b : List Int} (hb : U8s b) : slOf m b bit i ≠ 0 ∨ ∃ (l : List Int) (j : Nat), Bit l ∧ l.length ≤ 8192 ∧ m = (l.length : Int) ∧ b = pk l ∧ i = (j : Int) ∧ (0 ≤ bit ∧ bit ≤ 1) := by
  rcases chk_form hb (n := m) with h | ⟨l, hl, hm, rfl, rfl⟩
  · left; rw [slOf_bad h]; exact h
  · by_cases h : bit < 0 ∨ 1 < bit ∨ i < 0
    · left; rw [slOf_range hm h]; decide
    · obtain ⟨j, rfl⟩ := Int.eq_ofNat_of_zero_le (show 0 ≤ i by omega)
      exact .inr ⟨l, j, hl, hm, rfl, rfl, rfl, by omega⟩
theorem select_eq {F : Nat} (hF : 20000 ≤ F) {m bit i : Int} {b : List Int} (hb : U8s b) (hm : I64 m) (hi : I64 i) (lb : b.length ≤ 9223372036854775807) : M_rank_Select F m b bit i = some (sl m b bit i) := by
  unfold M_rank_Select
  rw [check_eq hb hm.1 hm.2 lb]
  simp only [Option.bind_some]
  rcases chk_form hb (n := m) with h1 | ⟨l, hl, hlm, rfl, rfl⟩
  · have e := slOf_bad (bit := bit) (i := i) h1
    have hb3 : (chkOf m b != 0) = true := by simpa using h1
    rw [if_neg (by simpa using h1), sl_bad (by rw [e]; exact h1), e]
    simp only [M_rank_Select_j3, M_rank_Select_j2, Bool.false_eq_true, if_false, hb3, if_true]
  · rw [chk_pk hlm, if_pos (by rfl)]
    by_cases h : bit < 0 ∨ 1 < bit ∨ i < 0
    · have e := slOf_range hlm h
      rw [sl_bad (by rw [e]; decide), e]
      rw [show ((decide (bit < 0) || decide (1 < bit)) || decide (i < 0)) = true from by simp only [Bool.or_eq_true, decide_eq_true_eq]; omega]
      rfl
    · obtain ⟨j, rfl⟩ := Int.eq_ofNat_of_zero_le (show 0 ≤ i by omega)
      rw [show ((decide (bit < 0) || decide (1 < bit)) || decide ((j : Int) < 0)) = false from by rw [Bool.eq_false_iff]; intro h2; apply h; simp only [Bool.or_eq_true, decide_eq_true_eq] at h2; omega]
      simp only [M_rank_Select_j3, M_rank_Select_j2, Bool.false_eq_true, if_false, bne_self_eq_false]
      have e : iconv .u64 bit = bit := wrap_u64 (by omega) (by omega)
      rw [e, place_eq hF hl (by omega) (by have := hi.2; omega), sl_form hl hlm (by omega)]
      simp only [Option.bind_some]
      cases plc bit l j with
      | none => rfl
      | some a => simp
theorem rcheck_eq {F : Nat} {m e : Int} {b : List Int} (hb : U8s b) (hm : I64 m) (lb : b.length ≤ 9223372036854775807) : M_rank_check F m b e = some (if chkOf m b ≠ 0 then chkOf m b else if e < 1 ∨ 64 < e then 3 else 0) := by
  unfold M_rank_check
  rw [check_eq hb hm.1 hm.2 lb]
  simp only [Option.bind_some]
  by_cases h1 : chkOf m b = 0
  · rw [if_pos (by simpa using h1), if_neg (by simp [h1])]
    simp only [M_rank_check_j3, M_rank_check_j2]
    by_cases h : e < 1 ∨ 64 < e
    · rw [if_pos h, if_pos (by simp; omega)]
    · rw [if_neg h, if_neg (by simp; omega), h1]
  · rw [if_neg (by simpa using h1), if_pos h1]
    rfl
/-- An index: how many ones are ahead of every so manieth place. -/
def bt (l : List Int) (e n : Nat) : List Int := (List.range n).map fun k => ((ones (l.take (k * e)) : Nat) : Int)
theorem bt_len (l : List Int) (e n : Nat) : (bt l e n).length = n := by simp [bt]
theorem bt_succ (l : List Int) (e n : Nat) : bt l e (n + 1) = bt l e n ++ [((ones (l.take (n * e)) : Nat) : Int)] := by simp [bt, List.range_succ]
theorem bt_get {l : List Int} {e n k : Nat} (h : k < n) : (bt l e n)[k]? = some ((ones (l.take (k * e)) : Nat) : Int) := by simp [bt, h]
theorem mul_le {a b c : Nat} (h : a ≤ b) : a * c ≤ b * c := Nat.mul_le_mul_right c h
theorem lt_div_succ {n e : Nat} (h : 1 ≤ e) : n < (n / e + 1) * e := by rw [Nat.mul_comm]; exact Nat.lt_mul_div_succ n h
theorem built_l {F : Nat} (hF : 20000 ≤ F) {l : List Int} (hl : Bit l) (hm : l.length ≤ 8192) {e : Nat} (he : 1 ≤ e) (he2 : e ≤ 64) : ∀ (k n : Nat), l.length / e + 1 < k + n → 1 ≤ n → n ≤ l.length / e + 1 →
    M_rank_built_l3 F (l.length : Int) (pk l) (e : Int) k (bt l e n, ((n * e : Nat) : Int)) = some (bt l e (l.length / e + 1))
  | 0, _, _, _, _ => by omega
  | k + 1, n, h, h1, hn => by
    show M_rank_built_b3 F (l.length : Int) (pk l) (e : Int) (M_rank_built_l3 F (l.length : Int) (pk l) (e : Int) k) (bt l e n) ((n * e : Nat) : Int) = _
    unfold M_rank_built_b3
    have hq : l.length / e * e ≤ l.length := Nat.div_mul_le_self _ _
    have hq2 : l.length < (l.length / e + 1) * e := lt_div_succ he
    have hdl : l.length / e ≤ l.length := Nat.div_le_self _ _
    by_cases hlt : n ≤ l.length / e
    · have hne : n * e ≤ l.length := Nat.le_trans (mul_le hlt) hq
      have hpe : (n - 1) * e + e = n * e := by rw [← Nat.succ_mul]; congr 1; omega
      rw [if_pos (by simp; exact_mod_cast hne), bt_len, isub1_n h1 (by omega), idx_nat, bt_get (by omega)]
      simp only [Option.bind_some]
      rw [isub_n (by omega) (by omega), show n * e - e = (n - 1) * e from by omega, ones_from hF hl (by omega) hne (by omega)]
      simp only [Option.bind_some]
      have ho := ones_split l (i := (n - 1) * e) (j := n * e) (by omega)
      have hle := ones_le (bit_take hl (n * e))
      have hle2 : (l.take (n * e)).length ≤ l.length := by simp; omega
      rw [iadd_n (by omega), ← ho, app_eq (by rw [bt_len]; simp; omega), ← bt_succ]
      simp only [Option.bind_some]
      rw [iadd_n (by omega), show n * e + e = (n + 1) * e from by rw [Nat.add_mul, Nat.one_mul]]
      exact built_l hF hl hm he he2 k (n + 1) (by omega) (by omega) (by omega)
    · obtain rfl : n = l.length / e + 1 := by omega
      have : ¬ (l.length / e + 1) * e ≤ l.length := by omega
      rw [if_neg (by simp only [decide_eq_true_eq]; exact_mod_cast this)]
      rfl
theorem built_eq {F : Nat} (hF : 20000 ≤ F) {l : List Int} (hl : Bit l) (hm : l.length ≤ 8192) {e : Nat} (he : 1 ≤ e) (he2 : e ≤ 64) : M_rank_built F (l.length : Int) (pk l) (e : Int) = some (bt l e (l.length / e + 1)) := by
  unfold M_rank_built
  have hdl : l.length / e ≤ l.length := Nat.div_le_self _ _
  have hz : 0 ≤ l.length / e := Nat.zero_le _
  have := built_l hF hl hm he he2 F 1 (by omega) (by omega) (by omega)
  have h0 : bt l e 1 = [0] := by simp [bt, ones]
  rw [Nat.one_mul, h0] at this
  exact this
def bdOf (m : Int) (b : List Int) (e : Int) : Int := if chkOf m b ≠ 0 then chkOf m b else if e < 1 ∨ 64 < e then 3 else 0
def bd (m : Int) (b : List Int) (e : Int) : Int × List Int × Int := if bdOf m b e ≠ 0 then (0, [], bdOf m b e) else (e, bt (bl b m.toNat) e.toNat (m.toNat / e.toNat + 1), 0)
theorem bdOf_bad {m e : Int} {b : List Int} (h : chkOf m b ≠ 0) : bdOf m b e = chkOf m b := by unfold bdOf; rw [if_pos h]
theorem bdOf_range {l : List Int} {e : Int} (h1 : l.length ≤ 8192) (h : ¬ (1 ≤ e ∧ e ≤ 64)) : bdOf (l.length : Int) (pk l) e = 3 := by
  unfold bdOf; rw [if_neg (by simp [chk_pk h1]), if_pos (by omega)]
theorem bdOf_form {l : List Int} {e : Int} (h1 : l.length ≤ 8192) (h : 1 ≤ e ∧ e ≤ 64) : bdOf (l.length : Int) (pk l) e = 0 := by
  unfold bdOf; rw [if_neg (by simp [chk_pk h1]), if_neg (by omega)]
theorem bd_bad {m e : Int} {b : List Int} (h : bdOf m b e ≠ 0) : bd m b e = (0, [], bdOf m b e) := by unfold bd; rw [if_pos h]
theorem bd_form {l : List Int} (hl : Bit l) {e : Nat} (h1 : l.length ≤ 8192) (h : 1 ≤ e ∧ e ≤ 64) : bd (l.length : Int) (pk l) (e : Int) = ((e : Int), bt l e (l.length / e + 1), 0) := by
  unfold bd; rw [bdOf_form h1 (by omega), if_neg (by simp), Int.toNat_natCast, Int.toNat_natCast, bl_pk hl]
theorem bd_cases {m e : Int} {b : List Int} (hb : U8s b) : bdOf m b e ≠ 0 ∨ ∃ (l : List Int) (j : Nat), Bit l ∧ l.length ≤ 8192 ∧ m = (l.length : Int) ∧ b = pk l ∧ e = (j : Int) ∧ 1 ≤ j ∧ j ≤ 64 := by
  rcases chk_form hb (n := m) with h | ⟨l, hl, hm, rfl, rfl⟩
  · left; rw [bdOf_bad h]; exact h
  · by_cases h : 1 ≤ e ∧ e ≤ 64
    · obtain ⟨j, rfl⟩ := Int.eq_ofNat_of_zero_le (show 0 ≤ e by omega)
      exact .inr ⟨l, j, hl, hm, rfl, rfl, rfl, by omega, by omega⟩
    · left; rw [bdOf_range hm h]; decide
theorem build_eq {F : Nat} (hF : 20000 ≤ F) {m e : Int} {b : List Int} (hb : U8s b) (hm : I64 m) (lb : b.length ≤ 9223372036854775807) : M_rank_Build F m b e = some (bd m b e) := by
  unfold M_rank_Build
  rw [rcheck_eq hb hm lb]
  simp only [Option.bind_some]
  have hd : (if chkOf m b ≠ 0 then chkOf m b else if e < 1 ∨ 64 < e then 3 else 0) = bdOf m b e := rfl
  rw [hd]
  rcases bd_cases hb (m := m) (e := e) with h | ⟨l, j, hl, hlm, rfl, rfl, rfl, h1, h2⟩
  · rw [if_pos (by simpa using h), bd_bad h]
  · rw [bdOf_form hlm (by omega), if_neg (by simp), built_eq hF hl hlm h1 h2, bd_form hl hlm ⟨h1, h2⟩]
    rfl
theorem bt_short {l : List Int} {e : Nat} (hm : l.length ≤ 8192) : (bt l e (l.length / e + 1)).length ≤ 8193 := by
  rw [bt_len]; have := Nat.div_le_self l.length e; omega
theorem bd_short {m e : Int} {b : List Int} (hb : U8s b) : (bd m b e).2.1.length ≤ 8193 := by
  rcases bd_cases hb (m := m) (e := e) with h | ⟨l, j, hl, hlm, rfl, rfl, rfl, h1, h2⟩
  · rw [bd_bad h]; simp
  · rw [bd_form hl hlm ⟨h1, h2⟩]; exact bt_short hlm
theorem same_ints {F : Nat} {xs ys : List Int} (hF : ys.length < F) (hm : ys.length ≤ 9223372036854775807) : M_R_SameInts F xs ys = some (decide (xs = ys)) := by
  rw [sameInts_same]
  by_cases h : xs.length = ys.length
  · rw [sameBytes_eq (by omega) (by omega)]
  · unfold M_R_SameBytes
    rw [if_pos (by rw [bne_iff_ne]; omega), decide_eq_false (fun e => h (by rw [e]))]
theorem equal_ints {F : Nat} {xs ys : List Int} (hF : ys.length < F) (hm : ys.length ≤ 9223372036854775807) : M_slices_Equal_int_int F xs ys = some (decide (xs = ys)) := by
  rw [equalInts_same]
  by_cases h : xs.length = ys.length
  · rw [sameBytes_eq (by omega) (by omega)]
  · unfold M_R_SameBytes
    rw [if_pos (by rw [bne_iff_ne]; omega), decide_eq_false (fun e => h (by rw [e]))]
def ck (m : Int) (b : List Int) (e : Int) (x : List Int) : Int := if bdOf m b e ≠ 0 then bdOf m b e else if x = bt (bl b m.toNat) e.toNat (m.toNat / e.toNat + 1) then 0 else 4
theorem ck_bad {m e : Int} {b x : List Int} (h : bdOf m b e ≠ 0) : ck m b e x = bdOf m b e := by unfold ck; rw [if_pos h]
theorem ck_form {l : List Int} (hl : Bit l) {e : Nat} {x : List Int} (h1 : l.length ≤ 8192) (h : 1 ≤ e ∧ e ≤ 64) : ck (l.length : Int) (pk l) (e : Int) x = if x = bt l e (l.length / e + 1) then 0 else 4 := by
  unfold ck; rw [bdOf_form h1 (by omega), if_neg (by simp), Int.toNat_natCast, Int.toNat_natCast, bl_pk hl]
theorem rkCheck_eq {F : Nat} (hF : 20000 ≤ F) {m e : Int} {b x : List Int} (hb : U8s b) (hm : I64 m) (lb : b.length ≤ 9223372036854775807) : M_rank_Check F m b e x = some (ck m b e x) := by
  unfold M_rank_Check
  rw [rcheck_eq hb hm lb]
  simp only [Option.bind_some]
  have hd : (if chkOf m b ≠ 0 then chkOf m b else if e < 1 ∨ 64 < e then 3 else 0) = bdOf m b e := rfl
  rw [hd]
  rcases bd_cases hb (m := m) (e := e) with h | ⟨l, j, hl, hlm, rfl, rfl, rfl, h1, h2⟩
  · rw [if_pos (by simpa using h), ck_bad h]
  · have hs := bt_short (e := j) hlm
    rw [bdOf_form hlm (by omega), if_neg (by simp), built_eq hF hl hlm h1 h2, ck_form hl hlm ⟨h1, h2⟩]
    simp only [Option.bind_some]
    rw [equal_ints (by omega) (by omega)]
    simp only [Option.bind_some]
    by_cases hx : x = bt l j (l.length / j + 1)
    · rw [decide_eq_true hx, if_pos hx]; rfl
    · rw [decide_eq_false hx, if_neg hx]; rfl
def byOf (m : Int) (b : List Int) (e : Int) (x : List Int) (a : Int) : Int := if ck m b e x ≠ 0 then ck m b e x else raOf m b a
def byR (m : Int) (b : List Int) (e : Int) (x : List Int) (a : Int) : Int × Int := if byOf m b e x a ≠ 0 then (0, byOf m b e x a) else rk m b a
theorem by_eq {F : Nat} (hF : 20000 ≤ F) {m e a : Int} {b x : List Int} (hb : U8s b) (hm : I64 m) (lb : b.length ≤ 9223372036854775807) : M_rank_By F m b e x a = some (byR m b e x a) := by
  unfold M_rank_By
  rw [rkCheck_eq hF hb hm lb]
  simp only [Option.bind_some]
  unfold byR byOf
  by_cases h : ck m b e x = 0
  · rcases bd_cases hb (m := m) (e := e) with h3 | ⟨l, j, hl, hlm, rfl, rfl, rfl, h1, h2⟩
    · rw [ck_bad h3] at h; exact absurd h h3
    · have hx : x = bt l j (l.length / j + 1) := by
        rw [ck_form hl hlm ⟨h1, h2⟩] at h
        by_cases hx : x = bt l j (l.length / j + 1)
        · exact hx
        · rw [if_neg hx] at h; simp at h
      rw [h, if_pos (by rfl)]
      simp only [ne_eq, not_true_eq_false, if_false]
      by_cases ha : 0 ≤ a ∧ a ≤ (l.length : Int)
      · obtain ⟨a, rfl⟩ := Int.eq_ofNat_of_zero_le ha.1
        rw [show (decide ((a : Int) < 0) || decide ((l.length : Int) < (a : Int))) = false from by simp; omega, ra_form hlm (by omega), if_neg (by simp), rk_form hl hlm (by omega)]
        simp only [M_rank_By_j3, M_rank_By_j2, Bool.false_eq_true, if_false, bne_self_eq_false]
        have hc : ((j : Int) != 0) = true := by rw [bne_iff_ne]; omega
        rw [hc]
        simp only [chk, if_true]
        have hdm := Nat.div_add_mod a j
        have hdl : a / j ≤ a := Nat.div_le_self _ _
        have hz : 0 ≤ a / j := Nat.zero_le _
        have e1 : iquo .i64 (a : Int) (j : Int) = ((a / j : Nat) : Int) := by
          unfold iquo
          rw [Int.tdiv_eq_ediv_of_nonneg (by omega), ← Int.natCast_ediv, wrap_i64 (by omega) (by omega)]
        have hmul : a / j * j ≤ a := Nat.div_mul_le_self _ _
        have e2 : imul .i64 ((a / j : Nat) : Int) (j : Int) = ((a / j * j : Nat) : Int) := by
          rw [imul_i64 (by rw [← Int.natCast_mul]; omega) (by rw [← Int.natCast_mul]; omega), ← Int.natCast_mul]
        rw [e1, e2, hx, idx_nat, bt_get (by have := Nat.div_le_div_right (c := j) (show a ≤ l.length by omega); omega)]
        simp only [Option.bind_some]
        rw [ones_from hF hl (by omega) (by omega) hmul]
        simp only [Option.bind_some]
        have ho := ones_split l (i := a / j * j) (j := a) hmul
        have hle := ones_le (bit_take hl a)
        have hle2 : (l.take a).length ≤ l.length := by simp; omega
        rw [iadd_n (by omega), ← ho]
      · rw [show (decide (a < 0) || decide ((l.length : Int) < a)) = true from by simp; omega, ra_range hlm ha]
        rfl
  · rw [if_neg (by simpa using h), if_pos h, if_pos h]
    have hb3 : (ck m b e x != 0) = true := by simpa using h
    simp only [M_rank_By_j3, M_rank_By_j2, Bool.false_eq_true, if_false, hb3, if_true]
theorem onesAhead_l {F : Nat} {l : List Int} (hl : Bit l) (hm : l.length ≤ 10000) {j : Nat} (hj : j ≤ l.length) : ∀ (k i : Nat), j < k + i → i ≤ j →
    M_R_OnesAhead_l3 F l (j : Int) k (((ones (l.take i) : Nat) : Int), (i : Int)) = some ((ones (l.take j) : Nat) : Int)
  | 0, _, _, _ => by omega
  | k + 1, i, h, hi => by
    show M_R_OnesAhead_b3 F l (j : Int) (M_R_OnesAhead_l3 F l (j : Int) k) ((ones (l.take i) : Nat) : Int) (i : Int) = _
    unfold M_R_OnesAhead_b3
    by_cases hlt : i < j
    · obtain ⟨x, hx, hx2⟩ := bit_n hl (i := i) (by omega)
      rw [if_pos (by simp; omega), idx_nat, hx]
      simp only [Option.bind_some]
      have h1 : ones (l.take (i + 1)) = ones (l.take i) + x := by
        rw [List.take_add_one, hx, ones_app]; simp [ones]
      have h2 := ones_le (bit_take hl i)
      have h3 : (l.take i).length ≤ l.length := by simp; omega
      rw [iadd_n (by omega), iadd1_n (by omega), ← h1]
      exact onesAhead_l hl hm hj k (i + 1) (by omega) (by omega)
    · rw [if_neg (by simp; omega)]
      obtain rfl : i = j := by omega
      rfl
theorem onesAhead_eq {F : Nat} (hF : 20000 ≤ F) {l : List Int} (hl : Bit l) (hm : l.length ≤ 10000) {j : Nat} (hj : j ≤ l.length) : M_R_OnesAhead F l (j : Int) = some ((ones (l.take j) : Nat) : Int) := by
  unfold M_R_OnesAhead
  exact onesAhead_l hl hm hj F 0 (by omega) (by omega)
theorem rsel_l {F : Nat} (hF : 20000 ≤ F) {l : List Int} (hl : Bit l) (hm : l.length ≤ 10000) {bit : Int} (hbit : bit = 0 ∨ bit = 1) {i : Nat} (hi : i < 9223372036854775808) : ∀ (k j : Nat), l.length < k + j → j ≤ l.length → cnt bit (l.take j) ≤ i →
    M_R_RankSelect_l13 F l bit (i : Int) k (j : Int) = some (match plc bit (l.drop j) (i - cnt bit (l.take j)) with | none => -1 | some a => ((j + a : Nat) : Int))
  | 0, _, _, _, _ => by omega
  | k + 1, j, h, hj, hc => by
    show M_R_RankSelect_b13 F l bit (i : Int) (M_R_RankSelect_l13 F l bit (i : Int) k) (j : Int) = _
    unfold M_R_RankSelect_b13
    by_cases hlt : j < l.length
    · rw [if_pos (by simp; omega), onesAhead_eq hF hl hm (by omega), List.drop_eq_getElem_cons hlt, plc_cons]
      simp only [Option.bind_some]
      have htk : l.take (j + 1) = l.take j ++ [l[j]] := by rw [List.take_add_one, List.getElem?_eq_getElem hlt]; rfl
      have hcn : cnt bit (l.take (j + 1)) = cnt bit (l.take j) + (if l[j] = bit then 1 else 0) := by
        rw [htk]
        unfold cnt
        rw [List.filter_append, List.length_append]
        by_cases h : l[j] = bit <;> simp [h]
      have hj15 : M_R_RankSelect_j15 F (M_R_RankSelect_l13 F l bit (i : Int) k) l bit (i : Int) (j : Int) ((cnt bit (l.take j) : Nat) : Int) = some (match (if l[j] = bit then (match i - cnt bit (l.take j) with | 0 => some 0 | q + 1 => (plc bit (l.drop (j + 1)) q).map (· + 1)) else (plc bit (l.drop (j + 1)) (i - cnt bit (l.take j))).map (· + 1)) with | none => -1 | some a => ((j + a : Nat) : Int)) := by
        unfold M_R_RankSelect_j15
        rw [idx_nat, List.getElem?_eq_getElem hlt]
        simp only [Option.bind_some]
        by_cases h1 : l[j] = bit
        · rw [if_pos h1] at hcn ⊢
          by_cases h2 : cnt bit (l.take j) = i
          · rw [if_pos (by simp [h1, h2]), h2, Nat.sub_self]; rfl
          · rw [if_neg (by simp [h1]; omega), iadd1_n (by omega), rsel_l hF hl hm hbit hi k (j + 1) (by omega) (by omega) (by omega)]
            rw [show i - cnt bit (l.take j) = (i - cnt bit (l.take (j + 1))) + 1 from by omega]
            dsimp only
            cases plc bit (l.drop (j + 1)) (i - cnt bit (l.take (j + 1))) with
            | none => rfl
            | some a => simp only [Option.map_some]; rw [show j + 1 + a = j + (a + 1) from by omega]
        · rw [if_neg h1] at hcn ⊢
          rw [if_neg (by simp [h1]), iadd1_n (by omega), rsel_l hF hl hm hbit hi k (j + 1) (by omega) (by omega) (by omega), hcn, Nat.add_zero]
          cases plc bit (l.drop (j + 1)) (i - cnt bit (l.take j)) with
          | none => rfl
          | some a => simp only [Option.map_some]; rw [show j + 1 + a = j + (a + 1) from by omega]
      rcases hbit with rfl | rfl
      · have h0 := cnt_0 (bit_take hl j)
        have h3 : (l.take j).length = j := by simp; omega
        rw [if_pos (by rfl), isub_n (by omega) (by omega), show j - ones (l.take j) = cnt 0 (l.take j) from by omega]
        exact hj15
      · rw [if_neg (by simp), ← cnt_1 (bit_take hl j)]
        exact hj15
    · rw [if_neg (by simp; omega), List.drop_eq_nil_of_le (by omega)]
      rfl
theorem rsel_eq {F : Nat} (hF : 20000 ≤ F) {l : List Int} (hl : Bit l) (hm : l.length ≤ 10000) {bit : Int} (hbit : bit = 0 ∨ bit = 1) {i : Nat} (hi : i < 9223372036854775808) :
    M_R_RankSelect F l bit (i : Int) = some (match plc bit l i with | none => -1 | some a => (a : Int)) := by
  unfold M_R_RankSelect
  have := rsel_l hF hl hm hbit hi F 0 (by omega) (by omega) (by rw [List.take_zero, cnt_nil]; omega)
  rw [List.drop_zero, List.take_zero, cnt_nil, Nat.sub_zero, show ((0 : Nat) : Int) = 0 from rfl] at this
  rw [this]
  cases plc bit l i with
  | none => rfl
  | some a => simp
theorem rbuild_l {F : Nat} (hF : 20000 ≤ F) {l : List Int} (hl : Bit l) (hm : l.length ≤ 8192) {e : Nat} (he : 1 ≤ e) (he2 : e ≤ 64) : ∀ (k n : Nat), l.length / e + 1 < k + n → n ≤ l.length / e + 1 →
    M_R_RankBuild_l5 F (l.length : Int) (e : Int) l k ((n : Int), bt l e n) = some ((e : Int), bt l e (l.length / e + 1), 0)
  | 0, _, _, _ => by omega
  | k + 1, n, h, hn => by
    show M_R_RankBuild_b5 F (l.length : Int) (e : Int) l (M_R_RankBuild_l5 F (l.length : Int) (e : Int) l k) (n : Int) (bt l e n) = _
    unfold M_R_RankBuild_b5
    have hq : l.length / e * e ≤ l.length := Nat.div_mul_le_self _ _
    have hq2 : l.length < (l.length / e + 1) * e := lt_div_succ he
    have hdl : l.length / e ≤ l.length := Nat.div_le_self _ _
    have hne2 : n * e ≤ 10000 * 64 := Nat.mul_le_mul (by omega) he2
    have e2 : imul .i64 (n : Int) (e : Int) = ((n * e : Nat) : Int) := by
      rw [imul_i64 (by rw [← Int.natCast_mul]; omega) (by rw [← Int.natCast_mul]; omega), ← Int.natCast_mul]
    rw [e2]
    by_cases hlt : n ≤ l.length / e
    · have hne : n * e ≤ l.length := Nat.le_trans (mul_le hlt) hq
      rw [if_pos (by simp only [decide_eq_true_eq]; omega), onesAhead_eq hF hl (by omega) hne]
      simp only [Option.bind_some]
      rw [app_eq (by rw [bt_len]; simp; omega), ← bt_succ, iadd1_n (by omega)]
      simp only [Option.bind_some]
      exact rbuild_l hF hl hm he he2 k (n + 1) (by omega) (by omega)
    · obtain rfl : n = l.length / e + 1 := by omega
      rw [if_neg (by simp only [decide_eq_true_eq]; omega)]
      rfl
theorem rankBuild_eq {F : Nat} (hF : 20000 ≤ F) {m e : Int} {b : List Int} (hb : U8s b) : M_R_RankBuild F m b e = some (bd m b e) := by
  unfold M_R_RankBuild
  rw [bitsCheck_eq hF hb]
  simp only [Option.bind_some]
  rcases chk_form hb (n := m) with h1 | ⟨l, hl, hlm, rfl, rfl⟩
  · have e' := bdOf_bad (e := e) h1
    have hb3 : (chkOf m b != 0) = true := by simpa using h1
    rw [if_neg (by simpa using h1), bd_bad (by rw [e']; exact h1), e']
    simp only [M_R_RankBuild_j6, M_R_RankBuild_j2, Bool.false_eq_true, if_false, hb3, if_true]
  · rw [chk_pk hlm, if_pos (by rfl), between_eq]
    simp only [Option.bind_some]
    by_cases h : 1 ≤ e ∧ e ≤ 64
    · obtain ⟨e, rfl⟩ := Int.eq_ofNat_of_zero_le (show 0 ≤ e by omega)
      rw [decide_eq_true h, bd_form hl hlm (by omega)]
      simp only [M_R_RankBuild_j6, M_R_RankBuild_j2, Bool.not_true, Bool.false_eq_true, if_false, bne_self_eq_false]
      rw [bitList_eq hF (pk_u8 hl) (by rw [pk_len]; omega) (by omega), bl_pk hl]
      simp only [Option.bind_some]
      have hdl : l.length / e ≤ l.length := Nat.div_le_self _ _
      have hz : 0 ≤ l.length / e := Nat.zero_le _
      exact rbuild_l hF hl hlm (by omega) (by omega) F 0 (by omega) (by omega)
    · have e' := bdOf_range hlm h
      rw [decide_eq_false h, bd_bad (by rw [e']; decide), e']
      rfl
theorem rankCheck_eq {F : Nat} (hF : 20000 ≤ F) {m e : Int} {b x : List Int} (hb : U8s b) : M_R_RankCheck F m b e x = some (ck m b e x) := by
  unfold M_R_RankCheck
  rw [rankBuild_eq hF hb]
  simp only [Option.bind_some]
  rcases bd_cases hb (m := m) (e := e) with h | ⟨l, j, hl, hlm, rfl, rfl, rfl, h1, h2⟩
  · rw [bd_bad h, ck_bad h, if_neg (by simpa using h)]
    rfl
  · have hs := bt_short (e := j) hlm
    rw [bd_form hl hlm ⟨h1, h2⟩, ck_form hl hlm ⟨h1, h2⟩, if_pos (by rfl), same_ints (by simp only; omega) (by simp only; omega)]
    simp only [Option.bind_some]
    by_cases hx : x = bt l j (l.length / j + 1)
    · rw [decide_eq_true hx, if_pos hx]; rfl
    · rw [decide_eq_false hx, if_neg hx]; rfl
theorem begun_rank (n : Nat) : M_L_rankBegun (n + 200) = some true := by kernel_rfl
theorem begun_rank' {F : Nat} (hF : 20000 ≤ F) : M_L_rankBegun F = some true := by
  obtain ⟨n, rfl⟩ : ∃ n, F = n + 200 := ⟨F - 200, by omega⟩
  exact begun_rank n
theorem byOf_0 {m e a : Int} {b x : List Int} (h : ck m b e x = 0) : byOf m b e x a = raOf m b a := by unfold byOf; rw [if_neg (by simp [h])]
theorem byR_0 {m e a : Int} {b x : List Int} (h : ck m b e x = 0) : byR m b e x a = rk m b a := by
  unfold byR; rw [byOf_0 h]
  by_cases h2 : raOf m b a = 0
  · rw [if_neg (by simp [h2])]
  · rw [if_pos h2, rk_bad h2]
theorem byR_bad {m e a : Int} {b x : List Int} (h : ck m b e x ≠ 0) : byR m b e x a = (0, ck m b e x) := by
  have : byOf m b e x a = ck m b e x := by unfold byOf; rw [if_pos h]
  unfold byR; rw [this, if_pos h]
theorem law_rtells {m a bit i ev xe : Int} {b x : List Int} (hb : U8s b) (hm : I64 m) (hi : I64 i) (lb : b.length ≤ 9223372036854775807) : M_L_RankTells 20000 m b a bit i ev xe x = some true := by
  unfold M_L_RankTells
  have h0 : 20000 ≤ 20000 := by omega
  rw [rank_eq h0 hb hm lb, select_eq h0 hb hm hi lb, build_eq h0 hb hm lb, by_eq h0 hb hm lb, readErr_eq h0 hb, bitsCheck_eq h0 hb, rankCheck_eq h0 hb]
  simp only [Option.bind_some]
  have hs := bd_short (m := m) (e := ev) hb
  have hbd : M_R_RankBuild 20000 m b ev = some (bd m b ev) := rankBuild_eq h0 hb
  -- the last part, whatever comes to it
  have hj4 : ∀ (w33 w47 w48 w55 w56 : Int), rk m b a = (w33, raOf m b a) → sl m b bit i = (w48, w47) → byR m b xe x a = (w56, w55) →
      M_L_RankTells_j4 20000 m b xe x (rk m b a) (sl m b bit i) (bd m b ev) (byR m b xe x a) (raOf m b a) (ck m b xe x) w33 w47 w48 (bd m b ev) w55 w56 = some true := by
    intro w33 w47 w48 w55 w56 e1 e2 e3
    unfold M_L_RankTells_j4
    rw [begun_rank' h0, e1, e2, e3]
    simp only [Option.bind_some, beq_self_eq_true, Bool.and_self, if_true]
    rw [same_ints (by omega) (by omega), decide_eq_true rfl]
    simp only [Option.bind_some, M_L_RankTells_j5, beq_self_eq_true, Bool.and_self, if_true]
    rw [rkCheck_eq h0 hb hm lb]
    simp [M_L_RankTells_j6]
  have hj3 : ∀ (w33 w47 w48 : Int), rk m b a = (w33, raOf m b a) → sl m b bit i = (w48, w47) →
      M_L_RankTells_j3 20000 m b ev xe x (rk m b a) (sl m b bit i) (bd m b ev) (byR m b xe x a) (raOf m b a) (ck m b xe x) w33 w47 w48 = some true := by
    intro w33 w47 w48 e1 e2
    unfold M_L_RankTells_j3
    rw [hbd]
    simp only [Option.bind_some]
    by_cases h1 : ck m b xe x = 0
    · rw [if_pos (by simpa using h1)]
      by_cases h2 : raOf m b a = 0
      · rw [if_pos (by simpa using h2)]
        refine hj4 _ _ _ _ _ e1 e2 ?_
        rw [byR_0 h1]; exact e1
      · rw [if_neg (by simpa using h2)]
        refine hj4 _ _ _ _ _ e1 e2 ?_
        rw [byR_0 h1, rk_bad h2]
    · rw [if_neg (by simpa using h1)]
      refine hj4 _ _ _ _ _ e1 e2 ?_
      exact byR_bad h1
  have hj1 : ∀ w33 : Int, rk m b a = (w33, raOf m b a) → M_L_RankTells_j1 20000 m b bit i ev xe x (rk m b a) (sl m b bit i) (bd m b ev) (byR m b xe x a) (raOf m b a) (chkOf m b) (ck m b xe x) w33 = some true := by
    intro w33 e1
    unfold M_L_RankTells_j1
    rcases chk_form hb (n := m) with h1 | ⟨l, hl, hlm, rfl, rfl⟩
    · have e := slOf_bad (bit := bit) (i := i) h1
      rw [if_neg (by simpa using h1)]
      unfold M_L_RankTells_j7
      rw [if_neg (by simp), if_neg (by simpa using h1)]
      exact hj3 _ _ _ e1 (by rw [sl_bad (by rw [e]; exact h1), e])
    · rw [chk_pk hlm, if_pos (by rfl)]
      unfold M_L_RankTells_j7
      by_cases h : bit < 0 ∨ 1 < bit ∨ i < 0
      · have e := slOf_range hlm h
        rw [if_pos (by simp only [Bool.or_eq_true, decide_eq_true_eq]; omega)]
        exact hj3 _ _ _ e1 (by rw [sl_bad (by rw [e]; decide), e])
      · obtain ⟨j, rfl⟩ := Int.eq_ofNat_of_zero_le (show 0 ≤ i by omega)
        rw [if_neg (by simp only [Bool.or_eq_true, decide_eq_true_eq]; omega), if_pos (by rfl), bitList_eq h0 (pk_u8 hl) (by rw [pk_len]; omega) (by omega), bl_pk hl]
        simp only [Option.bind_some]
        have hsl := sl_form hl (bit := bit) (i := j) hlm (by omega)
        rw [rsel_eq h0 hl (by omega) (by omega) (by have := hi.2; omega)]
        simp only [Option.bind_some]
        cases hp : plc bit l j with
        | none => rw [hp] at hsl; exact hj3 _ _ _ e1 hsl
        | some q =>
          rw [hp] at hsl
          simp only
          rw [if_neg (by simp)]
          exact hj3 _ _ _ e1 hsl
  rcases ra_cases hb (m := m) (a := a) with h | ⟨l, q, hl, hlm, rfl, rfl, rfl, hq⟩
  · rw [if_neg (by simpa using h)]
    exact hj1 _ (rk_bad h)
  · have hr := rk_form hl hlm hq
    have hz := ra_form hlm hq
    rw [if_pos (by rw [hz]; rfl), bitList_eq h0 (pk_u8 hl) (by rw [pk_len]; omega) (by omega), bl_pk hl]
    simp only [Option.bind_some]
    rw [onesAhead_eq h0 hl (by omega) hq]
    simp only [Option.bind_some]
    exact hj1 _ (by rw [hr, hz])
theorem law_rby {m a x y : Int} {b : List Int} (hb : U8s b) (hm : I64 m) (lb : b.length ≤ 9223372036854775807) : M_L_RankBy 20000 m b a x y = some true := by
  unfold M_L_RankBy
  have h0 : 20000 ≤ 20000 := by omega
  rw [rank_eq h0 hb hm lb, build_eq h0 hb hm lb, build_eq h0 hb hm lb, begun_rank' h0]
  simp only [Option.bind_some, Bool.not_true, Bool.false_eq_true, if_false]
  rcases ra_cases hb (m := m) (a := a) with h | ⟨l, q, hl, hlm, rfl, rfl, rfl, hq⟩
  · rw [rk_bad h, if_pos (by simp [h])]
  · rw [rk_form hl hlm hq]
    rcases bd_cases hb (m := (l.length : Int)) (e := x) with h | ⟨l1, j, _, _, e1, e2, rfl, h1, h2⟩
    · rw [bd_bad h, if_pos (by simp [h])]
    · rw [bd_form hl hlm ⟨h1, h2⟩]
      rcases bd_cases hb (m := (l.length : Int)) (e := y) with h | ⟨l2, k, _, _, e3, e4, rfl, h3, h4⟩
      · rw [bd_bad h, if_pos (by simp [h])]
      · rw [bd_form hl hlm ⟨h3, h4⟩, if_neg (by simp)]
        have hby : ∀ e : Nat, 1 ≤ e ∧ e ≤ 64 → byR (l.length : Int) (pk l) (e : Int) (bt l e (l.length / e + 1)) (q : Int) = (((ones (l.take q) : Nat) : Int), 0) := by
          intro e he
          rw [byR_0 (by rw [ck_form hl hlm he, if_pos rfl]), rk_form hl hlm hq]
        simp only
        rw [by_eq h0 hb hm lb, hby j ⟨h1, h2⟩, by_eq h0 hb hm lb, hby k ⟨h3, h4⟩]
        simp only [Option.bind_some, beq_self_eq_true, Bool.and_self, if_true]
        rw [rkCheck_eq h0 hb hm lb, ck_form hl hlm ⟨h1, h2⟩, if_pos rfl]
        rfl
theorem gt_bit {l : List Int} (hl : Bit l) (hlm : l.length ≤ 8192) {a : Nat} (ha : a < l.length) : gt (l.length : Int) (pk l) (a : Int) 1 = (l[a], 0) := by
  have := gt_form hl hlm (a := a) (w := 1) (by omega) (by omega)
  rw [show ((1 : Nat) : Int) = 1 from rfl] at this
  rw [this, List.drop_eq_getElem_cons ha]
  have h2 := hl l[a] (List.getElem_mem ha)
  obtain ⟨x, hx⟩ := Int.eq_ofNat_of_zero_le (show 0 ≤ l[a] by omega)
  rw [hx]
  simp [bv]
theorem gt_end {l : List Int} (hlm : l.length ≤ 8192) : gt (l.length : Int) (pk l) (l.length : Int) 1 = (0, 7) := gt_short hlm (by omega) (by omega)
theorem cnt0_take {l : List Int} (hl : Bit l) {a : Nat} (ha : a ≤ l.length) : cnt 0 (l.take a) = a - ones (l.take a) := by
  have := cnt_0 (bit_take hl a)
  have h2 : (l.take a).length = a := by simp; omega
  omega
theorem law_rback {m i a : Int} {b : List Int} (hb : U8s b) (hm : I64 m) (hi : I64 i) (lb : b.length ≤ 9223372036854775807) : M_L_RankBack 20000 m b i a = some true := by
  unfold M_L_RankBack
  have h0 : 20000 ≤ 20000 := by omega
  rw [select_eq h0 hb hm hi lb, select_eq h0 hb hm hi lb, begun_rank' h0, begun_bits' h0]
  simp only [Option.bind_some, Bool.not_true, Bool.false_eq_true, if_false]
  have hj4 : M_L_RankBack_j4 20000 m b a = some true := by
    unfold M_L_RankBack_j4
    rw [rank_eq h0 hb hm lb, get_eq h0 hb hm lb]
    simp only [Option.bind_some]
    rcases ra_cases hb (m := m) (a := a) with h | ⟨l, q, hl, hlm, rfl, rfl, rfl, hq⟩
    · rw [rk_bad h, if_pos (by simp [h])]
    · rw [rk_form hl hlm hq]
      by_cases hlt : q < l.length
      · have hle := ones_le (bit_take hl q)
        have hll : (l.take q).length = q := by simp; omega
        rw [gt_bit hl hlm hlt, if_neg (by simp)]
        simp only
        by_cases h1 : l[q] = 1
        · rw [if_pos (by simpa using h1), select_eq h0 hb hm ⟨by omega, by omega⟩ lb, sl_form hl hlm (by omega), ← cnt_1 (bit_take hl q), plc_of (by rw [List.getElem?_eq_getElem hlt, h1])]
          simp
        · have h2 : l[q] = 0 := by rcases hl l[q] (List.getElem_mem hlt) with h | h; exact h; exact absurd h h1
          rw [if_neg (by simpa using h1), isub_n (by omega) (by omega), ← cnt0_take hl (by omega), select_eq h0 hb hm ⟨by omega, by have := cnt0_take hl (a := q) (by omega); omega⟩ lb, sl_form hl hlm (by omega), plc_of (by rw [List.getElem?_eq_getElem hlt, h2])]
          simp
      · obtain rfl : q = l.length := by omega
        rw [gt_end hlm, if_pos (by simp)]
  have hj3 : M_L_RankBack_j3 20000 m b i a (sl m b 0 i) = some true := by
    unfold M_L_RankBack_j3
    rcases sl_cases hb (m := m) (bit := 0) (i := i) with h | ⟨l, j, hl, hlm, rfl, rfl, rfl, h⟩
    · rw [sl_bad h, if_neg (by simpa using h)]; exact hj4
    · rw [sl_form hl hlm h]
      cases hp : plc 0 l j with
      | none => exact hj4
      | some q =>
        have hlt := plc_lt hp
        obtain ⟨p1, p2⟩ := plc_some hp
        have hle := ones_le (bit_take hl q)
        have hll : (l.take q).length = q := by simp; omega
        have hc := cnt0_take hl (a := q) (by omega)
        simp only [beq_self_eq_true, if_true]
        rw [rank_eq h0 hb hm lb, rk_form hl hlm (by omega), get_eq h0 hb hm lb, gt_bit hl hlm hlt]
        simp only [Option.bind_some]
        rw [isub_n (by omega) (by omega), show q - ones (l.take q) = j from by omega]
        rw [List.getElem?_eq_getElem hlt] at p1
        rw [Option.some.inj p1, if_neg (by simp)]
        exact hj4
  unfold M_L_RankBack_j2
  rw [if_neg (by simp)]
  rcases sl_cases hb (m := m) (bit := 1) (i := i) with h | ⟨l, j, hl, hlm, rfl, rfl, rfl, h⟩
  · rw [sl_bad h, if_neg (by simpa using h)]; exact hj3
  · rw [sl_form hl hlm h]
    cases hp : plc 1 l j with
    | none => exact hj3
    | some q =>
      have hlt := plc_lt hp
      obtain ⟨p1, p2⟩ := plc_some hp
      simp only [beq_self_eq_true, if_true]
      rw [rank_eq h0 hb hm lb, rk_form hl hlm (by omega), get_eq h0 hb hm lb, gt_bit hl hlm hlt]
      simp only [Option.bind_some]
      rw [← cnt_1 (bit_take hl q), p2]
      rw [List.getElem?_eq_getElem hlt] at p1
      rw [Option.some.inj p1, if_neg (by simp)]
      exact hj3
theorem law_rparts {n m a : Int} {b c : List Int} (hb : U8s b) (hc : U8s c) (hn : I64 n) (hm : I64 m) (lb : b.length ≤ 9223372036854775807) (lc : c.length ≤ 9223372036854775807) : M_L_RankParts 20000 n b m c a = some true := by
  unfold M_L_RankParts
  have h0 : 20000 ≤ 20000 := by omega
  rw [join_eq h0 hb hc hn hm lb lc, begun_rank' h0, begun_bits' h0]
  simp only [Option.bind_some, Bool.not_true, Bool.false_eq_true, if_false]
  unfold M_L_RankParts_j2
  rw [if_neg (by simp)]
  rcases chk_form hb (n := n) with h1 | ⟨l, hl, hlm, rfl, rfl⟩
  · rw [jn_bad1 h1, if_pos (by simp [h1])]
  rcases chk_form hc (n := m) with h1 | ⟨k, hk, hkm, rfl, rfl⟩
  · rw [jn_bad2 (chk_pk hlm) h1, if_pos (by simp [h1])]
  rw [jn_form hl hk hlm hkm]
  by_cases hs : l.length + k.length ≤ 8192
  · rw [if_pos hs]
    by_cases h2 : a < 0 ∨ (k.length : Int) < a
    · rw [if_pos (by simp; omega)]
    · obtain ⟨a, rfl⟩ := Int.eq_ofNat_of_zero_le (show 0 ≤ a by omega)
      have hL : (l ++ k).length ≤ 8192 := by rw [List.length_append]; exact hs
      rw [if_neg (by simp; omega), rank_eq h0 hb hn lb, rk_form hl hlm (by omega), rank_eq h0 hc hm lc, rk_form hk hkm (by omega)]
      simp only [Option.bind_some]
      rw [iadd_n (by omega), rank_eq h0 (pk_u8 (bit_app hl hk)) (i64_len hL) (pk_len9 hL), rk_form (bit_app hl hk) hL (by rw [List.length_append]; omega)]
      simp only [Option.bind_some]
      have t1 : (l ++ k).take (l.length + a) = l ++ k.take a := by rw [List.take_length_add_append]
      have hle := ones_le hl
      have hle2 := ones_le (bit_take hk a)
      have hll : (k.take a).length = a := by simp; omega
      rw [t1, ones_app, List.take_length, iadd_n (by omega)]
      simp
      omega
  · rw [if_neg hs, if_pos (by simp)]
theorem law_rends {m a : Int} {b : List Int} (hb : U8s b) (hm : I64 m) (lb : b.length ≤ 9223372036854775807) : M_L_RankEnds 20000 m b a = some true := by
  unfold M_L_RankEnds
  have h0 : 20000 ≤ 20000 := by omega
  rw [begun_rank' h0, begun_bits' h0]
  simp only [Option.bind_some, Bool.not_true, Bool.false_eq_true, if_false]
  unfold M_L_RankEnds_j2
  rw [if_neg (by simp), check_eq hb hm.1 hm.2 lb]
  simp only [Option.bind_some]
  rcases chk_form hb (n := m) with h1 | ⟨l, hl, hlm, rfl, rfl⟩
  · rw [if_pos (by simpa using h1)]
  · have r0 := rk_form hl (a := 0) hlm (by omega)
    rw [List.take_zero, show ones [] = 0 from rfl, show ((0 : Nat) : Int) = 0 from rfl] at r0
    have r1 := rk_form hl (a := l.length) hlm (by omega)
    rw [List.take_length] at r1
    have hle := ones_le hl
    have hc0 := cnt_0 hl
    have hc1 := cnt_1 hl
    rw [chk_pk hlm, if_neg (by simp), rank_eq h0 hb hm lb, r0, rank_eq h0 hb hm lb, r1]
    simp only [Option.bind_some]
    rw [select_eq h0 hb hm ⟨by omega, by omega⟩ lb, sl_form hl hlm (by omega), plc_none.2 (by omega), isub_n (by omega) (by omega), select_eq h0 hb hm ⟨by omega, by omega⟩ lb, sl_form hl hlm (by omega), plc_none.2 (by omega)]
    simp only [Option.bind_some]
    rw [if_neg (by simp)]
    by_cases h2 : a < 0 ∨ (l.length : Int) ≤ a
    · rw [if_pos (by simp; omega)]
    · obtain ⟨a, rfl⟩ := Int.eq_ofNat_of_zero_le (show 0 ≤ a by omega)
      have hlt : a < l.length := by omega
      rw [if_neg (by simp; omega), rank_eq h0 hb hm lb, rk_form hl hlm (by omega), iadd1_n (by omega), rank_eq h0 hb hm lb, rk_form hl hlm (by omega), get_eq h0 hb hm lb, gt_bit hl hlm hlt]
      simp only [Option.bind_some]
      obtain ⟨x, hx, hx2⟩ := bit_n hl hlt
      have h3 : ones (l.take (a + 1)) = ones (l.take a) + x := by
        rw [List.take_add_one, hx, ones_app]; simp [ones]
      rw [List.getElem?_eq_getElem hlt] at hx
      have hle2 := ones_le (bit_take hl a)
      have hll : (l.take a).length = a := by simp; omega
      rw [Option.some.inj hx, iconv_i64_n (by omega), iadd_n (by omega), h3]
      simp
end Go.Proofs.Ytbdfbheddihefaa
