/- Plain facts of what the functions of this seat compute. -/
import Derived.Test.YtbdfbheddihefaaModels
import Derived.KernelRfl
namespace Go.Proofs.Ytbdfbheddihefaa
open Go SX
/-- The byte at place k of a list of bits. -/
def byt (l : List Int) (k : Nat) : Int :=
  l.getD (8 * k) 0 * 128 + l.getD (8 * k + 1) 0 * 64 + l.getD (8 * k + 2) 0 * 32 + l.getD (8 * k + 3) 0 * 16 + l.getD (8 * k + 4) 0 * 8 + l.getD (8 * k + 5) 0 * 4 + l.getD (8 * k + 6) 0 * 2 + l.getD (8 * k + 7) 0
def pk (l : List Int) : List Int := (List.range ((l.length + 7) / 8)).map (byt l)
def Bit (l : List Int) : Prop := ∀ x ∈ l, x = 0 ∨ x = 1
theorem Bit.getD {l : List Int} (h : Bit l) (i : Nat) : l.getD i 0 = 0 ∨ l.getD i 0 = 1 := by
  by_cases hi : i < l.length
  · have := h l[i] (List.getElem_mem hi)
    simpa [List.getD, hi] using this
  · left
    simp [List.getD, List.getElem?_eq_none (Nat.le_of_not_lt hi)]
theorem getD_ge {l : List Int} {i : Nat} (h : l.length ≤ i) : l.getD i 0 = 0 := by simp [List.getD, List.getElem?_eq_none h]
theorem getD_snoc (l : List Int) (x : Int) (i : Nat) : (l ++ [x]).getD i 0 = if i = l.length then x else l.getD i 0 := by
  by_cases h : i = l.length
  · subst h; simp [List.getD]
  · rw [if_neg h]
    by_cases h2 : i < l.length
    · simp [List.getD, List.getElem?_append_left h2]
    · rw [getD_ge (by simp; omega), getD_ge (by omega)]
theorem byt_range {l : List Int} (h : Bit l) (k : Nat) : 0 ≤ byt l k ∧ byt l k < 256 := by
  have h0 := h.getD (8 * k); have h1 := h.getD (8 * k + 1); have h2 := h.getD (8 * k + 2); have h3 := h.getD (8 * k + 3)
  have h4 := h.getD (8 * k + 4); have h5 := h.getD (8 * k + 5); have h6 := h.getD (8 * k + 6); have h7 := h.getD (8 * k + 7)
  unfold byt
  omega
theorem byt_snoc_other {l : List Int} {x : Int} {k : Nat} (h : k ≠ l.length / 8) : byt (l ++ [x]) k = byt l k := by
  unfold byt
  simp only [getD_snoc]
  rw [if_neg (by omega), if_neg (by omega), if_neg (by omega), if_neg (by omega), if_neg (by omega), if_neg (by omega), if_neg (by omega), if_neg (by omega)]
theorem byt_snoc_at {l : List Int} {x : Int} : byt (l ++ [x]) (l.length / 8) = byt l (l.length / 8) + x * 2 ^ (7 - l.length % 8) := by
  obtain ⟨k, hk⟩ : ∃ k, k = l.length / 8 := ⟨_, rfl⟩
  obtain ⟨r, hr⟩ : ∃ r, r = l.length % 8 := ⟨_, rfl⟩
  have hl : l.length = 8 * k + r := by omega
  have hr8 : r < 8 := by omega
  rw [← hk, ← hr]
  unfold byt
  simp only [getD_snoc, hl]
  have hg : ∀ j, r ≤ j → l.getD (8 * k + j) 0 = 0 := fun j hj => getD_ge (by omega)
  have g0 := hg 0; have g1 := hg 1; have g2 := hg 2; have g3 := hg 3; have g4 := hg 4; have g5 := hg 5; have g6 := hg 6; have g7 := hg 7
  rw [Nat.add_zero] at g0
  rcases (by omega : r = 0 ∨ r = 1 ∨ r = 2 ∨ r = 3 ∨ r = 4 ∨ r = 5 ∨ r = 6 ∨ r = 7) with rfl | rfl | rfl | rfl | rfl | rfl | rfl | rfl
  · rw [show (2 : Int) ^ (7 - 0) = 128 from by decide]
    rw [if_pos (by omega), if_neg (by omega), if_neg (by omega), if_neg (by omega), if_neg (by omega), if_neg (by omega), if_neg (by omega), if_neg (by omega)]
    have e0 := g0 (by omega)
    have e1 := g1 (by omega)
    have e2 := g2 (by omega)
    have e3 := g3 (by omega)
    have e4 := g4 (by omega)
    have e5 := g5 (by omega)
    have e6 := g6 (by omega)
    have e7 := g7 (by omega)
    omega
  · rw [show (2 : Int) ^ (7 - 1) = 64 from by decide]
    rw [if_neg (by omega), if_pos (by omega), if_neg (by omega), if_neg (by omega), if_neg (by omega), if_neg (by omega), if_neg (by omega), if_neg (by omega)]
    have e1 := g1 (by omega)
    have e2 := g2 (by omega)
    have e3 := g3 (by omega)
    have e4 := g4 (by omega)
    have e5 := g5 (by omega)
    have e6 := g6 (by omega)
    have e7 := g7 (by omega)
    omega
  · rw [show (2 : Int) ^ (7 - 2) = 32 from by decide]
    rw [if_neg (by omega), if_neg (by omega), if_pos (by omega), if_neg (by omega), if_neg (by omega), if_neg (by omega), if_neg (by omega), if_neg (by omega)]
    have e2 := g2 (by omega)
    have e3 := g3 (by omega)
    have e4 := g4 (by omega)
    have e5 := g5 (by omega)
    have e6 := g6 (by omega)
    have e7 := g7 (by omega)
    omega
  · rw [show (2 : Int) ^ (7 - 3) = 16 from by decide]
    rw [if_neg (by omega), if_neg (by omega), if_neg (by omega), if_pos (by omega), if_neg (by omega), if_neg (by omega), if_neg (by omega), if_neg (by omega)]
    have e3 := g3 (by omega)
    have e4 := g4 (by omega)
    have e5 := g5 (by omega)
    have e6 := g6 (by omega)
    have e7 := g7 (by omega)
    omega
  · rw [show (2 : Int) ^ (7 - 4) = 8 from by decide]
    rw [if_neg (by omega), if_neg (by omega), if_neg (by omega), if_neg (by omega), if_pos (by omega), if_neg (by omega), if_neg (by omega), if_neg (by omega)]
    have e4 := g4 (by omega)
    have e5 := g5 (by omega)
    have e6 := g6 (by omega)
    have e7 := g7 (by omega)
    omega
  · rw [show (2 : Int) ^ (7 - 5) = 4 from by decide]
    rw [if_neg (by omega), if_neg (by omega), if_neg (by omega), if_neg (by omega), if_neg (by omega), if_pos (by omega), if_neg (by omega), if_neg (by omega)]
    have e5 := g5 (by omega)
    have e6 := g6 (by omega)
    have e7 := g7 (by omega)
    omega
  · rw [show (2 : Int) ^ (7 - 6) = 2 from by decide]
    rw [if_neg (by omega), if_neg (by omega), if_neg (by omega), if_neg (by omega), if_neg (by omega), if_neg (by omega), if_pos (by omega), if_neg (by omega)]
    have e6 := g6 (by omega)
    have e7 := g7 (by omega)
    omega
  · rw [show (2 : Int) ^ (7 - 7) = 1 from by decide]
    rw [if_neg (by omega), if_neg (by omega), if_neg (by omega), if_neg (by omega), if_neg (by omega), if_neg (by omega), if_neg (by omega), if_pos (by omega)]
    have e7 := g7 (by omega)
    omega
theorem irem8 (n : Nat) : irem (n : Int) 8 = ((n % 8 : Nat) : Int) := by
  unfold irem; rw [Int.tmod_eq_emod_of_nonneg (by omega)]; omega
theorem iquo8 {n : Nat} (h : n ≤ 9223372036854775807) : iquo .i64 (n : Int) 8 = ((n / 8 : Nat) : Int) := by
  unfold iquo; rw [Int.tdiv_eq_ediv_of_nonneg (by omega), wrap_i64 (by omega) (by omega)]; omega
/-- A byte has nothing yet behind the last bit. -/
theorem byt_low {l : List Int} : byt l (l.length / 8) % 2 ^ (8 - l.length % 8) = 0 := by
  obtain ⟨k, hk⟩ : ∃ k, k = l.length / 8 := ⟨_, rfl⟩
  obtain ⟨r, hr⟩ : ∃ r, r = l.length % 8 := ⟨_, rfl⟩
  have hl : l.length = 8 * k + r := by omega
  have hr8 : r < 8 := by omega
  rw [← hk, ← hr]
  unfold byt
  have hg : ∀ j, r ≤ j → l.getD (8 * k + j) 0 = 0 := fun j hj => getD_ge (by omega)
  have g0 := hg 0; have g1 := hg 1; have g2 := hg 2; have g3 := hg 3; have g4 := hg 4; have g5 := hg 5; have g6 := hg 6; have g7 := hg 7
  rw [Nat.add_zero] at g0
  rcases (by omega : r = 0 ∨ r = 1 ∨ r = 2 ∨ r = 3 ∨ r = 4 ∨ r = 5 ∨ r = 6 ∨ r = 7) with rfl | rfl | rfl | rfl | rfl | rfl | rfl | rfl
  · have e0 := g0 (by omega); have e1 := g1 (by omega); have e2 := g2 (by omega); have e3 := g3 (by omega); have e4 := g4 (by omega); have e5 := g5 (by omega); have e6 := g6 (by omega); have e7 := g7 (by omega)
    rw [show (2 : Int) ^ (8 - 0) = 256 from by decide]; omega
  · have e1 := g1 (by omega); have e2 := g2 (by omega); have e3 := g3 (by omega); have e4 := g4 (by omega); have e5 := g5 (by omega); have e6 := g6 (by omega); have e7 := g7 (by omega)
    rw [show (2 : Int) ^ (8 - 1) = 128 from by decide]; omega
  · have e2 := g2 (by omega); have e3 := g3 (by omega); have e4 := g4 (by omega); have e5 := g5 (by omega); have e6 := g6 (by omega); have e7 := g7 (by omega)
    rw [show (2 : Int) ^ (8 - 2) = 64 from by decide]; omega
  · have e3 := g3 (by omega); have e4 := g4 (by omega); have e5 := g5 (by omega); have e6 := g6 (by omega); have e7 := g7 (by omega)
    rw [show (2 : Int) ^ (8 - 3) = 32 from by decide]; omega
  · have e4 := g4 (by omega); have e5 := g5 (by omega); have e6 := g6 (by omega); have e7 := g7 (by omega)
    rw [show (2 : Int) ^ (8 - 4) = 16 from by decide]; omega
  · have e5 := g5 (by omega); have e6 := g6 (by omega); have e7 := g7 (by omega)
    rw [show (2 : Int) ^ (8 - 5) = 8 from by decide]; omega
  · have e6 := g6 (by omega); have e7 := g7 (by omega)
    rw [show (2 : Int) ^ (8 - 6) = 4 from by decide]; omega
  · have e7 := g7 (by omega)
    rw [show (2 : Int) ^ (8 - 7) = 2 from by decide]; omega
theorem byt_end {l : List Int} (h : l.length % 8 = 0) : byt l (l.length / 8) = 0 := by
  unfold byt
  rw [getD_ge (by omega), getD_ge (by omega), getD_ge (by omega), getD_ge (by omega), getD_ge (by omega), getD_ge (by omega), getD_ge (by omega), getD_ge (by omega)]
  rfl
theorem ior_comm (k : IntKind) (a b : Int) : ior k a b = ior k b a := by unfold ior; rw [BitVec.or_comm]
/-- The room for one more bit. -/
def room (l : List Int) : List Int := (List.range (l.length / 8 + 1)).map (byt l)
theorem room_j1 {F : Nat} {l : List Int} (hl : Bit l) {x : Int} (hx : x = 0 ∨ x = 1) (hn : l.length ≤ 1000000) : M_bits_writer_bit_j1 F (l.length : Int) x (room l) = some (((l.length + 1 : Nat) : Int), pk (l ++ [x])) := by
  unfold M_bits_writer_bit_j1
  rw [iquo8 (by omega), irem8]
  have hg : (room l)[l.length / 8]? = some (byt l (l.length / 8)) := by simp [room]
  rw [idx_nat, hg]
  simp only [Option.bind_some]
  have hc : decide ((0 : Int) ≤ ((l.length % 8 : Nat) : Int)) = true := decide_eq_true (by omega)
  rw [hc]
  simp only [chk, if_true, lett, Int.toNat_natCast]
  have hb := byt_range hl (l.length / 8)
  have hr8 : l.length % 8 < 8 := Nat.mod_lt _ (by decide)
  have e1 : ishl .u64 x 7 = x * 128 := by
    have := ishl_u64 (a := x) (m := 7) (by decide)
    rw [show ((7 : Nat) : Int) = 7 from rfl] at this
    rw [this]
    rcases hx with rfl | rfl <;> decide
  have e2 : iconv .u8 (x * 128) = x * 128 := wrap_u8 (by omega) (by omega)
  have e3 : ishr .u8 (x * 128) ((l.length % 8 : Nat) : Int) = x * 2 ^ (7 - l.length % 8) := by
    rw [ishr_eq (by simp only [IntKind.bits]; omega)]
    have key : ∀ r : Fin 8, ((0 : Int) * 128 / 2 ^ r.val = 0 * 2 ^ (7 - r.val)) ∧ ((1 : Int) * 128 / 2 ^ r.val = 1 * 2 ^ (7 - r.val)) := by decide
    have := key ⟨l.length % 8, hr8⟩
    rcases hx with rfl | rfl
    · exact this.1
    · exact this.2
  have key2 : ∀ r : Fin 8, (1 : Int) ≤ 2 ^ (7 - r.val) ∧ (2 : Int) ^ (8 - r.val) = 2 * 2 ^ (7 - r.val) ∧ (2 : Int) ^ (7 - r.val) ≤ 128 ∧ (256 : Int) % 2 ^ (8 - r.val) = 0 ∧ (2 : Int) ^ (8 - r.val) ≤ 256 := by decide
  have hk2 := key2 ⟨l.length % 8, hr8⟩
  simp only at hk2
  have hat := byt_snoc_at (l := l) (x := x)
  have hb2 : Bit (l ++ [x]) := by
    intro y hy
    rcases List.mem_append.1 hy with h | h
    · exact hl y h
    · simp at h; subst h; exact hx
  have hbb := byt_range hb2 (l.length / 8)
  have e4 : ior .u8 (byt l (l.length / 8)) (x * 2 ^ (7 - l.length % 8)) = byt (l ++ [x]) (l.length / 8) := by
    rw [ior_comm, ior_add (m := 8 - l.length % 8) ?_ ?_ hb.1 byt_low rfl ?_]
    · rw [hat]; omega
    · rcases hx with rfl | rfl <;> omega
    · rcases hx with rfl | rfl <;> omega
    · simp only [IntKind.bits]
      rw [show (2 : Int) ^ 8 = 256 from by decide]
      omega
  rw [e1, e2, e3, e4, iadd_i64 (by omega) (by omega)]
  congr 2
  unfold room pk
  have hlen : ((l ++ [x]).length + 7) / 8 = l.length / 8 + 1 := by simp; omega
  rw [hlen]
  apply List.ext_getElem?
  intro k
  rw [List.getElem?_set]
  by_cases hk : l.length / 8 = k
  · subst hk; simp
  · rw [if_neg hk]
    simp only [List.getElem?_map]
    by_cases h3 : k < l.length / 8 + 1
    · rw [List.getElem?_range h3]
      simp only [Option.map_some]
      rw [byt_snoc_other (fun e => hk e.symm)]
    · rw [List.getElem?_eq_none (by simpa using h3)]
      rfl
theorem bit_eq {F : Nat} {l : List Int} (hl : Bit l) {x : Int} (hx : x = 0 ∨ x = 1) (hn : l.length ≤ 1000000) : M_bits_writer_bit F (l.length : Int) (pk l) x = some (((l.length + 1 : Nat) : Int), pk (l ++ [x])) := by
  unfold M_bits_writer_bit
  rw [irem8]
  by_cases h : l.length % 8 = 0
  · have h1 : ((((l.length % 8 : Nat) : Int) : Int) == 0) = true := by simp [h]
    simp only [h1, if_true]
    rw [app_eq (by simp [pk]; omega)]
    simp only [Option.bind_some]
    have : pk l ++ [0] = room l := by
      unfold pk room
      rw [show (l.length + 7) / 8 = l.length / 8 from by omega, List.range_succ, List.map_append]
      simp [byt_end h]
    rw [this]
    exact room_j1 hl hx hn
  · have h1 : ((((l.length % 8 : Nat) : Int) : Int) == 0) = false := by simp; omega
    simp only [h1, Bool.false_eq_true, if_false]
    have : pk l = room l := by
      unfold pk room
      rw [show (l.length + 7) / 8 = l.length / 8 + 1 from by omega]
    rw [this]
    exact room_j1 hl hx hn
def bitAt (b : List Int) (i : Nat) : Int := b.getD (i / 8) 0 / 2 ^ (7 - i % 8) % 2
def bl (b : List Int) (n : Nat) : List Int := (List.range n).map (bitAt b)
theorem bitAt_bit (b : List Int) (i : Nat) : bitAt b i = 0 ∨ bitAt b i = 1 := by unfold bitAt; omega
theorem bl_bit (b : List Int) (n : Nat) : Bit (bl b n) := by
  intro x hx
  obtain ⟨i, _, rfl⟩ := List.mem_map.1 hx
  exact bitAt_bit b i
theorem bl_len (b : List Int) (n : Nat) : (bl b n).length = n := by simp [bl]
def U8s (l : List Int) : Prop := ∀ n ∈ l, 0 ≤ n ∧ n < 256
theorem at_eq {F : Nat} {n : Int} {b : List Int} (hb : U8s b) {i : Nat} (hi : i / 8 < b.length) (hm : i ≤ 1000000) : M_bits_At F n b (i : Int) = some (bitAt b i) := by
  unfold M_bits_At
  rw [iquo8 (by omega), irem8, idx_nat]
  have hg : b[i / 8]? = some b[i / 8] := by simp [hi]
  rw [hg]
  simp only [Option.bind_some]
  have e1 : isub .i64 7 ((i % 8 : Nat) : Int) = ((7 - i % 8 : Nat) : Int) := by rw [isub_i64 (by omega) (by omega)]; omega
  rw [e1]
  have hc : decide ((0 : Int) ≤ ((7 - i % 8 : Nat) : Int)) = true := decide_eq_true (by omega)
  rw [hc]
  simp only [chk, if_true, lett]
  have hx := hb b[i / 8] (List.getElem_mem hi)
  rw [ishr_eq (by simp only [IntKind.bits]; omega)]
  have hp : (1 : Int) ≤ 2 ^ (7 - i % 8) := by
    have key : ∀ r : Fin 8, (1 : Int) ≤ 2 ^ (7 - r.val) := by decide
    exact key ⟨i % 8, Nat.mod_lt _ (by decide)⟩
  have h1 : 0 ≤ b[i / 8] / 2 ^ (7 - i % 8) := Int.ediv_nonneg hx.1 (by omega)
  have h2 : b[i / 8] / 2 ^ (7 - i % 8) ≤ b[i / 8] := Int.ediv_le_self _ hx.1
  have e2 : iconv .u64 (b[i / 8] / 2 ^ (7 - i % 8)) = b[i / 8] / 2 ^ (7 - i % 8) := wrap_u64 h1 (by omega)
  rw [e2]
  have e3 := iand_mask (k := .u64) (a := b[i / 8] / 2 ^ (7 - i % 8)) (m := 1) h1 (by simp only [IntKind.bits]; rw [show (2 : Int) ^ 64 = 18446744073709551616 from by decide]; omega) (by decide) rfl
  rw [show ((2 ^ 1 - 1 : Nat) : Int) = 1 from rfl, show (2 : Int) ^ 1 = 2 from rfl] at e3
  rw [e3]
  unfold bitAt
  simp [List.getD, hg]
theorem bl_succ (b : List Int) (n : Nat) : bl b (n + 1) = bl b n ++ [bitAt b n] := by simp [bl, List.range_succ]
/-- All places, one behind the other, written behind what is there. -/
theorem places_l {F : Nat} {n : Int} {b : List Int} (hb : U8s b) {yy : (Int × List Int) → Int → Option ((Int × List Int) ⊕ Empty)} (hy : ∀ (l : List Int) x, Bit l → (x = 0 ∨ x = 1) → l.length ≤ 100000 → yy ((l.length : Int), pk l) x = some (.inl (((l.length + 1 : Nat) : Int), pk (l ++ [x])))) {to : Nat} (ht : to ≤ 8 * b.length) (hm : to ≤ 10000) :
    ∀ (k i : Nat) (l : List Int), to < k + i → i ≤ to → Bit l → l.length + (to - i) ≤ 100000 →
      M_bits_places_1_l1 F yy (to : Int) n b k ((i : Int), ((l.length : Int), pk l)) = some (.inl (((l.length + (to - i) : Nat) : Int), pk (l ++ (bl b to).drop i)))
  | 0, i, l, h, hi, _, _ => by omega
  | k + 1, i, l, h, hi, hl, hc => by
    have hstep : M_bits_places_1_l1 F yy (to : Int) n b (k + 1) ((i : Int), ((l.length : Int), pk l)) = M_bits_places_1_b1 F yy (to : Int) n b (M_bits_places_1_l1 F yy (to : Int) n b k) (i : Int) ((l.length : Int), pk l) := rfl
    rw [hstep]
    unfold M_bits_places_1_b1
    by_cases hlt : i < to
    · have h1 : (i : Int) < (to : Int) := by omega
      simp only [h1, decide_true, if_true]
      rw [at_eq hb (by omega) (by omega)]
      simp only [Option.bind_some]
      have hx := bitAt_bit b i
      rw [hy l _ hl hx (by omega)]
      simp only [Option.bind_some, Sum.elim_inl]
      rw [iadd_i64 (by omega) (by omega), show (i : Int) + 1 = ((i + 1 : Nat) : Int) from by omega]
      have hl2 : Bit (l ++ [bitAt b i]) := by
        intro y hy2
        rcases List.mem_append.1 hy2 with h | h
        · exact hl y h
        · simp at h; subst h; exact hx
      have := places_l (F := F) (n := n) hb hy ht hm k (i + 1) (l ++ [bitAt b i]) (by omega) (by omega) hl2 (by simp; omega)
      rw [show (l ++ [bitAt b i]).length = l.length + 1 from by simp] at this
      rw [this]
      have hd : (bl b to).drop i = bitAt b i :: (bl b to).drop (i + 1) := by
        rw [List.drop_eq_getElem_cons (by rw [bl_len]; exact hlt)]
        congr 1
        simp [bl]
      rw [hd, List.append_assoc, show l.length + 1 + (to - (i + 1)) = l.length + (to - i) from by omega]
      rfl
    · have h1 : ¬ (i : Int) < (to : Int) := by omega
      simp only [h1, decide_false, Bool.false_eq_true, if_false]
      rw [List.drop_eq_nil_of_le (by rw [bl_len]; omega), List.append_nil, show l.length + (to - i) = l.length from by omega]
structure Ok (n : Nat) (b : List Int) : Prop where
  max : n ≤ 8192
  len : b.length = (n + 7) / 8
  low : n % 8 ≠ 0 → b.getD (n / 8) 0 % 2 ^ (8 - n % 8) = 0
theorem bl_getD {b : List Int} {n i : Nat} : (bl b n).getD i 0 = if i < n then bitAt b i else 0 := by
  by_cases h : i < n
  · rw [if_pos h]; simp [bl, List.getD, h]
  · rw [if_neg h]; exact getD_ge (by rw [bl_len]; omega)
theorem bits8 {x : Int} (h0 : 0 ≤ x) (h1 : x < 256) : x / 128 % 2 * 128 + x / 64 % 2 * 64 + x / 32 % 2 * 32 + x / 16 % 2 * 16 + x / 8 % 2 * 8 + x / 4 % 2 * 4 + x / 2 % 2 * 2 + x / 1 % 2 = x := by omega
theorem bitAt_8 (b : List Int) (k : Nat) : bitAt b (8 * k) = b.getD k 0 / 128 % 2 ∧ bitAt b (8 * k + 1) = b.getD k 0 / 64 % 2 ∧ bitAt b (8 * k + 2) = b.getD k 0 / 32 % 2 ∧ bitAt b (8 * k + 3) = b.getD k 0 / 16 % 2 ∧
    bitAt b (8 * k + 4) = b.getD k 0 / 8 % 2 ∧ bitAt b (8 * k + 5) = b.getD k 0 / 4 % 2 ∧ bitAt b (8 * k + 6) = b.getD k 0 / 2 % 2 ∧ bitAt b (8 * k + 7) = b.getD k 0 / 1 % 2 := by
  unfold bitAt
  rw [show 8 * k / 8 = k from by omega, show (8 * k + 1) / 8 = k from by omega, show (8 * k + 2) / 8 = k from by omega, show (8 * k + 3) / 8 = k from by omega, show (8 * k + 4) / 8 = k from by omega, show (8 * k + 5) / 8 = k from by omega, show (8 * k + 6) / 8 = k from by omega, show (8 * k + 7) / 8 = k from by omega,
    show 8 * k % 8 = 0 from by omega, show (8 * k + 1) % 8 = 1 from by omega, show (8 * k + 2) % 8 = 2 from by omega, show (8 * k + 3) % 8 = 3 from by omega, show (8 * k + 4) % 8 = 4 from by omega, show (8 * k + 5) % 8 = 5 from by omega, show (8 * k + 6) % 8 = 6 from by omega, show (8 * k + 7) % 8 = 7 from by omega]
  exact ⟨rfl, rfl, rfl, rfl, rfl, rfl, rfl, rfl⟩
theorem byt_bl {n : Nat} {b : List Int} (hb : U8s b) (h : Ok n b) {k : Nat} (hk : k < (n + 7) / 8) : byt (bl b n) k = b.getD k 0 := by
  have hx : 0 ≤ b.getD k 0 ∧ b.getD k 0 < 256 := by
    have hlt : k < b.length := by rw [h.len]; exact hk
    have := hb b[k] (List.getElem_mem hlt)
    simpa [List.getD, hlt] using this
  obtain ⟨c0, c1, c2, c3, c4, c5, c6, c7⟩ := bitAt_8 b k
  unfold byt
  simp only [bl_getD]
  rw [c0, c1, c2, c3, c4, c5, c6, c7]
  by_cases hf : 8 * k + 8 ≤ n
  · rw [if_pos (by omega), if_pos (by omega), if_pos (by omega), if_pos (by omega), if_pos (by omega), if_pos (by omega), if_pos (by omega), if_pos (by omega)]
    exact bits8 hx.1 hx.2
  · have hkn : n / 8 = k := by omega
    obtain ⟨r, hr⟩ : ∃ r, r = n % 8 := ⟨_, rfl⟩
    have hn : n = 8 * k + r := by omega
    have hlow := h.low (by omega)
    rw [hkn, ← hr] at hlow
    generalize b.getD k 0 = x at hx hlow
    rcases (by omega : r = 1 ∨ r = 2 ∨ r = 3 ∨ r = 4 ∨ r = 5 ∨ r = 6 ∨ r = 7) with rfl | rfl | rfl | rfl | rfl | rfl | rfl
    · rw [if_pos (by omega), if_neg (by omega), if_neg (by omega), if_neg (by omega), if_neg (by omega), if_neg (by omega), if_neg (by omega), if_neg (by omega)]
      rw [show (2 : Int) ^ (8 - 1) = 128 from by decide] at hlow
      omega
    · rw [if_pos (by omega), if_pos (by omega), if_neg (by omega), if_neg (by omega), if_neg (by omega), if_neg (by omega), if_neg (by omega), if_neg (by omega)]
      rw [show (2 : Int) ^ (8 - 2) = 64 from by decide] at hlow
      omega
    · rw [if_pos (by omega), if_pos (by omega), if_pos (by omega), if_neg (by omega), if_neg (by omega), if_neg (by omega), if_neg (by omega), if_neg (by omega)]
      rw [show (2 : Int) ^ (8 - 3) = 32 from by decide] at hlow
      omega
    · rw [if_pos (by omega), if_pos (by omega), if_pos (by omega), if_pos (by omega), if_neg (by omega), if_neg (by omega), if_neg (by omega), if_neg (by omega)]
      rw [show (2 : Int) ^ (8 - 4) = 16 from by decide] at hlow
      omega
    · rw [if_pos (by omega), if_pos (by omega), if_pos (by omega), if_pos (by omega), if_pos (by omega), if_neg (by omega), if_neg (by omega), if_neg (by omega)]
      rw [show (2 : Int) ^ (8 - 5) = 8 from by decide] at hlow
      omega
    · rw [if_pos (by omega), if_pos (by omega), if_pos (by omega), if_pos (by omega), if_pos (by omega), if_pos (by omega), if_neg (by omega), if_neg (by omega)]
      rw [show (2 : Int) ^ (8 - 6) = 4 from by decide] at hlow
      omega
    · rw [if_pos (by omega), if_pos (by omega), if_pos (by omega), if_pos (by omega), if_pos (by omega), if_pos (by omega), if_pos (by omega), if_neg (by omega)]
      rw [show (2 : Int) ^ (8 - 7) = 2 from by decide] at hlow
      omega
theorem pk_bl {n : Nat} {b : List Int} (hb : U8s b) (h : Ok n b) : pk (bl b n) = b := by
  unfold pk
  rw [bl_len]
  apply List.ext_getElem?
  intro k
  by_cases hk : k < (n + 7) / 8
  · rw [List.getElem?_map, List.getElem?_range hk]
    simp only [Option.map_some]
    rw [byt_bl hb h hk]
    have hlt : k < b.length := by rw [h.len]; exact hk
    simp [List.getD, hlt]
  · rw [List.getElem?_eq_none (by simpa using hk), List.getElem?_eq_none (by rw [h.len]; omega)]
/-- What 'Check' tells. -/
def chkOf (n : Int) (b : List Int) : Int :=
  if n < 0 ∨ 8192 < n then 3 else if (b.length : Int) ≠ (n + 7) / 8 then 1 else if n % 8 ≠ 0 ∧ b.getD (n.toNat / 8) 0 % 2 ^ (8 - n.toNat % 8) ≠ 0 then 1 else 0
theorem chkOf_ok {n : Int} {b : List Int} (h : chkOf n b = 0) : ∃ m : Nat, n = m ∧ Ok m b := by
  unfold chkOf at h
  split at h
  · simp at h
  · rename_i h1
    split at h
    · simp at h
    · rename_i h2
      split at h
      · simp at h
      · rename_i h3
        obtain ⟨m, rfl⟩ := Int.eq_ofNat_of_zero_le (show 0 ≤ n by omega)
        refine ⟨m, rfl, by omega, by omega, fun hm => ?_⟩
        simp only [Int.toNat_natCast] at h3
        by_cases hz : b.getD (m / 8) 0 % 2 ^ (8 - m % 8) = 0
        · exact hz
        · exact absurd ⟨by omega, hz⟩ h3
theorem check_eq {F : Nat} {n : Int} {b : List Int} (hb : U8s b) (h1 : -9223372036854775808 ≤ n) (h2 : n < 9223372036854775808) (hm : b.length ≤ 9223372036854775807) : M_bits_Check F n b = some (chkOf n b) := by
  unfold M_bits_Check chkOf
  by_cases c1 : n < 0 ∨ 8192 < n
  · have : (decide (n < 0) || decide (8192 < n)) = true := by simpa using c1
    rw [if_pos this, if_pos c1]
  · have : (decide (n < 0) || decide (8192 < n)) = false := by simpa using c1
    rw [this, if_neg c1]
    simp only [Bool.false_eq_true, if_false]
    obtain ⟨m, rfl⟩ := Int.eq_ofNat_of_zero_le (show 0 ≤ n by omega)
    have e1 : iquo .i64 (iadd .i64 (m : Int) 7) 8 = ((m : Int) + 7) / 8 := by
      rw [iadd_i64 (by omega) (by omega), show (m : Int) + 7 = ((m + 7 : Nat) : Int) from by omega, iquo8 (by omega)]
      omega
    rw [e1, irem8]
    by_cases c2 : (b.length : Int) ≠ ((m : Int) + 7) / 8
    · have : ((b.length : Int) != ((m : Int) + 7) / 8) = true := by simpa using c2
      rw [if_pos this, if_pos c2]
    · have : ((b.length : Int) != ((m : Int) + 7) / 8) = false := by simpa using c2
      rw [this, if_neg c2]
      simp only [Bool.false_eq_true, if_false]
      by_cases c3 : m % 8 = 0
      · have : ((((m % 8 : Nat) : Int)) != 0) = false := by simp [c3]
        have hn : ¬ ((m : Int) % 8 ≠ 0 ∧ b.getD ((m : Int).toNat / 8) 0 % 2 ^ (8 - (m : Int).toNat % 8) ≠ 0) := fun h => h.1 (by omega)
        rw [this, if_neg hn]
        simp [M_bits_Check_j2]
      · have : ((((m % 8 : Nat) : Int)) != 0) = true := by simp; omega
        rw [this]
        simp only [if_true]
        have hlen : b.length = m / 8 + 1 := by omega
        have e2 : isub .i64 (b.length : Int) 1 = ((m / 8 : Nat) : Int) := by rw [isub_i64 (by omega) (by omega)]; omega
        have hg : b[m / 8]? = some b[m / 8] := by simp [hlen]
        rw [e2, idx_nat, hg]
        simp only [Option.bind_some]
        have hc : decide ((0 : Int) ≤ ((m % 8 : Nat) : Int)) = true := decide_eq_true (by omega)
        rw [hc]
        simp only [chk, if_true]
        have hx := hb b[m / 8] (List.getElem_mem (by omega))
        have hgd : b.getD (m / 8) 0 = b[m / 8] := by simp [List.getD, hg]
        rw [Int.toNat_natCast, hgd]
        generalize b[m / 8] = x at hx
        have e3 : (ishl .u8 x ((m % 8 : Nat) : Int) != 0) = decide (x % 2 ^ (8 - m % 8) ≠ 0) := by
          have key : ishl .u8 x ((m % 8 : Nat) : Int) = (x * 2 ^ (m % 8)) % 256 := by
            unfold ishl
            have h : min (((m % 8 : Nat) : Int).toNat) (IntKind.bits .u8) = m % 8 := by simp [IntKind.bits]; omega
            rw [h, wrap_u8_mod]
          rw [key]
          rcases (by omega : m % 8 = 1 ∨ m % 8 = 2 ∨ m % 8 = 3 ∨ m % 8 = 4 ∨ m % 8 = 5 ∨ m % 8 = 6 ∨ m % 8 = 7) with h | h | h | h | h | h | h <;> rw [h]
          · rw [show (2 : Int) ^ 1 = 2 from rfl, show (2 : Int) ^ (8 - 1) = 128 from by decide]; by_cases hz : x % 128 = 0 <;> simp [hz] <;> omega
          · rw [show (2 : Int) ^ 2 = 4 from rfl, show (2 : Int) ^ (8 - 2) = 64 from by decide]; by_cases hz : x % 64 = 0 <;> simp [hz] <;> omega
          · rw [show (2 : Int) ^ 3 = 8 from rfl, show (2 : Int) ^ (8 - 3) = 32 from by decide]; by_cases hz : x % 32 = 0 <;> simp [hz] <;> omega
          · rw [show (2 : Int) ^ 4 = 16 from by decide]; try rw [show (2 : Int) ^ (8 - 4) = 16 from by decide]
            by_cases hz : x % 16 = 0 <;> simp [hz] <;> omega
          · rw [show (2 : Int) ^ 5 = 32 from by decide, show (2 : Int) ^ (8 - 5) = 8 from by decide]; by_cases hz : x % 8 = 0 <;> simp [hz] <;> omega
          · rw [show (2 : Int) ^ 6 = 64 from by decide, show (2 : Int) ^ (8 - 6) = 4 from by decide]; by_cases hz : x % 4 = 0 <;> simp [hz] <;> omega
          · rw [show (2 : Int) ^ 7 = 128 from by decide, show (2 : Int) ^ (8 - 7) = 2 from by decide]; by_cases hz : x % 2 = 0 <;> simp [hz] <;> omega
        rw [e3]
        unfold M_bits_Check_j2
        by_cases hz : x % 2 ^ (8 - m % 8) = 0
        · rw [if_neg (by simp [hz]), if_neg (by simp [hz])]
        · rw [if_pos (by simp [hz]), if_pos ⟨by omega, hz⟩]
theorem begun_bits (n : Nat) : M_L_bitsBegun (n + 200) = some true := by kernel_rfl
theorem clone_eq {F : Nat} {x : List Int} (h : x.length ≤ 1000000) : M_slices_Clone_byte_byte F x = some x := by
  unfold M_slices_Clone_byte_byte
  rw [app_eq (by simp; omega)]
  rfl
theorem own_eq {F : Nat} {n : Int} {b : List Int} (h : b.length ≤ 1000000) : M_bits_own F n b = some (n, b) := by
  unfold M_bits_own
  rw [clone_eq h]
  rfl
theorem both_eq {F : Nat} (hF : 20000 ≤ F) {n m : Nat} {a b : List Int} (ha : U8s a) (hb : U8s b) (oa : Ok n a) (ob : Ok m b) : M_bits_Both F n a m b = some (((n + m : Nat) : Int), pk (bl a n ++ bl b m)) := by
  unfold M_bits_Both
  have hal : a.length ≤ 1000000 := by rw [oa.len]; have := oa.max; omega
  rw [own_eq hal]
  simp only [Option.bind_some, M_bits_places, M_bits_places_1]
  have hm := ob.max
  have hn := oa.max
  have := places_l (F := F) (n := (m : Int)) hb (yy := fun (p : Int × List Int) (x53 : Int) => M_bits_Both_r2 F p.1 p.2 x53) (fun l x hl hx hlen => by
    simp only [M_bits_Both_r2]
    rw [bit_eq hl hx (by omega)]
    rfl) (to := m) (by rw [ob.len]; omega) (by omega) F 0 (bl a n) (by omega) (by omega) (bl_bit a n) (by rw [bl_len]; omega)
  rw [bl_len, pk_bl ha oa, List.drop_zero, Nat.sub_zero] at this
  rw [show ((0 : Nat) : Int) = 0 from rfl] at this
  have h2 : M_bits_places_1_l1 F (fun (x : Int × List Int) (x53 : Int) => match x with | (x45, x48) => M_bits_Both_r2 F x45 x48 x53) (m : Int) (m : Int) b F (0, ((n : Int), a)) = some (.inl (((n + m : Nat) : Int), pk (bl a n ++ bl b m))) := this
  rw [h2]
  rfl
def joinOf (n : Int) (a : List Int) (m : Int) (b : List Int) : Int :=
  if chkOf n a ≠ 0 then chkOf n a else if chkOf m b ≠ 0 then chkOf m b else if 8192 < n + m then 8 else 0
def jn (n : Int) (a : List Int) (m : Int) (b : List Int) : Int × List Int × Int :=
  if joinOf n a m b ≠ 0 then (0, [], joinOf n a m b) else (n + m, pk (bl a n.toNat ++ bl b m.toNat), 0)
def I64 (n : Int) : Prop := -9223372036854775808 ≤ n ∧ n < 9223372036854775808
theorem join_eq {F : Nat} (hF : 20000 ≤ F) {n m : Int} {a b : List Int} (ha : U8s a) (hb : U8s b) (hn : I64 n) (hm : I64 m) (la : a.length ≤ 9223372036854775807) (lb : b.length ≤ 9223372036854775807) : M_bits_Join F n a m b = some (jn n a m b) := by
  unfold M_bits_Join jn joinOf
  rw [check_eq ha hn.1 hn.2 la]
  simp only [Option.bind_some]
  by_cases h1 : chkOf n a = 0
  · obtain ⟨n', rfl, oa⟩ := chkOf_ok h1
    have hb1 : (chkOf (n' : Int) a == 0) = true := by simp [h1]
    rw [if_pos hb1, check_eq hb hm.1 hm.2 lb]
    simp only [Option.bind_some]
    unfold M_bits_Join_j1
    by_cases h2 : chkOf m b = 0
    · obtain ⟨m', rfl, ob⟩ := chkOf_ok h2
      have e1 : iadd .i64 (n' : Int) (m' : Int) = (n' : Int) + (m' : Int) := by
        have := oa.max; have := ob.max
        exact iadd_i64 (by omega) (by omega)
      rw [e1, h1, h2]
      by_cases h3 : (8192 : Int) < (n' : Int) + (m' : Int)
      · simp [h3, M_bits_Join_j2]
      · simp only [h3, beq_self_eq_true, decide_false, Bool.and_false, Bool.false_eq_true, if_false, ne_eq, not_true_eq_false, M_bits_Join_j2, bne_self_eq_false]
        rw [both_eq hF ha hb oa ob]
        simp
    · have hb2 : (chkOf m b == 0) = false := by simpa using h2
      have hb3 : (chkOf m b != 0) = true := by simpa using h2
      rw [hb2]
      simp only [Bool.false_and, Bool.false_eq_true, if_false, M_bits_Join_j2, hb3, if_true, h1, ne_eq, not_true_eq_false, h2, not_false_eq_true]
  · have hb1 : (chkOf n a == 0) = false := by simpa using h1
    have hb3 : (chkOf n a != 0) = true := by simpa using h1
    rw [hb1]
    simp only [Bool.false_eq_true, if_false, M_bits_Join_j1, hb1, Bool.false_and, M_bits_Join_j2, hb3, if_true, ne_eq, h1, not_false_eq_true]
def cutOf (n : Int) (b : List Int) (i j : Int) : Int := if chkOf n b ≠ 0 then chkOf n b else if i < 0 ∨ n < i ∨ j < i ∨ n < j then 3 else 0
def ct (n : Int) (b : List Int) (i j : Int) : Int × List Int × Int :=
  if cutOf n b i j ≠ 0 then (0, [], cutOf n b i j) else (j - i, pk ((bl b j.toNat).drop i.toNat), 0)
theorem cut_eq {F : Nat} (hF : 20000 ≤ F) {n i j : Int} {b : List Int} (hb : U8s b) (hn : I64 n) (lb : b.length ≤ 9223372036854775807) : M_bits_Cut F n b i j = some (ct n b i j) := by
  unfold M_bits_Cut ct cutOf
  rw [check_eq hb hn.1 hn.2 lb]
  simp only [Option.bind_some]
  by_cases h1 : chkOf n b = 0
  · obtain ⟨n', rfl, ob⟩ := chkOf_ok h1
    have hb1 : (chkOf (n' : Int) b == 0) = true := by simp [h1]
    rw [if_pos hb1]
    by_cases h2 : i < 0 ∨ (n' : Int) < i ∨ j < i ∨ (n' : Int) < j
    · have : ((((decide (i < 0)) || (decide ((n' : Int) < i))) || (decide (j < i))) || (decide ((n' : Int) < j))) = true := by
        simp only [Bool.or_eq_true, decide_eq_true_eq]; omega
      rw [this, if_pos h2]
      simp [M_bits_Cut_j5, M_bits_Cut_j2, h1]
    · have : ((((decide (i < 0)) || (decide ((n' : Int) < i))) || (decide (j < i))) || (decide ((n' : Int) < j))) = false := by
        rw [Bool.eq_false_iff]; intro h; apply h2; simp only [Bool.or_eq_true, decide_eq_true_eq] at h; omega
      rw [this, if_neg h2, h1]
      obtain ⟨i', rfl⟩ := Int.eq_ofNat_of_zero_le (show 0 ≤ i by omega)
      obtain ⟨j', rfl⟩ := Int.eq_ofNat_of_zero_le (show 0 ≤ j by omega)
      have hmx := ob.max
      have := places_l (F := F) (n := (n' : Int)) hb (yy := fun (p : Int × List Int) (x53 : Int) => M_bits_Cut_r4 F p.1 p.2 x53) (fun l x hl hx hlen => by
        simp only [M_bits_Cut_r4]
        rw [bit_eq hl hx (by omega)]
        rfl) (to := j') (by rw [ob.len]; omega) (by omega) F i' [] (by omega) (by omega) (by intro x hx; simp at hx) (by simp; omega)
      have h3 : M_bits_places_1_l1 F (fun (x : Int × List Int) (x59 : Int) => match x with | (x51, x54) => M_bits_Cut_r4 F x51 x54 x59) (j' : Int) (n' : Int) b F ((i' : Int), (0, ([] : List Int))) = some (.inl (((([] : List Int).length + (j' - i') : Nat) : Int), pk ([] ++ (bl b j').drop i'))) := this
      simp only [M_bits_Cut_j5, M_bits_Cut_j2, Bool.false_eq_true, if_false, bne_self_eq_false, M_bits_places, Option.bind_some, M_bits_places_1, ne_eq, not_true_eq_false, Int.toNat_natCast]
      rw [h3]
      simp only [Option.bind_some, Sum.elim_inl, List.nil_append, List.length_nil, Nat.zero_add]
      congr 2
      omega
  · have hb1 : (chkOf n b == 0) = false := by simpa using h1
    have hb3 : (chkOf n b != 0) = true := by simpa using h1
    rw [hb1]
    simp only [Bool.false_eq_true, if_false, M_bits_Cut_j5, M_bits_Cut_j2, hb3, if_true, ne_eq, h1, not_false_eq_true]
theorem pk_getD {l : List Int} {k : Nat} (hk : k < (l.length + 7) / 8) : (pk l).getD k 0 = byt l k := by
  unfold pk
  simp [List.getD, hk]
theorem pk_u8 {l : List Int} (h : Bit l) : U8s (pk l) := by
  intro x hx
  obtain ⟨k, _, rfl⟩ := List.mem_map.1 hx
  exact byt_range h k
theorem pk_len (l : List Int) : (pk l).length = (l.length + 7) / 8 := by simp [pk]
theorem ok_pk {l : List Int} (hm : l.length ≤ 8192) : Ok l.length (pk l) where
  max := hm
  len := pk_len l
  low := fun h => by
    rw [pk_getD (by omega)]
    exact byt_low
theorem bitAt_pk {l : List Int} (h : Bit l) {i : Nat} (hi : i < l.length) : bitAt (pk l) i = l.getD i 0 := by
  obtain ⟨k, hk⟩ : ∃ k, k = i / 8 := ⟨_, rfl⟩
  obtain ⟨r, hr⟩ : ∃ r, r = i % 8 := ⟨_, rfl⟩
  have hl : i = 8 * k + r := by omega
  have hr8 : r < 8 := by omega
  obtain ⟨c0, c1, c2, c3, c4, c5, c6, c7⟩ := bitAt_8 (pk l) k
  have hb : (pk l).getD k 0 = byt l k := pk_getD (by omega)
  rw [hb] at c0 c1 c2 c3 c4 c5 c6 c7
  have hbd : ∀ q, 0 ≤ l.getD q 0 ∧ l.getD q 0 ≤ 1 := fun q => by have := h.getD q; omega
  have h0 := hbd (8 * k); have h1 := hbd (8 * k + 1); have h2 := hbd (8 * k + 2); have h3 := hbd (8 * k + 3)
  have h4 := hbd (8 * k + 4); have h5 := hbd (8 * k + 5); have h6 := hbd (8 * k + 6); have h7 := hbd (8 * k + 7)
  clear hbd hb
  unfold byt at c0 c1 c2 c3 c4 c5 c6 c7
  rcases (by omega : r = 0 ∨ r = 1 ∨ r = 2 ∨ r = 3 ∨ r = 4 ∨ r = 5 ∨ r = 6 ∨ r = 7) with rfl | rfl | rfl | rfl | rfl | rfl | rfl | rfl
  · rw [hl, Nat.add_zero, c0]; clear c0 c1 c2 c3 c4 c5 c6 c7; generalize l.getD (8 * k) 0 = y0 at *; generalize l.getD (8 * k + 1) 0 = y1 at *; generalize l.getD (8 * k + 2) 0 = y2 at *; generalize l.getD (8 * k + 3) 0 = y3 at *; generalize l.getD (8 * k + 4) 0 = y4 at *; generalize l.getD (8 * k + 5) 0 = y5 at *; generalize l.getD (8 * k + 6) 0 = y6 at *; generalize l.getD (8 * k + 7) 0 = y7 at *; clear h hi hl hr hk hr8; omega
  · rw [hl, c1]; clear c0 c1 c2 c3 c4 c5 c6 c7; generalize l.getD (8 * k) 0 = y0 at *; generalize l.getD (8 * k + 1) 0 = y1 at *; generalize l.getD (8 * k + 2) 0 = y2 at *; generalize l.getD (8 * k + 3) 0 = y3 at *; generalize l.getD (8 * k + 4) 0 = y4 at *; generalize l.getD (8 * k + 5) 0 = y5 at *; generalize l.getD (8 * k + 6) 0 = y6 at *; generalize l.getD (8 * k + 7) 0 = y7 at *; clear h hi hl hr hk hr8; omega
  · rw [hl, c2]; clear c0 c1 c2 c3 c4 c5 c6 c7; generalize l.getD (8 * k) 0 = y0 at *; generalize l.getD (8 * k + 1) 0 = y1 at *; generalize l.getD (8 * k + 2) 0 = y2 at *; generalize l.getD (8 * k + 3) 0 = y3 at *; generalize l.getD (8 * k + 4) 0 = y4 at *; generalize l.getD (8 * k + 5) 0 = y5 at *; generalize l.getD (8 * k + 6) 0 = y6 at *; generalize l.getD (8 * k + 7) 0 = y7 at *; clear h hi hl hr hk hr8; omega
  · rw [hl, c3]; clear c0 c1 c2 c3 c4 c5 c6 c7; generalize l.getD (8 * k) 0 = y0 at *; generalize l.getD (8 * k + 1) 0 = y1 at *; generalize l.getD (8 * k + 2) 0 = y2 at *; generalize l.getD (8 * k + 3) 0 = y3 at *; generalize l.getD (8 * k + 4) 0 = y4 at *; generalize l.getD (8 * k + 5) 0 = y5 at *; generalize l.getD (8 * k + 6) 0 = y6 at *; generalize l.getD (8 * k + 7) 0 = y7 at *; clear h hi hl hr hk hr8; omega
  · rw [hl, c4]; clear c0 c1 c2 c3 c4 c5 c6 c7; generalize l.getD (8 * k) 0 = y0 at *; generalize l.getD (8 * k + 1) 0 = y1 at *; generalize l.getD (8 * k + 2) 0 = y2 at *; generalize l.getD (8 * k + 3) 0 = y3 at *; generalize l.getD (8 * k + 4) 0 = y4 at *; generalize l.getD (8 * k + 5) 0 = y5 at *; generalize l.getD (8 * k + 6) 0 = y6 at *; generalize l.getD (8 * k + 7) 0 = y7 at *; clear h hi hl hr hk hr8; omega
  · rw [hl, c5]; clear c0 c1 c2 c3 c4 c5 c6 c7; generalize l.getD (8 * k) 0 = y0 at *; generalize l.getD (8 * k + 1) 0 = y1 at *; generalize l.getD (8 * k + 2) 0 = y2 at *; generalize l.getD (8 * k + 3) 0 = y3 at *; generalize l.getD (8 * k + 4) 0 = y4 at *; generalize l.getD (8 * k + 5) 0 = y5 at *; generalize l.getD (8 * k + 6) 0 = y6 at *; generalize l.getD (8 * k + 7) 0 = y7 at *; clear h hi hl hr hk hr8; omega
  · rw [hl, c6]; clear c0 c1 c2 c3 c4 c5 c6 c7; generalize l.getD (8 * k) 0 = y0 at *; generalize l.getD (8 * k + 1) 0 = y1 at *; generalize l.getD (8 * k + 2) 0 = y2 at *; generalize l.getD (8 * k + 3) 0 = y3 at *; generalize l.getD (8 * k + 4) 0 = y4 at *; generalize l.getD (8 * k + 5) 0 = y5 at *; generalize l.getD (8 * k + 6) 0 = y6 at *; generalize l.getD (8 * k + 7) 0 = y7 at *; clear h hi hl hr hk hr8; omega
  · rw [hl, c7]; clear c0 c1 c2 c3 c4 c5 c6 c7; generalize l.getD (8 * k) 0 = y0 at *; generalize l.getD (8 * k + 1) 0 = y1 at *; generalize l.getD (8 * k + 2) 0 = y2 at *; generalize l.getD (8 * k + 3) 0 = y3 at *; generalize l.getD (8 * k + 4) 0 = y4 at *; generalize l.getD (8 * k + 5) 0 = y5 at *; generalize l.getD (8 * k + 6) 0 = y6 at *; generalize l.getD (8 * k + 7) 0 = y7 at *; clear h hi hl hr hk hr8; omega
theorem bl_pk {l : List Int} (h : Bit l) : bl (pk l) l.length = l := by
  apply List.ext_getElem?
  intro i
  by_cases hi : i < l.length
  · have h1 : (bl (pk l) l.length)[i]? = some (bitAt (pk l) i) := by simp [bl, hi]
    rw [h1, bitAt_pk h hi]
    simp [List.getD, hi]
  · rw [List.getElem?_eq_none (by rw [bl_len]; omega), List.getElem?_eq_none (by omega)]
theorem same_l (F : Nat) {xs ys : List Int} (hl : xs.length = ys.length) (hm : xs.length ≤ 9223372036854775807) : ∀ (k i : Nat), xs.length < k + i → i ≤ xs.length →
    M_R_SameBytes_l3 F xs ys k (i : Int) = some (decide (xs.drop i = ys.drop i))
  | 0, i, h, _ => by omega
  | k + 1, i, h, hi => by
    show M_R_SameBytes_b3 F xs ys (M_R_SameBytes_l3 F xs ys k) i = _
    unfold M_R_SameBytes_b3
    by_cases hlt : i < xs.length
    · have hlt' : (i : Int) < (xs.length : Int) := by omega
      have hlt2 : i < ys.length := by omega
      have hg : xs[i]? = some xs[i] := by simp [hlt]
      have hg2 : ys[i]? = some ys[i] := by simp [hlt2]
      simp only [hlt', decide_true, if_true, idx_nat, hg, hg2, Option.bind_some]
      have e : (xs.drop i = ys.drop i) ↔ (xs[i] = ys[i] ∧ xs.drop (i + 1) = ys.drop (i + 1)) := by
        rw [List.drop_eq_getElem_cons hlt, List.drop_eq_getElem_cons hlt2, List.cons.injEq]
      simp only [e]
      by_cases he : xs[i] = ys[i]
      · simp only [he, bne_self_eq_false, Bool.false_eq_true, if_false, true_and]
        rw [iadd_i64 (by omega) (by omega), show (i : Int) + 1 = ((i + 1 : Nat) : Int) from by omega, same_l F hl hm k (i + 1) (by omega) (by omega)]
      · have : (xs[i] != ys[i]) = true := by simpa using he
        simp only [this, if_true, he, false_and, decide_false]
    · have hlt' : ¬ (i : Int) < (xs.length : Int) := by omega
      simp only [hlt', decide_false, Bool.false_eq_true, if_false]
      rw [List.drop_eq_nil_of_le (by omega), List.drop_eq_nil_of_le (by omega)]
      rfl
theorem sameBytes_eq {F : Nat} {xs ys : List Int} (hF : xs.length < F) (hm : xs.length ≤ 9223372036854775807) : M_R_SameBytes F xs ys = some (decide (xs = ys)) := by
  unfold M_R_SameBytes
  by_cases hl : xs.length = ys.length
  · have : (((xs.length : Int) : Int) != (ys.length : Int)) = false := by simp [hl]
    simp only [this, Bool.false_eq_true, if_false]
    have := same_l F hl hm F 0 (by omega) (by omega)
    simpa using this
  · have : (((xs.length : Int) : Int) != (ys.length : Int)) = true := by simp; omega
    simp only [this, if_true]
    have : xs ≠ ys := fun e => hl (by rw [e])
    simp [this]
theorem sameBits_eq {F : Nat} {n m : Int} {xs ys : List Int} (hF : xs.length < F) (hm : xs.length ≤ 9223372036854775807) : M_R_SameBits F n xs m ys = some (decide (n = m ∧ xs = ys)) := by
  unfold M_R_SameBits
  by_cases h : n = m
  · have hb : (n == m) = true := by simp [h]
    rw [if_pos hb, sameBytes_eq hF hm]
    simp [M_R_SameBits_j1, h]
  · have hb : (n == m) = false := by simpa using h
    rw [hb]
    simp [M_R_SameBits_j1, h]
theorem chkOf_of_ok {n : Nat} {b : List Int} (h : Ok n b) : chkOf (n : Int) b = 0 := by
  unfold chkOf
  have := h.max
  have := h.len
  rw [if_neg (by omega), if_neg (by omega), if_neg]
  rintro ⟨h1, h2⟩
  rw [Int.toNat_natCast] at h2
  exact h2 (h.low (by omega))
theorem bl_take {b : List Int} {n m : Nat} (h : n ≤ m) : (bl b m).take n = bl b n := by
  unfold bl
  rw [← List.map_take, List.take_range, Nat.min_eq_left h]
theorem bit_app {l k : List Int} (h : Bit l) (h2 : Bit k) : Bit (l ++ k) := by
  intro x hx
  rcases List.mem_append.1 hx with h3 | h3
  · exact h x h3
  · exact h2 x h3
theorem cut_pk {l : List Int} (hl : Bit l) (hm : l.length ≤ 8192) {i j : Nat} (hi : i ≤ j) (hj : j ≤ l.length) : ct (l.length : Int) (pk l) i j = (((j - i : Nat) : Int), pk ((l.take j).drop i), 0) := by
  have : cutOf (l.length : Int) (pk l) i j = 0 := by
    unfold cutOf
    rw [chkOf_of_ok (ok_pk hm), if_neg (by simp), if_neg (by omega)]
  unfold ct
  rw [this, if_neg (by simp), Int.toNat_natCast, Int.toNat_natCast, ← bl_take hj, bl_pk hl]
  congr 1
  omega
theorem begun_bits' {F : Nat} (hF : 20000 ≤ F) : M_L_bitsBegun F = some true := by
  obtain ⟨n, rfl⟩ : ∃ n, F = n + 200 := ⟨F - 200, by omega⟩
  exact begun_bits n
theorem two64 : (2 : Nat) ^ 64 = 18446744073709551616 := by decide
theorem ishr_n {n k : Nat} (hn : n < 18446744073709551616) : ishr .u64 (n : Int) (k : Int) = ((n / 2 ^ k : Nat) : Int) := by
  unfold ishr
  rw [Int.fdiv_eq_ediv_of_nonneg _ (by exact_mod_cast Nat.zero_le _), Int.toNat_natCast]
  simp only [IntKind.bits]
  by_cases h : k ≤ 64
  · rw [Nat.min_eq_left h]; norm_cast
  · rw [Nat.min_eq_right (by omega)]
    have h1 : n / 2 ^ 64 = 0 := Nat.div_eq_of_lt (by omega)
    have h2 : n / 2 ^ k = 0 := Nat.div_eq_of_lt (Nat.lt_of_lt_of_le hn (by rw [← two64]; exact Nat.pow_le_pow_right (by decide) (by omega)))
    rw [h2]
    have : ((n : Int) / 2 ^ 64) = ((n / 2 ^ 64 : Nat) : Int) := by norm_cast
    rw [this, h1]
theorem iand1_n {n : Nat} (hn : n < 18446744073709551616) : iand .u64 (n : Int) 1 = ((n % 2 : Nat) : Int) := by
  have e := iand_mask (k := .u64) (a := (n : Int)) (m := 1) (by omega) (by simp only [IntKind.bits]; rw [show (2 : Int) ^ 64 = 18446744073709551616 from by decide]; omega) (by decide) rfl
  rw [show ((2 ^ 1 - 1 : Nat) : Int) = 1 from rfl, show (2 : Int) ^ 1 = 2 from rfl] at e
  rw [e]; omega
theorem iadd_n {a b : Nat} (h : a + b < 9223372036854775808) : iadd .i64 (a : Int) (b : Int) = ((a + b : Nat) : Int) := by rw [iadd_i64 (by omega) (by omega)]; omega
theorem iadd1_n {a : Nat} (h : a + 1 < 9223372036854775808) : iadd .i64 (a : Int) 1 = ((a + 1 : Nat) : Int) := by rw [iadd_i64 (by omega) (by omega)]; omega
theorem isub_n {a b : Nat} (h : b ≤ a) (h2 : a < 9223372036854775808) : isub .i64 (a : Int) (b : Int) = ((a - b : Nat) : Int) := by rw [isub_i64 (by omega) (by omega)]; omega
theorem isub1_n {a : Nat} (h : 1 ≤ a) (h2 : a < 9223372036854775808) : isub .i64 (a : Int) 1 = ((a - 1 : Nat) : Int) := by rw [isub_i64 (by omega) (by omega)]; omega
/-- The bits of a number, in so many places, the highest one first. -/
def nb (n : Nat) : Nat → List Int
  | 0 => []
  | w + 1 => ((n / 2 ^ w % 2 : Nat) : Int) :: nb n w
theorem nb_len (n : Nat) : ∀ w, (nb n w).length = w
  | 0 => rfl
  | w + 1 => by simp [nb, nb_len n w]
theorem number_l {F : Nat} {n : Nat} (hn : n < 18446744073709551616) : ∀ (w k : Nat) (l : List Int), w < k → Bit l → l.length + w ≤ 100000 →
    M_bits_writer_number_l1 F (n : Int) k ((w : Int) - 1, (l.length : Int), pk l) = some (((l.length + w : Nat) : Int), pk (l ++ nb n w))
  | _, 0, _, h, _, _ => by omega
  | 0, k + 1, l, _, _, _ => by
    show M_bits_writer_number_b1 F (n : Int) _ (((0 : Nat) : Int) - 1) (l.length : Int) (pk l) = _
    unfold M_bits_writer_number_b1
    rw [if_neg (by simp)]
    simp [nb]
  | w + 1, k + 1, l, h, hl, hm => by
    show M_bits_writer_number_b1 F (n : Int) (M_bits_writer_number_l1 F (n : Int) k) (((w + 1 : Nat) : Int) - 1) (l.length : Int) (pk l) = _
    unfold M_bits_writer_number_b1
    rw [show ((w + 1 : Nat) : Int) - 1 = (w : Int) from by omega, if_pos (by simp)]
    have hc : decide ((0 : Int) ≤ (w : Int)) = true := decide_eq_true (by omega)
    rw [hc]
    simp only [chk, if_true]
    rw [ishr_n hn, iand1_n (by have := Nat.div_le_self n (2 ^ w); omega)]
    have hx : ((n / 2 ^ w % 2 : Nat) : Int) = 0 ∨ ((n / 2 ^ w % 2 : Nat) : Int) = 1 := by omega
    rw [bit_eq hl hx (by omega)]
    simp only [Option.bind_some]
    rw [isub_i64 (by omega) (by omega)]
    have := number_l (F := F) hn w k (l ++ [((n / 2 ^ w % 2 : Nat) : Int)]) (by omega) (bit_app hl (by intro y hy; simp only [List.mem_singleton] at hy; rw [hy]; exact hx)) (by simp; omega)
    rw [show (l ++ [((n / 2 ^ w % 2 : Nat) : Int)]).length = l.length + 1 from by simp] at this
    rw [this, List.append_assoc, show l.length + 1 + w = l.length + (w + 1) from by omega]
    rfl
theorem number_eq {F : Nat} {n w : Nat} {l : List Int} (hn : n < 18446744073709551616) (hF : w < F) (hl : Bit l) (hm : l.length + w ≤ 100000) :
    M_bits_writer_number F (l.length : Int) (pk l) (n : Int) (w : Int) = some (((l.length + w : Nat) : Int), pk (l ++ nb n w)) := by
  unfold M_bits_writer_number
  rw [isub_i64 (by omega) (by omega)]
  exact number_l hn w F l hF hl hm
theorem add_eq {F : Nat} {n w m : Nat} {b : List Int} (hn : n < 18446744073709551616) (hF : w < F) (hb : U8s b) (ob : Ok m b) (hw : w ≤ 10000) :
    M_bits_Add F (m : Int) b (n : Int) (w : Int) = some (((m + w : Nat) : Int), pk (bl b m ++ nb n w)) := by
  unfold M_bits_Add
  have := ob.max
  rw [own_eq (by rw [ob.len]; omega)]
  simp only [Option.bind_some]
  have h := number_eq (F := F) (l := bl b m) hn hF (bl_bit _ _) (by rw [bl_len]; omega)
  rw [bl_len, pk_bl hb ob] at h
  rw [h]; rfl
def U64 (n : Int) : Prop := 0 ≤ n ∧ n < 18446744073709551616
theorem bl_get {b : List Int} {n i : Nat} (h : i < n) : (bl b n)[i]? = some (bitAt b i) := by simp [bl, h]
theorem irem2_n (n : Nat) : irem (n : Int) 2 = ((n % 2 : Nat) : Int) := by
  unfold irem; rw [Int.tmod_eq_emod_of_nonneg (by omega)]; omega
theorem iquo2_n {n : Nat} (h : n ≤ 9223372036854775807) : iquo .i64 (n : Int) 2 = ((n / 2 : Nat) : Int) := by
  unfold iquo; rw [Int.tdiv_eq_ediv_of_nonneg (by omega), wrap_i64 (by omega) (by omega)]; omega
theorem iconv_i64_n {n : Nat} (h : n < 9223372036854775808) : iconv .i64 (n : Int) = (n : Int) := wrap_i64 (by omega) (by omega)
theorem iconv_u64_n {n : Nat} (h : n < 18446744073709551616) : iconv .u64 (n : Int) = (n : Int) := wrap_u64 (by omega) (by omega)
theorem div_pow_succ (x k : Nat) : x / 2 ^ (k + 1) = x / 2 / 2 ^ k := by rw [Nat.pow_succ, Nat.mul_comm, Nat.div_div_eq_div_mul]
theorem bitList_in {F : Nat} {rec38 : (List Int × Int) → Option (List Int)} {l : List Int} {i : Nat} (hm : i ≤ 100000) : ∀ (k j x : Nat), 7 - i % 8 < k + j → j ≤ 7 - i % 8 → x < 256 →
    M_R_BitList_l45 F rec38 l (i : Int) k ((x : Int), (j : Int)) = M_R_BitList_j44 F rec38 l (i : Int) ((x / 2 ^ (7 - i % 8 - j) : Nat) : Int)
  | 0, _, _, _, _, _ => by omega
  | k + 1, j, x, h, hj, hx => by
    show M_R_BitList_b45 F rec38 l (i : Int) (M_R_BitList_l45 F rec38 l (i : Int) k) (x : Int) (j : Int) = _
    unfold M_R_BitList_b45
    rw [irem8, isub_i64 (by omega) (by omega)]
    by_cases hlt : j < 7 - i % 8
    · rw [if_pos (by simp; omega), iquo2_n (by omega), iadd1_n (by omega), bitList_in hm k (j + 1) (x / 2) (by omega) (by omega) (by omega)]
      rw [show 7 - i % 8 - j = (7 - i % 8 - (j + 1)) + 1 from by omega, div_pow_succ]
    · rw [if_neg (by simp; omega), show 7 - i % 8 - j = 0 from by omega]
      simp
theorem bitList_l {F : Nat} (hF : 100 ≤ F) {b : List Int} (hb : U8s b) {n : Nat} (hn : n ≤ 8 * b.length) (hm : n ≤ 100000) : ∀ (k i : Nat), n < k + i → i ≤ n →
    M_R_BitList_l38 F (n : Int) b k (bl b i, (i : Int)) = some (bl b n)
  | 0, _, _, _ => by omega
  | k + 1, i, h, hi => by
    show M_R_BitList_b38 F (n : Int) b (M_R_BitList_l38 F (n : Int) b k) (bl b i) (i : Int) = _
    unfold M_R_BitList_b38
    by_cases hlt : i < n
    · rw [if_pos (by simp; omega), iquo8 (by omega), idx_nat]
      have hg : b[i / 8]? = some b[i / 8] := by rw [List.getElem?_eq_getElem (by omega)]
      rw [hg]
      simp only [Option.bind_some]
      have hx := hb b[i / 8] (List.getElem_mem (by omega))
      obtain ⟨x, hxe⟩ := Int.eq_ofNat_of_zero_le hx.1
      rw [hxe, iconv_i64_n (by omega)]
      rw [show ((0 : Int)) = ((0 : Nat) : Int) from rfl, bitList_in (by omega) F 0 x (by omega) (by omega) (by omega)]
      unfold M_R_BitList_j44
      rw [irem2_n, app_eq (by rw [bl_len]; simp; omega)]
      simp only [Option.bind_some, M_R_BitList_j42]
      rw [iadd1_n (by omega)]
      have e : bl b i ++ [((x / 2 ^ (7 - i % 8 - 0) % 2 : Nat) : Int)] = bl b (i + 1) := by
        rw [bl_succ]
        congr 2
        unfold bitAt
        simp only [List.getD, hg, Option.getD_some, hxe, Nat.sub_zero]
        norm_cast
      rw [e]
      exact bitList_l hF hb hn hm k (i + 1) (by omega) (by omega)
    · rw [if_neg (by simp; omega)]
      obtain rfl : i = n := by omega
      rfl
theorem bitList_eq {F : Nat} (hF : 20000 ≤ F) {b : List Int} (hb : U8s b) {n : Nat} (hn : n ≤ 8 * b.length) (hm : n ≤ 10000) : M_R_BitList F (n : Int) b = some (bl b n) := by
  unfold M_R_BitList
  exact bitList_l (by omega) hb hn (by omega) F 0 (by omega) (by omega)
theorem bit_n {l : List Int} (h : Bit l) {i : Nat} (hi : i < l.length) : ∃ x : Nat, l[i]? = some (x : Int) ∧ x < 2 := by
  have := h l[i] (List.getElem_mem hi)
  obtain ⟨x, hx⟩ := Int.eq_ofNat_of_zero_le (show 0 ≤ l[i] by omega)
  exact ⟨x, by rw [List.getElem?_eq_getElem hi, hx], by omega⟩
theorem imul2_n {n : Nat} (h : n < 4611686018427387904) : imul .i64 2 (n : Int) = ((2 * n : Nat) : Int) := by rw [imul_i64 (by omega) (by omega)]; omega
/-- The first so many of eight bits from a place on, as a number. -/
def byN (l : List Int) (i : Nat) : Nat → Nat
  | 0 => 0
  | k + 1 => 2 * byN l i k + (l.getD (i + k) 0).toNat
theorem byN_lt {l : List Int} (h : Bit l) (i : Nat) : ∀ k, byN l i k < 2 ^ k
  | 0 => by simp [byN]
  | k + 1 => by
    have := byN_lt h i k
    have h2 := h.getD (i + k)
    unfold byN
    rw [Nat.pow_succ]
    omega
theorem byN_8 {l : List Int} (h : Bit l) (i : Nat) : ((byN l (8 * i) 8 : Nat) : Int) = byt l i := by
  have h0 := h.getD (8 * i); have h1 := h.getD (8 * i + 1); have h2 := h.getD (8 * i + 2); have h3 := h.getD (8 * i + 3)
  have h4 := h.getD (8 * i + 4); have h5 := h.getD (8 * i + 5); have h6 := h.getD (8 * i + 6); have h7 := h.getD (8 * i + 7)
  unfold byt
  simp only [byN, Nat.add_zero]
  omega
theorem packBits_in {F : Nat} {rec98 : (Int × List Int) → Option (Int × List Int)} {l o : List Int} (hl : Bit l) {i : Nat} (hm : i ≤ 100000) (hlm : l.length ≤ 100000) : ∀ (k j : Nat), 8 < k + j → j ≤ 8 →
    M_R_PackBits_l116 F rec98 l (i : Int) o k ((byN l i j : Nat), (j : Int)) = M_R_PackBits_j113 F rec98 (i : Int) o ((byN l i 8 : Nat) : Int)
  | 0, _, _, _ => by omega
  | k + 1, j, h, hj => by
    show M_R_PackBits_b116 F rec98 l (i : Int) o (M_R_PackBits_l116 F rec98 l (i : Int) o k) ((byN l i j : Nat) : Int) (j : Int) = _
    unfold M_R_PackBits_b116
    by_cases hlt : j < 8
    · have hb := byN_lt hl i j
      have hp : 2 ^ j ≤ 2 ^ 8 := Nat.pow_le_pow_right (by decide) hj
      rw [show 2 ^ 8 = 256 from by decide] at hp
      rw [if_pos (by simp; omega), iadd_n (by omega)]
      by_cases h2 : i + j < l.length
      · rw [if_pos (by simp; omega), idx_nat]
        obtain ⟨x, hx, hx2⟩ := bit_n hl h2
        rw [hx]
        simp only [Option.bind_some, M_R_PackBits_j117]
        rw [imul2_n (by omega), iadd_n (by omega), iadd1_n (by omega)]
        have e : 2 * byN l i j + x = byN l i (j + 1) := by
          simp [byN, List.getD, hx]
        rw [e]
        exact packBits_in hl hm hlm k (j + 1) (by omega) (by omega)
      · rw [if_neg (by simp; omega)]
        simp only [M_R_PackBits_j117]
        rw [imul2_n (by omega), iadd1_n (by omega)]
        have e : 2 * byN l i j = byN l i (j + 1) := by
          show _ = 2 * _ + (l.getD (i + j) 0).toNat
          rw [getD_ge (by omega)]; rfl
        rw [e]
        exact packBits_in hl hm hlm k (j + 1) (by omega) (by omega)
    · rw [if_neg (by simp; omega)]
      obtain rfl : j = 8 := by omega
      rfl
theorem packBits_l {F : Nat} (hF : 100 ≤ F) {l : List Int} (hl : Bit l) (hm : l.length ≤ 90000) : ∀ (k i : Nat), (l.length + 7) / 8 < k + i → i ≤ (l.length + 7) / 8 →
    M_R_PackBits_l98 F l k (((8 * i : Nat) : Int), (List.range i).map (byt l)) = some ((l.length : Int), pk l)
  | 0, _, _, _ => by omega
  | k + 1, i, h, hi => by
    show M_R_PackBits_b98 F l (M_R_PackBits_l98 F l k) ((8 * i : Nat) : Int) ((List.range i).map (byt l)) = _
    unfold M_R_PackBits_b98
    by_cases hlt : 8 * i < l.length
    · rw [if_pos (by simp; omega)]
      have := packBits_in (F := F) (rec98 := M_R_PackBits_l98 F l k) (o := (List.range i).map (byt l)) hl (i := 8 * i) (by omega) (by omega) F 0 (by omega) (by omega)
      rw [show ((byN l (8 * i) 0 : Nat) : Int) = 0 from rfl, show ((0 : Nat) : Int) = 0 from rfl] at this
      rw [this]
      unfold M_R_PackBits_j113
      rw [byN_8 hl]
      have hr := byt_range hl i
      rw [show iconv .u8 (byt l i) = byt l i from wrap_u8 hr.1 hr.2, app_eq (by simp; omega)]
      simp only [Option.bind_some, M_R_PackBits_j108]
      rw [show ((8 : Int)) = ((8 : Nat) : Int) from rfl, iadd_n (by omega), show 8 * i + 8 = 8 * (i + 1) from by omega]
      have e : (List.range i).map (byt l) ++ [byt l i] = (List.range (i + 1)).map (byt l) := by rw [List.range_succ, List.map_append]; rfl
      rw [e]
      exact packBits_l hF hl hm k (i + 1) (by omega) (by omega)
    · rw [if_neg (by simp; omega)]
      obtain rfl : i = (l.length + 7) / 8 := by omega
      rfl
theorem packBits_eq {F : Nat} (hF : 20000 ≤ F) {l : List Int} (hl : Bit l) (hm : l.length ≤ 90000) : M_R_PackBits F l = some ((l.length : Int), pk l) := by
  unfold M_R_PackBits
  exact packBits_l (by omega) hl hm F 0 (by omega) (by omega)
theorem between_eq {F : Nat} {a b c : Int} : M_R_between F a b c = some (decide (b ≤ a ∧ a ≤ c)) := by
  unfold M_R_between
  congr 1
  by_cases h : b ≤ a <;> by_cases h2 : a ≤ c <;> simp [h, h2]
theorem bitsCheck_l {F : Nat} {l : List Int} (hm : l.length ≤ 100000) : ∀ (k i : Nat), l.length < k + i → i ≤ l.length →
    M_R_BitsCheck_l4 F l k (i : Int) = some (if (l.drop i).all (· == 0) then 0 else 1)
  | 0, _, _, _ => by omega
  | k + 1, i, h, hi => by
    show M_R_BitsCheck_b4 F l (M_R_BitsCheck_l4 F l k) (i : Int) = _
    unfold M_R_BitsCheck_b4
    by_cases hlt : i < l.length
    · rw [if_pos (by simp; omega), idx_nat, List.getElem?_eq_getElem hlt, List.drop_eq_getElem_cons hlt, List.all_cons]
      simp only [Option.bind_some]
      by_cases h0 : l[i] = 0
      · rw [h0, if_neg (by simp), iadd1_n (by omega), bitsCheck_l hm k (i + 1) (by omega) (by omega)]
        simp
      · rw [if_pos (by simpa using h0)]
        simp [h0]
    · rw [if_neg (by simp; omega), List.drop_eq_nil_of_le (by omega)]
      rfl
theorem all_low {b : List Int} (hb : U8s b) {m : Nat} (hlen : b.length = (m + 7) / 8) (hr : m % 8 ≠ 0) : ((bl b (8 * ((m + 7) / 8))).drop m).all (· == 0) = decide (b.getD (m / 8) 0 % 2 ^ (8 - m % 8) = 0) := by
  obtain ⟨q, hq⟩ : ∃ q, q = m / 8 := ⟨_, rfl⟩
  obtain ⟨r, hrr⟩ : ∃ r, r = m % 8 := ⟨_, rfl⟩
  have hm : m = 8 * q + r := by omega
  have hx : 0 ≤ b.getD q 0 ∧ b.getD q 0 < 256 := by
    have hlt : q < b.length := by omega
    have := hb b[q] (List.getElem_mem hlt)
    simpa [List.getD, hlt] using this
  have hc : (m + 7) / 8 = q + 1 := by omega
  obtain ⟨c0, c1, c2, c3, c4, c5, c6, c7⟩ := bitAt_8 b q
  have hall : ((bl b (8 * (q + 1))).drop m).all (· == 0) = true ↔ (∀ i, m ≤ i → i < 8 * q + 8 → bitAt b i = 0) := by
    rw [List.all_eq_true]
    constructor
    · intro h i h1 h2
      have hg : ((bl b (8 * (q + 1))).drop m)[i - m]? = some (bitAt b i) := by
        rw [List.getElem?_drop, show m + (i - m) = i from by omega]; exact bl_get (by omega)
      have := h _ (List.mem_of_getElem? hg)
      simpa using this
    · intro h x hx
      obtain ⟨j, hj⟩ := List.getElem?_of_mem hx
      rw [List.getElem?_drop] at hj
      have hjl : m + j < 8 * (q + 1) := by
        have := (List.getElem?_eq_some_iff.1 hj).1; rwa [bl_len] at this
      rw [bl_get hjl] at hj
      rw [← Option.some.inj hj, h _ (by omega) (by omega)]; rfl
  rw [hc, ← hq, ← hrr, Bool.eq_iff_iff, decide_eq_true_iff, hall]
  have hall2 : (∀ i, m ≤ i → i < 8 * q + 8 → bitAt b i = 0) ↔ (∀ j, r ≤ j → j < 8 → bitAt b (8 * q + j) = 0) := by
    constructor
    · intro h j h1 h2; exact h _ (by omega) (by omega)
    · intro h i h1 h2
      have := h (i - 8 * q) (by omega) (by omega)
      rwa [show 8 * q + (i - 8 * q) = i from by omega] at this
  rw [hall2]
  generalize b.getD q 0 = x at *
  have mk : ∀ j, j < 8 → (∀ j', r ≤ j' → j' < 8 → bitAt b (8 * q + j') = 0) → r ≤ j → bitAt b (8 * q + j) = 0 := fun j h1 h h2 => h j h2 h1
  constructor
  · intro h
    have g1 := mk 1 (by omega) h; have g2 := mk 2 (by omega) h; have g3 := mk 3 (by omega) h; have g4 := mk 4 (by omega) h
    have g5 := mk 5 (by omega) h; have g6 := mk 6 (by omega) h; have g7 := mk 7 (by omega) h
    rw [c1] at g1; rw [c2] at g2; rw [c3] at g3; rw [c4] at g4; rw [c5] at g5; rw [c6] at g6; rw [c7] at g7
    clear c0 c1 c2 c3 c4 c5 c6 c7 mk hall hall2 h
    rcases (by omega : r = 1 ∨ r = 2 ∨ r = 3 ∨ r = 4 ∨ r = 5 ∨ r = 6 ∨ r = 7) with h | h | h | h | h | h | h <;> subst h <;> simp only [Nat.reduceSub, Int.reducePow] <;> omega
  · intro h j h1 h2
    clear mk hall hall2
    rcases (by omega : r = 1 ∨ r = 2 ∨ r = 3 ∨ r = 4 ∨ r = 5 ∨ r = 6 ∨ r = 7) with hh | hh | hh | hh | hh | hh | hh <;> subst hh <;> simp only [Nat.reduceSub, Int.reducePow] at h <;>
      rcases (by omega : j = 1 ∨ j = 2 ∨ j = 3 ∨ j = 4 ∨ j = 5 ∨ j = 6 ∨ j = 7) with g | g | g | g | g | g | g <;> subst g <;> first | (exfalso; omega) | (rw [c1]; omega) | (rw [c2]; omega) | (rw [c3]; omega) | (rw [c4]; omega) | (rw [c5]; omega) | (rw [c6]; omega) | (rw [c7]; omega)
theorem bitsCheck_eq {F : Nat} (hF : 20000 ≤ F) {n : Int} {b : List Int} (hb : U8s b) : M_R_BitsCheck F n b = some (chkOf n b) := by
  unfold M_R_BitsCheck chkOf
  rw [between_eq]
  simp only [Option.bind_some]
  by_cases c1 : n < 0 ∨ 8192 < n
  · rw [if_pos (by simp; omega), if_pos c1]
  · rw [if_neg (by simp; omega), if_neg c1]
    obtain ⟨m, rfl⟩ := Int.eq_ofNat_of_zero_le (show 0 ≤ n by omega)
    have hj : ∀ c : Nat, c = (m + 7) / 8 → M_R_BitsCheck_j1 F (m : Int) b (c : Int) = some (if (b.length : Int) ≠ ((m : Int) + 7) / 8 then 1 else if (m : Int) % 8 ≠ 0 ∧ b.getD ((m : Int).toNat / 8) 0 % 2 ^ (8 - (m : Int).toNat % 8) ≠ 0 then 1 else 0) := by
      intro c hc
      unfold M_R_BitsCheck_j1
      by_cases c2 : b.length = c
      · rw [if_neg (by simp [c2]), if_neg (by omega)]
        rw [imul_i64 (by omega) (by omega), show (8 : Int) * (c : Int) = ((8 * c : Nat) : Int) from by omega, bitList_eq hF hb (by omega) (by omega)]
        simp only [Option.bind_some]
        rw [bitsCheck_l (by rw [bl_len]; omega) F m (by rw [bl_len]; omega) (by rw [bl_len]; omega), Int.toNat_natCast]
        by_cases hr : m % 8 = 0
        · rw [List.drop_eq_nil_of_le (by rw [bl_len]; omega), List.all_nil, if_pos rfl, if_neg (by omega)]
        · rw [hc, all_low hb (by omega) hr]
          by_cases hz : b.getD (m / 8) 0 % 2 ^ (8 - m % 8) = 0
          · rw [if_pos (decide_eq_true hz), if_neg (fun h => h.2 hz)]
          · rw [if_neg (by simp only [decide_eq_true_eq]; exact hz), if_pos ⟨by omega, hz⟩]
      · rw [if_pos (by rw [bne_iff_ne]; omega), if_pos (by omega)]
    rw [irem8, iquo8 (by omega)]
    by_cases h8 : 0 < m % 8
    · rw [if_pos (by simp; omega), iadd1_n (by omega)]
      exact hj _ (by omega)
    · rw [if_neg (by simp; omega)]
      exact hj _ (by omega)
theorem bit_drop {l : List Int} (h : Bit l) (i : Nat) : Bit (l.drop i) := fun x hx => h x (List.mem_of_mem_drop hx)
theorem bit_take {l : List Int} (h : Bit l) (i : Nat) : Bit (l.take i) := fun x hx => h x (List.mem_of_mem_take hx)
theorem chk_form {n : Int} {b : List Int} (hb : U8s b) : chkOf n b ≠ 0 ∨ ∃ l : List Int, Bit l ∧ l.length ≤ 8192 ∧ n = (l.length : Int) ∧ b = pk l := by
  by_cases h : chkOf n b = 0
  · obtain ⟨m, rfl, ob⟩ := chkOf_ok h
    exact .inr ⟨bl b m, bl_bit _ _, by rw [bl_len]; exact ob.max, by rw [bl_len], (pk_bl hb ob).symm⟩
  · exact .inl h
theorem chk_pk {l : List Int} (hm : l.length ≤ 8192) : chkOf (l.length : Int) (pk l) = 0 := chkOf_of_ok (ok_pk hm)
theorem jn_form {l k : List Int} (hl : Bit l) (hk : Bit k) (h1 : l.length ≤ 8192) (h2 : k.length ≤ 8192) :
    jn (l.length : Int) (pk l) (k.length : Int) (pk k) = if l.length + k.length ≤ 8192 then (((l ++ k).length : Int), pk (l ++ k), 0) else (0, [], 8) := by
  by_cases h : l.length + k.length ≤ 8192
  · have e : joinOf (l.length : Int) (pk l) (k.length : Int) (pk k) = 0 := by
      unfold joinOf; rw [chk_pk h1, chk_pk h2, if_neg (by simp), if_neg (by simp), if_neg (by omega)]
    unfold jn
    rw [e, if_pos h, if_neg (by simp), Int.toNat_natCast, Int.toNat_natCast, bl_pk hl, bl_pk hk]; simp
  · have e : joinOf (l.length : Int) (pk l) (k.length : Int) (pk k) = 8 := by
      unfold joinOf; rw [chk_pk h1, chk_pk h2, if_neg (by simp), if_neg (by simp), if_pos (by omega)]
    unfold jn
    rw [e, if_neg h, if_pos (by decide)]
theorem ct_form {l : List Int} (hl : Bit l) (h1 : l.length ≤ 8192) {i j : Nat} (hi : i ≤ j) (hj : j ≤ l.length) :
    ct (l.length : Int) (pk l) (i : Int) (j : Int) = ((((l.take j).drop i).length : Int), pk ((l.take j).drop i), 0) := by
  rw [cut_pk hl h1 hi hj]
  simp
  omega
theorem i64_len {l : List Int} (h : l.length ≤ 8192) : I64 (l.length : Int) := ⟨by omega, by omega⟩
theorem pk_len9 {l : List Int} (h : l.length ≤ 8192) : (pk l).length ≤ 9223372036854775807 := by rw [pk_len]; omega
theorem same_self {F : Nat} {n : Int} {xs : List Int} (hF : xs.length < F) (hm : xs.length ≤ 1000000) : M_R_SameBits F n xs n xs = some true := by
  rw [sameBits_eq hF (by omega)]; simp
theorem pk_inj {l k : List Int} (hl : Bit l) (hk : Bit k) (h : l.length = k.length) (e : pk l = pk k) : l = k := by
  rw [← bl_pk hl, ← bl_pk hk, h, e]
theorem sameNums_l (F : Nat) (xs ys : List Int) : ∀ k, M_R_SameNums_l3 F xs ys k = M_R_SameBytes_l3 F xs ys k
  | 0 => rfl
  | k + 1 => by
    funext i
    show M_R_SameNums_b3 F xs ys (M_R_SameNums_l3 F xs ys k) i = M_R_SameBytes_b3 F xs ys (M_R_SameBytes_l3 F xs ys k) i
    rw [sameNums_l F xs ys k]; rfl
theorem sameNums_same (F : Nat) (xs ys : List Int) : M_R_SameNums F xs ys = M_R_SameBytes F xs ys := by
  unfold M_R_SameNums M_R_SameBytes; rw [sameNums_l]
def un (n : Nat) : List Int := List.replicate n 0 ++ [1]
theorem un_len (n : Nat) : (un n).length = n + 1 := by simp [un]
theorem bit_rep (n : Nat) : Bit (List.replicate n 0) := by intro x hx; left; exact (List.mem_replicate.1 hx).2
theorem bit_one : Bit [1] := by intro x hx; right; simpa using hx
theorem un_bit (n : Nat) : Bit (un n) := bit_app (bit_rep n) bit_one
theorem pk_rep (n : Nat) : pk (List.replicate n 0) = List.replicate ((n + 7) / 8) 0 := by
  unfold pk
  rw [List.length_replicate]
  apply List.ext_getElem?
  intro k
  by_cases hk : k < (n + 7) / 8
  · have hz : ∀ i, (List.replicate n (0 : Int)).getD i 0 = 0 := by
      intro i
      by_cases h : i < n
      · simp [List.getD, h]
      · exact getD_ge (by simp; omega)
    rw [List.getElem?_map, List.getElem?_range hk, List.getElem?_replicate, if_pos hk]
    simp only [Option.map_some, byt, hz]
    rfl
  · rw [List.getElem?_eq_none (by simpa using hk), List.getElem?_eq_none (by simpa using hk)]
theorem add_pk {F : Nat} {n w : Nat} {l : List Int} (hn : n < 18446744073709551616) (hF : w < F) (hl : Bit l) (hm : l.length ≤ 8192) (hw : w ≤ 10000) :
    M_bits_Add F (l.length : Int) (pk l) (n : Int) (w : Int) = some (((l ++ nb n w).length : Int), pk (l ++ nb n w)) := by
  rw [add_eq hn hF (pk_u8 hl) (ok_pk hm) hw, bl_pk hl, List.length_append, nb_len]
theorem raw_eq {F n : Nat} (hF : 20000 ≤ F) (hn : n < 8192) : M_unary_Raw F (n : Int) = some (((un n).length : Int), pk (un n)) := by
  unfold M_unary_Raw
  have e : iquo .u64 (iadd .u64 (n : Int) 7) 8 = (((n + 7) / 8 : Nat) : Int) := by
    unfold iquo iadd
    rw [wrap_u64 (n := (n : Int) + 7) (by omega) (by omega), Int.tdiv_eq_ediv_of_nonneg (by omega), wrap_u64 (by omega) (by omega)]
    omega
  rw [e]
  have hmk : mk 140737488355328 (0 : Int) (((n + 7) / 8 : Nat) : Int) = some (pk (List.replicate n 0)) := by
    unfold mk
    rw [if_pos (by omega), Int.toNat_natCast, pk_rep]
  rw [hmk]
  simp only [Option.bind_some]
  rw [iconv_i64_n (by omega)]
  have h := add_pk (F := F) (n := 1) (w := 1) (l := List.replicate n 0) (by decide) (by omega) (bit_rep n) (by simp; omega) (by decide)
  rw [List.length_replicate] at h
  rw [show ((1 : Nat) : Int) = 1 from rfl] at h
  rw [h]
  rfl
def uc (n : Int) : Int × List Int × Int := if 8192 ≤ n then (0, [], 3) else (((un n.toNat).length : Int), pk (un n.toNat), 0)
theorem uc_form {n : Nat} (h : n < 8192) : uc (n : Int) = (((un n).length : Int), pk (un n), 0) := by unfold uc; rw [if_neg (by omega), Int.toNat_natCast]
theorem uc_big {n : Int} (h : 8192 ≤ n) : uc n = (0, [], 3) := by unfold uc; rw [if_pos h]
theorem code_eq {F : Nat} (hF : 20000 ≤ F) {n : Int} (hn : U64 n) : M_unary_Code F n = some (uc n) := by
  unfold M_unary_Code
  by_cases h : 8192 ≤ n
  · rw [if_pos (by simpa using h), uc_big h]
  · obtain ⟨n, rfl⟩ := Int.eq_ofNat_of_zero_le hn.1
    rw [if_neg (by simpa using h), raw_eq hF (by omega), uc_form (by omega)]
    rfl
/-- How many noughts are ahead of the first 1. -/
def fz : List Int → Option Nat
  | [] => none
  | x :: l => if x = 1 then some 0 else (fz l).map (· + 1)
theorem fz_un (n : Nat) (r : List Int) : fz (un n ++ r) = some n := by
  induction n with
  | zero => simp [un, fz]
  | succ n ih =>
    have : un (n + 1) ++ r = 0 :: (un n ++ r) := by simp [un, List.replicate_succ]
    rw [this, fz, if_neg (by decide), ih]; rfl
theorem fz_some {l : List Int} (hl : Bit l) {n : Nat} (h : fz l = some n) : l = un n ++ l.drop (n + 1) := by
  induction l generalizing n with
  | nil => simp [fz] at h
  | cons x l ih =>
    unfold fz at h
    split at h
    · rename_i hx
      simp at h; subst h; subst hx
      simp [un]
    · rename_i hx
      cases hf : fz l with
      | none => rw [hf] at h; simp at h
      | some m =>
        rw [hf] at h
        simp at h; subst h
        have hx0 : x = 0 := by rcases hl x List.mem_cons_self with h | h; exact h; exact absurd h hx
        have e := ih (fun y hy => hl y (List.mem_cons_of_mem _ hy)) hf
        have e2 : un (m + 1) = 0 :: un m := by simp [un, List.replicate_succ]
        rw [hx0, List.drop_succ_cons, e2, List.cons_append, ← e]
theorem fz_lt {l : List Int} {n : Nat} (h : fz l = some n) : n < l.length := by
  induction l generalizing n with
  | nil => simp [fz] at h
  | cons x l ih =>
    unfold fz at h
    split at h
    · simp at h; subst h; simp
    · cases hf : fz l with
      | none => rw [hf] at h; simp at h
      | some m => rw [hf] at h; simp at h; subst h; have := ih hf; simp; omega
theorem at_pk {F : Nat} {m : Int} {l : List Int} (hl : Bit l) (hm : l.length ≤ 90000) {i : Nat} (hi : i < l.length) : M_bits_At F m (pk l) (i : Int) = some l[i] := by
  rw [at_eq (pk_u8 hl) (by rw [pk_len]; omega) (by omega), bitAt_pk hl hi]
  simp [List.getD, hi]
theorem from_l {F : Nat} {l : List Int} (hl : Bit l) (hm : l.length ≤ 8192) (a : Nat) : ∀ (k i : Nat), l.length < k + i → i ≤ l.length → a ≤ i →
    M_unary_From_l3 F (l.length : Int) (pk l) (a : Int) k (i : Int) = some (match fz (l.drop i) with | none => (0, 0, false) | some n => (((i - a + n : Nat) : Int), ((i + n + 1 : Nat) : Int), true))
  | 0, _, _, _, _ => by omega
  | k + 1, i, h, hi, ha => by
    show M_unary_From_b3 F (l.length : Int) (pk l) (a : Int) (M_unary_From_l3 F (l.length : Int) (pk l) (a : Int) k) (i : Int) = _
    unfold M_unary_From_b3
    by_cases hlt : i < l.length
    · rw [if_pos (by simp; omega), at_pk hl (by omega) hlt, List.drop_eq_getElem_cons hlt, fz]
      simp only [Option.bind_some]
      by_cases h1 : l[i] = 1
      · rw [if_pos (by simpa using h1), if_pos h1, isub_n ha (by omega), iconv_u64_n (by omega), iadd1_n (by omega)]
        rfl
      · rw [if_neg (by simpa using h1), if_neg h1, iadd1_n (by omega), from_l hl hm a k (i + 1) (by omega) (by omega) (by omega)]
        cases fz (l.drop (i + 1)) with
        | none => rfl
        | some n =>
          simp only [Option.map_some]
          rw [show i + 1 - a + n = i - a + (n + 1) from by omega, show i + 1 + n + 1 = i + (n + 1) + 1 from by omega]
    · rw [if_neg (by simp; omega), List.drop_eq_nil_of_le (by omega)]
      rfl
theorem from_eq {F : Nat} (hF : 20000 ≤ F) {l : List Int} (hl : Bit l) (hm : l.length ≤ 8192) {a : Nat} (ha : a ≤ l.length) :
    M_unary_From F (l.length : Int) (pk l) (a : Int) = some (match fz (l.drop a) with | none => (0, 0, false) | some n => ((n : Int), ((a + n + 1 : Nat) : Int), true)) := by
  unfold M_unary_From
  have := from_l (F := F) hl hm a F a (by omega) ha (by omega)
  rw [this]
  cases fz (l.drop a) with
  | none => rfl
  | some n => simp only; rw [Nat.sub_self, Nat.zero_add]
/-- What is wrong with bits, and a place. -/
def raOf (m : Int) (b : List Int) (a : Int) : Int := if chkOf m b ≠ 0 then chkOf m b else if a < 0 ∨ m < a then 3 else 0
theorem ra_bad {m a : Int} {b : List Int} (h : chkOf m b ≠ 0) : raOf m b a = chkOf m b := by unfold raOf; rw [if_pos h]
theorem ra_range {l : List Int} {a : Int} (h1 : l.length ≤ 8192) (h : ¬ (0 ≤ a ∧ a ≤ (l.length : Int))) : raOf (l.length : Int) (pk l) a = 3 := by
  unfold raOf; rw [if_neg (by simp [chk_pk h1]), if_pos (by omega)]
theorem ra_form {l : List Int} {a : Nat} (h1 : l.length ≤ 8192) (h : a ≤ l.length) : raOf (l.length : Int) (pk l) (a : Int) = 0 := by
  unfold raOf; rw [if_neg (by simp [chk_pk h1]), if_neg (by omega)]
theorem ra_cases {m a : Int} {b : List Int} (hb : U8s b) : raOf m b a ≠ 0 ∨ ∃ (l : List Int) (i : Nat), Bit l ∧ l.length ≤ 8192 ∧ m = (l.length : Int) ∧ b = pk l ∧ a = (i : Int) ∧ i ≤ l.length := by
  rcases chk_form hb (n := m) with h | ⟨l, hl, hm, rfl, rfl⟩
  · left; rw [ra_bad h]; exact h
  · by_cases h : 0 ≤ a ∧ a ≤ (l.length : Int)
    · obtain ⟨i, rfl⟩ := Int.eq_ofNat_of_zero_le h.1
      exact .inr ⟨l, i, hl, hm, rfl, rfl, rfl, by omega⟩
    · left; rw [ra_range hm h]; decide
theorem readErr_eq {F : Nat} (hF : 20000 ≤ F) {m a : Int} {b : List Int} (hb : U8s b) : M_R_ReadErr F m b a = some (raOf m b a) := by
  unfold M_R_ReadErr raOf
  rw [bitsCheck_eq hF hb]
  simp only [Option.bind_some]
  by_cases h1 : chkOf m b = 0
  · rw [if_pos (by simpa using h1), if_neg (by simp [h1]), between_eq]
    simp only [Option.bind_some, M_R_ReadErr_j3, M_R_ReadErr_j2]
    by_cases h : a < 0 ∨ m < a
    · rw [if_pos h, if_pos (by simp; omega)]
    · rw [if_neg h, if_neg (by simp; omega), h1]
  · rw [if_neg (by simpa using h1), if_pos h1]
    rfl
def ur (m : Int) (b : List Int) (a : Int) : Int × Int × Int :=
  if raOf m b a ≠ 0 then (0, 0, raOf m b a) else match fz ((bl b m.toNat).drop a.toNat) with | none => (0, 0, 7) | some n => ((n : Int), a + n + 1, 0)
theorem ur_form {l : List Int} (hl : Bit l) {a : Nat} (h1 : l.length ≤ 8192) (h : a ≤ l.length) : ur (l.length : Int) (pk l) (a : Int) = match fz (l.drop a) with | none => (0, 0, 7) | some n => ((n : Int), (a : Int) + n + 1, 0) := by
  unfold ur; rw [ra_form h1 h, if_neg (by simp), Int.toNat_natCast, Int.toNat_natCast, bl_pk hl]
theorem ur_bad {m a : Int} {b : List Int} (h : raOf m b a ≠ 0) : ur m b a = (0, 0, raOf m b a) := by unfold ur; rw [if_pos h]
theorem uread_eq {F : Nat} (hF : 20000 ≤ F) {m a : Int} {b : List Int} (hb : U8s b) (hm : I64 m) (lb : b.length ≤ 9223372036854775807) : M_unary_Read F m b a = some (ur m b a) := by
  unfold M_unary_Read
  rw [check_eq hb hm.1 hm.2 lb]
  simp only [Option.bind_some]
  rcases chk_form hb (n := m) with h1 | ⟨l, hl, hlm, rfl, rfl⟩
  · have e := ra_bad (a := a) h1
    have hb3 : (chkOf m b != 0) = true := by simpa using h1
    rw [if_neg (by simpa using h1), ur_bad (by rw [e]; exact h1), e]
    simp only [M_unary_Read_j3, M_unary_Read_j2, Bool.false_eq_true, if_false, hb3, if_true]
  · rw [chk_pk hlm, if_pos (by rfl)]
    by_cases h : 0 ≤ a ∧ a ≤ (l.length : Int)
    · obtain ⟨a, rfl⟩ := Int.eq_ofNat_of_zero_le h.1
      rw [ur_form hl hlm (by omega)]
      rw [show (decide ((a : Int) < 0) || decide ((l.length : Int) < (a : Int))) = false from by simp; omega]
      simp only [M_unary_Read_j3, M_unary_Read_j2, Bool.false_eq_true, if_false, bne_self_eq_false]
      rw [from_eq hF hl hlm (by omega)]
      cases fz (l.drop a) with
      | none => rfl
      | some n => simp
    · have e := ra_range hlm h
      rw [ur_bad (by rw [e]; decide), e]
      rw [show (decide (a < 0) || decide ((l.length : Int) < a)) = true from by simp; omega]
      rfl
def uns (l : List Int) : List Int := l.flatMap fun x => un x.toNat
def tot (l : List Int) : Nat := (uns l).length
def big (l : List Int) : Bool := l.any fun x => decide (8192 ≤ x)
theorem uns_cons (x : Int) (l : List Int) : uns (x :: l) = un x.toNat ++ uns l := rfl
theorem uns_app (l k : List Int) : uns (l ++ k) = uns l ++ uns k := by unfold uns; rw [List.flatMap_append]
theorem uns_bit (l : List Int) : Bit (uns l) := by
  induction l with
  | nil => intro x hx; simp [uns] at hx
  | cons x l ih => rw [uns_cons]; exact bit_app (un_bit _) ih
theorem tot_cons (x : Int) (l : List Int) : tot (x :: l) = x.toNat + 1 + tot l := by unfold tot; rw [uns_cons, List.length_append, un_len]
theorem tot_app (l k : List Int) : tot (l ++ k) = tot l + tot k := by unfold tot; rw [uns_app, List.length_append]
theorem tot_len (l : List Int) : l.length ≤ tot l := by
  induction l with
  | nil => simp
  | cons x l ih => rw [tot_cons]; simp; omega
theorem both_pk {F : Nat} (hF : 20000 ≤ F) {l k : List Int} (hl : Bit l) (hk : Bit k) (h1 : l.length ≤ 8192) (h2 : k.length ≤ 8192) :
    M_bits_Both F (l.length : Int) (pk l) (k.length : Int) (pk k) = some (((l ++ k).length : Int), pk (l ++ k)) := by
  rw [both_eq hF (pk_u8 hl) (pk_u8 hk) (ok_pk h1) (ok_pk h2), bl_pk hl, bl_pk hk, List.length_append]
def um (l : List Int) : Int × List Int × Int := if big l then (0, [], 3) else if 8192 < tot l then (0, [], 8) else (((uns l).length : Int), pk (uns l), 0)
def N64 (l : List Int) : Prop := ∀ x ∈ l, 0 ≤ x ∧ x < 18446744073709551616
theorem big_mem {l : List Int} (h : big l = false) {x : Int} (hx : x ∈ l) : x < 8192 := by
  unfold big at h
  rw [List.any_eq_false] at h
  have := h x hx
  simpa using this
theorem big_cons (x : Int) (l : List Int) : big (x :: l) = (decide (8192 ≤ x) || big l) := rfl
theorem many_l2 {F : Nat} (hF : 20000 ≤ F) {l : List Int} (hn : N64 l) (hb : big l = false) (ht : tot l ≤ 8192) (hlen : l.length ≤ 100000) : ∀ (k i : Nat), l.length < k + i → i ≤ l.length →
    M_unary_Many_l5 F l k ((i : Int), ((uns (l.take i)).length : Int), pk (uns (l.take i))) = some (((uns l).length : Int), pk (uns l), 0)
  | 0, _, _, _ => by omega
  | k + 1, i, h, hi => by
    show M_unary_Many_b5 F l (M_unary_Many_l5 F l k) (i : Int) ((uns (l.take i)).length : Int) (pk (uns (l.take i))) = _
    unfold M_unary_Many_b5
    by_cases hlt : i < l.length
    · rw [if_pos (by simp; omega), idx_nat, List.getElem?_eq_getElem hlt]
      simp only [Option.bind_some]
      have hx := hn _ (List.getElem_mem hlt)
      have hx2 := big_mem hb (List.getElem_mem hlt)
      have htk : l.take (i + 1) = l.take i ++ [l[i]] := by rw [List.take_add_one, List.getElem?_eq_getElem hlt]; rfl
      have hT : tot l = tot (l.take (i + 1)) + tot (l.drop (i + 1)) := by rw [← tot_app, List.take_append_drop]
      have hT2 : tot (l.take (i + 1)) = tot (l.take i) + (l[i].toNat + 1) := by rw [htk, tot_app, tot_cons]; simp [tot, uns]
      have hT3 : (uns (l.take i)).length = tot (l.take i) := rfl
      obtain ⟨x, hxe⟩ := Int.eq_ofNat_of_zero_le hx.1
      have hun : uns (l.take (i + 1)) = uns (l.take i) ++ un x := by rw [htk, uns_app, uns_cons, hxe]; simp [uns]
      rw [hxe, Int.toNat_natCast] at hT2
      rw [hxe, raw_eq hF (by omega)]
      simp only [Option.bind_some]
      rw [both_pk hF (uns_bit _) (un_bit _) (by omega) (by rw [un_len]; omega), ← hun]
      simp only [Option.bind_some]
      rw [iadd1_n (by omega)]
      exact many_l2 hF hn hb ht hlen k (i + 1) (by omega) (by omega)
    · rw [if_neg (by simp; omega)]
      obtain rfl : i = l.length := by omega
      rw [List.take_length]; rfl
theorem many_l1 {F : Nat} (hF : 20000 ≤ F) {l : List Int} (hn : N64 l) (hm : l.length ≤ 9223372036854775807) : ∀ (k i a : Nat), l.length < k + i → i ≤ l.length → a ≤ 8193 →
    M_unary_Many_l6 F l k ((a : Int), (i : Int)) = if big (l.drop i) then some (0, [], 3) else M_unary_Many_j2 F l ((min (a + tot (l.drop i)) 8193 : Nat) : Int)
  | 0, _, _, _, _, _ => by omega
  | k + 1, i, a, h, hi, ha => by
    show M_unary_Many_b6 F l (M_unary_Many_l6 F l k) (a : Int) (i : Int) = _
    unfold M_unary_Many_b6
    by_cases hlt : i < l.length
    · rw [if_pos (by simp; omega), idx_nat, List.getElem?_eq_getElem hlt, List.drop_eq_getElem_cons hlt, big_cons, tot_cons]
      simp only [Option.bind_some]
      by_cases hb : 8192 ≤ l[i]
      · rw [if_pos (by simpa using hb), if_pos (by simp [hb])]
      · have hx := hn _ (List.getElem_mem hlt)
        obtain ⟨x, hxe⟩ := Int.eq_ofNat_of_zero_le hx.1
        rw [if_neg (by simpa using hb), decide_eq_false hb, Bool.false_or]
        simp only [lett]
        have e : imin (iadd .u64 (iadd .u64 (a : Int) l[i]) 1) 8193 = ((min (a + (x + 1)) 8193 : Nat) : Int) := by
          unfold imin iadd
          rw [hxe, wrap_u64 (n := (a : Int) + (x : Int)) (by omega) (by omega), wrap_u64 (by omega) (by omega)]
          split <;> omega
        rw [e, iadd1_n (by omega), many_l1 hF hn hm k (i + 1) _ (by omega) (by omega) (by omega)]
        rw [hxe, Int.toNat_natCast]
        rw [show min (min (a + (x + 1)) 8193 + tot (l.drop (i + 1))) 8193 = min (a + (x + 1 + tot (l.drop (i + 1)))) 8193 from by omega]
    · rw [if_neg (by simp; omega), List.drop_eq_nil_of_le (by omega)]
      rw [if_neg (by simp [big])]
      simp only [tot, uns, List.flatMap_nil, List.length_nil, Nat.add_zero]
      rw [Nat.min_eq_left ha]
theorem many_eq {F : Nat} {l : List Int} (hF : 20000 ≤ F) (hFl : l.length < F) (hn : N64 l) (hm : l.length ≤ 9223372036854775807) : M_unary_Many F l = some (um l) := by
  unfold M_unary_Many
  have := many_l1 hF hn hm F 0 0 (by omega) (by omega) (by omega)
  rw [List.drop_zero, Nat.zero_add] at this
  rw [show (((0 : Nat) : Int), ((0 : Nat) : Int)) = ((0 : Int), (0 : Int)) from rfl] at this
  rw [this]
  unfold um
  by_cases hb : big l = true
  · rw [if_pos hb, if_pos hb]
  · rw [if_neg hb, if_neg hb]
    unfold M_unary_Many_j2
    by_cases h : 8192 < tot l
    · rw [if_pos (by simp; omega), if_pos h]
    · have := tot_len l
      rw [if_neg (by simp; omega), if_neg h]
      have := many_l2 hF hn (by simpa using hb) (by omega) (by omega) F 0 (by omega) (by omega)
      rw [List.take_zero] at this
      exact this
/-- So many numbers of a list of bits, and what is left. -/
def ra : Nat → List Int → Option (List Int × List Int)
  | 0, l => some ([], l)
  | k + 1, l => (fz l).bind fun n => (ra k (l.drop (n + 1))).map fun p => ((n : Int) :: p.1, p.2)
theorem ra_len : ∀ (k : Nat) (l : List Int) {ns r : List Int}, ra k l = some (ns, r) → ns.length = k ∧ r.length ≤ l.length ∧ r = l.drop (l.length - r.length)
  | 0, l, ns, r, h => by simp [ra] at h; obtain ⟨rfl, rfl⟩ := h; simp
  | k + 1, l, ns, r, h => by
    unfold ra at h
    cases hf : fz l with
    | none => rw [hf] at h; simp at h
    | some n =>
      rw [hf] at h
      simp only [Option.bind_some] at h
      cases hr : ra k (l.drop (n + 1)) with
      | none => rw [hr] at h; simp at h
      | some p =>
        rw [hr] at h
        simp only [Option.map_some, Option.some.injEq, Prod.mk.injEq] at h
        obtain ⟨h1, h2, h3⟩ := ra_len k (l.drop (n + 1)) (ns := p.1) (r := p.2) hr
        have := fz_lt hf
        rw [List.length_drop] at h2 h3
        rw [← h.1, ← h.2]
        refine ⟨by simp [h1], by omega, ?_⟩
        conv => lhs; rw [h3]
        rw [List.drop_drop]
        congr 1
        omega
def uaOf (m : Int) (b : List Int) (k : Int) : Int := if chkOf m b ≠ 0 then chkOf m b else if k < 0 ∨ 8192 < k then 3 else 0
def uaR (l : List Int) (k : Nat) : List Int × Int × Int := match ra k l with | none => ([], 0, 7) | some p => (p.1, ((l.length - p.2.length : Nat) : Int), 0)
def ua (m : Int) (b : List Int) (k : Int) : List Int × Int × Int := if uaOf m b k ≠ 0 then ([], 0, uaOf m b k) else uaR (bl b m.toNat) k.toNat
theorem uaOf_bad {m k : Int} {b : List Int} (h : chkOf m b ≠ 0) : uaOf m b k = chkOf m b := by unfold uaOf; rw [if_pos h]
theorem uaOf_range {l : List Int} {k : Int} (h1 : l.length ≤ 8192) (h : ¬ (0 ≤ k ∧ k ≤ 8192)) : uaOf (l.length : Int) (pk l) k = 3 := by
  unfold uaOf; rw [if_neg (by simp [chk_pk h1]), if_pos (by omega)]
theorem uaOf_form {l : List Int} {k : Nat} (h1 : l.length ≤ 8192) (h : k ≤ 8192) : uaOf (l.length : Int) (pk l) (k : Int) = 0 := by
  unfold uaOf; rw [if_neg (by simp [chk_pk h1]), if_neg (by omega)]
theorem ua_form {l : List Int} (hl : Bit l) {k : Nat} (h1 : l.length ≤ 8192) (h : k ≤ 8192) : ua (l.length : Int) (pk l) (k : Int) = uaR l k := by
  unfold ua; rw [uaOf_form h1 h, if_neg (by simp), Int.toNat_natCast, Int.toNat_natCast, bl_pk hl]
theorem ua_bad {m k : Int} {b : List Int} (h : uaOf m b k ≠ 0) : ua m b k = ([], 0, uaOf m b k) := by unfold ua; rw [if_pos h]
theorem all_l {F : Nat} (hF : 20000 ≤ F) {l : List Int} (hl : Bit l) (hlm : l.length ≤ 8192) : ∀ (k m a : Nat) (out : List Int), m + 1 < k → a ≤ l.length → out.length + m ≤ 10000 →
    M_unary_All_l15 F (l.length : Int) (pk l) k ((m : Int), out, (a : Int), 0) = some (match ra m (l.drop a) with | none => ([], 0, 7) | some p => (out ++ p.1, ((l.length - p.2.length : Nat) : Int), 0))
  | 0, _, _, _, _, _, _ => by omega
  | k + 1, 0, a, out, h, ha, _ => by
    show M_unary_All_b15 F (l.length : Int) (pk l) _ ((0 : Nat) : Int) out (a : Int) 0 = _
    unfold M_unary_All_b15
    rw [if_neg (by simp)]
    simp only [ra, List.append_nil, List.length_drop]
    rw [show l.length - (l.length - a) = a from by omega]
    rfl
  | k + 1, m + 1, a, out, h, ha, ho => by
    show M_unary_All_b15 F (l.length : Int) (pk l) (M_unary_All_l15 F (l.length : Int) (pk l) k) ((m + 1 : Nat) : Int) out (a : Int) 0 = _
    unfold M_unary_All_b15
    rw [if_pos (by simp), from_eq hF hl hlm ha]
    simp only [Option.bind_some]
    unfold ra
    cases hf : fz (l.drop a) with
    | none =>
      simp only [Bool.not_false, if_true, Option.bind_none, M_unary_All_j17]
      rw [app_eq (by simp; omega)]
      simp only [Option.bind_some]
      obtain ⟨k, rfl⟩ : ∃ k', k = k' + 1 := ⟨k - 1, by omega⟩
      show M_unary_All_b15 F (l.length : Int) (pk l) _ _ _ 0 7 = _
      unfold M_unary_All_b15
      rw [if_neg (by simp)]
      rfl
    | some n =>
      have hn := fz_lt hf
      rw [List.length_drop] at hn
      simp only [Bool.not_true, Bool.false_eq_true, if_false, Option.bind_some, M_unary_All_j17]
      rw [app_eq (by simp; omega)]
      simp only [Option.bind_some]
      rw [isub1_n (by omega) (by omega), Nat.add_sub_cancel, all_l hF hl hlm k m (a + n + 1) (out ++ [(n : Int)]) (by omega) (by omega) (by simp; omega)]
      rw [List.drop_drop, show a + (n + 1) = a + n + 1 from by omega]
      cases ra m (l.drop (a + n + 1)) with
      | none => rfl
      | some p => simp
theorem all_eq {F : Nat} (hF : 20000 ≤ F) {m k : Int} {b : List Int} (hb : U8s b) (hm : I64 m) (lb : b.length ≤ 9223372036854775807) : M_unary_All F m b k = some (ua m b k) := by
  unfold M_unary_All
  rw [check_eq hb hm.1 hm.2 lb]
  simp only [Option.bind_some]
  have hE : ∀ e : Int, ∀ x : Int, e ≠ 0 → M_unary_All_j2 F m b x e = some ([], 0, e) := by
    intro e x he
    unfold M_unary_All_j2
    obtain ⟨G, rfl⟩ : ∃ G, F = G + 1 := ⟨F - 1, by omega⟩
    show M_unary_All_b15 (G + 1) m b _ x [] 0 e = _
    unfold M_unary_All_b15
    have h1 : (e == 0) = false := by simpa using he
    rw [h1]
    simp only [Bool.false_and, Bool.false_eq_true, if_false, M_unary_All_j10]
    rw [if_pos (by simpa using he)]
  rcases chk_form hb (n := m) with h1 | ⟨l, hl, hlm, rfl, rfl⟩
  · have e := uaOf_bad (k := k) h1
    rw [if_neg (by simpa using h1), ua_bad (by rw [e]; exact h1), e]
    simp only [M_unary_All_j18, Bool.false_eq_true, if_false]
    exact hE _ _ h1
  · rw [chk_pk hlm, if_pos (by rfl)]
    by_cases h : 0 ≤ k ∧ k ≤ 8192
    · obtain ⟨k, rfl⟩ := Int.eq_ofNat_of_zero_le h.1
      rw [ua_form hl hlm (by omega)]
      rw [show (decide ((k : Int) < 0) || decide (8192 < (k : Int))) = false from by simp; omega]
      simp only [M_unary_All_j18, Bool.false_eq_true, if_false, M_unary_All_j2]
      have := all_l hF hl hlm F k 0 [] (by omega) (by omega) (by simp; omega)
      rw [List.drop_zero] at this
      rw [show ((0 : Nat) : Int) = 0 from rfl] at this
      rw [this]
      unfold uaR
      cases ra k l with
      | none => rfl
      | some p => simp
    · have e := uaOf_range hlm h
      rw [ua_bad (by rw [e]; decide), e]
      rw [show (decide (k < 0) || decide (8192 < k)) = true from by simp; omega]
      simp only [M_unary_All_j18, if_true]
      exact hE _ _ (by decide)
theorem unaryList_l {F n : Nat} (hn : n ≤ 100000) : ∀ (k i : Nat), n < k + i → i ≤ n →
    M_R_UnaryList_l3 F (n : Int) k (List.replicate i 0, (i : Int)) = some (un n)
  | 0, _, _, _ => by omega
  | k + 1, i, h, hi => by
    show M_R_UnaryList_b3 F (n : Int) (M_R_UnaryList_l3 F (n : Int) k) (List.replicate i 0) (i : Int) = _
    unfold M_R_UnaryList_b3
    by_cases hlt : i < n
    · rw [if_pos (by simp; omega), app_eq (by simp; omega)]
      simp only [Option.bind_some]
      have e : iadd .u64 (i : Int) 1 = ((i + 1 : Nat) : Int) := by unfold iadd; rw [wrap_u64 (by omega) (by omega)]; omega
      rw [e, ← List.replicate_succ']
      exact unaryList_l hn k (i + 1) (by omega) (by omega)
    · rw [if_neg (by simp; omega)]
      obtain rfl : i = n := by omega
      unfold M_R_UnaryList_j2
      rw [app_eq (by simp; omega)]
      rfl
theorem unaryList_eq {F n : Nat} (hn : n ≤ 100000) (hF : n < F) : M_R_UnaryList F (n : Int) = some (un n) := by
  unfold M_R_UnaryList
  exact unaryList_l hn F 0 (by omega) (by omega)
theorem unaryCode_eq {F : Nat} (hF : 20000 ≤ F) {n : Int} (hn : U64 n) : M_R_UnaryCode F n = some (uc n) := by
  unfold M_R_UnaryCode
  by_cases h : 8192 ≤ n
  · rw [if_pos (by simp; omega), uc_big h]
  · obtain ⟨n, rfl⟩ := Int.eq_ofNat_of_zero_le hn.1
    rw [if_neg (by simp; omega), unaryList_eq (by omega) (by omega), uc_form (by omega)]
    simp only [Option.bind_some]
    rw [packBits_eq hF (un_bit n) (by rw [un_len]; omega)]
    rfl
theorem unaryRead_l {F : Nat} {l : List Int} (hm : l.length ≤ 100000) : ∀ (k i c : Nat), l.length < k + i → i ≤ l.length → c ≤ 200000 - (l.length - i) →
    M_R_UnaryRead_l3 F l k ((c : Int), (i : Int)) = some (match fz (l.drop i) with | none => (0, -1) | some n => (((c + n : Nat) : Int), ((i + n + 1 : Nat) : Int)))
  | 0, _, _, _, _, _ => by omega
  | k + 1, i, c, h, hi, hc => by
    show M_R_UnaryRead_b3 F l (M_R_UnaryRead_l3 F l k) (c : Int) (i : Int) = _
    unfold M_R_UnaryRead_b3
    by_cases hlt : i < l.length
    · rw [if_pos (by simp; omega), idx_nat, List.getElem?_eq_getElem hlt, List.drop_eq_getElem_cons hlt, fz]
      simp only [Option.bind_some]
      by_cases h1 : l[i] = 1
      · rw [if_pos (by simpa using h1), if_pos h1, iadd1_n (by omega)]
        rfl
      · have e : iadd .u64 (c : Int) 1 = ((c + 1 : Nat) : Int) := by unfold iadd; rw [wrap_u64 (by omega) (by omega)]; omega
        rw [if_neg (by simpa using h1), if_neg h1, iadd1_n (by omega), e, unaryRead_l hm k (i + 1) (c + 1) (by omega) (by omega) (by omega)]
        cases fz (l.drop (i + 1)) with
        | none => rfl
        | some n =>
          simp only [Option.map_some]
          rw [show c + 1 + n = c + (n + 1) from by omega, show i + 1 + n + 1 = i + (n + 1) + 1 from by omega]
    · rw [if_neg (by simp; omega), List.drop_eq_nil_of_le (by omega)]
      rfl
theorem unaryRead_eq {F : Nat} {l : List Int} (hm : l.length ≤ 10000) (hF : 20000 ≤ F) {a : Nat} (ha : a ≤ l.length) : M_R_UnaryRead F l (a : Int) = some (match fz (l.drop a) with | none => (0, -1) | some n => ((n : Int), ((a + n + 1 : Nat) : Int))) := by
  unfold M_R_UnaryRead
  have := unaryRead_l (F := F) (l := l) (by omega) F a 0 (by omega) ha (by omega)
  rw [show ((0 : Nat) : Int) = 0 from rfl] at this
  rw [this]
  cases fz (l.drop a) with
  | none => rfl
  | some n => simp only; rw [Nat.zero_add]
theorem rmany_l2 {F : Nat} (hF : 20000 ≤ F) {l : List Int} (hn : N64 l) (hb : big l = false) (ht : tot l ≤ 8192) (hlen : l.length ≤ 100000) : ∀ (k i : Nat), l.length < k + i → i ≤ l.length →
    M_R_UnaryMany_l8 F l k (uns (l.take i), (i : Int)) = some (((uns l).length : Int), pk (uns l), 0)
  | 0, _, _, _ => by omega
  | k + 1, i, h, hi => by
    show M_R_UnaryMany_b8 F l (M_R_UnaryMany_l8 F l k) (uns (l.take i)) (i : Int) = _
    unfold M_R_UnaryMany_b8
    by_cases hlt : i < l.length
    · rw [if_pos (by simp; omega), idx_nat, List.getElem?_eq_getElem hlt]
      simp only [Option.bind_some]
      have hx := hn _ (List.getElem_mem hlt)
      have hx2 := big_mem hb (List.getElem_mem hlt)
      have htk : l.take (i + 1) = l.take i ++ [l[i]] := by rw [List.take_add_one, List.getElem?_eq_getElem hlt]; rfl
      have hT : tot l = tot (l.take (i + 1)) + tot (l.drop (i + 1)) := by rw [← tot_app, List.take_append_drop]
      have hT2 : tot (l.take (i + 1)) = tot (l.take i) + (l[i].toNat + 1) := by rw [htk, tot_app, tot_cons]; simp [tot, uns]
      have hT3 : (uns (l.take i)).length = tot (l.take i) := rfl
      obtain ⟨x, hxe⟩ := Int.eq_ofNat_of_zero_le hx.1
      have hun : uns (l.take (i + 1)) = uns (l.take i) ++ un x := by rw [htk, uns_app, uns_cons, hxe]; simp [uns]
      rw [hxe, Int.toNat_natCast] at hT2
      rw [hxe, unaryList_eq (by omega) (by omega)]
      simp only [Option.bind_some]
      rw [app_eq (by rw [un_len]; omega), ← hun]
      simp only [Option.bind_some]
      rw [iadd1_n (by omega)]
      exact rmany_l2 hF hn hb ht hlen k (i + 1) (by omega) (by omega)
    · rw [if_neg (by simp; omega)]
      obtain rfl : i = l.length := by omega
      rw [List.take_length]
      unfold M_R_UnaryMany_j7
      have : (uns l).length = tot l := rfl
      rw [packBits_eq hF (uns_bit _) (by omega)]
      rfl
theorem rmany_l1 {F : Nat} (hF : 20000 ≤ F) {l : List Int} (hFl : l.length < F) (hn : N64 l) (hm : l.length ≤ 9223372036854775807) : ∀ (k i a : Nat), l.length < k + i → i ≤ l.length → a ≤ 20000 → (big (l.drop i) = false → 8192 < a + tot (l.drop i) ∨ (big l = false ∧ tot l ≤ 8192)) →
    M_R_UnaryMany_l11 F l k ((a : Int), (i : Int)) = if big (l.drop i) then some (0, [], 3) else if 8192 < a + tot (l.drop i) then some (0, [], 8) else some (((uns l).length : Int), pk (uns l), 0)
  | 0, _, _, _, _, _, _ => by omega
  | k + 1, i, a, h, hi, ha, hinv => by
    show M_R_UnaryMany_b11 F l (M_R_UnaryMany_l11 F l k) (a : Int) (i : Int) = _
    unfold M_R_UnaryMany_b11
    by_cases hlt : i < l.length
    · rw [if_pos (by simp; omega), idx_nat, List.getElem?_eq_getElem hlt]
      rw [List.drop_eq_getElem_cons hlt, big_cons, tot_cons] at hinv ⊢
      simp only [Option.bind_some]
      by_cases hb : 8192 ≤ l[i]
      · rw [if_pos (by simp; omega), if_pos (by simp [hb])]
      · have hx := hn _ (List.getElem_mem hlt)
        obtain ⟨x, hxe⟩ := Int.eq_ofNat_of_zero_le hx.1
        rw [decide_eq_false hb, Bool.false_or, hxe, Int.toNat_natCast] at hinv
        rw [if_neg (by simp; omega), decide_eq_false hb, Bool.false_or, hxe, Int.toNat_natCast]
        by_cases h10 : a < 10000
        · rw [if_pos (by simp; omega)]
          simp only [lett]
          rw [iconv_i64_n (by omega), iadd1_n (by omega), iadd_n (by omega)]
          simp only [M_R_UnaryMany_j12]
          rw [iadd1_n (by omega), rmany_l1 hF hFl hn hm k (i + 1) (a + (x + 1)) (by omega) (by omega) (by omega) (by
            intro hbg
            rcases hinv hbg with h | h
            · left; omega
            · exact .inr h)]
          rw [show a + (x + 1) + tot (l.drop (i + 1)) = a + (x + 1 + tot (l.drop (i + 1))) from by omega]
        · rw [if_neg (by simp; omega)]
          simp only [M_R_UnaryMany_j12]
          rw [iadd1_n (by omega), rmany_l1 hF hFl hn hm k (i + 1) a (by omega) (by omega) (by omega) (by intro _; left; omega)]
          by_cases hbg : big (l.drop (i + 1)) = true
          · rw [if_pos hbg, if_pos hbg]
          · rw [if_neg hbg, if_neg hbg, if_pos (by omega), if_pos (by omega)]
    · rw [if_neg (by simp; omega)]
      rw [List.drop_eq_nil_of_le (by omega)] at hinv ⊢
      have ht0 : tot [] = 0 := rfl
      have hb0 : big [] = false := rfl
      rw [hb0, ht0] at hinv ⊢
      rw [if_neg (by simp)]
      unfold M_R_UnaryMany_j5
      by_cases h8 : 8192 < a
      · rw [if_pos (by simp; omega), if_pos (by omega)]
      · rw [if_neg (by simp; omega), if_neg (by omega)]
        rcases hinv rfl with h9 | ⟨h9, h10⟩
        · omega
        · have := tot_len l
          have := rmany_l2 hF hn h9 h10 (by omega) F 0 (by omega) (by omega)
          exact this
theorem unaryMany_eq {F : Nat} {l : List Int} (hF : 20000 ≤ F) (hFl : l.length < F) (hn : N64 l) (hm : l.length ≤ 9223372036854775807) : M_R_UnaryMany F l = some (um l) := by
  unfold M_R_UnaryMany
  have := rmany_l1 hF hFl hn hm F 0 0 (by omega) (by omega) (by omega) (by
    rw [List.drop_zero]; intro hb; by_cases h : tot l ≤ 8192
    · exact .inr ⟨hb, h⟩
    · left; omega)
  rw [List.drop_zero, Nat.zero_add] at this
  rw [show (((0 : Nat) : Int), ((0 : Nat) : Int)) = ((0 : Int), (0 : Int)) from rfl] at this
  rw [this]
  unfold um
  split
  · rfl
  · split <;> rfl
theorem rall_l {F : Nat} (hF : 20000 ≤ F) {l : List Int} (hlm : l.length ≤ 8192) {m : Nat} (hm : m ≤ 8192) : ∀ (k j a : Nat) (out : List Int), j < k → out.length + j = m → a ≤ l.length →
    M_R_UnaryAll_l5 F (m : Int) l k ((a : Int), out) = some (match ra j (l.drop a) with | none => ([], 0, 7) | some p => (out ++ p.1, ((l.length - p.2.length : Nat) : Int), 0))
  | 0, _, _, _, _, _, _ => by omega
  | k + 1, 0, a, out, h, ho, ha => by
    show M_R_UnaryAll_b5 F (m : Int) l _ (a : Int) out = _
    unfold M_R_UnaryAll_b5
    rw [if_neg (by simp; omega)]
    simp only [ra, List.append_nil, List.length_drop]
    rw [show l.length - (l.length - a) = a from by omega]
    rfl
  | k + 1, j + 1, a, out, h, ho, ha => by
    show M_R_UnaryAll_b5 F (m : Int) l (M_R_UnaryAll_l5 F (m : Int) l k) (a : Int) out = _
    unfold M_R_UnaryAll_b5
    rw [if_pos (by simp; omega), unaryRead_eq (by omega) hF ha]
    simp only [Option.bind_some]
    unfold ra
    cases hf : fz (l.drop a) with
    | none => rfl
    | some n =>
      have hn := fz_lt hf
      rw [List.length_drop] at hn
      simp only
      rw [if_neg (by simp; omega), app_eq (by simp; omega)]
      simp only [Option.bind_some]
      rw [rall_l hF hlm hm k j (a + n + 1) (out ++ [(n : Int)]) (by omega) (by simp; omega) (by omega)]
      rw [List.drop_drop, show a + (n + 1) = a + n + 1 from by omega]
      cases ra j (l.drop (a + n + 1)) with
      | none => rfl
      | some p => simp
theorem unaryAll_eq {F : Nat} (hF : 20000 ≤ F) {m k : Int} {b : List Int} (hb : U8s b) : M_R_UnaryAll F m b k = some (ua m b k) := by
  unfold M_R_UnaryAll
  rw [bitsCheck_eq hF hb]
  simp only [Option.bind_some]
  rcases chk_form hb (n := m) with h1 | ⟨l, hl, hlm, rfl, rfl⟩
  · have e := uaOf_bad (k := k) h1
    rw [if_neg (by simpa using h1), ua_bad (by rw [e]; exact h1), e]
    have hb3 : (chkOf m b != 0) = true := by simpa using h1
    simp only [M_R_UnaryAll_j6, M_R_UnaryAll_j2, Bool.false_eq_true, if_false, hb3, if_true]
  · rw [chk_pk hlm, if_pos (by rfl), between_eq]
    simp only [Option.bind_some]
    by_cases h : 0 ≤ k ∧ k ≤ 8192
    · obtain ⟨k, rfl⟩ := Int.eq_ofNat_of_zero_le h.1
      rw [ua_form hl hlm (by omega), decide_eq_true h]
      simp only [M_R_UnaryAll_j6, M_R_UnaryAll_j2, Bool.not_true, Bool.false_eq_true, if_false, bne_self_eq_false]
      rw [bitList_eq hF (pk_u8 hl) (by rw [pk_len]; omega) (by omega), bl_pk hl]
      simp only [Option.bind_some]
      have := rall_l hF (l := l) hlm (m := k) (by omega) F k 0 [] (by omega) (by simp) (by omega)
      rw [List.drop_zero] at this
      rw [show ((0 : Nat) : Int) = 0 from rfl] at this
      rw [this]
      unfold uaR
      cases ra k l with
      | none => rfl
      | some p => simp
    · have e := uaOf_range hlm h
      rw [ua_bad (by rw [e]; decide), e, decide_eq_false h]
      rfl
theorem begun_unary (n : Nat) : M_L_unaryBegun (n + 200) = some true := by kernel_rfl
theorem begun_unary' {F : Nat} (hF : 20000 ≤ F) : M_L_unaryBegun F = some true := by
  obtain ⟨n, rfl⟩ : ∃ n, F = n + 200 := ⟨F - 200, by omega⟩
  exact begun_unary n
theorem same_nums {F : Nat} {xs : List Int} (hF : xs.length < F) (hm : xs.length ≤ 9223372036854775807) : M_R_SameNums F xs xs = some true := by
  rw [sameNums_same, sameBytes_eq hF hm]; simp
theorem um_short {l : List Int} : (um l).2.1.length ≤ 2000 := by
  unfold um
  split
  · simp
  · split
    · simp
    · have : (uns l).length = tot l := rfl
      simp only [pk_len]; omega
theorem uc_short {n : Int} : (uc n).2.1.length ≤ 2000 := by
  unfold uc
  split
  · simp
  · simp only [pk_len, un_len]; omega
theorem ua_short {m k : Int} {b : List Int} : (ua m b k).1.length ≤ 8192 := by
  unfold ua
  split
  · simp
  · rename_i h
    unfold uaOf at h
    unfold uaR
    split
    · simp
    · rename_i p hp
      have := (ra_len _ _ hp).1
      split at h
      · rename_i h1; exact absurd h (by simpa using h1)
      · split at h
        · simp at h
        · simp only; omega
theorem law_tells {n m a k : Int} {b l : List Int} (hn : U64 n) (hb : U8s b) (hm : I64 m) (hl : N64 l) (lb : b.length ≤ 9223372036854775807) (ll : l.length ≤ 9223372036854775807) :
    M_L_UnaryTells (20000 + l.length) n m b a l k = some true := by
  unfold M_L_UnaryTells
  have h0 : 20000 ≤ 20000 + l.length := by omega
  rw [code_eq h0 hn, uread_eq h0 hb hm lb, many_eq h0 (by omega) hl ll, all_eq h0 hb hm lb, unaryCode_eq h0 hn, readErr_eq h0 hb]
  simp only [Option.bind_some]
  have s1 := uc_short (n := n)
  have s2 := um_short (l := l)
  have s3 := ua_short (m := m) (k := k) (b := b)
  have hj : ∀ (e x y : Int), ur m b a = (x, y, e) → M_L_UnaryTells_j1 (20000 + l.length) m b l k (uc n) (ur m b a) (um l) (ua m b k) (uc n) e x y = some true := by
    intro e x y he
    unfold M_L_UnaryTells_j1
    rw [unaryMany_eq h0 (by omega) hl ll, unaryAll_eq h0 hb, begun_unary' h0]
    simp only [Option.bind_some, if_true]
    rw [same_self (by omega) (by omega)]
    simp only [Option.bind_some, M_L_UnaryTells_j2]
    rw [he]
    simp only [beq_self_eq_true, Bool.and_self, if_true]
    rw [same_self (by omega) (by omega)]
    simp only [Option.bind_some, M_L_UnaryTells_j3, beq_self_eq_true, Bool.and_self, if_true]
    rw [same_nums (by omega) (by omega)]
    simp [M_L_UnaryTells_j4]
  rcases ra_cases hb (m := m) (a := a) with h | ⟨x, i, hx, hxm, rfl, rfl, rfl, hi⟩
  · rw [if_neg (by simpa using h)]
    exact hj _ _ _ (ur_bad h)
  · rw [ra_form hxm hi, if_pos (by rfl), bitList_eq h0 (pk_u8 hx) (by rw [pk_len]; omega) (by omega), bl_pk hx]
    simp only [Option.bind_some]
    rw [unaryRead_eq (by omega) h0 hi]
    simp only [Option.bind_some]
    have hu := ur_form hx hxm hi
    cases hf : fz (x.drop i) with
    | none => rw [hf] at hu; exact hj _ _ _ hu
    | some q =>
      rw [hf] at hu
      simp only
      rw [if_neg (by simp; omega)]
      refine hj _ _ _ ?_
      rw [hu, show ((i + q + 1 : Nat) : Int) = (i : Int) + q + 1 from by omega]
theorem law_ucode {n : Int} (hn : U64 n) : M_L_UnaryBack 20000 n = some true := by
  unfold M_L_UnaryBack
  have h0 : 20000 ≤ 20000 := by omega
  rw [code_eq h0 hn, begun_unary' h0]
  simp only [Option.bind_some, Bool.not_true, Bool.false_eq_true, if_false]
  by_cases h : 8192 ≤ n
  · rw [uc_big h, if_pos (by rfl), if_pos (by simpa using h), same_self (by simp) (by simp)]
    rfl
  · obtain ⟨n, rfl⟩ := Int.eq_ofNat_of_zero_le hn.1
    have hl : (un n).length ≤ 8192 := by rw [un_len]; omega
    rw [uc_form (by omega), if_neg (by simp)]
    simp only
    rw [uread_eq h0 (pk_u8 (un_bit n)) (i64_len hl) (pk_len9 hl)]
    have := ur_form (un_bit n) (a := 0) hl (by omega)
    have hz := fz_un n []
    rw [List.append_nil] at hz
    rw [List.drop_zero, hz, show ((0 : Nat) : Int) = 0 from rfl] at this
    rw [this]
    simp only [Option.bind_some]
    rw [un_len, iconv_u64_n (by omega)]
    have e : iadd .u64 (n : Int) 1 = ((n + 1 : Nat) : Int) := by unfold iadd; rw [wrap_u64 (by omega) (by omega)]; omega
    rw [e]
    simp
theorem ra_uns {l : List Int} (hn : N64 l) (r : List Int) : ra l.length (uns l ++ r) = some (l, r) := by
  induction l with
  | nil => rfl
  | cons x l ih =>
    have hx := (hn x List.mem_cons_self).1
    rw [List.length_cons, ra, uns_cons, List.append_assoc, fz_un]
    simp only [Option.bind_some]
    rw [show x.toNat + 1 = (un x.toNat).length from (un_len _).symm, List.drop_left, ih (fun y hy => hn y (List.mem_cons_of_mem _ hy))]
    simp only [Option.map_some]
    rw [Int.toNat_of_nonneg hx]
theorem ra_inv : ∀ (k : Nat) {l ns r : List Int}, Bit l → ra k l = some (ns, r) → l = uns ns ++ r ∧ N64 ns ∨ l.length ≥ 18446744073709551616
  | 0, l, ns, r, _, h => by
    simp [ra] at h; obtain ⟨rfl, rfl⟩ := h
    left; exact ⟨rfl, by intro x hx; simp at hx⟩
  | k + 1, l, ns, r, hl, h => by
    unfold ra at h
    cases hf : fz l with
    | none => rw [hf] at h; simp at h
    | some n =>
      rw [hf] at h
      simp only [Option.bind_some] at h
      cases hr : ra k (l.drop (n + 1)) with
      | none => rw [hr] at h; simp at h
      | some p =>
        rw [hr] at h
        simp only [Option.map_some, Option.some.injEq, Prod.mk.injEq] at h
        have hlt := fz_lt hf
        rcases ra_inv k (bit_drop hl (n + 1)) (ns := p.1) (r := p.2) hr with ⟨h1, h2⟩ | h1
        · by_cases hb : l.length ≥ 18446744073709551616
          · exact .inr hb
          · left
            rw [← h.1, ← h.2]
            refine ⟨?_, ?_⟩
            · conv => lhs; rw [fz_some hl hf, h1]
              rw [uns_cons, Int.toNat_natCast, List.append_assoc]
            · intro x hx
              rcases List.mem_cons.1 hx with rfl | hx
              · omega
              · exact h2 x hx
        · right; rw [List.length_drop] at h1; omega
theorem big_of_tot {l : List Int} (hn : N64 l) (h : tot l ≤ 8192) : big l = false := by
  induction l with
  | nil => rfl
  | cons x l ih =>
    rw [tot_cons] at h
    have hx := (hn x List.mem_cons_self).1
    rw [big_cons, ih (fun y hy => hn y (List.mem_cons_of_mem _ hy)) (by omega), Bool.or_false]
    rw [decide_eq_false]; omega
theorem um_form {l : List Int} (hn : N64 l) (h : tot l ≤ 8192) : um l = (((uns l).length : Int), pk (uns l), 0) := by
  unfold um; rw [big_of_tot hn h, if_neg (by simp), if_neg (by omega)]
theorem um_cases {l : List Int} (hn : N64 l) : (um l = (0, [], 3) ∧ big l = true) ∨ (um l = (0, [], 8) ∧ big l = false ∧ 8192 < tot l) ∨ (um l = (((uns l).length : Int), pk (uns l), 0) ∧ tot l ≤ 8192) := by
  by_cases hb : big l = true
  · left; exact ⟨by unfold um; rw [if_pos hb], hb⟩
  · by_cases h : 8192 < tot l
    · right; left; exact ⟨by unfold um; rw [if_neg hb, if_pos h], by simpa using hb, h⟩
    · right; right; exact ⟨um_form hn (by omega), by omega⟩
theorem law_umany {l b : List Int} {m k : Int} (hn : N64 l) (hb : U8s b) (hm : I64 m) (lb : b.length ≤ 9223372036854775807) (ll : l.length ≤ 9223372036854775807) :
    M_L_UnaryMany (20000 + l.length) l m b k = some true := by
  unfold M_L_UnaryMany
  have h0 : 20000 ≤ 20000 + l.length := by omega
  rw [many_eq h0 (by omega) hn ll, all_eq h0 hb hm lb, begun_unary' h0]
  simp only [Option.bind_some, Bool.not_true, Bool.false_eq_true, if_false]
  rw [begun_bits' h0]
  simp only [Option.bind_some, Bool.not_true, M_L_UnaryMany_j2, Bool.false_eq_true, if_false]
  have hj4 : M_L_UnaryMany_j4 (20000 + l.length) m b (ua m b k) = some true := by
    unfold M_L_UnaryMany_j4
    by_cases hz : uaOf m b k = 0
    · have hc : chkOf m b = 0 := by
        by_cases h : chkOf m b = 0
        · exact h
        · rw [uaOf_bad h] at hz; exact hz
      rcases chk_form hb (n := m) with h | ⟨x, hx, hxm, rfl, rfl⟩
      · exact absurd hc h
      · by_cases hk : 0 ≤ k ∧ k ≤ 8192
        · obtain ⟨k, rfl⟩ := Int.eq_ofNat_of_zero_le hk.1
          rw [ua_form hx hxm (by omega)]
          unfold uaR
          cases hr : ra k x with
          | none => rfl
          | some p =>
            simp only [bne_self_eq_false, Bool.false_eq_true, if_false]
            obtain ⟨e1, e2⟩ : x = uns p.1 ++ p.2 ∧ N64 p.1 := by
              rcases ra_inv k hx (ns := p.1) (r := p.2) hr with h | h
              · exact h
              · omega
            have hlen := (ra_len k x (ns := p.1) (r := p.2) hr).1
            have hxl : x.length = tot p.1 + p.2.length := by
              have h9 := congrArg List.length e1
              rw [List.length_append] at h9
              exact h9
            have htl := tot_len p.1
            by_cases hF : p.1.length < 20000 + l.length
            · rw [many_eq h0 hF e2 (by omega), um_form e2 (by omega)]
              simp only [Option.bind_some]
              have hat : x.length - p.2.length = (uns p.1).length := by show _ = tot p.1; omega
              have hc := ct_form hx hxm (i := 0) (j := x.length - p.2.length) (by omega) (by omega)
              rw [show ((0 : Nat) : Int) = 0 from rfl] at hc
              have ht : (x.take (x.length - p.2.length)).drop 0 = uns p.1 := by
                rw [List.drop_zero, hat]
                conv => lhs; rw [e1]
                exact List.take_left
              rw [cut_eq h0 hb hm lb, hc, ht]
              simp only [Option.bind_some, beq_self_eq_true, Bool.and_self, if_true]
              rw [same_self (by rw [pk_len]; have : (uns p.1).length = tot p.1 := rfl; omega) (by rw [pk_len]; have : (uns p.1).length = tot p.1 := rfl; omega)]
              rfl
            · omega
        · rw [uaOf_range hxm hk] at hz; simp at hz
    · rw [ua_bad hz, if_pos (by simpa using hz)]
      simp
  rcases um_cases hn with ⟨h, _⟩ | ⟨h, _, _⟩ | ⟨h, ht⟩
  · rw [h]; exact hj4
  · rw [h]; exact hj4
  · rw [h, if_pos (by rfl)]
    have hlen := tot_len l
    have hul : (uns l).length ≤ 8192 := ht
    simp only
    rw [all_eq h0 (pk_u8 (uns_bit l)) (i64_len hul) (pk_len9 hul), ua_form (uns_bit l) hul (by omega)]
    have hra := ra_uns hn []
    rw [List.append_nil] at hra
    unfold uaR
    rw [hra]
    simp only [Option.bind_some, bne_self_eq_false, Bool.false_eq_true, if_false, List.length_nil, Nat.sub_zero]
    rw [same_nums (by omega) ll]
    simp only [Option.bind_some, M_L_UnaryMany_j6, Bool.not_true, bne_self_eq_false, Bool.or_self, Bool.false_eq_true, if_false]
    exact hj4
theorem un_apart {a b : Nat} (h : a < b) : (un b).take (a + 1) ≠ un a := by
  intro e
  have h1 : ((un b).take (a + 1))[a]? = (un a)[a]? := by rw [e]
  rw [List.getElem?_take, if_pos (by omega)] at h1
  unfold un at h1
  rw [List.getElem?_append_left (by simp; omega), List.getElem?_append_right (by simp)] at h1
  simp [h] at h1
theorem same_not {F : Nat} {l k : List Int} (hl : Bit l) (hk : Bit k) (hne : l ≠ k) (h1 : l.length ≤ 8192) (hF : 20000 ≤ F) : M_R_SameBits F (l.length : Int) (pk l) (k.length : Int) (pk k) = some false := by
  rw [sameBits_eq (by rw [pk_len]; omega) (by rw [pk_len]; omega)]
  congr 1
  rw [decide_eq_false]
  rintro ⟨e1, e2⟩
  exact hne (pk_inj hl hk (by omega) e2)
theorem law_uapart {a b : Int} (ha : U64 a) (hb : U64 b) : M_L_UnaryApart 20000 a b = some true := by
  unfold M_L_UnaryApart
  have h0 : 20000 ≤ 20000 := by omega
  rw [code_eq h0 ha, code_eq h0 hb, begun_unary' h0, begun_bits' h0]
  simp only [Option.bind_some, Bool.not_true, M_L_UnaryApart_j2, Bool.false_eq_true, if_false]
  by_cases h1 : 8192 ≤ a
  · rw [uc_big h1]; simp
  by_cases h2 : 8192 ≤ b
  · rw [uc_big h2]; simp
  by_cases h3 : b ≤ a
  · rw [decide_eq_true h3]; simp
  obtain ⟨a, rfl⟩ := Int.eq_ofNat_of_zero_le ha.1
  obtain ⟨b, rfl⟩ := Int.eq_ofNat_of_zero_le hb.1
  rw [uc_form (by omega), uc_form (by omega), decide_eq_false h3]
  simp only [bne_self_eq_false, Bool.or_self, Bool.false_eq_true, if_false]
  have hl : (un b).length ≤ 8192 := by rw [un_len]; omega
  have hl2 : (un a).length ≤ 8192 := by rw [un_len]; omega
  have hc := ct_form (un_bit b) hl (i := 0) (j := (un a).length) (by omega) (by rw [un_len, un_len]; omega)
  rw [show ((0 : Nat) : Int) = 0 from rfl, List.drop_zero] at hc
  rw [cut_eq h0 (pk_u8 (un_bit b)) (i64_len hl) (pk_len9 hl), hc]
  simp only [Option.bind_some, beq_self_eq_true, if_true]
  rw [same_not (bit_take (un_bit b) _) (un_bit a) (by rw [un_len]; exact un_apart (by omega)) (by simp [un_len]; omega) h0]
  rfl
def ones (l : List Int) : Nat := (l.map Int.toNat).sum
theorem ones_app (l k : List Int) : ones (l ++ k) = ones l + ones k := by simp [ones]
theorem ones_un (n : Nat) : ones (un n) = 1 := by simp [ones, un]
theorem ones_uns (l : List Int) : ones (uns l) = l.length := by
  induction l with
  | nil => rfl
  | cons x l ih => rw [uns_cons, ones_app, ones_un, ih]; simp; omega
theorem ones_le {l : List Int} (h : Bit l) : ones l ≤ l.length := by
  induction l with
  | nil => simp [ones]
  | cons x l ih =>
    have := ih (fun y hy => h y (List.mem_cons_of_mem _ hy))
    have h2 := h x List.mem_cons_self
    simp [ones] at this ⊢
    omega
theorem ujoins_l {F : Nat} {x1 : List Int} {x44 x48 : Int × List Int × Int} {l : List Int} (hl : Bit l) (hm : l.length ≤ 100000) : ∀ (k i : Nat), l.length < k + i → i ≤ l.length →
    M_L_UnaryJoins_l8 F x1 x44 x48 l k ((ones (l.take i) : Nat), (i : Int)) = M_L_UnaryJoins_j6 F x1 x44 x48 ((ones l : Nat) : Int)
  | 0, _, _, _ => by omega
  | k + 1, i, h, hi => by
    show M_L_UnaryJoins_b8 F x1 x44 x48 l (M_L_UnaryJoins_l8 F x1 x44 x48 l k) ((ones (l.take i) : Nat) : Int) (i : Int) = _
    unfold M_L_UnaryJoins_b8
    by_cases hlt : i < l.length
    · obtain ⟨x, hx, hx2⟩ := bit_n hl hlt
      rw [if_pos (by simp; omega), idx_nat, hx]
      simp only [Option.bind_some]
      have h1 : ones (l.take (i + 1)) = ones (l.take i) + x := by
        rw [List.take_add_one, hx, ones_app]; simp [ones]
      have h2 := ones_le (bit_take hl i)
      have h3 : (l.take i).length ≤ l.length := by simp; omega
      rw [iadd_n (by omega), iadd1_n (by omega), ← h1]
      exact ujoins_l hl hm k (i + 1) (by omega) (by omega)
    · rw [if_neg (by simp; omega)]
      obtain rfl : i = l.length := by omega
      rw [List.take_length]
theorem law_ujoins {a b : List Int} (ha : N64 a) (hb : N64 b) (la : a.length ≤ 9223372036854775807) (lb : b.length ≤ 9223372036854775807) :
    M_L_UnaryJoins (20000 + a.length + b.length) a b = some true := by
  unfold M_L_UnaryJoins
  have h0 : 20000 ≤ 20000 + a.length + b.length := by omega
  rw [many_eq h0 (by omega) ha la, many_eq h0 (by omega) hb lb, begun_unary' h0, begun_bits' h0]
  simp only [Option.bind_some, Bool.not_true, M_L_UnaryJoins_j2, Bool.false_eq_true, if_false]
  rcases um_cases ha with ⟨h, _⟩ | ⟨h, _, _⟩ | ⟨h, ht⟩
  · rw [h, if_pos (by rfl), if_neg (by simp)]
    simp only
    rw [same_self (by show 0 < _; omega) (by simp)]; rfl
  · rw [h, if_pos (by rfl), if_neg (by simp)]
    simp only
    rw [same_self (by show 0 < _; omega) (by simp)]; rfl
  · rcases um_cases hb with ⟨h2, _⟩ | ⟨h2, _, _⟩ | ⟨h2, ht2⟩
    · rw [h, h2, if_pos (by rfl), if_pos (by rfl)]; rfl
    · rw [h, h2, if_pos (by rfl), if_pos (by rfl)]; rfl
    · have hA := tot_len a
      have hB := tot_len b
      have hab : N64 (a ++ b) := fun x hx => (List.mem_append.1 hx).elim (ha x) (hb x)
      have hua : (uns a).length ≤ 8192 := ht
      have hub : (uns b).length ≤ 8192 := ht2
      rw [h, h2, if_neg (by simp), app_eq (by simp; omega), List.nil_append]
      simp only [Option.bind_some]
      rw [app_eq (by omega)]
      simp only [Option.bind_some]
      rw [many_eq h0 (by rw [List.length_append]; omega) hab (by rw [List.length_append]; omega)]
      simp only [Option.bind_some]
      rw [join_eq h0 (pk_u8 (uns_bit a)) (pk_u8 (uns_bit b)) (i64_len hua) (i64_len hub) (pk_len9 hua) (pk_len9 hub), jn_form (uns_bit a) (uns_bit b) hua hub]
      simp only [Option.bind_some]
      rw [bitList_eq h0 (pk_u8 (uns_bit a)) (by rw [pk_len]; omega) (by omega), bl_pk (uns_bit a)]
      simp only [Option.bind_some]
      have hl8 := ujoins_l (F := 20000 + a.length + b.length) (x1 := a) (x44 := um (a ++ b)) (x48 := if (uns a).length + (uns b).length ≤ 8192 then (((uns a ++ uns b).length : Int), pk (uns a ++ uns b), 0) else (0, [], 8)) (uns_bit a) (by omega) (20000 + a.length + b.length) 0 (by omega) (by omega)
      rw [List.take_zero] at hl8
      rw [show (((ones [] : Nat) : Int), ((0 : Nat) : Int)) = (0, 0) from rfl] at hl8
      rw [hl8, ones_uns]
      unfold M_L_UnaryJoins_j6
      have hta : tot (a ++ b) = (uns a).length + (uns b).length := tot_app a b
      by_cases h3 : (uns a).length + (uns b).length ≤ 8192
      · rw [if_pos h3, um_form hab (by omega), uns_app, if_pos (by rfl)]
        simp only
        rw [same_self (by rw [pk_len, List.length_append]; omega) (by rw [pk_len, List.length_append]; omega)]
        simp [M_L_UnaryJoins_j7]
      · have hbig : big (a ++ b) = false := by
          have h5 := big_of_tot ha ht; have h6 := big_of_tot hb ht2
          unfold big at h5 h6 ⊢
          rw [List.any_append, h5, h6]; rfl
        have : um (a ++ b) = (0, [], 8) := by unfold um; rw [if_neg (by simp [hbig]), if_pos (by omega)]
        rw [if_neg h3, this, if_pos (by rfl)]
        simp only
        rw [same_self (by show 0 < _; omega) (by simp)]
        simp [M_L_UnaryJoins_j7]
end Go.Proofs.Ytbdfbheddihefaa
