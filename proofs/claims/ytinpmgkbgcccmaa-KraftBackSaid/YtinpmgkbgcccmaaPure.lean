/- Plain facts of what the functions of this seat compute. -/
import Derived.Test.YtinpmgkbgcccmaaModels
import Derived.KernelRfl
import Derived.Lib.SlicesCompact
namespace Go.Proofs.Ytinpmgkbgcccmaa
open Go SX
/-- The byte at place k of a list of bits. -/
def byt (l : List Int) (k : Nat) : Int :=
  l.getD (8 * k) 0 * 128 + l.getD (8 * k + 1) 0 * 64 + l.getD (8 * k + 2) 0 * 32 + l.getD (8 * k + 3) 0 * 16 + l.getD (8 * k + 4) 0 * 8 + l.getD (8 * k + 5) 0 * 4 + l.getD (8 * k + 6) 0 * 2 + l.getD (8 * k + 7) 0
def pk (l : List Int) : List Int := (List.range ((l.length + 7) / 8)).map (byt l)
def Bit (l : List Int) : Prop := ∀ x ∈ l, x = 0 ∨ x = 1
theorem Bit.getD {l : List Int} (h : Bit l) (i : Nat) : l.getD i 0 = 0 ∨ l.getD i 0 = 1 := by
  by_cases hi : i < l.length
  · have := h l[i] (List.getElem_mem hi)
    simpa [List.getD, hi] using this
  · left
    simp [List.getD, List.getElem?_eq_none (Nat.le_of_not_lt hi)]
theorem getD_ge {l : List Int} {i : Nat} (h : l.length ≤ i) : l.getD i 0 = 0 := by simp [List.getD, List.getElem?_eq_none h]
theorem getD_snoc (l : List Int) (x : Int) (i : Nat) : (l ++ [x]).getD i 0 = if i = l.length then x else l.getD i 0 := by
  by_cases h : i = l.length
  · subst h; simp [List.getD]
  · rw [if_neg h]
    by_cases h2 : i < l.length
    · simp [List.getD, List.getElem?_append_left h2]
    · rw [getD_ge (by simp; omega), getD_ge (by omega)]
theorem byt_range {l : List Int} (h : Bit l) (k : Nat) : 0 ≤ byt l k ∧ byt l k < 256 := by
  have h0 := h.getD (8 * k); have h1 := h.getD (8 * k + 1); have h2 := h.getD (8 * k + 2); have h3 := h.getD (8 * k + 3)
  have h4 := h.getD (8 * k + 4); have h5 := h.getD (8 * k + 5); have h6 := h.getD (8 * k + 6); have h7 := h.getD (8 * k + 7)
  unfold byt
  omega
theorem byt_snoc_other {l : List Int} {x : Int} {k : Nat} (h : k ≠ l.length / 8) : byt (l ++ [x]) k = byt l k := by
  unfold byt
  simp only [getD_snoc]
  rw [if_neg (by omega), if_neg (by omega), if_neg (by omega), if_neg (by omega), if_neg (by omega), if_neg (by omega), if_neg (by omega), if_neg (by omega)]
theorem byt_snoc_at {l : List Int} {x : Int} : byt (l ++ [x]) (l.length / 8) = byt l (l.length / 8) + x * 2 ^ (7 - l.length % 8) := by
  obtain ⟨k, hk⟩ : ∃ k, k = l.length / 8 := ⟨_, rfl⟩
  obtain ⟨r, hr⟩ : ∃ r, r = l.length % 8 := ⟨_, rfl⟩
  have hl : l.length = 8 * k + r := by omega
  have hr8 : r < 8 := by omega
  rw [← hk, ← hr]
  unfold byt
  simp only [getD_snoc, hl]
  have hg : ∀ j, r ≤ j → l.getD (8 * k + j) 0 = 0 := fun j hj => getD_ge (by omega)
  have g0 := hg 0; have g1 := hg 1; have g2 := hg 2; have g3 := hg 3; have g4 := hg 4; have g5 := hg 5; have g6 := hg 6; have g7 := hg 7
  rw [Nat.add_zero] at g0
  rcases (by omega : r = 0 ∨ r = 1 ∨ r = 2 ∨ r = 3 ∨ r = 4 ∨ r = 5 ∨ r = 6 ∨ r = 7) with rfl | rfl | rfl | rfl | rfl | rfl | rfl | rfl
  · rw [show (2 : Int) ^ (7 - 0) = 128 from by decide]
    rw [if_pos (by omega), if_neg (by omega), if_neg (by omega), if_neg (by omega), if_neg (by omega), if_neg (by omega), if_neg (by omega), if_neg (by omega)]
    have e0 := g0 (by omega)
    have e1 := g1 (by omega)
    have e2 := g2 (by omega)
    have e3 := g3 (by omega)
    have e4 := g4 (by omega)
    have e5 := g5 (by omega)
    have e6 := g6 (by omega)
    have e7 := g7 (by omega)
    omega
  · rw [show (2 : Int) ^ (7 - 1) = 64 from by decide]
    rw [if_neg (by omega), if_pos (by omega), if_neg (by omega), if_neg (by omega), if_neg (by omega), if_neg (by omega), if_neg (by omega), if_neg (by omega)]
    have e1 := g1 (by omega)
    have e2 := g2 (by omega)
    have e3 := g3 (by omega)
    have e4 := g4 (by omega)
    have e5 := g5 (by omega)
    have e6 := g6 (by omega)
    have e7 := g7 (by omega)
    omega
  · rw [show (2 : Int) ^ (7 - 2) = 32 from by decide]
    rw [if_neg (by omega), if_neg (by omega), if_pos (by omega), if_neg (by omega), if_neg (by omega), if_neg (by omega), if_neg (by omega), if_neg (by omega)]
    have e2 := g2 (by omega)
    have e3 := g3 (by omega)
    have e4 := g4 (by omega)
    have e5 := g5 (by omega)
    have e6 := g6 (by omega)
    have e7 := g7 (by omega)
    omega
  · rw [show (2 : Int) ^ (7 - 3) = 16 from by decide]
    rw [if_neg (by omega), if_neg (by omega), if_neg (by omega), if_pos (by omega), if_neg (by omega), if_neg (by omega), if_neg (by omega), if_neg (by omega)]
    have e3 := g3 (by omega)
    have e4 := g4 (by omega)
    have e5 := g5 (by omega)
    have e6 := g6 (by omega)
    have e7 := g7 (by omega)
    omega
  · rw [show (2 : Int) ^ (7 - 4) = 8 from by decide]
    rw [if_neg (by omega), if_neg (by omega), if_neg (by omega), if_neg (by omega), if_pos (by omega), if_neg (by omega), if_neg (by omega), if_neg (by omega)]
    have e4 := g4 (by omega)
    have e5 := g5 (by omega)
    have e6 := g6 (by omega)
    have e7 := g7 (by omega)
    omega
  · rw [show (2 : Int) ^ (7 - 5) = 4 from by decide]
    rw [if_neg (by omega), if_neg (by omega), if_neg (by omega), if_neg (by omega), if_neg (by omega), if_pos (by omega), if_neg (by omega), if_neg (by omega)]
    have e5 := g5 (by omega)
    have e6 := g6 (by omega)
    have e7 := g7 (by omega)
    omega
  · rw [show (2 : Int) ^ (7 - 6) = 2 from by decide]
    rw [if_neg (by omega), if_neg (by omega), if_neg (by omega), if_neg (by omega), if_neg (by omega), if_neg (by omega), if_pos (by omega), if_neg (by omega)]
    have e6 := g6 (by omega)
    have e7 := g7 (by omega)
    omega
  · rw [show (2 : Int) ^ (7 - 7) = 1 from by decide]
    rw [if_neg (by omega), if_neg (by omega), if_neg (by omega), if_neg (by omega), if_neg (by omega), if_neg (by omega), if_neg (by omega), if_pos (by omega)]
    have e7 := g7 (by omega)
    omega
theorem irem8 (n : Nat) : irem (n : Int) 8 = ((n % 8 : Nat) : Int) := by
  unfold irem; rw [Int.tmod_eq_emod_of_nonneg (by omega)]; omega
theorem iquo8 {n : Nat} (h : n ≤ 9223372036854775807) : iquo .i64 (n : Int) 8 = ((n / 8 : Nat) : Int) := by
  unfold iquo; rw [Int.tdiv_eq_ediv_of_nonneg (by omega), wrap_i64 (by omega) (by omega)]; omega
/-- A byte has nothing yet behind the last bit. -/
theorem byt_low {l : List Int} : byt l (l.length / 8) % 2 ^ (8 - l.length % 8) = 0 := by
  obtain ⟨k, hk⟩ : ∃ k, k = l.length / 8 := ⟨_, rfl⟩
  obtain ⟨r, hr⟩ : ∃ r, r = l.length % 8 := ⟨_, rfl⟩
  have hl : l.length = 8 * k + r := by omega
  have hr8 : r < 8 := by omega
  rw [← hk, ← hr]
  unfold byt
  have hg : ∀ j, r ≤ j → l.getD (8 * k + j) 0 = 0 := fun j hj => getD_ge (by omega)
  have g0 := hg 0; have g1 := hg 1; have g2 := hg 2; have g3 := hg 3; have g4 := hg 4; have g5 := hg 5; have g6 := hg 6; have g7 := hg 7
  rw [Nat.add_zero] at g0
  rcases (by omega : r = 0 ∨ r = 1 ∨ r = 2 ∨ r = 3 ∨ r = 4 ∨ r = 5 ∨ r = 6 ∨ r = 7) with rfl | rfl | rfl | rfl | rfl | rfl | rfl | rfl
  · have e0 := g0 (by omega); have e1 := g1 (by omega); have e2 := g2 (by omega); have e3 := g3 (by omega); have e4 := g4 (by omega); have e5 := g5 (by omega); have e6 := g6 (by omega); have e7 := g7 (by omega)
    rw [show (2 : Int) ^ (8 - 0) = 256 from by decide]; omega
  · have e1 := g1 (by omega); have e2 := g2 (by omega); have e3 := g3 (by omega); have e4 := g4 (by omega); have e5 := g5 (by omega); have e6 := g6 (by omega); have e7 := g7 (by omega)
    rw [show (2 : Int) ^ (8 - 1) = 128 from by decide]; omega
  · have e2 := g2 (by omega); have e3 := g3 (by omega); have e4 := g4 (by omega); have e5 := g5 (by omega); have e6 := g6 (by omega); have e7 := g7 (by omega)
    rw [show (2 : Int) ^ (8 - 2) = 64 from by decide]; omega
  · have e3 := g3 (by omega); have e4 := g4 (by omega); have e5 := g5 (by omega); have e6 := g6 (by omega); have e7 := g7 (by omega)
    rw [show (2 : Int) ^ (8 - 3) = 32 from by decide]; omega
  · have e4 := g4 (by omega); have e5 := g5 (by omega); have e6 := g6 (by omega); have e7 := g7 (by omega)
    rw [show (2 : Int) ^ (8 - 4) = 16 from by decide]; omega
  · have e5 := g5 (by omega); have e6 := g6 (by omega); have e7 := g7 (by omega)
    rw [show (2 : Int) ^ (8 - 5) = 8 from by decide]; omega
  · have e6 := g6 (by omega); have e7 := g7 (by omega)
    rw [show (2 : Int) ^ (8 - 6) = 4 from by decide]; omega
  · have e7 := g7 (by omega)
    rw [show (2 : Int) ^ (8 - 7) = 2 from by decide]; omega
theorem byt_end {l : List Int} (h : l.length % 8 = 0) : byt l (l.length / 8) = 0 := by
  unfold byt
  rw [getD_ge (by omega), getD_ge (by omega), getD_ge (by omega), getD_ge (by omega), getD_ge (by omega), getD_ge (by omega), getD_ge (by omega), getD_ge (by omega)]
  rfl
theorem ior_comm (k : IntKind) (a b : Int) : ior k a b = ior k b a := by unfold ior; rw [BitVec.or_comm]
/-- The room for one more bit. -/
def room (l : List Int) : List Int := (List.range (l.length / 8 + 1)).map (byt l)
theorem room_j1 {F : Nat} {l : List Int} (hl : Bit l) {x : Int} (hx : x = 0 ∨ x = 1) (hn : l.length ≤ 1000000) : M_bits_writer_bit_j1 F (l.length : Int) x (room l) = some (((l.length + 1 : Nat) : Int), pk (l ++ [x])) := by
  unfold M_bits_writer_bit_j1
  rw [iquo8 (by omega), irem8]
  have hg : (room l)[l.length / 8]? = some (byt l (l.length / 8)) := by simp [room]
  rw [idx_nat, hg]
  simp only [Option.bind_some]
  have hc : decide ((0 : Int) ≤ ((l.length % 8 : Nat) : Int)) = true := decide_eq_true (by omega)
  rw [hc]
  simp only [chk, if_true, lett, Int.toNat_natCast]
  have hb := byt_range hl (l.length / 8)
  have hr8 : l.length % 8 < 8 := Nat.mod_lt _ (by decide)
  have e1 : ishl .u64 x 7 = x * 128 := by
    have := ishl_u64 (a := x) (m := 7) (by decide)
    rw [show ((7 : Nat) : Int) = 7 from rfl] at this
    rw [this]
    rcases hx with rfl | rfl <;> decide
  have e2 : iconv .u8 (x * 128) = x * 128 := wrap_u8 (by omega) (by omega)
  have e3 : ishr .u8 (x * 128) ((l.length % 8 : Nat) : Int) = x * 2 ^ (7 - l.length % 8) := by
    rw [ishr_eq (by simp only [IntKind.bits]; omega)]
    have key : ∀ r : Fin 8, ((0 : Int) * 128 / 2 ^ r.val = 0 * 2 ^ (7 - r.val)) ∧ ((1 : Int) * 128 / 2 ^ r.val = 1 * 2 ^ (7 - r.val)) := by decide
    have := key ⟨l.length % 8, hr8⟩
    rcases hx with rfl | rfl
    · exact this.1
    · exact this.2
  have key2 : ∀ r : Fin 8, (1 : Int) ≤ 2 ^ (7 - r.val) ∧ (2 : Int) ^ (8 - r.val) = 2 * 2 ^ (7 - r.val) ∧ (2 : Int) ^ (7 - r.val) ≤ 128 ∧ (256 : Int) % 2 ^ (8 - r.val) = 0 ∧ (2 : Int) ^ (8 - r.val) ≤ 256 := by decide
  have hk2 := key2 ⟨l.length % 8, hr8⟩
  simp only at hk2
  have hat := byt_snoc_at (l := l) (x := x)
  have hb2 : Bit (l ++ [x]) := by
    intro y hy
    rcases List.mem_append.1 hy with h | h
    · exact hl y h
    · simp at h; subst h; exact hx
  have hbb := byt_range hb2 (l.length / 8)
  have e4 : ior .u8 (byt l (l.length / 8)) (x * 2 ^ (7 - l.length % 8)) = byt (l ++ [x]) (l.length / 8) := by
    rw [ior_comm, ior_add (m := 8 - l.length % 8) ?_ ?_ hb.1 byt_low rfl ?_]
    · rw [hat]; omega
    · rcases hx with rfl | rfl <;> omega
    · rcases hx with rfl | rfl <;> omega
    · simp only [IntKind.bits]
      rw [show (2 : Int) ^ 8 = 256 from by decide]
      omega
  rw [e1, e2, e3, e4, iadd_i64 (by omega) (by omega)]
  congr 2
  unfold room pk
  have hlen : ((l ++ [x]).length + 7) / 8 = l.length / 8 + 1 := by simp; omega
  rw [hlen]
  apply List.ext_getElem?
  intro k
  rw [List.getElem?_set]
  by_cases hk : l.length / 8 = k
  · subst hk; simp
  · rw [if_neg hk]
    simp only [List.getElem?_map]
    by_cases h3 : k < l.length / 8 + 1
    · rw [List.getElem?_range h3]
      simp only [Option.map_some]
      rw [byt_snoc_other (fun e => hk e.symm)]
    · rw [List.getElem?_eq_none (by simpa using h3)]
      rfl
theorem bit_eq {F : Nat} {l : List Int} (hl : Bit l) {x : Int} (hx : x = 0 ∨ x = 1) (hn : l.length ≤ 1000000) : M_bits_writer_bit F (l.length : Int) (pk l) x = some (((l.length + 1 : Nat) : Int), pk (l ++ [x])) := by
  unfold M_bits_writer_bit
  rw [irem8]
  by_cases h : l.length % 8 = 0
  · have h1 : ((((l.length % 8 : Nat) : Int) : Int) == 0) = true := by simp [h]
    simp only [h1, if_true]
    rw [app_eq (by simp [pk]; omega)]
    simp only [Option.bind_some]
    have : pk l ++ [0] = room l := by
      unfold pk room
      rw [show (l.length + 7) / 8 = l.length / 8 from by omega, List.range_succ, List.map_append]
      simp [byt_end h]
    rw [this]
    exact room_j1 hl hx hn
  · have h1 : ((((l.length % 8 : Nat) : Int) : Int) == 0) = false := by simp; omega
    simp only [h1, Bool.false_eq_true, if_false]
    have : pk l = room l := by
      unfold pk room
      rw [show (l.length + 7) / 8 = l.length / 8 + 1 from by omega]
    rw [this]
    exact room_j1 hl hx hn
def bitAt (b : List Int) (i : Nat) : Int := b.getD (i / 8) 0 / 2 ^ (7 - i % 8) % 2
def bl (b : List Int) (n : Nat) : List Int := (List.range n).map (bitAt b)
theorem bitAt_bit (b : List Int) (i : Nat) : bitAt b i = 0 ∨ bitAt b i = 1 := by unfold bitAt; omega
theorem bl_bit (b : List Int) (n : Nat) : Bit (bl b n) := by
  intro x hx
  obtain ⟨i, _, rfl⟩ := List.mem_map.1 hx
  exact bitAt_bit b i
theorem bl_len (b : List Int) (n : Nat) : (bl b n).length = n := by simp [bl]
def U8s (l : List Int) : Prop := ∀ n ∈ l, 0 ≤ n ∧ n < 256
theorem at_eq {F : Nat} {n : Int} {b : List Int} (hb : U8s b) {i : Nat} (hi : i / 8 < b.length) (hm : i ≤ 1000000) : M_bits_At F n b (i : Int) = some (bitAt b i) := by
  unfold M_bits_At
  rw [iquo8 (by omega), irem8, idx_nat]
  have hg : b[i / 8]? = some b[i / 8] := by simp [hi]
  rw [hg]
  simp only [Option.bind_some]
  have e1 : isub .i64 7 ((i % 8 : Nat) : Int) = ((7 - i % 8 : Nat) : Int) := by rw [isub_i64 (by omega) (by omega)]; omega
  rw [e1]
  have hc : decide ((0 : Int) ≤ ((7 - i % 8 : Nat) : Int)) = true := decide_eq_true (by omega)
  rw [hc]
  simp only [chk, if_true, lett]
  have hx := hb b[i / 8] (List.getElem_mem hi)
  rw [ishr_eq (by simp only [IntKind.bits]; omega)]
  have hp : (1 : Int) ≤ 2 ^ (7 - i % 8) := by
    have key : ∀ r : Fin 8, (1 : Int) ≤ 2 ^ (7 - r.val) := by decide
    exact key ⟨i % 8, Nat.mod_lt _ (by decide)⟩
  have h1 : 0 ≤ b[i / 8] / 2 ^ (7 - i % 8) := Int.ediv_nonneg hx.1 (by omega)
  have h2 : b[i / 8] / 2 ^ (7 - i % 8) ≤ b[i / 8] := Int.ediv_le_self _ hx.1
  have e2 : iconv .u64 (b[i / 8] / 2 ^ (7 - i % 8)) = b[i / 8] / 2 ^ (7 - i % 8) := wrap_u64 h1 (by omega)
  rw [e2]
  have e3 := iand_mask (k := .u64) (a := b[i / 8] / 2 ^ (7 - i % 8)) (m := 1) h1 (by simp only [IntKind.bits]; rw [show (2 : Int) ^ 64 = 18446744073709551616 from by decide]; omega) (by decide) rfl
  rw [show ((2 ^ 1 - 1 : Nat) : Int) = 1 from rfl, show (2 : Int) ^ 1 = 2 from rfl] at e3
  rw [e3]
  unfold bitAt
  simp [List.getD, hg]
theorem bl_succ (b : List Int) (n : Nat) : bl b (n + 1) = bl b n ++ [bitAt b n] := by simp [bl, List.range_succ]
/-- All places, one behind the other, written behind what is there. -/
theorem places_l {F : Nat} {n : Int} {b : List Int} (hb : U8s b) {yy : (Int × List Int) → Int → Option ((Int × List Int) ⊕ Empty)} (hy : ∀ (l : List Int) x, Bit l → (x = 0 ∨ x = 1) → l.length ≤ 100000 → yy ((l.length : Int), pk l) x = some (.inl (((l.length + 1 : Nat) : Int), pk (l ++ [x])))) {to : Nat} (ht : to ≤ 8 * b.length) (hm : to ≤ 10000) :
    ∀ (k i : Nat) (l : List Int), to < k + i → i ≤ to → Bit l → l.length + (to - i) ≤ 100000 →
      M_bits_places_1_l1 F yy (to : Int) n b k ((i : Int), ((l.length : Int), pk l)) = some (.inl (((l.length + (to - i) : Nat) : Int), pk (l ++ (bl b to).drop i)))
  | 0, i, l, h, hi, _, _ => by omega
  | k + 1, i, l, h, hi, hl, hc => by
    have hstep : M_bits_places_1_l1 F yy (to : Int) n b (k + 1) ((i : Int), ((l.length : Int), pk l)) = M_bits_places_1_b1 F yy (to : Int) n b (M_bits_places_1_l1 F yy (to : Int) n b k) (i : Int) ((l.length : Int), pk l) := rfl
    rw [hstep]
    unfold M_bits_places_1_b1
    by_cases hlt : i < to
    · have h1 : (i : Int) < (to : Int) := by omega
      simp only [h1, decide_true, if_true]
      rw [at_eq hb (by omega) (by omega)]
      simp only [Option.bind_some]
      have hx := bitAt_bit b i
      rw [hy l _ hl hx (by omega)]
      simp only [Option.bind_some, Sum.elim_inl]
      rw [iadd_i64 (by omega) (by omega), show (i : Int) + 1 = ((i + 1 : Nat) : Int) from by omega]
      have hl2 : Bit (l ++ [bitAt b i]) := by
        intro y hy2
        rcases List.mem_append.1 hy2 with h | h
        · exact hl y h
        · simp at h; subst h; exact hx
      have := places_l (F := F) (n := n) hb hy ht hm k (i + 1) (l ++ [bitAt b i]) (by omega) (by omega) hl2 (by simp; omega)
      rw [show (l ++ [bitAt b i]).length = l.length + 1 from by simp] at this
      rw [this]
      have hd : (bl b to).drop i = bitAt b i :: (bl b to).drop (i + 1) := by
        rw [List.drop_eq_getElem_cons (by rw [bl_len]; exact hlt)]
        congr 1
        simp [bl]
      rw [hd, List.append_assoc, show l.length + 1 + (to - (i + 1)) = l.length + (to - i) from by omega]
      rfl
    · have h1 : ¬ (i : Int) < (to : Int) := by omega
      simp only [h1, decide_false, Bool.false_eq_true, if_false]
      rw [List.drop_eq_nil_of_le (by rw [bl_len]; omega), List.append_nil, show l.length + (to - i) = l.length from by omega]
structure Ok (n : Nat) (b : List Int) : Prop where
  max : n ≤ 8192
  len : b.length = (n + 7) / 8
  low : n % 8 ≠ 0 → b.getD (n / 8) 0 % 2 ^ (8 - n % 8) = 0
theorem bl_getD {b : List Int} {n i : Nat} : (bl b n).getD i 0 = if i < n then bitAt b i else 0 := by
  by_cases h : i < n
  · rw [if_pos h]; simp [bl, List.getD, h]
  · rw [if_neg h]; exact getD_ge (by rw [bl_len]; omega)
theorem bits8 {x : Int} (h0 : 0 ≤ x) (h1 : x < 256) : x / 128 % 2 * 128 + x / 64 % 2 * 64 + x / 32 % 2 * 32 + x / 16 % 2 * 16 + x / 8 % 2 * 8 + x / 4 % 2 * 4 + x / 2 % 2 * 2 + x / 1 % 2 = x := by omega
theorem bitAt_8 (b : List Int) (k : Nat) : bitAt b (8 * k) = b.getD k 0 / 128 % 2 ∧ bitAt b (8 * k + 1) = b.getD k 0 / 64 % 2 ∧ bitAt b (8 * k + 2) = b.getD k 0 / 32 % 2 ∧ bitAt b (8 * k + 3) = b.getD k 0 / 16 % 2 ∧
    bitAt b (8 * k + 4) = b.getD k 0 / 8 % 2 ∧ bitAt b (8 * k + 5) = b.getD k 0 / 4 % 2 ∧ bitAt b (8 * k + 6) = b.getD k 0 / 2 % 2 ∧ bitAt b (8 * k + 7) = b.getD k 0 / 1 % 2 := by
  unfold bitAt
  rw [show 8 * k / 8 = k from by omega, show (8 * k + 1) / 8 = k from by omega, show (8 * k + 2) / 8 = k from by omega, show (8 * k + 3) / 8 = k from by omega, show (8 * k + 4) / 8 = k from by omega, show (8 * k + 5) / 8 = k from by omega, show (8 * k + 6) / 8 = k from by omega, show (8 * k + 7) / 8 = k from by omega,
    show 8 * k % 8 = 0 from by omega, show (8 * k + 1) % 8 = 1 from by omega, show (8 * k + 2) % 8 = 2 from by omega, show (8 * k + 3) % 8 = 3 from by omega, show (8 * k + 4) % 8 = 4 from by omega, show (8 * k + 5) % 8 = 5 from by omega, show (8 * k + 6) % 8 = 6 from by omega, show (8 * k + 7) % 8 = 7 from by omega]
  exact ⟨rfl, rfl, rfl, rfl, rfl, rfl, rfl, rfl⟩
theorem byt_bl {n : Nat} {b : List Int} (hb : U8s b) (h : Ok n b) {k : Nat} (hk : k < (n + 7) / 8) : byt (bl b n) k = b.getD k 0 := by
  have hx : 0 ≤ b.getD k 0 ∧ b.getD k 0 < 256 := by
    have hlt : k < b.length := by rw [h.len]; exact hk
    have := hb b[k] (List.getElem_mem hlt)
    simpa [List.getD, hlt] using this
  obtain ⟨c0, c1, c2, c3, c4, c5, c6, c7⟩ := bitAt_8 b k
  unfold byt
  simp only [bl_getD]
  rw [c0, c1, c2, c3, c4, c5, c6, c7]
  by_cases hf : 8 * k + 8 ≤ n
  · rw [if_pos (by omega), if_pos (by omega), if_pos (by omega), if_pos (by omega), if_pos (by omega), if_pos (by omega), if_pos (by omega), if_pos (by omega)]
    exact bits8 hx.1 hx.2
  · have hkn : n / 8 = k := by omega
    obtain ⟨r, hr⟩ : ∃ r, r = n % 8 := ⟨_, rfl⟩
    have hn : n = 8 * k + r := by omega
    have hlow := h.low (by omega)
    rw [hkn, ← hr] at hlow
    generalize b.getD k 0 = x at hx hlow
    rcases (by omega : r = 1 ∨ r = 2 ∨ r = 3 ∨ r = 4 ∨ r = 5 ∨ r = 6 ∨ r = 7) with rfl | rfl | rfl | rfl | rfl | rfl | rfl
    · rw [if_pos (by omega), if_neg (by omega), if_neg (by omega), if_neg (by omega), if_neg (by omega), if_neg (by omega), if_neg (by omega), if_neg (by omega)]
      rw [show (2 : Int) ^ (8 - 1) = 128 from by decide] at hlow
      omega
    · rw [if_pos (by omega), if_pos (by omega), if_neg (by omega), if_neg (by omega), if_neg (by omega), if_neg (by omega), if_neg (by omega), if_neg (by omega)]
      rw [show (2 : Int) ^ (8 - 2) = 64 from by decide] at hlow
      omega
    · rw [if_pos (by omega), if_pos (by omega), if_pos (by omega), if_neg (by omega), if_neg (by omega), if_neg (by omega), if_neg (by omega), if_neg (by omega)]
      rw [show (2 : Int) ^ (8 - 3) = 32 from by decide] at hlow
      omega
    · rw [if_pos (by omega), if_pos (by omega), if_pos (by omega), if_pos (by omega), if_neg (by omega), if_neg (by omega), if_neg (by omega), if_neg (by omega)]
      rw [show (2 : Int) ^ (8 - 4) = 16 from by decide] at hlow
      omega
    · rw [if_pos (by omega), if_pos (by omega), if_pos (by omega), if_pos (by omega), if_pos (by omega), if_neg (by omega), if_neg (by omega), if_neg (by omega)]
      rw [show (2 : Int) ^ (8 - 5) = 8 from by decide] at hlow
      omega
    · rw [if_pos (by omega), if_pos (by omega), if_pos (by omega), if_pos (by omega), if_pos (by omega), if_pos (by omega), if_neg (by omega), if_neg (by omega)]
      rw [show (2 : Int) ^ (8 - 6) = 4 from by decide] at hlow
      omega
    · rw [if_pos (by omega), if_pos (by omega), if_pos (by omega), if_pos (by omega), if_pos (by omega), if_pos (by omega), if_pos (by omega), if_neg (by omega)]
      rw [show (2 : Int) ^ (8 - 7) = 2 from by decide] at hlow
      omega
theorem pk_bl {n : Nat} {b : List Int} (hb : U8s b) (h : Ok n b) : pk (bl b n) = b := by
  unfold pk
  rw [bl_len]
  apply List.ext_getElem?
  intro k
  by_cases hk : k < (n + 7) / 8
  · rw [List.getElem?_map, List.getElem?_range hk]
    simp only [Option.map_some]
    rw [byt_bl hb h hk]
    have hlt : k < b.length := by rw [h.len]; exact hk
    simp [List.getD, hlt]
  · rw [List.getElem?_eq_none (by simpa using hk), List.getElem?_eq_none (by rw [h.len]; omega)]
/-- What 'Check' tells. -/
def chkOf (n : Int) (b : List Int) : Int :=
  if n < 0 ∨ 8192 < n then 3 else if (b.length : Int) ≠ (n + 7) / 8 then 1 else if n % 8 ≠ 0 ∧ b.getD (n.toNat / 8) 0 % 2 ^ (8 - n.toNat % 8) ≠ 0 then 1 else 0
theorem chkOf_ok {n : Int} {b : List Int} (h : chkOf n b = 0) : ∃ m : Nat, n = m ∧ Ok m b := by
  unfold chkOf at h
  split at h
  · simp at h
  · rename_i h1
    split at h
    · simp at h
    · rename_i h2
      split at h
      · simp at h
      · rename_i h3
        obtain ⟨m, rfl⟩ := Int.eq_ofNat_of_zero_le (show 0 ≤ n by omega)
        refine ⟨m, rfl, by omega, by omega, fun hm => ?_⟩
        simp only [Int.toNat_natCast] at h3
        by_cases hz : b.getD (m / 8) 0 % 2 ^ (8 - m % 8) = 0
        · exact hz
        · exact absurd ⟨by omega, hz⟩ h3
theorem check_eq {F : Nat} {n : Int} {b : List Int} (hb : U8s b) (h1 : -9223372036854775808 ≤ n) (h2 : n < 9223372036854775808) (hm : b.length ≤ 9223372036854775807) : M_bits_Check F n b = some (chkOf n b) := by
  unfold M_bits_Check chkOf
  by_cases c1 : n < 0 ∨ 8192 < n
  · have : (decide (n < 0) || decide (8192 < n)) = true := by simpa using c1
    rw [if_pos this, if_pos c1]
  · have : (decide (n < 0) || decide (8192 < n)) = false := by simpa using c1
    rw [this, if_neg c1]
    simp only [Bool.false_eq_true, if_false]
    obtain ⟨m, rfl⟩ := Int.eq_ofNat_of_zero_le (show 0 ≤ n by omega)
    have e1 : iquo .i64 (iadd .i64 (m : Int) 7) 8 = ((m : Int) + 7) / 8 := by
      rw [iadd_i64 (by omega) (by omega), show (m : Int) + 7 = ((m + 7 : Nat) : Int) from by omega, iquo8 (by omega)]
      omega
    rw [e1, irem8]
    by_cases c2 : (b.length : Int) ≠ ((m : Int) + 7) / 8
    · have : ((b.length : Int) != ((m : Int) + 7) / 8) = true := by simpa using c2
      rw [if_pos this, if_pos c2]
    · have : ((b.length : Int) != ((m : Int) + 7) / 8) = false := by simpa using c2
      rw [this, if_neg c2]
      simp only [Bool.false_eq_true, if_false]
      by_cases c3 : m % 8 = 0
      · have : ((((m % 8 : Nat) : Int)) != 0) = false := by simp [c3]
        have hn : ¬ ((m : Int) % 8 ≠ 0 ∧ b.getD ((m : Int).toNat / 8) 0 % 2 ^ (8 - (m : Int).toNat % 8) ≠ 0) := fun h => h.1 (by omega)
        rw [this, if_neg hn]
        simp [M_bits_Check_j2]
      · have : ((((m % 8 : Nat) : Int)) != 0) = true := by simp; omega
        rw [this]
        simp only [if_true]
        have hlen : b.length = m / 8 + 1 := by omega
        have e2 : isub .i64 (b.length : Int) 1 = ((m / 8 : Nat) : Int) := by rw [isub_i64 (by omega) (by omega)]; omega
        have hg : b[m / 8]? = some b[m / 8] := by simp [hlen]
        rw [e2, idx_nat, hg]
        simp only [Option.bind_some]
        have hc : decide ((0 : Int) ≤ ((m % 8 : Nat) : Int)) = true := decide_eq_true (by omega)
        rw [hc]
        simp only [chk, if_true]
        have hx := hb b[m / 8] (List.getElem_mem (by omega))
        have hgd : b.getD (m / 8) 0 = b[m / 8] := by simp [List.getD, hg]
        rw [Int.toNat_natCast, hgd]
        generalize b[m / 8] = x at hx
        have e3 : (ishl .u8 x ((m % 8 : Nat) : Int) != 0) = decide (x % 2 ^ (8 - m % 8) ≠ 0) := by
          have key : ishl .u8 x ((m % 8 : Nat) : Int) = (x * 2 ^ (m % 8)) % 256 := by
            unfold ishl
            have h : min (((m % 8 : Nat) : Int).toNat) (IntKind.bits .u8) = m % 8 := by simp [IntKind.bits]; omega
            rw [h, wrap_u8_mod]
          rw [key]
          rcases (by omega : m % 8 = 1 ∨ m % 8 = 2 ∨ m % 8 = 3 ∨ m % 8 = 4 ∨ m % 8 = 5 ∨ m % 8 = 6 ∨ m % 8 = 7) with h | h | h | h | h | h | h <;> rw [h]
          · rw [show (2 : Int) ^ 1 = 2 from rfl, show (2 : Int) ^ (8 - 1) = 128 from by decide]; by_cases hz : x % 128 = 0 <;> simp [hz] <;> omega
          · rw [show (2 : Int) ^ 2 = 4 from rfl, show (2 : Int) ^ (8 - 2) = 64 from by decide]; by_cases hz : x % 64 = 0 <;> simp [hz] <;> omega
          · rw [show (2 : Int) ^ 3 = 8 from rfl, show (2 : Int) ^ (8 - 3) = 32 from by decide]; by_cases hz : x % 32 = 0 <;> simp [hz] <;> omega
          · rw [show (2 : Int) ^ 4 = 16 from by decide]; try rw [show (2 : Int) ^ (8 - 4) = 16 from by decide]
            by_cases hz : x % 16 = 0 <;> simp [hz] <;> omega
          · rw [show (2 : Int) ^ 5 = 32 from by decide, show (2 : Int) ^ (8 - 5) = 8 from by decide]; by_cases hz : x % 8 = 0 <;> simp [hz] <;> omega
          · rw [show (2 : Int) ^ 6 = 64 from by decide, show (2 : Int) ^ (8 - 6) = 4 from by decide]; by_cases hz : x % 4 = 0 <;> simp [hz] <;> omega
          · rw [show (2 : Int) ^ 7 = 128 from by decide, show (2 : Int) ^ (8 - 7) = 2 from by decide]; by_cases hz : x % 2 = 0 <;> simp [hz] <;> omega
        rw [e3]
        unfold M_bits_Check_j2
        by_cases hz : x % 2 ^ (8 - m % 8) = 0
        · rw [if_neg (by simp [hz]), if_neg (by simp [hz])]
        · rw [if_pos (by simp [hz]), if_pos ⟨by omega, hz⟩]
theorem begun_bits (n : Nat) : M_L_bitsBegun (n + 200) = some true := by kernel_rfl
theorem clone_eq {F : Nat} {x : List Int} (h : x.length ≤ 1000000) : M_slices_Clone_byte_byte F x = some x := by
  unfold M_slices_Clone_byte_byte
  rw [app_eq (by simp; omega)]
  rfl
theorem own_eq {F : Nat} {n : Int} {b : List Int} (h : b.length ≤ 1000000) : M_bits_own F n b = some (n, b) := by
  unfold M_bits_own
  rw [clone_eq h]
  rfl
theorem both_eq {F : Nat} (hF : 20000 ≤ F) {n m : Nat} {a b : List Int} (ha : U8s a) (hb : U8s b) (oa : Ok n a) (ob : Ok m b) : M_bits_Both F n a m b = some (((n + m : Nat) : Int), pk (bl a n ++ bl b m)) := by
  unfold M_bits_Both
  have hal : a.length ≤ 1000000 := by rw [oa.len]; have := oa.max; omega
  rw [own_eq hal]
  simp only [Option.bind_some, M_bits_places, M_bits_places_1]
  have hm := ob.max
  have hn := oa.max
  have := places_l (F := F) (n := (m : Int)) hb (yy := fun (p : Int × List Int) (x53 : Int) => M_bits_Both_r2 F p.1 p.2 x53) (fun l x hl hx hlen => by
    simp only [M_bits_Both_r2]
    rw [bit_eq hl hx (by omega)]
    rfl) (to := m) (by rw [ob.len]; omega) (by omega) F 0 (bl a n) (by omega) (by omega) (bl_bit a n) (by rw [bl_len]; omega)
  rw [bl_len, pk_bl ha oa, List.drop_zero, Nat.sub_zero] at this
  rw [show ((0 : Nat) : Int) = 0 from rfl] at this
  have h2 : M_bits_places_1_l1 F (fun (x : Int × List Int) (x53 : Int) => match x with | (x45, x48) => M_bits_Both_r2 F x45 x48 x53) (m : Int) (m : Int) b F (0, ((n : Int), a)) = some (.inl (((n + m : Nat) : Int), pk (bl a n ++ bl b m))) := this
  rw [h2]
  rfl
def joinOf (n : Int) (a : List Int) (m : Int) (b : List Int) : Int :=
  if chkOf n a ≠ 0 then chkOf n a else if chkOf m b ≠ 0 then chkOf m b else if 8192 < n + m then 8 else 0
def jn (n : Int) (a : List Int) (m : Int) (b : List Int) : Int × List Int × Int :=
  if joinOf n a m b ≠ 0 then (0, [], joinOf n a m b) else (n + m, pk (bl a n.toNat ++ bl b m.toNat), 0)
def I64 (n : Int) : Prop := -9223372036854775808 ≤ n ∧ n < 9223372036854775808
theorem join_eq {F : Nat} (hF : 20000 ≤ F) {n m : Int} {a b : List Int} (ha : U8s a) (hb : U8s b) (hn : I64 n) (hm : I64 m) (la : a.length ≤ 9223372036854775807) (lb : b.length ≤ 9223372036854775807) : M_bits_Join F n a m b = some (jn n a m b) := by
  unfold M_bits_Join jn joinOf
  rw [check_eq ha hn.1 hn.2 la]
  simp only [Option.bind_some]
  by_cases h1 : chkOf n a = 0
  · obtain ⟨n', rfl, oa⟩ := chkOf_ok h1
    have hb1 : (chkOf (n' : Int) a == 0) = true := by simp [h1]
    rw [if_pos hb1, check_eq hb hm.1 hm.2 lb]
    simp only [Option.bind_some]
    unfold M_bits_Join_j1
    by_cases h2 : chkOf m b = 0
    · obtain ⟨m', rfl, ob⟩ := chkOf_ok h2
      have e1 : iadd .i64 (n' : Int) (m' : Int) = (n' : Int) + (m' : Int) := by
        have := oa.max; have := ob.max
        exact iadd_i64 (by omega) (by omega)
      rw [e1, h1, h2]
      by_cases h3 : (8192 : Int) < (n' : Int) + (m' : Int)
      · simp [h3, M_bits_Join_j2]
      · simp only [h3, beq_self_eq_true, decide_false, Bool.and_false, Bool.false_eq_true, if_false, ne_eq, not_true_eq_false, M_bits_Join_j2, bne_self_eq_false]
        rw [both_eq hF ha hb oa ob]
        simp
    · have hb2 : (chkOf m b == 0) = false := by simpa using h2
      have hb3 : (chkOf m b != 0) = true := by simpa using h2
      rw [hb2]
      simp only [Bool.false_and, Bool.false_eq_true, if_false, M_bits_Join_j2, hb3, if_true, h1, ne_eq, not_true_eq_false, h2, not_false_eq_true]
  · have hb1 : (chkOf n a == 0) = false := by simpa using h1
    have hb3 : (chkOf n a != 0) = true := by simpa using h1
    rw [hb1]
    simp only [Bool.false_eq_true, if_false, M_bits_Join_j1, hb1, Bool.false_and, M_bits_Join_j2, hb3, if_true, ne_eq, h1, not_false_eq_true]
theorem pk_getD {l : List Int} {k : Nat} (hk : k < (l.length + 7) / 8) : (pk l).getD k 0 = byt l k := by
  unfold pk
  simp [List.getD, hk]
theorem pk_u8 {l : List Int} (h : Bit l) : U8s (pk l) := by
  intro x hx
  obtain ⟨k, _, rfl⟩ := List.mem_map.1 hx
  exact byt_range h k
theorem pk_len (l : List Int) : (pk l).length = (l.length + 7) / 8 := by simp [pk]
theorem ok_pk {l : List Int} (hm : l.length ≤ 8192) : Ok l.length (pk l) where
  max := hm
  len := pk_len l
  low := fun h => by
    rw [pk_getD (by omega)]
    exact byt_low
theorem bitAt_pk {l : List Int} (h : Bit l) {i : Nat} (hi : i < l.length) : bitAt (pk l) i = l.getD i 0 := by
  obtain ⟨k, hk⟩ : ∃ k, k = i / 8 := ⟨_, rfl⟩
  obtain ⟨r, hr⟩ : ∃ r, r = i % 8 := ⟨_, rfl⟩
  have hl : i = 8 * k + r := by omega
  have hr8 : r < 8 := by omega
  obtain ⟨c0, c1, c2, c3, c4, c5, c6, c7⟩ := bitAt_8 (pk l) k
  have hb : (pk l).getD k 0 = byt l k := pk_getD (by omega)
  rw [hb] at c0 c1 c2 c3 c4 c5 c6 c7
  have hbd : ∀ q, 0 ≤ l.getD q 0 ∧ l.getD q 0 ≤ 1 := fun q => by have := h.getD q; omega
  have h0 := hbd (8 * k); have h1 := hbd (8 * k + 1); have h2 := hbd (8 * k + 2); have h3 := hbd (8 * k + 3)
  have h4 := hbd (8 * k + 4); have h5 := hbd (8 * k + 5); have h6 := hbd (8 * k + 6); have h7 := hbd (8 * k + 7)
  clear hbd hb
  unfold byt at c0 c1 c2 c3 c4 c5 c6 c7
  rcases (by omega : r = 0 ∨ r = 1 ∨ r = 2 ∨ r = 3 ∨ r = 4 ∨ r = 5 ∨ r = 6 ∨ r = 7) with rfl | rfl | rfl | rfl | rfl | rfl | rfl | rfl
  · rw [hl, Nat.add_zero, c0]; clear c0 c1 c2 c3 c4 c5 c6 c7; generalize l.getD (8 * k) 0 = y0 at *; generalize l.getD (8 * k + 1) 0 = y1 at *; generalize l.getD (8 * k + 2) 0 = y2 at *; generalize l.getD (8 * k + 3) 0 = y3 at *; generalize l.getD (8 * k + 4) 0 = y4 at *; generalize l.getD (8 * k + 5) 0 = y5 at *; generalize l.getD (8 * k + 6) 0 = y6 at *; generalize l.getD (8 * k + 7) 0 = y7 at *; clear h hi hl hr hk hr8; omega
  · rw [hl, c1]; clear c0 c1 c2 c3 c4 c5 c6 c7; generalize l.getD (8 * k) 0 = y0 at *; generalize l.getD (8 * k + 1) 0 = y1 at *; generalize l.getD (8 * k + 2) 0 = y2 at *; generalize l.getD (8 * k + 3) 0 = y3 at *; generalize l.getD (8 * k + 4) 0 = y4 at *; generalize l.getD (8 * k + 5) 0 = y5 at *; generalize l.getD (8 * k + 6) 0 = y6 at *; generalize l.getD (8 * k + 7) 0 = y7 at *; clear h hi hl hr hk hr8; omega
  · rw [hl, c2]; clear c0 c1 c2 c3 c4 c5 c6 c7; generalize l.getD (8 * k) 0 = y0 at *; generalize l.getD (8 * k + 1) 0 = y1 at *; generalize l.getD (8 * k + 2) 0 = y2 at *; generalize l.getD (8 * k + 3) 0 = y3 at *; generalize l.getD (8 * k + 4) 0 = y4 at *; generalize l.getD (8 * k + 5) 0 = y5 at *; generalize l.getD (8 * k + 6) 0 = y6 at *; generalize l.getD (8 * k + 7) 0 = y7 at *; clear h hi hl hr hk hr8; omega
  · rw [hl, c3]; clear c0 c1 c2 c3 c4 c5 c6 c7; generalize l.getD (8 * k) 0 = y0 at *; generalize l.getD (8 * k + 1) 0 = y1 at *; generalize l.getD (8 * k + 2) 0 = y2 at *; generalize l.getD (8 * k + 3) 0 = y3 at *; generalize l.getD (8 * k + 4) 0 = y4 at *; generalize l.getD (8 * k + 5) 0 = y5 at *; generalize l.getD (8 * k + 6) 0 = y6 at *; generalize l.getD (8 * k + 7) 0 = y7 at *; clear h hi hl hr hk hr8; omega
  · rw [hl, c4]; clear c0 c1 c2 c3 c4 c5 c6 c7; generalize l.getD (8 * k) 0 = y0 at *; generalize l.getD (8 * k + 1) 0 = y1 at *; generalize l.getD (8 * k + 2) 0 = y2 at *; generalize l.getD (8 * k + 3) 0 = y3 at *; generalize l.getD (8 * k + 4) 0 = y4 at *; generalize l.getD (8 * k + 5) 0 = y5 at *; generalize l.getD (8 * k + 6) 0 = y6 at *; generalize l.getD (8 * k + 7) 0 = y7 at *; clear h hi hl hr hk hr8; omega
  · rw [hl, c5]; clear c0 c1 c2 c3 c4 c5 c6 c7; generalize l.getD (8 * k) 0 = y0 at *; generalize l.getD (8 * k + 1) 0 = y1 at *; generalize l.getD (8 * k + 2) 0 = y2 at *; generalize l.getD (8 * k + 3) 0 = y3 at *; generalize l.getD (8 * k + 4) 0 = y4 at *; generalize l.getD (8 * k + 5) 0 = y5 at *; generalize l.getD (8 * k + 6) 0 = y6 at *; generalize l.getD (8 * k + 7) 0 = y7 at *; clear h hi hl hr hk hr8; omega
  · rw [hl, c6]; clear c0 c1 c2 c3 c4 c5 c6 c7; generalize l.getD (8 * k) 0 = y0 at *; generalize l.getD (8 * k + 1) 0 = y1 at *; generalize l.getD (8 * k + 2) 0 = y2 at *; generalize l.getD (8 * k + 3) 0 = y3 at *; generalize l.getD (8 * k + 4) 0 = y4 at *; generalize l.getD (8 * k + 5) 0 = y5 at *; generalize l.getD (8 * k + 6) 0 = y6 at *; generalize l.getD (8 * k + 7) 0 = y7 at *; clear h hi hl hr hk hr8; omega
  · rw [hl, c7]; clear c0 c1 c2 c3 c4 c5 c6 c7; generalize l.getD (8 * k) 0 = y0 at *; generalize l.getD (8 * k + 1) 0 = y1 at *; generalize l.getD (8 * k + 2) 0 = y2 at *; generalize l.getD (8 * k + 3) 0 = y3 at *; generalize l.getD (8 * k + 4) 0 = y4 at *; generalize l.getD (8 * k + 5) 0 = y5 at *; generalize l.getD (8 * k + 6) 0 = y6 at *; generalize l.getD (8 * k + 7) 0 = y7 at *; clear h hi hl hr hk hr8; omega
theorem bl_pk {l : List Int} (h : Bit l) : bl (pk l) l.length = l := by
  apply List.ext_getElem?
  intro i
  by_cases hi : i < l.length
  · have h1 : (bl (pk l) l.length)[i]? = some (bitAt (pk l) i) := by simp [bl, hi]
    rw [h1, bitAt_pk h hi]
    simp [List.getD, hi]
  · rw [List.getElem?_eq_none (by rw [bl_len]; omega), List.getElem?_eq_none (by omega)]
theorem same_l (F : Nat) {xs ys : List Int} (hl : xs.length = ys.length) (hm : xs.length ≤ 9223372036854775807) : ∀ (k i : Nat), xs.length < k + i → i ≤ xs.length →
    M_R_SameBytes_l3 F xs ys k (i : Int) = some (decide (xs.drop i = ys.drop i))
  | 0, i, h, _ => by omega
  | k + 1, i, h, hi => by
    show M_R_SameBytes_b3 F xs ys (M_R_SameBytes_l3 F xs ys k) i = _
    unfold M_R_SameBytes_b3
    by_cases hlt : i < xs.length
    · have hlt' : (i : Int) < (xs.length : Int) := by omega
      have hlt2 : i < ys.length := by omega
      have hg : xs[i]? = some xs[i] := by simp [hlt]
      have hg2 : ys[i]? = some ys[i] := by simp [hlt2]
      simp only [hlt', decide_true, if_true, idx_nat, hg, hg2, Option.bind_some]
      have e : (xs.drop i = ys.drop i) ↔ (xs[i] = ys[i] ∧ xs.drop (i + 1) = ys.drop (i + 1)) := by
        rw [List.drop_eq_getElem_cons hlt, List.drop_eq_getElem_cons hlt2, List.cons.injEq]
      simp only [e]
      by_cases he : xs[i] = ys[i]
      · simp only [he, bne_self_eq_false, Bool.false_eq_true, if_false, true_and]
        rw [iadd_i64 (by omega) (by omega), show (i : Int) + 1 = ((i + 1 : Nat) : Int) from by omega, same_l F hl hm k (i + 1) (by omega) (by omega)]
      · have : (xs[i] != ys[i]) = true := by simpa using he
        simp only [this, if_true, he, false_and, decide_false]
    · have hlt' : ¬ (i : Int) < (xs.length : Int) := by omega
      simp only [hlt', decide_false, Bool.false_eq_true, if_false]
      rw [List.drop_eq_nil_of_le (by omega), List.drop_eq_nil_of_le (by omega)]
      rfl
theorem sameBytes_eq {F : Nat} {xs ys : List Int} (hF : xs.length < F) (hm : xs.length ≤ 9223372036854775807) : M_R_SameBytes F xs ys = some (decide (xs = ys)) := by
  unfold M_R_SameBytes
  by_cases hl : xs.length = ys.length
  · have : (((xs.length : Int) : Int) != (ys.length : Int)) = false := by simp [hl]
    simp only [this, Bool.false_eq_true, if_false]
    have := same_l F hl hm F 0 (by omega) (by omega)
    simpa using this
  · have : (((xs.length : Int) : Int) != (ys.length : Int)) = true := by simp; omega
    simp only [this, if_true]
    have : xs ≠ ys := fun e => hl (by rw [e])
    simp [this]
theorem sameBits_eq {F : Nat} {n m : Int} {xs ys : List Int} (hF : xs.length < F) (hm : xs.length ≤ 9223372036854775807) : M_R_SameBits F n xs m ys = some (decide (n = m ∧ xs = ys)) := by
  unfold M_R_SameBits
  by_cases h : n = m
  · have hb : (n == m) = true := by simp [h]
    rw [if_pos hb, sameBytes_eq hF hm]
    simp [M_R_SameBits_j1, h]
  · have hb : (n == m) = false := by simpa using h
    rw [hb]
    simp [M_R_SameBits_j1, h]
theorem chkOf_of_ok {n : Nat} {b : List Int} (h : Ok n b) : chkOf (n : Int) b = 0 := by
  unfold chkOf
  have := h.max
  have := h.len
  rw [if_neg (by omega), if_neg (by omega), if_neg]
  rintro ⟨h1, h2⟩
  rw [Int.toNat_natCast] at h2
  exact h2 (h.low (by omega))
theorem bit_app {l k : List Int} (h : Bit l) (h2 : Bit k) : Bit (l ++ k) := by
  intro x hx
  rcases List.mem_append.1 hx with h3 | h3
  · exact h x h3
  · exact h2 x h3
theorem begun_bits' {F : Nat} (hF : 20000 ≤ F) : M_L_bitsBegun F = some true := by
  obtain ⟨n, rfl⟩ : ∃ n, F = n + 200 := ⟨F - 200, by omega⟩
  exact begun_bits n
theorem two64 : (2 : Nat) ^ 64 = 18446744073709551616 := by decide
theorem ishr_n {n k : Nat} (hn : n < 18446744073709551616) : ishr .u64 (n : Int) (k : Int) = ((n / 2 ^ k : Nat) : Int) := by
  unfold ishr
  rw [Int.fdiv_eq_ediv_of_nonneg _ (by exact_mod_cast Nat.zero_le _), Int.toNat_natCast]
  simp only [IntKind.bits]
  by_cases h : k ≤ 64
  · rw [Nat.min_eq_left h]; norm_cast
  · rw [Nat.min_eq_right (by omega)]
    have h1 : n / 2 ^ 64 = 0 := Nat.div_eq_of_lt (by omega)
    have h2 : n / 2 ^ k = 0 := Nat.div_eq_of_lt (Nat.lt_of_lt_of_le hn (by rw [← two64]; exact Nat.pow_le_pow_right (by decide) (by omega)))
    rw [h2]
    have : ((n : Int) / 2 ^ 64) = ((n / 2 ^ 64 : Nat) : Int) := by norm_cast
    rw [this, h1]
theorem iand1_n {n : Nat} (hn : n < 18446744073709551616) : iand .u64 (n : Int) 1 = ((n % 2 : Nat) : Int) := by
  have e := iand_mask (k := .u64) (a := (n : Int)) (m := 1) (by omega) (by simp only [IntKind.bits]; rw [show (2 : Int) ^ 64 = 18446744073709551616 from by decide]; omega) (by decide) rfl
  rw [show ((2 ^ 1 - 1 : Nat) : Int) = 1 from rfl, show (2 : Int) ^ 1 = 2 from rfl] at e
  rw [e]; omega
theorem ishl_n {n k : Nat} (hk : k ≤ 64) : ishl .u64 (n : Int) (k : Int) = ((n * 2 ^ k % 18446744073709551616 : Nat) : Int) := by
  rw [ishl_u64 hk, Int.natCast_emod, Int.natCast_mul, Int.natCast_pow]; rfl
theorem ior_n {a b m : Nat} (ha : a < 2 ^ m) (hb : b % 2 ^ m = 0) (h : a + b < 18446744073709551616) : ior .u64 (b : Int) (a : Int) = ((b + a : Nat) : Int) := by
  rw [ior_comm, ior_add (m := m) (by omega) (by exact_mod_cast ha) (by omega) (by exact_mod_cast hb) rfl (by simp only [IntKind.bits]; rw [show (2 : Int) ^ 64 = 18446744073709551616 from by decide]; omega)]
  omega
theorem iadd_n {a b : Nat} (h : a + b < 9223372036854775808) : iadd .i64 (a : Int) (b : Int) = ((a + b : Nat) : Int) := by rw [iadd_i64 (by omega) (by omega)]; omega
theorem iadd1_n {a : Nat} (h : a + 1 < 9223372036854775808) : iadd .i64 (a : Int) 1 = ((a + 1 : Nat) : Int) := by rw [iadd_i64 (by omega) (by omega)]; omega
theorem isub_n {a b : Nat} (h : b ≤ a) (h2 : a < 9223372036854775808) : isub .i64 (a : Int) (b : Int) = ((a - b : Nat) : Int) := by rw [isub_i64 (by omega) (by omega)]; omega
/-- The bits of a number, in so many places, the highest one first. -/
def nb (n : Nat) : Nat → List Int
  | 0 => []
  | w + 1 => ((n / 2 ^ w % 2 : Nat) : Int) :: nb n w
theorem nb_len (n : Nat) : ∀ w, (nb n w).length = w
  | 0 => rfl
  | w + 1 => by simp [nb, nb_len n w]
theorem nb_bit (n : Nat) : ∀ w, Bit (nb n w)
  | 0 => by intro x hx; simp [nb] at hx
  | w + 1 => by
    intro x hx
    rcases List.mem_cons.1 hx with rfl | h
    · omega
    · exact nb_bit n w x h
/-- The number of bits. -/
def bv (l : List Int) : Nat := l.foldl (fun n b => 2 * n + b.toNat) 0
theorem bv_from (l : List Int) : ∀ m, l.foldl (fun n b => 2 * n + b.toNat) m = m * 2 ^ l.length + bv l := by
  induction l with
  | nil => intro m; simp [bv]
  | cons x l ih =>
    intro m
    show l.foldl _ _ = _
    rw [ih]
    show _ = _ + l.foldl _ _
    rw [ih, List.length_cons, Nat.pow_succ]
    generalize 2 ^ l.length = p
    rw [Nat.add_mul, Nat.add_mul]
    have : 2 * m * p = m * (p * 2) := by rw [Nat.mul_comm 2 m, Nat.mul_assoc, Nat.mul_comm 2 p]
    omega
theorem bv_app (l k : List Int) : bv (l ++ k) = bv l * 2 ^ k.length + bv k := by
  unfold bv
  rw [List.foldl_append, bv_from k]; rfl
theorem bv_cons (x : Int) (l : List Int) : bv (x :: l) = x.toNat * 2 ^ l.length + bv l := by
  have := bv_app [x] l
  simpa [bv] using this
theorem bv_lt {l : List Int} (h : Bit l) : bv l < 2 ^ l.length := by
  induction l with
  | nil => simp [bv]
  | cons x l ih =>
    have h1 := ih (fun y hy => h y (List.mem_cons_of_mem _ hy))
    rw [bv_cons, List.length_cons, Nat.pow_succ]
    rcases h x List.mem_cons_self with rfl | rfl
    · simp; omega
    · simp; omega
theorem bv_nb (n : Nat) : ∀ w, bv (nb n w) = n % 2 ^ w
  | 0 => by simp [nb, bv, Nat.mod_one]
  | w + 1 => by
    rw [nb, bv_cons, nb_len, bv_nb n w, Int.toNat_natCast, Nat.pow_succ, Nat.mod_mul, Nat.mul_comm, Nat.add_comm]
theorem nb_bv {l : List Int} (h : Bit l) : nb (bv l) l.length = l := by
  have key : ∀ (l : List Int), Bit l → ∀ m, nb (m * 2 ^ l.length + bv l) l.length = l := by
    intro l
    induction l with
    | nil => intro _ m; rfl
    | cons x l ih =>
      intro h m
      have hl := bv_lt (fun y hy => h y (List.mem_cons_of_mem _ hy) : Bit l)
      have h2 := ih (fun y hy => h y (List.mem_cons_of_mem _ hy)) (2 * m + x.toNat)
      have e : m * 2 ^ (x :: l).length + bv (x :: l) = (2 * m + x.toNat) * 2 ^ l.length + bv l := by
        rw [bv_cons, List.length_cons, Nat.pow_succ, Nat.add_mul]
        have : 2 * m * 2 ^ l.length = m * (2 ^ l.length * 2) := by rw [Nat.mul_comm 2 m, Nat.mul_assoc, Nat.mul_comm 2]
        omega
      rw [e, List.length_cons, nb, h2]
      congr 1
      rw [Nat.mul_comm, Nat.mul_add_div (Nat.pow_pos (by decide)), Nat.div_eq_of_lt hl]
      rcases h x List.mem_cons_self with rfl | rfl
      · simp
      · simp
        try omega
  have := key l h 0
  simpa using this
theorem nb_app (n a : Nat) : ∀ b, nb n (b + a) = nb (n / 2 ^ a) b ++ nb n a
  | 0 => by simp [nb]
  | b + 1 => by
    rw [show b + 1 + a = (b + a) + 1 from by omega, nb, nb_app n a b, nb, List.cons_append]
    congr 3
    rw [Nat.div_div_eq_div_mul, ← Nat.pow_add, Nat.add_comm]
theorem nb_snoc (n w : Nat) : nb n (w + 1) = nb (n / 2) w ++ [((n % 2 : Nat) : Int)] := by
  have := nb_app n 1 w
  simpa [nb] using this
theorem number_l {F : Nat} {n : Nat} (hn : n < 18446744073709551616) : ∀ (w k : Nat) (l : List Int), w < k → Bit l → l.length + w ≤ 100000 →
    M_bits_writer_number_l1 F (n : Int) k ((w : Int) - 1, (l.length : Int), pk l) = some (((l.length + w : Nat) : Int), pk (l ++ nb n w))
  | _, 0, _, h, _, _ => by omega
  | 0, k + 1, l, _, _, _ => by
    show M_bits_writer_number_b1 F (n : Int) _ (((0 : Nat) : Int) - 1) (l.length : Int) (pk l) = _
    unfold M_bits_writer_number_b1
    rw [if_neg (by simp)]
    simp [nb]
  | w + 1, k + 1, l, h, hl, hm => by
    show M_bits_writer_number_b1 F (n : Int) (M_bits_writer_number_l1 F (n : Int) k) (((w + 1 : Nat) : Int) - 1) (l.length : Int) (pk l) = _
    unfold M_bits_writer_number_b1
    rw [show ((w + 1 : Nat) : Int) - 1 = (w : Int) from by omega, if_pos (by simp)]
    have hc : decide ((0 : Int) ≤ (w : Int)) = true := decide_eq_true (by omega)
    rw [hc]
    simp only [chk, if_true]
    rw [ishr_n hn, iand1_n (by have := Nat.div_le_self n (2 ^ w); omega)]
    have hx : ((n / 2 ^ w % 2 : Nat) : Int) = 0 ∨ ((n / 2 ^ w % 2 : Nat) : Int) = 1 := by omega
    rw [bit_eq hl hx (by omega)]
    simp only [Option.bind_some]
    rw [isub_i64 (by omega) (by omega)]
    have := number_l (F := F) hn w k (l ++ [((n / 2 ^ w % 2 : Nat) : Int)]) (by omega) (bit_app hl (by intro y hy; simp only [List.mem_singleton] at hy; rw [hy]; exact hx)) (by simp; omega)
    rw [show (l ++ [((n / 2 ^ w % 2 : Nat) : Int)]).length = l.length + 1 from by simp] at this
    rw [this, List.append_assoc, show l.length + 1 + w = l.length + (w + 1) from by omega]
    rfl
theorem number_eq {F : Nat} {n w : Nat} {l : List Int} (hn : n < 18446744073709551616) (hF : w < F) (hl : Bit l) (hm : l.length + w ≤ 100000) :
    M_bits_writer_number F (l.length : Int) (pk l) (n : Int) (w : Int) = some (((l.length + w : Nat) : Int), pk (l ++ nb n w)) := by
  unfold M_bits_writer_number
  rw [isub_i64 (by omega) (by omega)]
  exact number_l hn w F l hF hl hm
theorem add_eq {F : Nat} {n w m : Nat} {b : List Int} (hn : n < 18446744073709551616) (hF : w < F) (hb : U8s b) (ob : Ok m b) (hw : w ≤ 10000) :
    M_bits_Add F (m : Int) b (n : Int) (w : Int) = some (((m + w : Nat) : Int), pk (bl b m ++ nb n w)) := by
  unfold M_bits_Add
  have := ob.max
  rw [own_eq (by rw [ob.len]; omega)]
  simp only [Option.bind_some]
  have h := number_eq (F := F) (l := bl b m) hn hF (bl_bit _ _) (by rw [bl_len]; omega)
  rw [bl_len, pk_bl hb ob] at h
  rw [h]; rfl
theorem bl_get {b : List Int} {n i : Nat} (h : i < n) : (bl b n)[i]? = some (bitAt b i) := by simp [bl, h]
theorem read_l {F : Nat} {n : Int} {m a w : Nat} {b : List Int} (hb : U8s b) (hlen : m ≤ 8 * b.length) (hm : m ≤ 10000) (ha : a + w ≤ m) (hw : w ≤ 64) : ∀ (k i v : Nat), w < k + i → i ≤ w → v < 2 ^ i →
    M_bits_Read_l3 F n b (a : Int) (w : Int) k ((v : Int), (i : Int)) = some (((v * 2 ^ (w - i) + bv (((bl b m).drop (a + i)).take (w - i)) : Nat) : Int), true)
  | 0, _, _, _, _, _ => by omega
  | k + 1, i, v, h, hi, hv => by
    show M_bits_Read_b3 F n b (a : Int) (w : Int) (M_bits_Read_l3 F n b (a : Int) (w : Int) k) (v : Int) (i : Int) = _
    unfold M_bits_Read_b3
    by_cases hlt : i < w
    · rw [if_pos (by simp; omega), iadd_n (by omega), at_eq hb (by omega) (by omega)]
      simp only [Option.bind_some]
      have hx := bitAt_bit b (a + i)
      have hv64 : 2 * v + 1 < 18446744073709551616 := by
        have : 2 ^ (i + 1) ≤ 2 ^ 64 := Nat.pow_le_pow_right (by decide) (by omega)
        rw [Nat.pow_succ, two64] at this
        omega
      obtain ⟨x, hxe⟩ : ∃ x : Nat, bitAt b (a + i) = (x : Int) := Int.eq_ofNat_of_zero_le (by omega)
      have hx1 : x < 2 := by omega
      have e1 : ishl .u64 (v : Int) 1 = ((v * 2 : Nat) : Int) := by
        have := ishl_n (n := v) (k := 1) (by decide)
        rw [show ((1 : Nat) : Int) = 1 from rfl] at this
        rw [this]; omega
      have e2 : ior .u64 ((v * 2 : Nat) : Int) (x : Int) = ((v * 2 + x : Nat) : Int) := ior_n (m := 1) (by omega) (by omega) (by omega)
      rw [hxe, e1, e2, iadd1_n (by omega)]
      rw [read_l hb hlen hm ha hw k (i + 1) (v * 2 + x) (by omega) (by omega) (by rw [Nat.pow_succ]; omega)]
      have hd : ((bl b m).drop (a + i)).take (w - i) = (x : Int) :: ((bl b m).drop (a + (i + 1))).take (w - (i + 1)) := by
        rw [List.drop_eq_getElem_cons (by rw [bl_len]; omega), show w - i = (w - (i + 1)) + 1 from by omega, List.take_succ_cons, show a + i + 1 = a + (i + 1) from by omega]
        congr 1
        have := bl_get (b := b) (n := m) (i := a + i) (by omega)
        rw [List.getElem?_eq_getElem (by rw [bl_len]; omega)] at this
        rw [← hxe]; exact Option.some.inj this
      rw [hd, bv_cons, Int.toNat_natCast]
      have hl : (((bl b m).drop (a + (i + 1))).take (w - (i + 1))).length = w - (i + 1) := by simp [bl_len]; omega
      rw [hl, show w - i = (w - (i + 1)) + 1 from by omega, Nat.pow_succ, Nat.add_mul]
      congr 3
      rw [Nat.mul_assoc, Nat.mul_comm 2, Nat.add_assoc]
    · rw [if_neg (by simp; omega)]
      rw [show w - i = 0 from by omega]
      simp [M_bits_Read_j2, bv]
theorem read_eq {F : Nat} {m a w : Nat} {b : List Int} (hF : 100 ≤ F) (hb : U8s b) (ob : Ok m b) (ha : a ≤ m) (hw : w ≤ 64) :
    M_bits_Read F (m : Int) b (a : Int) (w : Int) = some (if a + w ≤ m then (((bv (((bl b m).drop a).take w) : Nat) : Int), true) else (0, false)) := by
  unfold M_bits_Read
  have hmx := ob.max
  rw [isub_n ha (by omega)]
  by_cases h : a + w ≤ m
  · rw [if_neg (by simp; omega), if_pos h]
    have := read_l (F := F) (n := (m : Int)) (m := m) (a := a) (w := w) hb (by rw [ob.len]; omega) (by omega) h hw F 0 0 (by omega) (by omega) (by decide)
    simpa using this
  · rw [if_pos (by simp; omega), if_neg h]
def getOf (m : Int) (b : List Int) (a w : Int) : Int :=
  if chkOf m b ≠ 0 then chkOf m b else if w < 0 ∨ 64 < w ∨ a < 0 ∨ m < a then 3 else if m < a + w then 7 else 0
def gt (m : Int) (b : List Int) (a w : Int) : Int × Int :=
  if getOf m b a w ≠ 0 then (0, getOf m b a w) else (((bv (((bl b m.toNat).drop a.toNat).take w.toNat) : Nat) : Int), 0)
theorem gt_err {m : Int} {b : List Int} {a w e : Int} (h : getOf m b a w = e) (he : e ≠ 0) : gt m b a w = (0, e) := by
  unfold gt; rw [h, if_pos he]
theorem gt_ok {m : Int} {b : List Int} {a w : Int} (h : getOf m b a w = 0) : gt m b a w = (((bv (((bl b m.toNat).drop a.toNat).take w.toNat) : Nat) : Int), 0) := by
  unfold gt; rw [h]; rfl
theorem get_eq {F : Nat} (hF : 20000 ≤ F) {m a w : Int} {b : List Int} (hb : U8s b) (hm : I64 m) (lb : b.length ≤ 9223372036854775807) : M_bits_Get F m b a w = some (gt m b a w) := by
  unfold M_bits_Get
  rw [check_eq hb hm.1 hm.2 lb]
  simp only [Option.bind_some]
  by_cases h1 : chkOf m b = 0
  · obtain ⟨m, rfl, ob⟩ := chkOf_ok h1
    have hmx := ob.max
    rw [h1, if_pos (by rfl)]
    by_cases h2 : w < 0 ∨ 64 < w ∨ a < 0 ∨ (m : Int) < a
    · rw [show (((decide (w < 0) || decide (64 < w)) || decide (a < 0)) || decide ((m : Int) < a)) = true from by simp only [Bool.or_eq_true, decide_eq_true_eq]; omega,
        gt_err (e := 3) (by unfold getOf; rw [if_neg (by simp [h1]), if_pos h2]) (by decide)]
      rfl
    · rw [show (((decide (w < 0) || decide (64 < w)) || decide (a < 0)) || decide ((m : Int) < a)) = false from by rw [Bool.eq_false_iff]; intro h; apply h2; simp only [Bool.or_eq_true, decide_eq_true_eq] at h; omega]
      obtain ⟨w, rfl⟩ := Int.eq_ofNat_of_zero_le (show 0 ≤ w by omega)
      obtain ⟨a, rfl⟩ := Int.eq_ofNat_of_zero_le (show 0 ≤ a by omega)
      simp only [M_bits_Get_j3, M_bits_Get_j2, Bool.false_eq_true, if_false, bne_self_eq_false]
      rw [read_eq (by omega) hb ob (by omega) (by omega)]
      simp only [Option.bind_some]
      by_cases h3 : a + w ≤ m
      · rw [gt_ok (by unfold getOf; rw [if_neg (by simp [h1]), if_neg h2, if_neg (by omega)])]
        simp [h3]
      · rw [gt_err (e := 7) (by unfold getOf; rw [if_neg (by simp [h1]), if_neg h2, if_pos (by omega)]) (by decide)]
        simp [h3]
  · have hb1 : (chkOf m b == 0) = false := by simpa using h1
    have hb3 : (chkOf m b != 0) = true := by simpa using h1
    rw [hb1, gt_err (e := chkOf m b) (by unfold getOf; rw [if_pos h1]) h1]
    simp only [M_bits_Get_j3, M_bits_Get_j2, Bool.false_eq_true, if_false, hb3, if_true]
theorem irem2_n (n : Nat) : irem (n : Int) 2 = ((n % 2 : Nat) : Int) := by
  unfold irem; rw [Int.tmod_eq_emod_of_nonneg (by omega)]; omega
theorem iquo2_n {n : Nat} (h : n ≤ 9223372036854775807) : iquo .i64 (n : Int) 2 = ((n / 2 : Nat) : Int) := by
  unfold iquo; rw [Int.tdiv_eq_ediv_of_nonneg (by omega), wrap_i64 (by omega) (by omega)]; omega
theorem iquo2_u {n : Nat} (h : n < 18446744073709551616) : iquo .u64 (n : Int) 2 = ((n / 2 : Nat) : Int) := by
  unfold iquo; rw [Int.tdiv_eq_ediv_of_nonneg (by omega), wrap_u64 (by omega) (by omega)]; omega
theorem iconv_i64_n {n : Nat} (h : n < 9223372036854775808) : iconv .i64 (n : Int) = (n : Int) := wrap_i64 (by omega) (by omega)
theorem div_pow_succ (x k : Nat) : x / 2 ^ (k + 1) = x / 2 / 2 ^ k := by rw [Nat.pow_succ, Nat.mul_comm, Nat.div_div_eq_div_mul]
theorem bitList_in {F : Nat} {rec38 : (List Int × Int) → Option (List Int)} {l : List Int} {i : Nat} (hm : i ≤ 100000) : ∀ (k j x : Nat), 7 - i % 8 < k + j → j ≤ 7 - i % 8 → x < 256 →
    M_R_BitList_l45 F rec38 l (i : Int) k ((x : Int), (j : Int)) = M_R_BitList_j44 F rec38 l (i : Int) ((x / 2 ^ (7 - i % 8 - j) : Nat) : Int)
  | 0, _, _, _, _, _ => by omega
  | k + 1, j, x, h, hj, hx => by
    show M_R_BitList_b45 F rec38 l (i : Int) (M_R_BitList_l45 F rec38 l (i : Int) k) (x : Int) (j : Int) = _
    unfold M_R_BitList_b45
    rw [irem8, isub_i64 (by omega) (by omega)]
    by_cases hlt : j < 7 - i % 8
    · rw [if_pos (by simp; omega), iquo2_n (by omega), iadd1_n (by omega), bitList_in hm k (j + 1) (x / 2) (by omega) (by omega) (by omega)]
      rw [show 7 - i % 8 - j = (7 - i % 8 - (j + 1)) + 1 from by omega, div_pow_succ]
    · rw [if_neg (by simp; omega), show 7 - i % 8 - j = 0 from by omega]
      simp
theorem bitList_l {F : Nat} (hF : 100 ≤ F) {b : List Int} (hb : U8s b) {n : Nat} (hn : n ≤ 8 * b.length) (hm : n ≤ 100000) : ∀ (k i : Nat), n < k + i → i ≤ n →
    M_R_BitList_l38 F (n : Int) b k (bl b i, (i : Int)) = some (bl b n)
  | 0, _, _, _ => by omega
  | k + 1, i, h, hi => by
    show M_R_BitList_b38 F (n : Int) b (M_R_BitList_l38 F (n : Int) b k) (bl b i) (i : Int) = _
    unfold M_R_BitList_b38
    by_cases hlt : i < n
    · rw [if_pos (by simp; omega), iquo8 (by omega), idx_nat]
      have hg : b[i / 8]? = some b[i / 8] := by rw [List.getElem?_eq_getElem (by omega)]
      rw [hg]
      simp only [Option.bind_some]
      have hx := hb b[i / 8] (List.getElem_mem (by omega))
      obtain ⟨x, hxe⟩ := Int.eq_ofNat_of_zero_le hx.1
      rw [hxe, iconv_i64_n (by omega)]
      rw [show ((0 : Int)) = ((0 : Nat) : Int) from rfl, bitList_in (by omega) F 0 x (by omega) (by omega) (by omega)]
      unfold M_R_BitList_j44
      rw [irem2_n, app_eq (by rw [bl_len]; simp; omega)]
      simp only [Option.bind_some, M_R_BitList_j42]
      rw [iadd1_n (by omega)]
      have e : bl b i ++ [((x / 2 ^ (7 - i % 8 - 0) % 2 : Nat) : Int)] = bl b (i + 1) := by
        rw [bl_succ]
        congr 2
        unfold bitAt
        simp only [List.getD, hg, Option.getD_some, hxe, Nat.sub_zero]
        norm_cast
      rw [e]
      exact bitList_l hF hb hn hm k (i + 1) (by omega) (by omega)
    · rw [if_neg (by simp; omega)]
      obtain rfl : i = n := by omega
      rfl
theorem bitList_eq {F : Nat} (hF : 20000 ≤ F) {b : List Int} (hb : U8s b) {n : Nat} (hn : n ≤ 8 * b.length) (hm : n ≤ 10000) : M_R_BitList F (n : Int) b = some (bl b n) := by
  unfold M_R_BitList
  exact bitList_l (by omega) hb hn (by omega) F 0 (by omega) (by omega)
theorem bit_n {l : List Int} (h : Bit l) {i : Nat} (hi : i < l.length) : ∃ x : Nat, l[i]? = some (x : Int) ∧ x < 2 := by
  have := h l[i] (List.getElem_mem hi)
  obtain ⟨x, hx⟩ := Int.eq_ofNat_of_zero_le (show 0 ≤ l[i] by omega)
  exact ⟨x, by rw [List.getElem?_eq_getElem hi, hx], by omega⟩
theorem imul2_n {n : Nat} (h : n < 4611686018427387904) : imul .i64 2 (n : Int) = ((2 * n : Nat) : Int) := by rw [imul_i64 (by omega) (by omega)]; omega
/-- The first so many of eight bits from a place on, as a number. -/
def byN (l : List Int) (i : Nat) : Nat → Nat
  | 0 => 0
  | k + 1 => 2 * byN l i k + (l.getD (i + k) 0).toNat
theorem byN_lt {l : List Int} (h : Bit l) (i : Nat) : ∀ k, byN l i k < 2 ^ k
  | 0 => by simp [byN]
  | k + 1 => by
    have := byN_lt h i k
    have h2 := h.getD (i + k)
    unfold byN
    rw [Nat.pow_succ]
    omega
theorem byN_8 {l : List Int} (h : Bit l) (i : Nat) : ((byN l (8 * i) 8 : Nat) : Int) = byt l i := by
  have h0 := h.getD (8 * i); have h1 := h.getD (8 * i + 1); have h2 := h.getD (8 * i + 2); have h3 := h.getD (8 * i + 3)
  have h4 := h.getD (8 * i + 4); have h5 := h.getD (8 * i + 5); have h6 := h.getD (8 * i + 6); have h7 := h.getD (8 * i + 7)
  unfold byt
  simp only [byN, Nat.add_zero]
  omega
theorem packBits_in {F : Nat} {rec98 : (Int × List Int) → Option (Int × List Int)} {l o : List Int} (hl : Bit l) {i : Nat} (hm : i ≤ 100000) (hlm : l.length ≤ 100000) : ∀ (k j : Nat), 8 < k + j → j ≤ 8 →
    M_R_PackBits_l116 F rec98 l (i : Int) o k ((byN l i j : Nat), (j : Int)) = M_R_PackBits_j113 F rec98 (i : Int) o ((byN l i 8 : Nat) : Int)
  | 0, _, _, _ => by omega
  | k + 1, j, h, hj => by
    show M_R_PackBits_b116 F rec98 l (i : Int) o (M_R_PackBits_l116 F rec98 l (i : Int) o k) ((byN l i j : Nat) : Int) (j : Int) = _
    unfold M_R_PackBits_b116
    by_cases hlt : j < 8
    · have hb := byN_lt hl i j
      have hp : 2 ^ j ≤ 2 ^ 8 := Nat.pow_le_pow_right (by decide) hj
      rw [show 2 ^ 8 = 256 from by decide] at hp
      rw [if_pos (by simp; omega), iadd_n (by omega)]
      by_cases h2 : i + j < l.length
      · rw [if_pos (by simp; omega), idx_nat]
        obtain ⟨x, hx, hx2⟩ := bit_n hl h2
        rw [hx]
        simp only [Option.bind_some, M_R_PackBits_j117]
        rw [imul2_n (by omega), iadd_n (by omega), iadd1_n (by omega)]
        have e : 2 * byN l i j + x = byN l i (j + 1) := by
          simp [byN, List.getD, hx]
        rw [e]
        exact packBits_in hl hm hlm k (j + 1) (by omega) (by omega)
      · rw [if_neg (by simp; omega)]
        simp only [M_R_PackBits_j117]
        rw [imul2_n (by omega), iadd1_n (by omega)]
        have e : 2 * byN l i j = byN l i (j + 1) := by
          show _ = 2 * _ + (l.getD (i + j) 0).toNat
          rw [getD_ge (by omega)]; rfl
        rw [e]
        exact packBits_in hl hm hlm k (j + 1) (by omega) (by omega)
    · rw [if_neg (by simp; omega)]
      obtain rfl : j = 8 := by omega
      rfl
theorem packBits_l {F : Nat} (hF : 100 ≤ F) {l : List Int} (hl : Bit l) (hm : l.length ≤ 90000) : ∀ (k i : Nat), (l.length + 7) / 8 < k + i → i ≤ (l.length + 7) / 8 →
    M_R_PackBits_l98 F l k (((8 * i : Nat) : Int), (List.range i).map (byt l)) = some ((l.length : Int), pk l)
  | 0, _, _, _ => by omega
  | k + 1, i, h, hi => by
    show M_R_PackBits_b98 F l (M_R_PackBits_l98 F l k) ((8 * i : Nat) : Int) ((List.range i).map (byt l)) = _
    unfold M_R_PackBits_b98
    by_cases hlt : 8 * i < l.length
    · rw [if_pos (by simp; omega)]
      have := packBits_in (F := F) (rec98 := M_R_PackBits_l98 F l k) (o := (List.range i).map (byt l)) hl (i := 8 * i) (by omega) (by omega) F 0 (by omega) (by omega)
      rw [show ((byN l (8 * i) 0 : Nat) : Int) = 0 from rfl, show ((0 : Nat) : Int) = 0 from rfl] at this
      rw [this]
      unfold M_R_PackBits_j113
      rw [byN_8 hl]
      have hr := byt_range hl i
      rw [show iconv .u8 (byt l i) = byt l i from wrap_u8 hr.1 hr.2, app_eq (by simp; omega)]
      simp only [Option.bind_some, M_R_PackBits_j108]
      rw [show ((8 : Int)) = ((8 : Nat) : Int) from rfl, iadd_n (by omega), show 8 * i + 8 = 8 * (i + 1) from by omega]
      have e : (List.range i).map (byt l) ++ [byt l i] = (List.range (i + 1)).map (byt l) := by rw [List.range_succ, List.map_append]; rfl
      rw [e]
      exact packBits_l hF hl hm k (i + 1) (by omega) (by omega)
    · rw [if_neg (by simp; omega)]
      obtain rfl : i = (l.length + 7) / 8 := by omega
      rfl
theorem packBits_eq {F : Nat} (hF : 20000 ≤ F) {l : List Int} (hl : Bit l) (hm : l.length ≤ 90000) : M_R_PackBits F l = some ((l.length : Int), pk l) := by
  unfold M_R_PackBits
  exact packBits_l (by omega) hl hm F 0 (by omega) (by omega)
theorem between_eq {F : Nat} {a b c : Int} : M_R_between F a b c = some (decide (b ≤ a ∧ a ≤ c)) := by
  unfold M_R_between
  congr 1
  by_cases h : b ≤ a <;> by_cases h2 : a ≤ c <;> simp [h, h2]
theorem numBits_l {F w : Nat} (hw : w ≤ 100000) : ∀ (k i n : Nat) (t : List Int), i < k → i ≤ w → n < 18446744073709551616 →
    M_R_NumBits_l3 F k ((n : Int), List.replicate i 0 ++ t, (i : Int) - 1) = some (nb n i ++ t)
  | 0, _, _, _, h, _, _ => by omega
  | k + 1, 0, n, t, h, _, _ => by
    show M_R_NumBits_b3 F (M_R_NumBits_l3 F k) (n : Int) _ _ = _
    unfold M_R_NumBits_b3
    rw [if_neg (by simp)]
    simp [M_R_NumBits_j2, nb]
  | k + 1, i + 1, n, t, h, hi, hn => by
    show M_R_NumBits_b3 F (M_R_NumBits_l3 F k) (n : Int) (List.replicate (i + 1) 0 ++ t) (((i + 1 : Nat) : Int) - 1) = _
    unfold M_R_NumBits_b3
    rw [show ((i + 1 : Nat) : Int) - 1 = (i : Int) from by omega, if_pos (by simp), idx_nat]
    have hg : (List.replicate (i + 1) (0 : Int) ++ t)[i]? = some 0 := by
      rw [List.getElem?_append_left (by simp)]; simp
    rw [hg]
    simp only [Option.bind_some, lett]
    rw [irem2_n, iconv_i64_n (by omega), iquo2_u hn, isub_i64 (by omega) (by omega), Int.toNat_natCast]
    have e : (List.replicate (i + 1) (0 : Int) ++ t).set i ((n % 2 : Nat) : Int) = List.replicate i 0 ++ (((n % 2 : Nat) : Int) :: t) := by
      rw [List.replicate_succ', List.append_assoc, List.set_append_right _ _ (by simp)]
      simp
    rw [e, numBits_l hw k i (n / 2) _ (by omega) (by omega) (by omega), nb_snoc]
    simp
theorem numBits_eq {F w n : Nat} (hF : w < F) (hw : w ≤ 100000) (hn : n < 18446744073709551616) : M_R_NumBits F (n : Int) (w : Int) = some (nb n w) := by
  unfold M_R_NumBits
  have hmk : mk 17592186044416 (0 : Int) (w : Int) = some (List.replicate w 0) := by
    unfold mk
    rw [if_pos (by simp; omega)]; simp
  rw [hmk]
  simp only [Option.bind_some]
  rw [isub_i64 (by omega) (by omega)]
  have := numBits_l (F := F) hw F w n [] hF (by omega) hn
  simpa using this
theorem bitsCheck_l {F : Nat} {l : List Int} (hm : l.length ≤ 100000) : ∀ (k i : Nat), l.length < k + i → i ≤ l.length →
    M_R_BitsCheck_l4 F l k (i : Int) = some (if (l.drop i).all (· == 0) then 0 else 1)
  | 0, _, _, _ => by omega
  | k + 1, i, h, hi => by
    show M_R_BitsCheck_b4 F l (M_R_BitsCheck_l4 F l k) (i : Int) = _
    unfold M_R_BitsCheck_b4
    by_cases hlt : i < l.length
    · rw [if_pos (by simp; omega), idx_nat, List.getElem?_eq_getElem hlt, List.drop_eq_getElem_cons hlt, List.all_cons]
      simp only [Option.bind_some]
      by_cases h0 : l[i] = 0
      · rw [h0, if_neg (by simp), iadd1_n (by omega), bitsCheck_l hm k (i + 1) (by omega) (by omega)]
        simp
      · rw [if_pos (by simpa using h0)]
        simp [h0]
    · rw [if_neg (by simp; omega), List.drop_eq_nil_of_le (by omega)]
      rfl
theorem all_low {b : List Int} (hb : U8s b) {m : Nat} (hlen : b.length = (m + 7) / 8) (hr : m % 8 ≠ 0) : ((bl b (8 * ((m + 7) / 8))).drop m).all (· == 0) = decide (b.getD (m / 8) 0 % 2 ^ (8 - m % 8) = 0) := by
  obtain ⟨q, hq⟩ : ∃ q, q = m / 8 := ⟨_, rfl⟩
  obtain ⟨r, hrr⟩ : ∃ r, r = m % 8 := ⟨_, rfl⟩
  have hm : m = 8 * q + r := by omega
  have hx : 0 ≤ b.getD q 0 ∧ b.getD q 0 < 256 := by
    have hlt : q < b.length := by omega
    have := hb b[q] (List.getElem_mem hlt)
    simpa [List.getD, hlt] using this
  have hc : (m + 7) / 8 = q + 1 := by omega
  obtain ⟨c0, c1, c2, c3, c4, c5, c6, c7⟩ := bitAt_8 b q
  have hall : ((bl b (8 * (q + 1))).drop m).all (· == 0) = true ↔ (∀ i, m ≤ i → i < 8 * q + 8 → bitAt b i = 0) := by
    rw [List.all_eq_true]
    constructor
    · intro h i h1 h2
      have hg : ((bl b (8 * (q + 1))).drop m)[i - m]? = some (bitAt b i) := by
        rw [List.getElem?_drop, show m + (i - m) = i from by omega]; exact bl_get (by omega)
      have := h _ (List.mem_of_getElem? hg)
      simpa using this
    · intro h x hx
      obtain ⟨j, hj⟩ := List.getElem?_of_mem hx
      rw [List.getElem?_drop] at hj
      have hjl : m + j < 8 * (q + 1) := by
        have := (List.getElem?_eq_some_iff.1 hj).1; rwa [bl_len] at this
      rw [bl_get hjl] at hj
      rw [← Option.some.inj hj, h _ (by omega) (by omega)]; rfl
  rw [hc, ← hq, ← hrr, Bool.eq_iff_iff, decide_eq_true_iff, hall]
  have hall2 : (∀ i, m ≤ i → i < 8 * q + 8 → bitAt b i = 0) ↔ (∀ j, r ≤ j → j < 8 → bitAt b (8 * q + j) = 0) := by
    constructor
    · intro h j h1 h2; exact h _ (by omega) (by omega)
    · intro h i h1 h2
      have := h (i - 8 * q) (by omega) (by omega)
      rwa [show 8 * q + (i - 8 * q) = i from by omega] at this
  rw [hall2]
  generalize b.getD q 0 = x at *
  have mk : ∀ j, j < 8 → (∀ j', r ≤ j' → j' < 8 → bitAt b (8 * q + j') = 0) → r ≤ j → bitAt b (8 * q + j) = 0 := fun j h1 h h2 => h j h2 h1
  constructor
  · intro h
    have g1 := mk 1 (by omega) h; have g2 := mk 2 (by omega) h; have g3 := mk 3 (by omega) h; have g4 := mk 4 (by omega) h
    have g5 := mk 5 (by omega) h; have g6 := mk 6 (by omega) h; have g7 := mk 7 (by omega) h
    rw [c1] at g1; rw [c2] at g2; rw [c3] at g3; rw [c4] at g4; rw [c5] at g5; rw [c6] at g6; rw [c7] at g7
    clear c0 c1 c2 c3 c4 c5 c6 c7 mk hall hall2 h
    rcases (by omega : r = 1 ∨ r = 2 ∨ r = 3 ∨ r = 4 ∨ r = 5 ∨ r = 6 ∨ r = 7) with h | h | h | h | h | h | h <;> subst h <;> simp only [Nat.reduceSub, Int.reducePow] <;> omega
  · intro h j h1 h2
    clear mk hall hall2
    rcases (by omega : r = 1 ∨ r = 2 ∨ r = 3 ∨ r = 4 ∨ r = 5 ∨ r = 6 ∨ r = 7) with hh | hh | hh | hh | hh | hh | hh <;> subst hh <;> simp only [Nat.reduceSub, Int.reducePow] at h <;>
      rcases (by omega : j = 1 ∨ j = 2 ∨ j = 3 ∨ j = 4 ∨ j = 5 ∨ j = 6 ∨ j = 7) with g | g | g | g | g | g | g <;> subst g <;> first | (exfalso; omega) | (rw [c1]; omega) | (rw [c2]; omega) | (rw [c3]; omega) | (rw [c4]; omega) | (rw [c5]; omega) | (rw [c6]; omega) | (rw [c7]; omega)
theorem bitsCheck_eq {F : Nat} (hF : 20000 ≤ F) {n : Int} {b : List Int} (hb : U8s b) : M_R_BitsCheck F n b = some (chkOf n b) := by
  unfold M_R_BitsCheck chkOf
  rw [between_eq]
  simp only [Option.bind_some]
  by_cases c1 : n < 0 ∨ 8192 < n
  · rw [if_pos (by simp; omega), if_pos c1]
  · rw [if_neg (by simp; omega), if_neg c1]
    obtain ⟨m, rfl⟩ := Int.eq_ofNat_of_zero_le (show 0 ≤ n by omega)
    have hj : ∀ c : Nat, c = (m + 7) / 8 → M_R_BitsCheck_j1 F (m : Int) b (c : Int) = some (if (b.length : Int) ≠ ((m : Int) + 7) / 8 then 1 else if (m : Int) % 8 ≠ 0 ∧ b.getD ((m : Int).toNat / 8) 0 % 2 ^ (8 - (m : Int).toNat % 8) ≠ 0 then 1 else 0) := by
      intro c hc
      unfold M_R_BitsCheck_j1
      by_cases c2 : b.length = c
      · rw [if_neg (by simp [c2]), if_neg (by omega)]
        rw [imul_i64 (by omega) (by omega), show (8 : Int) * (c : Int) = ((8 * c : Nat) : Int) from by omega, bitList_eq hF hb (by omega) (by omega)]
        simp only [Option.bind_some]
        rw [bitsCheck_l (by rw [bl_len]; omega) F m (by rw [bl_len]; omega) (by rw [bl_len]; omega), Int.toNat_natCast]
        by_cases hr : m % 8 = 0
        · rw [List.drop_eq_nil_of_le (by rw [bl_len]; omega), List.all_nil, if_pos rfl, if_neg (by omega)]
        · rw [hc, all_low hb (by omega) hr]
          by_cases hz : b.getD (m / 8) 0 % 2 ^ (8 - m % 8) = 0
          · rw [if_pos (decide_eq_true hz), if_neg (fun h => h.2 hz)]
          · rw [if_neg (by simp only [decide_eq_true_eq]; exact hz), if_pos ⟨by omega, hz⟩]
      · rw [if_pos (by rw [bne_iff_ne]; omega), if_pos (by omega)]
    rw [irem8, iquo8 (by omega)]
    by_cases h8 : 0 < m % 8
    · rw [if_pos (by simp; omega), iadd1_n (by omega)]
      exact hj _ (by omega)
    · rw [if_neg (by simp; omega)]
      exact hj _ (by omega)
theorem sub_n {α : Type} {l : List α} {i j : Nat} (h1 : i ≤ j) (h2 : j ≤ l.length) : sub l (i : Int) (j : Int) = some ((l.take j).drop i) := by
  unfold sub
  rw [if_pos ⟨by omega, by omega, by omega⟩, Int.toNat_natCast, Int.toNat_natCast]
theorem packed {l : List Int} {F : Nat} (hF : 20000 ≤ F) (hl : Bit l) (hm : l.length ≤ 90000) : M_R_PackBits F l = some ((l.length : Int), pk l) := packBits_eq hF hl hm
theorem chk_pk {l : List Int} (hm : l.length ≤ 8192) : chkOf (l.length : Int) (pk l) = 0 := chkOf_of_ok (ok_pk hm)
theorem jn_form {l k : List Int} (hl : Bit l) (hk : Bit k) (h1 : l.length ≤ 8192) (h2 : k.length ≤ 8192) :
    jn (l.length : Int) (pk l) (k.length : Int) (pk k) = if l.length + k.length ≤ 8192 then (((l ++ k).length : Int), pk (l ++ k), 0) else (0, [], 8) := by
  by_cases h : l.length + k.length ≤ 8192
  · have e : joinOf (l.length : Int) (pk l) (k.length : Int) (pk k) = 0 := by
      unfold joinOf; rw [chk_pk h1, chk_pk h2, if_neg (by simp), if_neg (by simp), if_neg (by omega)]
    unfold jn
    rw [e, if_pos h, if_neg (by simp), Int.toNat_natCast, Int.toNat_natCast, bl_pk hl, bl_pk hk]; simp
  · have e : joinOf (l.length : Int) (pk l) (k.length : Int) (pk k) = 8 := by
      unfold joinOf; rw [chk_pk h1, chk_pk h2, if_neg (by simp), if_neg (by simp), if_pos (by omega)]
    unfold jn
    rw [e, if_neg h, if_pos (by decide)]
theorem gt_form {l : List Int} (hl : Bit l) (h1 : l.length ≤ 8192) {a w : Nat} (hw : w ≤ 64) (h : a + w ≤ l.length) : gt (l.length : Int) (pk l) (a : Int) (w : Int) = (((bv ((l.drop a).take w) : Nat) : Int), 0) := by
  rw [gt_ok (by unfold getOf; rw [if_neg (by simp [chk_pk h1]), if_neg (by omega), if_neg (by omega)])]
  simp only [Int.toNat_natCast, bl_pk hl]
theorem pk_len9 {l : List Int} (h : l.length ≤ 8192) : (pk l).length ≤ 9223372036854775807 := by rw [pk_len]; omega
theorem pk_nil : pk [] = [] := rfl
theorem same_self {F : Nat} {n : Int} {xs : List Int} (hF : xs.length < F) (hm : xs.length ≤ 1000000) : M_R_SameBits F n xs n xs = some true := by
  rw [sameBits_eq hF (by omega)]; simp
theorem sameInts_l (F : Nat) (xs ys : List Int) : ∀ k, M_R_SameInts_l3 F xs ys k = M_R_SameBytes_l3 F xs ys k
  | 0 => rfl
  | k + 1 => by
    funext i
    show M_R_SameInts_b3 F xs ys (M_R_SameInts_l3 F xs ys k) i = M_R_SameBytes_b3 F xs ys (M_R_SameBytes_l3 F xs ys k) i
    rw [sameInts_l F xs ys k]; rfl
theorem sameInts_same (F : Nat) (xs ys : List Int) : M_R_SameInts F xs ys = M_R_SameBytes F xs ys := by
  unfold M_R_SameInts M_R_SameBytes; rw [sameInts_l]
def un (n : Nat) : List Int := List.replicate n 0 ++ [1]
theorem at_pk {F : Nat} {m : Int} {l : List Int} (hl : Bit l) (hm : l.length ≤ 90000) {i : Nat} (hi : i < l.length) : M_bits_At F m (pk l) (i : Int) = some l[i] := by
  rw [at_eq (pk_u8 hl) (by rw [pk_len]; omega) (by omega), bitAt_pk hl hi]
  simp [List.getD, hi]
/-- What is wrong with bits, and a place. -/
def raOf (m : Int) (b : List Int) (a : Int) : Int := if chkOf m b ≠ 0 then chkOf m b else if a < 0 ∨ m < a then 3 else 0
theorem readErr_eq {F : Nat} (hF : 20000 ≤ F) {m a : Int} {b : List Int} (hb : U8s b) : M_R_ReadErr F m b a = some (raOf m b a) := by
  unfold M_R_ReadErr raOf
  rw [bitsCheck_eq hF hb]
  simp only [Option.bind_some]
  by_cases h1 : chkOf m b = 0
  · rw [if_pos (by simpa using h1), if_neg (by simp [h1]), between_eq]
    simp only [Option.bind_some, M_R_ReadErr_j3, M_R_ReadErr_j2]
    by_cases h : a < 0 ∨ m < a
    · rw [if_pos h, if_pos (by simp; omega)]
    · rw [if_neg h, if_neg (by simp; omega), h1]
  · rw [if_neg (by simpa using h1), if_pos h1]
    rfl
/-- How many bits a number has. -/
def len (x : Nat) : Nat := if x = 0 then 0 else x.log2 + 1
/-- How many bits a number, and one, has behind its highest one. -/
def lg (n : Nat) : Nat := len (n + 1) - 1
def ga (n : Nat) : List Int := un (lg n) ++ nb (n + 1) (lg n)
def de (n : Nat) : List Int := ga (lg n) ++ nb (n + 1) (lg n)
def lo (n : Int) : Int × Int × Int := if 1099511627776 < n then (0, 0, 3) else (((ga n.toNat).length : Int), ((de n.toNat).length : Int), 0)
theorem eCheck_eq {F : Nat} {m a : Int} {b : List Int} (hb : U8s b) (hm : I64 m) (lb : b.length ≤ 9223372036854775807) : M_elias_Check F m b a = some (raOf m b a) := by
  unfold M_elias_Check raOf
  rw [check_eq hb hm.1 hm.2 lb]
  simp only [Option.bind_some]
  by_cases h1 : chkOf m b = 0
  · rw [if_pos (by simpa using h1), if_neg (by simp [h1])]
    simp only [M_elias_Check_j3, M_elias_Check_j2]
    by_cases h : a < 0 ∨ m < a
    · rw [if_pos h, if_pos (by simp; omega)]
    · rw [if_neg h, if_neg (by simp; omega), h1]
  · rw [if_neg (by simpa using h1), if_pos h1]
    rfl
def sh (m : Nat) : Nat := len (m - 1)
def dd (m : Nat) : Nat := 2 ^ sh m - m
def le (n m : Nat) : List Int := if n < dd m then nb n (sh m - 1) else nb (n + dd m) (sh m)
theorem compare_eq {F : Nat} {x y : Int} : M_cmp_Compare_int F x y = some (if x < y then -1 else if y < x then 1 else 0) := by
  unfold M_cmp_Compare_int M_cmp_isNaN_int
  simp only [bne_self_eq_false, Option.bind_some, Bool.false_eq_true, if_false, decide_eq_true_eq]
  split
  · rfl
  · split <;> rfl
theorem or_eq {F : Nat} (hF : 3 ≤ F) {x y : Int} : M_cmp_Or_int F [x, y] = some (if x ≠ 0 then x else y) := by
  obtain ⟨k, rfl⟩ := Nat.exists_eq_add_of_le hF
  rw [Nat.add_comm]
  unfold M_cmp_Or_int
  show M_cmp_Or_int_b3 (k + 3) [x, y] (M_cmp_Or_int_l3 (k + 3) [x, y] (k + 2)) 0 = _
  unfold M_cmp_Or_int_b3
  rw [if_pos (by simp)]
  show ((some x).bind _) = _
  simp only [Option.bind_some]
  by_cases hx : x = 0
  · rw [if_neg (by simp [hx]), if_neg (by simp [hx])]
    show M_cmp_Or_int_b3 (k + 3) [x, y] (M_cmp_Or_int_l3 (k + 3) [x, y] (k + 1)) 1 = _
    unfold M_cmp_Or_int_b3
    rw [if_pos (by simp)]
    show ((some y).bind _) = _
    simp only [Option.bind_some]
    by_cases hy : y = 0
    · rw [if_neg (by simp [hy]), hy]
      show M_cmp_Or_int_b3 (k + 3) [x, y] (M_cmp_Or_int_l3 (k + 3) [x, y] k) 2 = _
      unfold M_cmp_Or_int_b3
      rw [if_neg (by simp)]
      rfl
    · rw [if_pos (by simp [hy])]
  · rw [if_pos (by simp [hx]), if_pos hx]
theorem take_snoc {α : Type} {l : List α} {j : Nat} (h : j < l.length) : l.take (j + 1) = l.take j ++ [l[j]] := by
  rw [List.take_add_one, List.getElem?_eq_getElem h]; rfl
def gL (l : List Int) (t : Nat) : Int := l.getD t 0
theorem gL_get {l : List Int} {t : Nat} (h : t < l.length) : l[t]? = some (gL l t) := by simp [gL, List.getD, List.getElem?_eq_getElem h]
def KL (l : List Int) : Prop := l.length ≤ 64 ∧ ∀ n ∈ l, 0 ≤ n ∧ n ≤ 24
theorem KL.at {l : List Int} (h : KL l) {t : Nat} (ht : t < l.length) : 0 ≤ gL l t ∧ gL l t ≤ 24 := h.2 _ (List.mem_of_getElem? (gL_get ht))
def kOut (l : List Int) : Bool := l.any fun n => decide (n < 0) || decide (24 < n)
def kchk (l : List Int) : Int := if 64 < l.length then 2 else if kOut l then 3 else 0
theorem kchk_ok {l : List Int} : kchk l = 0 ↔ KL l := by
  unfold kchk KL
  by_cases h1 : 64 < l.length
  · rw [if_pos h1]; simp; omega
  · rw [if_neg h1]
    by_cases h2 : kOut l = true
    · rw [if_pos h2]
      unfold kOut at h2
      obtain ⟨n, hn, hx⟩ := List.any_eq_true.1 h2
      refine ⟨fun h => by simp at h, fun h => ?_⟩
      have := h.2 n hn
      simp at hx; omega
    · rw [if_neg h2]
      refine ⟨fun _ => ⟨by omega, fun n hn => ?_⟩, fun _ => rfl⟩
      by_cases hx : n < 0 ∨ 24 < n
      · exact absurd (List.any_eq_true.2 ⟨n, hn, by simpa using hx⟩) h2
      · omega
theorem kindex_l {F : Nat} {l : List Int} (hm : l.length ≤ 1000000) : ∀ (k i : Nat), l.length < k + i → i ≤ l.length → ∃ z, M_slices_IndexFunc_int_int_kraft_Check_1_l3 F l k (i : Int) = some z ∧ decide (0 ≤ z) = kOut (l.drop i)
  | 0, _, _, _ => by omega
  | k + 1, i, h, hi => by
    show ∃ z, M_slices_IndexFunc_int_int_kraft_Check_1_b3 F l (M_slices_IndexFunc_int_int_kraft_Check_1_l3 F l k) (i : Int) = some z ∧ _
    unfold M_slices_IndexFunc_int_int_kraft_Check_1_b3
    by_cases hlt : i < l.length
    · rw [if_pos (by simp; omega), idx_nat, List.getElem?_eq_getElem hlt, List.drop_eq_getElem_cons hlt]
      simp only [Option.bind_some]
      unfold M_kraft_Check_1
      simp only [Option.bind_some]
      unfold kOut
      rw [List.any_cons]
      by_cases hc : (decide (l[i] < 0) || decide (24 < l[i])) = true
      · rw [if_pos hc, hc]
        exact ⟨_, rfl, by simp⟩
      · rw [if_neg hc, iadd1_n (by omega)]
        rw [Bool.not_eq_true] at hc
        rw [hc, Bool.false_or]
        exact kindex_l hm k (i + 1) (by omega) (by omega)
    · rw [if_neg (by simp; omega), List.drop_eq_nil_of_le (by omega)]
      exact ⟨-1, rfl, rfl⟩
theorem kcheck_eq {F : Nat} {l : List Int} (hF : 1000 ≤ F) : M_kraft_Check F l = some (kchk l) := by
  unfold M_kraft_Check kchk
  by_cases h : 64 < l.length
  · rw [if_pos (by simp; omega), if_pos h]
  · rw [if_neg (by simp; omega), if_neg h]
    unfold M_slices_ContainsFunc_int_int_kraft_Check_1 M_slices_IndexFunc_int_int_kraft_Check_1
    obtain ⟨z, e1, e2⟩ := kindex_l (F := F) (l := l) (by omega) F 0 (by omega) (by omega)
    have e1' : M_slices_IndexFunc_int_int_kraft_Check_1_l3 F l F 0 = some z := e1
    rw [List.drop_zero] at e2
    rw [e1']
    simp only [Option.bind_some]
    rw [e2]
    split <;> rfl
theorem rkcheck_l {F : Nat} {l : List Int} (hm : l.length ≤ 1000000) : ∀ (k i : Nat), l.length < k + i → i ≤ l.length → M_R_KraftCheck_l3 F l k (i : Int) = some (if kOut (l.drop i) then 3 else 0)
  | 0, _, _, _ => by omega
  | k + 1, i, h, hi => by
    show M_R_KraftCheck_b3 F l (M_R_KraftCheck_l3 F l k) (i : Int) = _
    unfold M_R_KraftCheck_b3
    by_cases hlt : i < l.length
    · rw [if_pos (by simp; omega), idx_nat, List.getElem?_eq_getElem hlt, List.drop_eq_getElem_cons hlt]
      simp only [Option.bind_some]
      unfold M_R_between
      simp only [Option.bind_some]
      unfold kOut
      rw [List.any_cons]
      by_cases hc : l[i] < 0 ∨ 24 < l[i]
      · rw [if_pos (by simp; omega), if_pos (by simp; omega)]
      · have : (decide (l[i] < 0) || decide (24 < l[i])) = false := by simp; omega
        rw [if_neg (by simp; omega), this, Bool.false_or, iadd1_n (by omega)]
        exact rkcheck_l hm k (i + 1) (by omega) (by omega)
    · rw [if_neg (by simp; omega), List.drop_eq_nil_of_le (by omega)]
      rfl
theorem rkcheck_eq {F : Nat} {l : List Int} (hF : 1000 ≤ F) : M_R_KraftCheck F l = some (kchk l) := by
  unfold M_R_KraftCheck kchk
  by_cases h : 64 < l.length
  · rw [if_pos (by simp; omega), if_pos h]
  · rw [if_neg (by simp; omega), if_neg h]
    have := rkcheck_l (F := F) (l := l) (by omega) F 0 (by omega) (by omega)
    rw [List.drop_zero] at this
    exact this
/-- What a length takes of all. -/
def W (n : Int) : Nat := if 0 < n then 2 ^ (24 - n.toNat) else 0
theorem W_le (n : Int) : W n ≤ 16777216 := by
  unfold W
  split
  · exact Nat.le_trans (Nat.pow_le_pow_right (by decide) (show 24 - n.toNat ≤ 24 by omega)) (by decide)
  · omega
def wsum (l : List Int) : Nat := (l.map W).sum
theorem wsum_le : ∀ (l : List Int), wsum l ≤ 16777216 * l.length
  | [] => by simp [wsum]
  | x :: l => by
    have h1 := W_le x
    have h2 := wsum_le l
    unfold wsum at *
    rw [List.map_cons, List.sum_cons, List.length_cons]
    omega
theorem ishl_i64 {m : Nat} (h : m ≤ 24) : ishl .i64 1 (m : Int) = ((2 ^ m : Nat) : Int) := by
  have : ∀ m : Fin 25, ishl .i64 1 ((m.1 : Nat) : Int) = ((2 ^ m.1 : Nat) : Int) := by decide
  exact this ⟨m, by omega⟩
theorem room_l {F : Nat} {l : List Int} (hl : KL l) : ∀ (k i : Nat), l.length < k + i → i ≤ l.length → M_kraft_room_l8 F l k (16777216 - (wsum (l.take i) : Int), (i : Int)) = some (16777216 - (wsum l : Int))
  | 0, _, _, _ => by omega
  | k + 1, i, h, hi => by
    have h1 := hl.1
    show M_kraft_room_b8 F l (M_kraft_room_l8 F l k) (16777216 - (wsum (l.take i) : Int)) (i : Int) = _
    unfold M_kraft_room_b8 M_kraft_room_j9
    by_cases hlt : i < l.length
    · have hrec := room_l (F := F) hl k (i + 1) (by omega) (by omega)
      have hn := hl.2 _ (List.getElem_mem hlt)
      have hws := wsum_le (l.take i)
      rw [List.length_take] at hws
      have e : wsum (l.take (i + 1)) = wsum (l.take i) + W l[i] := by
        unfold wsum
        rw [take_snoc hlt, List.map_append, List.sum_append]; simp
      have hW := W_le l[i]
      rw [e] at hrec
      rw [if_pos (by simp; omega), idx_nat, List.getElem?_eq_getElem hlt]
      simp only [Option.bind_some]
      by_cases h0 : 0 < l[i]
      · obtain ⟨n, hnn⟩ := Int.eq_ofNat_of_zero_le hn.1
        have hsub : isub .i64 24 l[i] = ((24 - n : Nat) : Int) := by rw [isub_i64 (by omega) (by omega)]; omega
        have hw : W l[i] = 2 ^ (24 - n) := by unfold W; rw [if_pos h0, hnn, Int.toNat_natCast]
        rw [hw] at hrec hW
        rw [if_pos (by simpa using h0), hsub]
        simp only [chk, lett]
        rw [if_pos (by simp), ishl_i64 (by omega), isub_i64 (by omega) (by omega), iadd1_n (by omega)]
        rw [show (16777216 : Int) - ((wsum (l.take i) + 2 ^ (24 - n) : Nat) : Int) = 16777216 - (wsum (l.take i) : Int) - ((2 ^ (24 - n) : Nat) : Int) by omega] at hrec
        exact hrec
      · have hw : W l[i] = 0 := by unfold W; rw [if_neg h0]
        rw [hw, Nat.add_zero] at hrec
        rw [if_neg (by simpa using h0), iadd1_n (by omega)]
        exact hrec
    · rw [if_neg (by simp; omega), List.take_of_length_le (by omega)]
      rfl
theorem kroom_eq {F : Nat} {l : List Int} (hF : 1000 ≤ F) (hl : KL l) : M_kraft_room F l = some (16777216 - (wsum l : Int)) := by
  have h1 := hl.1
  unfold M_kraft_room
  have := room_l (F := F) hl F 0 (by omega) (by omega)
  rw [List.take_zero] at this
  exact this
theorem kRoom_eq {F : Nat} {l : List Int} (hF : 1000 ≤ F) : M_kraft_Room F l = some (if kchk l ≠ 0 then (0, kchk l) else (16777216 - (wsum l : Int), 0)) := by
  unfold M_kraft_Room
  rw [kcheck_eq hF]
  simp only [Option.bind_some]
  by_cases h : kchk l = 0
  · rw [if_neg (by simp [h]), if_neg (by simp [h]), kroom_eq hF (kchk_ok.1 h)]; rfl
  · rw [if_pos (by simpa using h), if_pos h]
/-- What lengths up to n take. -/
def wle (l : List Int) (n : Nat) : Nat := (l.map fun x => if x ≤ (n : Int) then W x else 0).sum
theorem wle_succ {n : Nat} (hn : n < 24) : ∀ (l : List Int), wle l (n + 1) = wle l n + l.count ((n + 1 : Nat) : Int) * 2 ^ (23 - n)
  | [] => by simp [wle]
  | x :: l => by
    have ih := wle_succ hn l
    unfold wle at *
    rw [List.map_cons, List.sum_cons, List.map_cons, List.sum_cons, ih, List.count_cons]
    by_cases h1 : x = ((n + 1 : Nat) : Int)
    · rw [if_pos (by omega), if_neg (by omega), if_pos (by simpa using h1)]
      have : W x = 2 ^ (23 - n) := by
        unfold W
        rw [if_pos (by omega), h1, Int.toNat_natCast]
        congr 1; omega
      rw [this, Nat.add_mul, Nat.one_mul]; omega
    · rw [if_neg (show ¬ (x == ((n + 1 : Nat) : Int)) = true by simpa using h1)]
      simp only [Nat.add_zero]
      by_cases h2 : x ≤ (n : Int)
      · rw [if_pos (by omega), if_pos h2]; omega
      · rw [if_neg (by omega), if_neg h2]; omega
theorem wle_zero {l : List Int} (h : ∀ n ∈ l, 0 ≤ n) : wle l 0 = 0 := by
  unfold wle
  induction l with
  | nil => rfl
  | cons x l ih =>
    rw [List.map_cons, List.sum_cons, ih fun n hn => h n (by simp [hn])]
    have := h x (by simp)
    unfold W
    split
    · rw [if_neg (by omega)]
    · rfl
theorem wle_24 {l : List Int} (h : ∀ n ∈ l, n ≤ 24) : wle l 24 = wsum l := by
  unfold wle wsum
  congr 1
  exact List.map_congr_left fun x hx => if_pos (h x hx)
theorem rroom_in {F : Nat} {l : List Int} {n : Nat} {left : Int} {rec48 : (Int × Int) → Option Int} (hl : l.length ≤ 1000) (hb : -2000000000 ≤ left ∧ left ≤ 2000000000) : ∀ (k s : Nat), l.length < k + s → s ≤ l.length →
    M_R_KraftRoom_l56 F rec48 l (n : Int) k (left - ((l.take s).count (n : Int) : Int), (s : Int)) = M_R_KraftRoom_j53 F rec48 (n : Int) (left - (l.count (n : Int) : Int))
  | 0, _, _, _ => by omega
  | k + 1, s, h, hs => by
    show M_R_KraftRoom_b56 F rec48 l (n : Int) (M_R_KraftRoom_l56 F rec48 l (n : Int) k) (left - ((l.take s).count (n : Int) : Int)) (s : Int) = _
    unfold M_R_KraftRoom_b56 M_R_KraftRoom_j57
    by_cases hlt : s < l.length
    · have hrec := rroom_in (F := F) (n := n) (rec48 := rec48) hl hb k (s + 1) (by omega) (by omega)
      rw [take_snoc hlt, List.count_append] at hrec
      have hc := List.count_le_length (a := (n : Int)) (l := l.take s)
      rw [List.length_take] at hc
      rw [if_pos (by simp; omega), idx_nat, List.getElem?_eq_getElem hlt]
      simp only [Option.bind_some]
      by_cases hx : l[s] = (n : Int)
      · rw [hx] at hrec
        rw [if_pos (by simpa using hx), isub_i64 (by omega) (by omega), iadd1_n (by omega)]
        rw [show [(n : Int)].count (n : Int) = 1 by simp] at hrec
        rw [show left - (((l.take s).count (n : Int) + 1 : Nat) : Int) = left - ((l.take s).count (n : Int) : Int) - 1 by omega] at hrec
        exact hrec
      · rw [show [l[s]].count (n : Int) = 0 by simp [hx], Nat.add_zero] at hrec
        rw [if_neg (by simpa using hx), iadd1_n (by omega)]
        exact hrec
    · rw [if_neg (by simp; omega), List.take_of_length_le (by omega)]
/-- The room that is left, length by length. -/
def lft (l : List Int) : Nat → Int
  | 0 => 1
  | n + 1 => 2 * lft l n - (l.count ((n + 1 : Nat) : Int) : Int)
theorem lft_w {l : List Int} (h : ∀ n ∈ l, 0 ≤ n) : ∀ n, n ≤ 24 → lft l n * ((2 ^ (24 - n) : Nat) : Int) = 16777216 - (wle l n : Int)
  | 0, _ => by rw [wle_zero h]; rfl
  | n + 1, hn => by
    have ih := lft_w h n (by omega)
    rw [wle_succ (by omega)]
    unfold lft
    have e : 24 - n = (24 - (n + 1)) + 1 := by omega
    rw [e, Nat.pow_succ] at ih
    rw [show 23 - n = 24 - (n + 1) by omega]
    generalize hp : 2 ^ (24 - (n + 1)) = p at *
    generalize l.count ((n + 1 : Nat) : Int) = c
    rw [Int.sub_mul]
    rw [Int.natCast_mul, ← Int.mul_assoc] at ih
    have e2 : ((wle l n + c * p : Nat) : Int) = (wle l n : Int) + (c : Int) * (p : Int) := by rw [Int.natCast_add, Int.natCast_mul]
    rw [e2]
    have : lft l n * (p : Int) * ((2 : Nat) : Int) = 2 * lft l n * (p : Int) := by rw [Int.mul_comm (2 : Int) (lft l n), Int.mul_assoc, Int.mul_assoc, Int.mul_comm (2 : Int) (p : Int)]; rfl
    omega
theorem lft_bound {l : List Int} (hl : l.length ≤ 64) : ∀ n, n ≤ 24 → -1100000000 ≤ lft l n * 1 ∧ lft l n ≤ 2 ^ n ∧ -(64 * (2 ^ n : Int)) + 64 ≤ lft l n
  | 0, _ => by unfold lft; omega
  | n + 1, hn => by
    obtain ⟨_, h2, h3⟩ := lft_bound hl n (by omega)
    have hc := List.count_le_length (a := ((n + 1 : Nat) : Int)) (l := l)
    have hp : (2 : Int) ^ (n + 1) = 2 * 2 ^ n := by rw [Int.pow_succ, Int.mul_comm]
    have hpm : (2 : Int) ^ (n + 1) ≤ 16777216 := by
      have : (2 : Nat) ^ (n + 1) ≤ 2 ^ 24 := Nat.pow_le_pow_right (by decide) hn
      have h : (((2 : Nat) ^ (n + 1) : Nat) : Int) ≤ ((2 ^ 24 : Nat) : Int) := by exact_mod_cast this
      rw [Int.natCast_pow] at h
      exact h
    have hp1 : (1 : Int) ≤ 2 ^ n := by
      have : 0 < (2 : Nat) ^ n := Nat.pow_pos (by decide)
      have h : ((1 : Nat) : Int) ≤ (((2 : Nat) ^ n : Nat) : Int) := by exact_mod_cast this
      rw [Int.natCast_pow] at h
      exact h
    unfold lft
    rw [hp] at hpm ⊢
    generalize (2 : Int) ^ n = q at *
    refine ⟨?_, ?_, ?_⟩ <;> omega
theorem rroom_out {F : Nat} {l : List Int} (hF : 1000 ≤ F) (hl : KL l) : ∀ (k n : Nat), 24 < k + n → n ≤ 24 → M_R_KraftRoom_l48 F l k (lft l n, ((n + 1 : Nat) : Int)) = some (lft l 24)
  | 0, _, _, _ => by omega
  | k + 1, n, h, hn => by
    have h1 := hl.1
    show M_R_KraftRoom_b48 F l (M_R_KraftRoom_l48 F l k) (lft l n) ((n + 1 : Nat) : Int) = _
    unfold M_R_KraftRoom_b48
    by_cases hlt : n < 24
    · obtain ⟨b1, b2, b3⟩ := lft_bound (l := l) h1 n (by omega)
      have hpm : (2 : Int) ^ n ≤ 16777216 := by
        have : (2 : Nat) ^ n ≤ 2 ^ 24 := Nat.pow_le_pow_right (by decide) hn
        have h : (((2 : Nat) ^ n : Nat) : Int) ≤ ((2 ^ 24 : Nat) : Int) := by exact_mod_cast this
        rw [Int.natCast_pow] at h
        exact h
      have hb4 : -1073741824 ≤ lft l n * 2 := by
        have := (lft_bound (l := l) h1 n (by omega)).2.2
        have hpm2 : (2 : Int) ^ n ≤ 8388608 := by
          have : (2 : Nat) ^ n ≤ 2 ^ 23 := Nat.pow_le_pow_right (by decide) (by omega)
          have h : (((2 : Nat) ^ n : Nat) : Int) ≤ ((2 ^ 23 : Nat) : Int) := by exact_mod_cast this
          rw [Int.natCast_pow] at h
          exact h
        omega
      rw [if_pos (by simp; omega), imul_i64 (by omega) (by omega)]
      have hin := rroom_in (F := F) (l := l) (n := n + 1) (left := 2 * lft l n) (rec48 := M_R_KraftRoom_l48 F l k) (by omega) (by omega) F 0 (by omega) (by omega)
      rw [List.take_zero, List.count_nil] at hin
      have e : (2 * lft l n, (0 : Int)) = (2 * lft l n - ((0 : Nat) : Int), ((0 : Nat) : Int)) := by simp
      rw [e, hin]
      unfold M_R_KraftRoom_j53
      rw [iadd1_n (by omega)]
      exact rroom_out hF hl k (n + 1) (by omega) (by omega)
    · rw [if_neg (by simp; omega), show n = 24 from by omega]
      rfl
theorem rroom_eq {F : Nat} {l : List Int} (hF : 1000 ≤ F) (hl : KL l) : M_R_KraftRoom F l = some (16777216 - (wsum l : Int)) := by
  unfold M_R_KraftRoom
  have := rroom_out hF hl F 0 (by omega) (by omega)
  refine Eq.trans this ?_
  have h := lft_w (l := l) (fun n hn => (hl.2 n hn).1) 24 (by omega)
  rw [wle_24 fun n hn => (hl.2 n hn).2] at h
  rw [← h]
  simp
def rsum (n : Nat) (f : Nat → Nat) : Nat := ((List.range n).map f).sum
theorem rsum_succ (n : Nat) (f : Nat → Nat) : rsum (n + 1) f = rsum n f + f n := by
  unfold rsum
  rw [List.range_succ, List.map_append, List.sum_append]; simp
theorem rsum_le {f h : Nat → Nat} : ∀ {n : Nat}, (∀ t, t < n → f t ≤ h t) → rsum n f ≤ rsum n h
  | 0, _ => by simp [rsum]
  | n + 1, hh => by
    rw [rsum_succ, rsum_succ]
    have := rsum_le (n := n) fun t ht => hh t (by omega)
    have := hh n (by omega)
    omega
theorem rsum_congr {f h : Nat → Nat} {n : Nat} (hh : ∀ t, t < n → f t = h t) : rsum n f = rsum n h :=
  Nat.le_antisymm (rsum_le fun t ht => Nat.le_of_eq (hh t ht)) (rsum_le fun t ht => Nat.le_of_eq (hh t ht).symm)
theorem rsum_one {f h : Nat → Nat} {a d : Nat} : ∀ {n : Nat}, a < n → (∀ t, t < n → t ≠ a → f t = h t) → h a = f a + d → rsum n h = rsum n f + d
  | 0, ha, _, _ => by omega
  | n + 1, ha, hh, hd => by
    rw [rsum_succ, rsum_succ]
    by_cases hn : a = n
    · subst hn
      rw [hd, rsum_congr (n := a) (f := f) (h := h) fun t ht => hh t (by omega) (by omega)]; omega
    · rw [rsum_one (n := n) (by omega) (fun t ht hne => hh t (by omega) hne) hd, hh n (by omega) (fun e => hn e.symm)]; omega
theorem rsum_filter {p : Nat → Bool} {f : Nat → Nat} : ∀ (n : Nat), rsum n (fun t => if p t then f t else 0) = (((List.range n).filter p).map f).sum
  | 0 => rfl
  | n + 1 => by
    rw [rsum_succ, rsum_filter n, List.range_succ, List.filter_append, List.map_append, List.sum_append]
    congr 1
    cases h : p n <;> simp [h]
theorem sum_perm {A B : List Nat} (h : A.Perm B) : A.sum = B.sum := by
  induction h with
  | nil => rfl
  | cons x _ ih => simp [ih]
  | swap x y l => simp; omega
  | trans _ _ h1 h2 => exact h1.trans h2
/-- Is a sign ahead of this place? -/
def bfn (l : List Int) (n : Int) (s t : Nat) : Bool := decide (0 < gL l t) && (decide (gL l t < n) || (decide (gL l t = n) && decide (t < s)))
def psn (l : List Int) (n : Int) (s : Nat) : Nat := rsum l.length fun t => if bfn l n s t then W (gL l t) else 0
def pos (l : List Int) (s : Nat) : Nat := psn l (gL l s) s
def cw (l : List Int) (s : Nat) : Nat := pos l s / W (gL l s)
def cd (l : List Int) (s : Nat) : List Int := nb (cw l s) (gL l s).toNat
def ent (l : List Int) (s : Nat) : Int × List Int := (gL l s, pk (cd l s))
def cds (l : List Int) : List (Int × List Int) := (List.range l.length).map (ent l)
theorem bfn_iff {l : List Int} {n : Int} {s t : Nat} : bfn l n s t = true ↔ 0 < gL l t ∧ (gL l t < n ∨ (gL l t = n ∧ t < s)) := by simp [bfn]
theorem wsum_rsum (l : List Int) : wsum l = rsum l.length fun t => W (gL l t) := by
  unfold wsum rsum
  congr 1
  apply List.ext_getElem (by simp)
  intro i h1 h2
  rw [List.length_map] at h1
  simp [gL, List.getD, List.getElem?_eq_getElem h1]
theorem psn_le (l : List Int) (n : Int) (s : Nat) : psn l n s ≤ wsum l := by
  rw [wsum_rsum]
  exact rsum_le fun t _ => by split <;> omega
theorem psn_step {l : List Int} {n : Int} {s : Nat} (hs : s < l.length) (hn : 0 < n) : psn l n (s + 1) = psn l n s + if gL l s = n then W n else 0 := by
  unfold psn
  refine rsum_one hs (fun t _ hne => ?_) ?_
  · have : bfn l n s t = bfn l n (s + 1) t := Bool.eq_iff_iff.2 (by rw [bfn_iff, bfn_iff]; constructor <;> (rintro ⟨a, b⟩; exact ⟨a, by omega⟩))
    rw [this]
  · have h1 : bfn l n s s = decide (0 < gL l s ∧ gL l s < n) := Bool.eq_iff_iff.2 (by rw [bfn_iff, decide_eq_true_eq]; omega)
    have h2 : bfn l n (s + 1) s = decide (0 < gL l s ∧ gL l s ≤ n) := Bool.eq_iff_iff.2 (by rw [bfn_iff, decide_eq_true_eq]; omega)
    rw [h1, h2]
    by_cases h : gL l s = n
    · rw [if_pos h, if_pos (by simp; omega), if_neg (by simp; omega), h]; omega
    · rw [if_neg h]
      by_cases h3 : 0 < gL l s ∧ gL l s < n
      · rw [if_pos (by simp; omega), if_pos (by simp; omega)]; rfl
      · rw [if_neg (by simp; omega), if_neg (by simp; omega)]
theorem psn_next {l : List Int} {n : Int} : psn l n l.length = psn l (n + 1) 0 := by
  unfold psn
  refine rsum_congr fun t ht => ?_
  have : bfn l n l.length t = bfn l (n + 1) 0 t := Bool.eq_iff_iff.2 (by rw [bfn_iff, bfn_iff]; omega)
  rw [this]
theorem psn_first {l : List Int} : psn l 1 0 = 0 := by
  unfold psn
  have : rsum l.length (fun t => if bfn l 1 0 t then W (gL l t) else 0) = rsum l.length fun _ => 0 := rsum_congr fun t _ => by
    rw [if_neg]
    rw [bfn_iff]; omega
  rw [this]
  unfold rsum
  induction List.range l.length with
  | nil => rfl
  | cons x L ih => simpa using ih
theorem pos_end {l : List Int} {s : Nat} (hs : s < l.length) (h0 : 0 < gL l s) : pos l s + W (gL l s) ≤ wsum l := by
  have := psn_step hs h0
  rw [if_pos rfl] at this
  have h2 := psn_le l (gL l s) (s + 1)
  unfold pos
  omega
theorem psn_mono {l : List Int} {n m : Int} {s t : Nat} (h : ∀ u, bfn l n s u = true → bfn l m t u = true) : psn l n s ≤ psn l m t := by
  unfold psn
  refine rsum_le fun u _ => ?_
  by_cases hu : bfn l n s u = true
  · rw [if_pos hu, if_pos (h u hu)]; exact Nat.le_refl _
  · rw [if_neg hu]; omega
theorem pos_before {l : List Int} {s t : Nat} (hs : s < l.length) (h : bfn l (gL l t) t s = true) : pos l s + W (gL l s) ≤ pos l t := by
  have h' := bfn_iff.1 h
  have := psn_step hs h'.1
  rw [if_pos rfl] at this
  unfold pos
  rw [← this]
  refine psn_mono fun u hu => ?_
  have hu := bfn_iff.1 hu
  exact bfn_iff.2 ⟨hu.1, by omega⟩
theorem W_of {n : Nat} (h : 0 < n) : W (n : Int) = 2 ^ (24 - n) := by
  unfold W
  rw [if_pos (by omega), Int.toNat_natCast]
/-- The codes up to a place. -/
def tbl (l : List Int) (p : Nat → Bool) : List (Int × List Int) := (List.range l.length).map fun t => if p t then ent l t else (0, [])
theorem tbl_len (l : List Int) (p : Nat → Bool) : (tbl l p).length = l.length := by simp [tbl]
theorem tbl_get {l : List Int} {p : Nat → Bool} {t : Nat} (h : t < l.length) : (tbl l p)[t]? = some (if p t then ent l t else (0, [])) := by simp [tbl, h]
theorem tbl_set {l : List Int} {p q : Nat → Bool} {s : Nat} (h : ∀ t, t < l.length → q t = (p t || decide (t = s))) : (tbl l p).set s (ent l s) = tbl l q := by
  apply List.ext_getElem (by simp [tbl])
  intro t h1 h2
  rw [tbl_len] at h2
  rw [List.getElem_set]
  simp only [tbl, List.getElem_map, List.getElem_range]
  rw [h t h2]
  by_cases hs : s = t
  · subst hs; simp
  · rw [if_neg hs]
    have : ¬ t = s := fun e => hs e.symm
    simp [this]
theorem tbl_congr {l : List Int} {p q : Nat → Bool} (h : ∀ t, t < l.length → p t = q t) : tbl l p = tbl l q := by
  unfold tbl
  exact List.map_congr_left fun t ht => by rw [h t (List.mem_range.1 ht)]
theorem tbl_all {l : List Int} {p : Nat → Bool} (hl : KL l) (h : ∀ t, t < l.length → 0 < gL l t → p t = true) : tbl l p = cds l := by
  unfold tbl cds
  refine List.map_congr_left fun t ht => ?_
  have ht := List.mem_range.1 ht
  have h1 := hl.at ht
  by_cases h0 : 0 < gL l t
  · rw [if_pos (h t ht h0)]
  · have : gL l t = 0 := by omega
    have e : ent l t = (0, []) := by
      unfold ent cd
      rw [this, show (0 : Int).toNat = 0 from rfl, show nb (cw l t) 0 = [] from rfl, pk_nil]
    rw [e]; split <;> rfl
theorem ent_at {l : List Int} {s n N : Nat} (h : gL l s = (n : Int)) (hn : 0 < n) (hN : N * 2 ^ (24 - n) = pos l s) : ent l s = ((n : Int), pk (nb N n)) := by
  unfold ent cd cw
  rw [h, W_of hn, ← hN, Nat.mul_div_cancel _ (Nat.pow_pos (by decide)), Int.toNat_natCast]
theorem big_le {l : List Int} (hl : KL l) {n N s : Nat} (hN : N * 2 ^ (24 - n) = psn l (n : Int) s) : N ≤ 1073741824 := by
  have h1 := psn_le l (n : Int) s
  have h2 := wsum_le l
  have h3 := hl.1
  have h4 : N * 1 ≤ N * 2 ^ (24 - n) := Nat.mul_le_mul_left N (Nat.pow_pos (by decide))
  omega
theorem rcodes_in {F n : Nat} {l : List Int} {rec50 : (List (Int × List Int) × Int × Int) → Option (List (Int × List Int) × Int)} (hF : 20000 ≤ F) (hl : KL l) (hn : 0 < n) (hn2 : n ≤ 24) : ∀ (k s N : Nat), l.length < k + s → s ≤ l.length → N * 2 ^ (24 - n) = psn l (n : Int) s →
    ∃ N', N' * 2 ^ (24 - n) = psn l (n : Int) l.length ∧ M_R_KraftCodes_l58 F rec50 l (n : Int) k (tbl l (bfn l n s), (N : Int), (s : Int)) = M_R_KraftCodes_j55 F rec50 (n : Int) (tbl l (bfn l n l.length)) (N' : Int)
  | 0, _, _, _, _, _ => by omega
  | k + 1, s, N, h, hs, hN => by
    have h1 := hl.1
    have hNb := big_le hl hN
    show ∃ N', _ ∧ M_R_KraftCodes_b58 F rec50 l (n : Int) (M_R_KraftCodes_l58 F rec50 l (n : Int) k) (tbl l (bfn l n s)) (N : Int) (s : Int) = _
    unfold M_R_KraftCodes_b58 M_R_KraftCodes_j59
    by_cases hlt : s < l.length
    · have hst := psn_step (n := (n : Int)) hlt (by omega)
      rw [if_pos (by simp; omega), idx_nat, gL_get hlt]
      simp only [Option.bind_some]
      by_cases hx : gL l s = (n : Int)
      · rw [if_pos hx, W_of hn] at hst
        have hpos : N * 2 ^ (24 - n) = pos l s := by unfold pos; rw [hx]; exact hN
        have he := ent_at hx hn hpos
        have hnl : (nb N n).length = n := nb_len N n
        rw [if_pos (by simpa using hx), numBits_eq (by omega) (by omega) (by omega)]
        simp only [Option.bind_some]
        rw [packed (by omega) (nb_bit N n) (by rw [hnl]; omega), hnl]
        simp only [Option.bind_some]
        rw [idx_nat, tbl_get hlt]
        simp only [Option.bind_some, lett, Int.toNat_natCast]
        rw [← he, tbl_set (q := bfn l n (s + 1)) (fun t _ => Bool.eq_iff_iff.2 (by
          rw [Bool.or_eq_true, bfn_iff, bfn_iff, decide_eq_true_eq]
          constructor
          · rintro ⟨a, b⟩
            by_cases hts : t = s
            · exact .inr hts
            · exact .inl ⟨a, by omega⟩
          · rintro (⟨a, b⟩ | rfl)
            · exact ⟨a, by omega⟩
            · exact ⟨by omega, .inr ⟨hx, by omega⟩⟩))]
        have e1 : iadd .u64 (N : Int) 1 = ((N + 1 : Nat) : Int) := by unfold iadd; rw [wrap_u64 (by omega) (by omega)]; omega
        rw [e1, iadd1_n (by omega)]
        exact rcodes_in hF hl hn hn2 k (s + 1) (N + 1) (by omega) (by omega) (by rw [hst, ← hN, Nat.add_mul, Nat.one_mul])
      · rw [if_neg hx] at hst
        simp only [Nat.add_zero] at hst
        rw [if_neg (by simpa using hx), iadd1_n (by omega)]
        have e : tbl l (bfn l n s) = tbl l (bfn l n (s + 1)) := tbl_congr fun t _ => Bool.eq_iff_iff.2 (by
          rw [bfn_iff, bfn_iff]
          constructor
          · rintro ⟨a, b⟩; exact ⟨a, by omega⟩
          · rintro ⟨a, b⟩
            refine ⟨a, ?_⟩
            rcases b with b | ⟨b1, b2⟩
            · exact .inl b
            · by_cases hts : t = s
              · subst hts; exact absurd b1 hx
              · exact .inr ⟨b1, by omega⟩)
        rw [e]
        exact rcodes_in hF hl hn hn2 k (s + 1) N (by omega) (by omega) (by rw [hst, hN])
    · rw [if_neg (by simp; omega)]
      have : s = l.length := by omega
      subst this
      exact ⟨N, hN, rfl⟩
theorem rcodes_out {F : Nat} {l : List Int} (hF : 20000 ≤ F) (hl : KL l) : ∀ (k n N : Nat), 25 < k + n → n ≤ 25 → 1 ≤ n → N * 2 ^ (25 - n) = psn l (n : Int) 0 →
    M_R_KraftCodes_l50 F l k (tbl l (bfn l n 0), (N : Int), (n : Int)) = some (cds l, 0)
  | 0, _, _, _, _, _, _ => by omega
  | k + 1, n, N, h, hn, hn1, hN => by
    have h1 := hl.1
    show M_R_KraftCodes_b50 F l (M_R_KraftCodes_l50 F l k) (tbl l (bfn l n 0)) (N : Int) (n : Int) = _
    unfold M_R_KraftCodes_b50
    by_cases hlt : n ≤ 24
    · have hN2 : (2 * N) * 2 ^ (24 - n) = psn l (n : Int) 0 := by
        rw [← hN, show 25 - n = (24 - n) + 1 by omega, Nat.pow_succ, Nat.mul_comm 2 N, Nat.mul_assoc, Nat.mul_comm 2]
      have hb := big_le hl hN2
      have e1 : imul .u64 2 (N : Int) = ((2 * N : Nat) : Int) := by unfold imul; rw [wrap_u64 (by omega) (by omega)]; omega
      obtain ⟨N', a1, a2⟩ := rcodes_in (F := F) (n := n) (l := l) (rec50 := M_R_KraftCodes_l50 F l k) hF hl (by omega) hlt F 0 (2 * N) (by omega) (by omega) hN2
      have a2' : M_R_KraftCodes_l58 F (M_R_KraftCodes_l50 F l k) l (n : Int) F (tbl l (bfn l n 0), ((2 * N : Nat) : Int), 0) = _ := a2
      rw [if_pos (by simp; omega), e1, a2']
      unfold M_R_KraftCodes_j55
      rw [iadd1_n (by omega)]
      have e : tbl l (bfn l n l.length) = tbl l (bfn l ((n + 1 : Nat) : Int) 0) := tbl_congr fun t ht => Bool.eq_iff_iff.2 (by rw [bfn_iff, bfn_iff]; omega)
      rw [e]
      refine rcodes_out hF hl k (n + 1) N' (by omega) (by omega) (by omega) ?_
      rw [show 25 - (n + 1) = 24 - n by omega, a1, psn_next]
      rfl
    · rw [if_neg (by simp; omega)]
      unfold M_R_KraftCodes_j31
      rw [tbl_all hl fun t ht h0 => bfn_iff.2 ⟨h0, .inl (by have := hl.at ht; omega)⟩]
def codesM (l : List Int) : List (Int × List Int) × Int := if kchk l ≠ 0 then ([], kchk l) else if 16777216 < wsum l then ([], 8) else (cds l, 0)
theorem mk_tbl {l : List Int} (h : l.length ≤ 1000) : mk 2199023255552 (((0 : Int), ([] : List Int)) : Int × List Int) (l.length : Int) = some (tbl l (bfn l 1 0)) := by
  unfold mk
  rw [if_pos ⟨by omega, by omega⟩, Int.toNat_natCast]
  congr 1
  apply List.ext_getElem (by simp [tbl])
  intro t h1 h2
  simp only [tbl, List.getElem_map, List.getElem_range, List.getElem_replicate]
  rw [if_neg]
  rw [bfn_iff]; omega
theorem rcodes_eq {F : Nat} {l : List Int} (hF : 20000 ≤ F) : M_R_KraftCodes F l = some (codesM l) := by
  unfold M_R_KraftCodes codesM
  rw [rkcheck_eq (by omega)]
  simp only [Option.bind_some]
  unfold M_R_KraftCodes_j60 M_R_KraftCodes_j2
  by_cases h : kchk l = 0
  · have hl := kchk_ok.1 h
    have h1 := hl.1
    rw [if_pos (by simpa using h), rroom_eq (by omega) hl, if_neg (show ¬ kchk l ≠ 0 by simp [h])]
    simp only [Option.bind_some]
    by_cases h2 : 16777216 < wsum l
    · rw [if_pos (by simp; omega), if_pos (by decide), if_pos h2]
    · rw [if_neg (show ¬ decide (16777216 - (wsum l : Int) < 0) = true by simp; omega), h, if_neg (by decide), if_neg h2, mk_tbl (by omega)]
      simp only [Option.bind_some]
      exact rcodes_out hF hl F 1 0 (by omega) (by omega) (by omega) (by rw [show ((1 : Nat) : Int) = 1 from rfl, psn_first])
  · rw [if_neg (by simpa using h), if_neg (by simp), if_pos (by simpa using h), if_pos h]
def kLt (l : List Int) (a b : Nat) : Prop := gL l a < gL l b ∨ (gL l a = gL l b ∧ a < b)
instance kLtDec (l : List Int) (a b : Nat) : Decidable (kLt l a b) := by unfold kLt; infer_instance
def usd (l : List Int) : List Nat := (List.range l.length).filter fun t => decide (0 < gL l t)
def uN (l : List Int) : List Nat := (usd l).mergeSort fun a b => decide (¬ kLt l b a)
theorem uN_perm (l : List Int) : (uN l).Perm (usd l) := List.mergeSort_perm _ _
theorem usd_nodup (l : List Int) : (usd l).Nodup := (List.nodup_range.filter _ : List.Pairwise _ _)
theorem uN_pw (l : List Int) : (uN l).Pairwise (kLt l) := by
  have h := List.pairwise_mergeSort (le := fun a b : Nat => decide (¬ kLt l b a)) (fun a b c h1 h2 => by simp only [decide_eq_true_eq] at *; unfold kLt at *; omega) (fun a b => by simp only [Bool.or_eq_true, decide_eq_true_eq]; unfold kLt; omega) (usd l)
  have hn : (uN l).Nodup := (uN_perm l).nodup_iff.2 (usd_nodup l)
  refine (List.Pairwise.and h hn).imp fun {a b} h => ?_
  have h1 := h.1
  have h2 := h.2
  simp only [decide_eq_true_eq] at h1
  unfold kLt at *; omega
theorem mem_uN {l : List Int} {t : Nat} : t ∈ uN l ↔ t < l.length ∧ 0 < gL l t := by
  rw [(uN_perm l).mem_iff]
  unfold usd
  rw [List.mem_filter, List.mem_range]; simp
theorem take_uN {l : List Int} {i : Nat} (hi : i < (uN l).length) {t : Nat} : t ∈ (uN l).take i ↔ t < l.length ∧ bfn l (gL l (uN l)[i]) (uN l)[i] t = true := by
  have hpw := List.pairwise_iff_getElem.1 (uN_pw l)
  constructor
  · intro ht
    obtain ⟨j, hj, rfl⟩ := List.mem_iff_getElem.1 ht
    rw [List.length_take] at hj
    rw [List.getElem_take]
    have h1 := hpw j i (by omega) hi (by omega)
    have h2 := mem_uN.1 (List.getElem_mem (show j < (uN l).length by omega))
    exact ⟨h2.1, bfn_iff.2 ⟨h2.2, h1⟩⟩
  · rintro ⟨h1, h2⟩
    have h3 := bfn_iff.1 h2
    obtain ⟨j, hj, rfl⟩ := List.mem_iff_getElem.1 (mem_uN.2 ⟨h1, h3.1⟩)
    by_cases hji : j < i
    · exact List.mem_iff_getElem.2 ⟨j, by rw [List.length_take]; omega, List.getElem_take⟩
    · exfalso
      rcases Nat.eq_or_lt_of_le (show i ≤ j by omega) with he | he
      · subst he; omega
      · have h4 := hpw i j hi hj he
        unfold kLt at h4; omega
/-- What the first signs take, in their order. -/
def ssum (l : List Int) (i : Nat) : Nat := (((uN l).take i).map fun t => W (gL l t)).sum
theorem ssum_pos {l : List Int} {i : Nat} (hi : i < (uN l).length) : ssum l i = pos l (uN l)[i] := by
  unfold ssum pos psn
  rw [rsum_filter]
  refine sum_perm (List.Perm.map _ ?_)
  have hn : (uN l).Nodup := (uN_perm l).nodup_iff.2 (usd_nodup l)
  refine (List.perm_ext_iff_of_nodup (hn.sublist (List.take_sublist _ _)) (List.nodup_range.filter _ : List.Pairwise _ _)).2 fun t => ?_
  rw [take_uN hi, List.mem_filter, List.mem_range]
theorem ssum_succ {l : List Int} {i : Nat} (hi : i < (uN l).length) : ssum l (i + 1) = ssum l i + W (gL l (uN l)[i]) := by
  unfold ssum
  rw [take_snoc hi, List.map_append, List.sum_append]; simp
theorem ssum_all (l : List Int) (h0 : ∀ n ∈ l, 0 ≤ n) : ssum l (uN l).length = wsum l := by
  unfold ssum
  rw [List.take_length, sum_perm ((uN_perm l).map _), wsum_rsum]
  unfold usd
  rw [← rsum_filter]
  refine rsum_congr fun t ht => ?_
  have := h0 _ (List.mem_of_getElem? (gL_get ht))
  by_cases h : 0 < gL l t
  · rw [if_pos (by simpa using h)]
  · rw [if_neg (by simpa using h)]
    unfold W
    rw [if_neg h]
theorem used_cmp {F : Nat} {l : List Int} (hF : 3 ≤ F) {a b : Nat} (ha : a < l.length) (hb : b < l.length) : ∃ z, M_kraft_used_1 F (a : Int) (b : Int) l = some z ∧ (z < 0 ↔ kLt l a b) := by
  unfold M_kraft_used_1
  rw [idx_nat, gL_get ha]
  simp only [Option.bind_some]
  rw [idx_nat, gL_get hb]
  simp only [Option.bind_some]
  rw [compare_eq, compare_eq]
  simp only [Option.bind_some]
  rw [or_eq hF]
  simp only [Option.bind_some]
  unfold kLt
  by_cases h1 : gL l a < gL l b
  · exact ⟨-1, by simp [h1], by simp [h1]⟩
  · by_cases h2 : gL l b < gL l a
    · exact ⟨1, by simp [h1, h2], by omega⟩
    · refine ⟨if (a : Int) < (b : Int) then -1 else if (b : Int) < (a : Int) then 1 else 0, by simp [h1, h2], ?_⟩
      split
      · omega
      · split <;> omega
theorem sorted_eq {F : Nat} {l : List Int} (hF : 3 ≤ F) (hm : l.length ≤ 1000) : M_slices_SortFunc_int_int_kraft_used_1 F ((usd l).map fun (t : Nat) => (t : Int)) l = some ((uN l).map fun (t : Nat) => (t : Int)) := by
  have hu : ∀ x ∈ (usd l).map (fun (t : Nat) => (t : Int)), ∃ t : Nat, x = (t : Int) ∧ t < l.length := fun x hx => by
    obtain ⟨t, ht, rfl⟩ := List.mem_map.1 hx
    unfold usd at ht
    exact ⟨t, rfl, List.mem_range.1 (List.mem_filter.1 ht).1⟩
  refine sortF_eq (lt := fun a b : Int => gL l a.toNat < gL l b.toNat ∨ (gL l a.toNat = gL l b.toNat ∧ a < b)) (fun a ha b hb => ?_) (fun a => by omega) (fun a b d => by omega) (fun a b => by omega) ?_ ?_ ?_
  · obtain ⟨s, rfl, hs⟩ := hu a ha
    obtain ⟨t, rfl, ht⟩ := hu b hb
    obtain ⟨z, e1, e2⟩ := used_cmp (F := F) hF hs ht
    refine ⟨z, e1, ?_⟩
    rw [e2]
    unfold kLt
    simp only [Int.toNat_natCast]
    omega
  · rw [List.length_map]
    have : (usd l).length ≤ l.length := by
      unfold usd
      exact Nat.le_trans (List.length_filter_le _ _) (by simp)
    omega
  · exact (uN_perm l).map _
  · rw [List.pairwise_map]
    exact (uN_pw l).imp fun {a b} h => by
      simp only [Int.toNat_natCast]
      unfold kLt at h; omega
theorem used_l {F : Nat} {l : List Int} (hF : 3 ≤ F) (hm : l.length ≤ 1000) : ∀ (k i : Nat), l.length < k + i → i ≤ l.length → M_kraft_used_l8 F l k (((List.range i).filter fun t => decide (0 < gL l t)).map (fun (t : Nat) => (t : Int)), (i : Int)) = some ((uN l).map fun (t : Nat) => (t : Int))
  | 0, _, _, _ => by omega
  | k + 1, i, h, hi => by
    show M_kraft_used_b8 F l (M_kraft_used_l8 F l k) (((List.range i).filter fun t => decide (0 < gL l t)).map fun (t : Nat) => (t : Int)) (i : Int) = _
    unfold M_kraft_used_b8 M_kraft_used_j9
    by_cases hlt : i < l.length
    · have hrec := used_l (F := F) hF hm k (i + 1) (by omega) (by omega)
      rw [List.range_succ, List.filter_append, List.map_append] at hrec
      have hfl : ((List.range i).filter fun t => decide (0 < gL l t)).length ≤ i := Nat.le_trans (List.length_filter_le _ _) (by simp)
      rw [if_pos (by simp; omega), idx_nat, gL_get hlt]
      simp only [Option.bind_some]
      by_cases h0 : 0 < gL l i
      · rw [if_pos (by simpa using h0), app_eq (by simp only [List.length_map, List.length_singleton]; omega)]
        simp only [Option.bind_some]
        rw [iadd1_n (by omega)]
        rw [show ([i].filter fun t => decide (0 < gL l t)) = [i] by simp [h0]] at hrec
        exact hrec
      · rw [if_neg (by simpa using h0), iadd1_n (by omega)]
        rw [show ([i].filter fun t => decide (0 < gL l t)) = [] by simp [h0], List.map_nil, List.append_nil] at hrec
        exact hrec
    · rw [if_neg (by simp; omega), show i = l.length from by omega]
      unfold M_kraft_used_j5
      have hs := sorted_eq (F := F) (l := l) hF hm
      unfold usd at hs
      rw [hs]
      simp only [Option.bind_some, chk]
      rw [if_pos]
      have := (uN_perm l).length_eq
      unfold usd at this
      simp [this]
theorem used_eq {F : Nat} {l : List Int} (hF : 20000 ≤ F) (hm : l.length ≤ 1000) : M_kraft_used F l = some ((uN l).map fun (t : Nat) => (t : Int)) := by
  unfold M_kraft_used
  exact used_l (by omega) hm F 0 (by omega) (by omega)
theorem codes_l {F : Nat} {l : List Int} (hF : 20000 ≤ F) (hl : KL l) : ∀ (k i N last : Nat), (uN l).length < k + i → i ≤ (uN l).length → N * 2 ^ (24 - last) = ssum l i → (∀ j, j < (uN l).length → i ≤ j → (last : Int) ≤ gL l ((uN l).getD j 0)) → last ≤ 24 →
    M_kraft_Codes_l5 F l ((uN l).map fun (t : Nat) => (t : Int)) k (tbl l (fun t => decide (t ∈ (uN l).take i)), (N : Int), (last : Int), (i : Int)) = some (cds l, 0)
  | 0, _, _, _, _, _, _, _, _ => by omega
  | k + 1, i, N, last, h, hi, hN, hlast, hl24 => by
    have h1 := hl.1
    have hul : (uN l).length ≤ l.length := by
      rw [(uN_perm l).length_eq]
      unfold usd
      exact Nat.le_trans (List.length_filter_le _ _) (by simp)
    show M_kraft_Codes_b5 F l ((uN l).map fun (t : Nat) => (t : Int)) (M_kraft_Codes_l5 F l ((uN l).map fun (t : Nat) => (t : Int)) k) (tbl l (fun t => decide (t ∈ (uN l).take i))) (N : Int) (last : Int) (i : Int) = _
    unfold M_kraft_Codes_b5
    by_cases hlt : i < (uN l).length
    · obtain ⟨hu1, hu2⟩ := mem_uN.1 (List.getElem_mem hlt)
      have hut := hl.at hu1
      obtain ⟨n, hn⟩ := Int.eq_ofNat_of_zero_le hut.1
      have hgd : (uN l).getD i 0 = (uN l)[i] := by simp [List.getD, List.getElem?_eq_getElem hlt]
      have hln := hlast i hlt (Nat.le_refl _)
      rw [hgd, hn] at hln
      have hps := ssum_pos hlt
      have hN' : (N * 2 ^ (n - last)) * 2 ^ (24 - n) = pos l (uN l)[i] := by
        rw [← hps, ← hN, Nat.mul_assoc, ← Nat.pow_add]
        congr 2; omega
      have hbig : N * 2 ^ (n - last) ≤ 1073741824 := big_le hl (n := n) (s := (uN l)[i]) (by rw [hN']; unfold pos; rw [hn])
      have he := ent_at hn (by omega) hN'
      have hsh : ishl .u64 (N : Int) (isub .i64 (n : Int) (last : Int)) = ((N * 2 ^ (n - last) : Nat) : Int) := by
        rw [isub_n (by omega) (by omega), ishl_n (by omega), Nat.mod_eq_of_lt (by omega)]
      rw [if_pos (by simp; omega), idx_nat, List.getElem?_map, List.getElem?_eq_getElem hlt]
      simp only [Option.map_some, Option.bind_some]
      rw [idx_nat, gL_get hu1, hn]
      simp only [Option.bind_some, chk]
      rw [if_pos (by rw [isub_n (by omega) (by omega)]; simp), idx_nat, tbl_get hu1]
      simp only [Option.bind_some, lett]
      rw [hsh]
      have hadd := add_eq (F := F) (n := N * 2 ^ (n - last)) (w := n) (m := 0) (b := []) (by omega) (by omega) (fun x hx => by simp at hx) (ok_pk (l := []) (by simp)) (by omega)
      have hadd' : M_bits_Add F 0 [] ((N * 2 ^ (n - last) : Nat) : Int) (n : Int) = some ((n : Int), pk (nb (N * 2 ^ (n - last)) n)) := by
        rw [Nat.zero_add] at hadd
        exact hadd
      rw [hadd']
      simp only [Option.bind_some, Int.toNat_natCast]
      rw [← he, tbl_set (q := fun t => decide (t ∈ (uN l).take (i + 1))) (fun t _ => by rw [← Bool.decide_or]; exact decide_eq_decide.2 (by rw [take_snoc hlt, List.mem_append, List.mem_singleton]))]
      have e1 : iadd .u64 ((N * 2 ^ (n - last) : Nat) : Int) 1 = ((N * 2 ^ (n - last) + 1 : Nat) : Int) := by unfold iadd; rw [wrap_u64 (by omega) (by omega)]; omega
      rw [e1, iadd1_n (by omega)]
      refine codes_l hF hl k (i + 1) _ n (by omega) (by omega) ?_ (fun j hj hij => ?_) (by omega)
      · rw [ssum_succ hlt, hps, ← hN', hn, W_of (by omega), Nat.add_mul, Nat.one_mul]
      · have := List.pairwise_iff_getElem.1 (uN_pw l) i j hlt hj (by omega)
        have hgj : (uN l).getD j 0 = (uN l)[j] := by simp [List.getD, List.getElem?_eq_getElem hj]
        unfold kLt at this
        rw [hgj]; omega
    · rw [if_neg (by simp; omega)]
      unfold M_kraft_Codes_j4
      rw [tbl_all hl fun t ht h0 => by rw [show i = (uN l).length by omega, List.take_length]; exact decide_eq_true (mem_uN.2 ⟨ht, h0⟩)]
theorem codes_eq {F : Nat} {l : List Int} (hF : 20000 ≤ F) : M_kraft_Codes F l = some (codesM l) := by
  unfold M_kraft_Codes codesM
  rw [kcheck_eq (by omega)]
  simp only [Option.bind_some]
  unfold M_kraft_Codes_j6 M_kraft_Codes_j2
  by_cases h : kchk l = 0
  · have hl := kchk_ok.1 h
    have h1 := hl.1
    rw [if_pos (by simpa using h), kroom_eq (by omega) hl, if_neg (show ¬ kchk l ≠ 0 by simp [h])]
    simp only [Option.bind_some]
    by_cases h2 : 16777216 < wsum l
    · rw [if_pos (by simp; omega), if_pos (by decide), if_pos h2]
    · have hul : (uN l).length ≤ l.length := by
        rw [(uN_perm l).length_eq]
        unfold usd
        exact Nat.le_trans (List.length_filter_le _ _) (by simp)
      rw [if_neg (show ¬ decide (16777216 - (wsum l : Int) < 0) = true by simp; omega), h, if_neg (by decide), if_neg h2, mk_tbl (by omega)]
      simp only [Option.bind_some]
      rw [used_eq hF (by omega)]
      simp only [Option.bind_some]
      have e0 : tbl l (bfn l 1 0) = tbl l (fun t => decide (t ∈ (uN l).take 0)) := tbl_congr fun t _ => by
        rw [List.take_zero]
        simp only [List.not_mem_nil, decide_false]
        rw [← Bool.not_eq_true, bfn_iff]; omega
      rw [e0]
      exact codes_l hF hl F 0 0 0 (by omega) (by omega) (by simp [ssum]) (fun j hj _ => by
        have hgj : (uN l).getD j 0 = (uN l)[j] := by simp [List.getD, List.getElem?_eq_getElem hj]
        have := (mem_uN.1 (List.getElem_mem hj)).2
        rw [hgj]; omega) (by omega)
  · rw [if_neg (by simpa using h), if_neg (by simp), if_pos (by simpa using h), if_pos h]
theorem same_ints {F : Nat} {xs ys : List Int} (hF : ys.length < F) (hm : ys.length ≤ 9223372036854775807) : M_R_SameInts F xs ys = some (decide (xs = ys)) := by
  rw [sameInts_same]
  by_cases h : xs.length = ys.length
  · rw [sameBytes_eq (by omega) (by omega)]
  · unfold M_R_SameBytes
    rw [if_pos (by rw [bne_iff_ne]; omega), decide_eq_false (fun e => h (by rw [e]))]
def cmpb (x y : List Int) : Bool := decide (x.take y.length = y.take x.length)
theorem cmpb_min {x y : List Int} : cmpb x y = decide (x.take (min y.length x.length) = y.take (min y.length x.length)) := by
  unfold cmpb
  refine decide_eq_decide.2 ?_
  by_cases h : y.length ≤ x.length
  · rw [Nat.min_eq_left h, List.take_of_length_le (l := y) h, List.take_of_length_le (l := y) (Nat.le_refl _)]
  · rw [Nat.min_eq_right (by omega), List.take_of_length_le (l := x) (by omega : x.length ≤ y.length), List.take_of_length_le (l := x) (Nat.le_refl _)]
theorem begins_l {F at_ : Nat} {x y : List Int} (hx : Bit x) (hy : Bit y) (hxm : x.length ≤ 8192) (hym : y.length ≤ 8192) (ha : at_ ≤ x.length) : ∀ (k i : Nat), min y.length (x.drop at_).length < k + i → i ≤ min y.length (x.drop at_).length → (x.drop at_).take i = y.take i →
    M_kraft_begins_l3 F (x.length : Int) (pk x) (at_ : Int) (y.length : Int) (pk y) k (i : Int) = some (cmpb (x.drop at_) y)
  | 0, _, _, _, _ => by omega
  | k + 1, i, h, hi, he => by
    have hmin : imin (y.length : Int) (isub .i64 (x.length : Int) (at_ : Int)) = ((min y.length (x.drop at_).length : Nat) : Int) := by
      rw [isub_n ha (by omega), List.length_drop]
      unfold imin
      split <;> omega
    show M_kraft_begins_b3 F (x.length : Int) (pk x) (at_ : Int) (y.length : Int) (pk y) (M_kraft_begins_l3 F (x.length : Int) (pk x) (at_ : Int) (y.length : Int) (pk y) k) (i : Int) = _
    unfold M_kraft_begins_b3
    rw [hmin]
    by_cases hlt : i < min y.length (x.drop at_).length
    · have hiy : i < y.length := by omega
      have hix : i < (x.drop at_).length := by omega
      have hixx : at_ + i < x.length := by rw [List.length_drop] at hix; omega
      rw [if_pos (by simpa using hlt), iadd_n (by omega), at_pk hx (by omega) hixx]
      simp only [Option.bind_some]
      rw [at_pk hy (by omega) hiy]
      simp only [Option.bind_some]
      have hd : (x.drop at_)[i] = x[at_ + i] := List.getElem_drop
      by_cases hc : x[at_ + i] = y[i]
      · rw [if_neg (by simpa using hc), iadd1_n (by omega)]
        refine begins_l hx hy hxm hym ha k (i + 1) (by omega) (by omega) ?_
        rw [take_snoc hix, take_snoc hiy, he, hd, hc]
      · rw [if_pos (by simpa using hc)]
        congr 1
        symm
        rw [cmpb_min]
        refine decide_eq_false fun h2 => hc ?_
        have this : ((x.drop at_).take (min y.length (x.drop at_).length))[i]? = (y.take (min y.length (x.drop at_).length))[i]? := congrArg (fun z : List Int => z[i]?) h2
        rw [List.getElem?_take_of_lt hlt, List.getElem?_take_of_lt hlt, List.getElem?_eq_getElem hix, List.getElem?_eq_getElem hiy] at this
        rw [← hd]
        exact Option.some.inj this
    · rw [if_neg (show ¬ decide (((i : Nat) : Int) < ((min y.length (x.drop at_).length : Nat) : Int)) = true by rw [decide_eq_true_eq]; omega)]
      unfold M_kraft_begins_j2
      congr 1
      symm
      rw [cmpb_min, show min y.length (x.drop at_).length = i by omega]
      exact decide_eq_true he
theorem begins_eq {F at_ : Nat} {x y : List Int} (hF : 20000 ≤ F) (hx : Bit x) (hy : Bit y) (hxm : x.length ≤ 8192) (hym : y.length ≤ 8192) (ha : at_ ≤ x.length) :
    M_kraft_begins F (x.length : Int) (pk x) (at_ : Int) (y.length : Int) (pk y) = some (cmpb (x.drop at_) y) := by
  unfold M_kraft_begins
  exact begins_l hx hy hxm hym ha F 0 (by omega) (by omega) rfl
def enc1 (x : List Int) : Int × List Int := ((x.length : Int), pk x)
def BL (xs : List (List Int)) : Prop := ∀ x ∈ xs, Bit x ∧ x.length ≤ 8192
theorem BL.at {xs : List (List Int)} (h : BL xs) (i : Nat) : Bit (xs.getD i []) ∧ (xs.getD i []).length ≤ 8192 := by
  by_cases hi : i < xs.length
  · have : xs.getD i [] = xs[i] := by simp [List.getD, List.getElem?_eq_getElem hi]
    rw [this]; exact h _ (List.getElem_mem hi)
  · have : xs.getD i [] = [] := by simp [List.getD, List.getElem?_eq_none (show xs.length ≤ i by omega)]
    rw [this]; exact ⟨fun x hx => by simp at hx, by simp⟩
theorem enc_get {xs : List (List Int)} {i : Nat} (h : i < xs.length) : (xs.map enc1)[i]? = some (((xs.getD i []).length : Int), pk (xs.getD i [])) := by
  have : xs.getD i [] = xs[i] := by simp [List.getD, List.getElem?_eq_getElem h]
  rw [List.getElem?_map, List.getElem?_eq_getElem h, this]; rfl
def bad (xs : List (List Int)) (i k : Nat) : Bool := decide (0 < (xs.getD i []).length) && (decide (0 < (xs.getD k []).length) && cmpb (xs.getD i []) (xs.getD k []))
theorem apart_in {F i : Nat} {xs : List (List Int)} {rec80 : Int → Option (Bool × Int)} (hF : 20000 ≤ F) (hB : BL xs) (hi : i < xs.length) (hm : xs.length ≤ 1000) : ∀ (k j : Nat), i < k + j → j ≤ i →
    M_kraft_Apart_l93 F rec80 (i : Int) (((xs.getD i []).length : Int), pk (xs.getD i [])) ((xs.map enc1).take i) k (j : Int) = if ((List.range i).drop j).any (bad xs i) then some (false, 0) else M_kraft_Apart_j88 F rec80 (i : Int)
  | 0, _, _, _ => by omega
  | k + 1, j, h, hj => by
    show M_kraft_Apart_b93 F rec80 (i : Int) (((xs.getD i []).length : Int), pk (xs.getD i [])) ((xs.map enc1).take i) (M_kraft_Apart_l93 F rec80 (i : Int) (((xs.getD i []).length : Int), pk (xs.getD i [])) ((xs.map enc1).take i) k) (j : Int) = _
    unfold M_kraft_Apart_b93 M_kraft_Apart_j95
    by_cases hlt : j < i
    · have hrec := apart_in (F := F) (rec80 := rec80) hF hB hi hm k (j + 1) (by omega) (by omega)
      obtain ⟨b1, b2⟩ := hB.at i
      obtain ⟨b3, b4⟩ := hB.at j
      rw [if_pos (by simp; omega), idx_nat, List.getElem?_take_of_lt hlt, enc_get (by omega), List.drop_eq_getElem_cons (by simp; omega), List.getElem_range, List.any_cons]
      simp only [Option.bind_some]
      rw [iadd1_n (by omega)]
      by_cases hc : 0 < (xs.getD i []).length ∧ 0 < (xs.getD j []).length
      · have hb := begins_eq (F := F) (at_ := 0) hF b1 b3 b2 b4 (by omega)
        rw [List.drop_zero] at hb
        have hb' : M_kraft_begins F ((xs.getD i []).length : Int) (pk (xs.getD i [])) 0 ((xs.getD j []).length : Int) (pk (xs.getD j [])) = _ := hb
        rw [if_pos (show (decide (0 < ((xs.getD i []).length : Int)) && decide (0 < ((xs.getD j []).length : Int))) = true by rw [Bool.and_eq_true, decide_eq_true_eq, decide_eq_true_eq]; omega), hb']
        simp only [Option.bind_some]
        have e : bad xs i j = cmpb (xs.getD i []) (xs.getD j []) := by
          unfold bad
          rw [decide_eq_true hc.1, decide_eq_true hc.2, Bool.true_and, Bool.true_and]
        rw [e]
        by_cases h2 : cmpb (xs.getD i []) (xs.getD j []) = true
        · rw [if_pos h2, h2, if_pos (by simp)]
        · rw [if_neg h2]
          rw [Bool.not_eq_true] at h2
          rw [h2, Bool.false_or]
          exact hrec
      · have e : bad xs i j = false := by
          unfold bad
          by_cases h3 : 0 < (xs.getD i []).length
          · have h4 : ¬ 0 < (xs.getD j []).length := fun h4 => hc ⟨h3, h4⟩
            rw [decide_eq_false h4, Bool.false_and, Bool.and_false]
          · rw [decide_eq_false h3, Bool.false_and]
        rw [if_neg (by simp only [Bool.and_eq_true, decide_eq_true_eq]; omega), if_neg (by simp), e, Bool.false_or]
        exact hrec
    · rw [if_neg (by simp; omega), List.drop_eq_nil_of_le (by simp; omega)]
      rfl
theorem apart_out {F : Nat} {xs : List (List Int)} (hF : 20000 ≤ F) (hB : BL xs) (hm : xs.length ≤ 1000) : ∀ (k i : Nat), xs.length < k + i → i ≤ xs.length →
    M_kraft_Apart_l80 F (xs.map enc1) k (i : Int) = some (!(((List.range xs.length).drop i).any fun i => (List.range i).any (bad xs i)), 0)
  | 0, _, _, _ => by omega
  | k + 1, i, h, hi => by
    show M_kraft_Apart_b80 F (xs.map enc1) (M_kraft_Apart_l80 F (xs.map enc1) k) (i : Int) = _
    unfold M_kraft_Apart_b80
    by_cases hlt : i < xs.length
    · have hin := apart_in (F := F) (rec80 := M_kraft_Apart_l80 F (xs.map enc1) k) hF hB hlt hm F 0 (by omega) (by omega)
      have hs := sub_n (l := xs.map enc1) (i := 0) (j := i) (by omega) (by simp; omega)
      rw [show ((0 : Nat) : Int) = 0 from rfl, List.drop_zero] at hs
      rw [List.drop_zero] at hin
      rw [if_pos (by simp; omega), idx_nat, enc_get hlt, List.drop_eq_getElem_cons (by simp; omega), List.getElem_range, List.any_cons]
      simp only [Option.bind_some]
      rw [hs]
      simp only [Option.bind_some]
      refine Eq.trans hin ?_
      by_cases hb : (List.range i).any (bad xs i) = true
      · rw [if_pos hb, hb]; rfl
      · rw [if_neg hb]
        rw [Bool.not_eq_true] at hb
        rw [hb, Bool.false_or]
        unfold M_kraft_Apart_j88
        rw [iadd1_n (by omega)]
        exact apart_out hF hB hm k (i + 1) (by omega) (by omega)
    · rw [if_neg (by simp; omega), List.drop_eq_nil_of_le (by simp; omega)]
      rfl
def strt (x y : List Int) : Bool := decide (y.length ≤ x.length) && decide (x.take y.length = y)
theorem strt_cmp {x y : List Int} : cmpb x y = (strt x y || strt y x) := by
  refine Bool.eq_iff_iff.2 ?_
  unfold cmpb strt
  simp only [Bool.or_eq_true, Bool.and_eq_true, decide_eq_true_eq]
  constructor
  · intro h
    by_cases hl : y.length ≤ x.length
    · rw [List.take_of_length_le (l := y) hl] at h
      exact .inl ⟨hl, h⟩
    · rw [List.take_of_length_le (l := x) (by omega)] at h
      exact .inr ⟨by omega, h.symm⟩
  · rintro (⟨h1, h2⟩ | ⟨h1, h2⟩)
    · rw [h2, List.take_of_length_le h1]
    · rw [h2, List.take_of_length_le h1]
theorem rsame_ints {F : Nat} {xs ys : List Int} (hF : xs.length < F) (hm : xs.length ≤ 1000000) : M_R_SameInts F xs ys = some (decide (xs = ys)) := by
  by_cases h : xs.length = ys.length
  · exact same_ints (by omega) (by omega)
  · have : xs ≠ ys := fun e => h (by rw [e])
    unfold M_R_SameInts
    rw [if_pos (by simp; omega), decide_eq_false this]
theorem starts_eq {F : Nat} {x y : List Int} (hF : y.length < F) (hm : y.length ≤ 1000000) : M_R_Starts F x y = some (strt x y) := by
  unfold M_R_Starts M_R_Starts_j1 strt
  by_cases h : y.length ≤ x.length
  · have hs := sub_n (l := x) (i := 0) (j := y.length) (by omega) h
    rw [show ((0 : Nat) : Int) = 0 from rfl, List.drop_zero] at hs
    rw [if_pos (by simp; omega), hs]
    simp only [Option.bind_some]
    have hl : (x.take y.length).length = y.length := by rw [List.length_take]; omega
    rw [rsame_ints (by omega) (by omega), decide_eq_true h, Bool.true_and]
    rfl
  · rw [if_neg (by simp; omega), decide_eq_false h, Bool.false_and]
def badR (xs : List (List Int)) (i k : Nat) : Bool := decide (i ≠ k) && (decide (0 < (xs.getD i []).length) && (decide (0 < (xs.getD k []).length) && strt (xs.getD i []) (xs.getD k [])))
theorem bitList_pk {F : Nat} (hF : 20000 ≤ F) {x : List Int} (hx : Bit x) (hm : x.length ≤ 8192) : M_R_BitList F (x.length : Int) (pk x) = some x := by
  rw [bitList_eq hF (pk_u8 hx) (by rw [pk_len]; omega) (by omega), bl_pk hx]
theorem rapart_in {F i : Nat} {xs : List (List Int)} {rec80 : Int → Option (Bool × Int)} (hF : 20000 ≤ F) (hB : BL xs) (hi : i < xs.length) (hm : xs.length ≤ 1000) : ∀ (k j : Nat), xs.length < k + j → j ≤ xs.length →
    M_R_KraftApart_l93 F rec80 (xs.map enc1) (i : Int) k (j : Int) = if ((List.range xs.length).drop j).any (badR xs i) then some (false, 0) else M_R_KraftApart_j88 F rec80 (i : Int)
  | 0, _, _, _ => by omega
  | k + 1, j, h, hj => by
    show M_R_KraftApart_b93 F rec80 (xs.map enc1) (i : Int) (M_R_KraftApart_l93 F rec80 (xs.map enc1) (i : Int) k) (j : Int) = _
    unfold M_R_KraftApart_b93 M_R_KraftApart_j95
    by_cases hlt : j < xs.length
    · have hrec := rapart_in (F := F) (rec80 := rec80) hF hB hi hm k (j + 1) (by omega) (by omega)
      obtain ⟨b1, b2⟩ := hB.at i
      obtain ⟨b3, b4⟩ := hB.at j
      rw [if_pos (by simp; omega), List.drop_eq_getElem_cons (by simp; omega), List.getElem_range, List.any_cons, iadd1_n (by omega)]
      by_cases hij : i = j
      · subst hij
        have e : badR xs i i = false := by unfold badR; simp
        rw [if_neg (by simp), if_neg (by simp), e, Bool.false_or]
        exact hrec
      · have hij' : ¬ (i : Int) = (j : Int) := by omega
        rw [if_pos (by simpa using hij'), idx_nat, enc_get hi]
        simp only [Option.bind_some]
        by_cases hc1 : 0 < (xs.getD i []).length
        · rw [if_pos (by simpa using hc1), idx_nat, enc_get hlt]
          simp only [Option.bind_some]
          by_cases hc2 : 0 < (xs.getD j []).length
          · rw [if_pos (by simpa using hc2), bitList_pk hF b1 b2]
            simp only [Option.bind_some]
            rw [bitList_pk hF b3 b4]
            simp only [Option.bind_some]
            rw [starts_eq (by omega) (by omega)]
            simp only [Option.bind_some]
            have e : badR xs i j = strt (xs.getD i []) (xs.getD j []) := by
              unfold badR
              rw [decide_eq_true hij, decide_eq_true hc1, decide_eq_true hc2, Bool.true_and, Bool.true_and, Bool.true_and]
            rw [e]
            by_cases h2 : strt (xs.getD i []) (xs.getD j []) = true
            · rw [if_pos h2, h2, if_pos (by simp)]
            · rw [if_neg h2]
              rw [Bool.not_eq_true] at h2
              rw [h2, Bool.false_or]
              exact hrec
          · have e : badR xs i j = false := by
              unfold badR
              rw [decide_eq_false hc2, Bool.false_and, Bool.and_false, Bool.and_false]
            rw [if_neg (by simpa using hc2), if_neg (by simp), e, Bool.false_or]
            exact hrec
        · have e : badR xs i j = false := by
            unfold badR
            rw [decide_eq_false hc1, Bool.false_and, Bool.and_false]
          rw [if_neg (by simpa using hc1), if_neg (by simp), e, Bool.false_or]
          exact hrec
    · rw [if_neg (by simp; omega), List.drop_eq_nil_of_le (by simp; omega)]
      rfl
theorem rapart_out {F : Nat} {xs : List (List Int)} (hF : 20000 ≤ F) (hB : BL xs) (hm : xs.length ≤ 1000) : ∀ (k i : Nat), xs.length < k + i → i ≤ xs.length →
    M_R_KraftApart_l80 F (xs.map enc1) k (i : Int) = some (!(((List.range xs.length).drop i).any fun i => (List.range xs.length).any (badR xs i)), 0)
  | 0, _, _, _ => by omega
  | k + 1, i, h, hi => by
    show M_R_KraftApart_b80 F (xs.map enc1) (M_R_KraftApart_l80 F (xs.map enc1) k) (i : Int) = _
    unfold M_R_KraftApart_b80
    by_cases hlt : i < xs.length
    · have hin := rapart_in (F := F) (rec80 := M_R_KraftApart_l80 F (xs.map enc1) k) hF hB hlt hm F 0 (by omega) (by omega)
      rw [List.drop_zero] at hin
      rw [if_pos (by simp; omega), List.drop_eq_getElem_cons (by simp; omega), List.getElem_range, List.any_cons]
      refine Eq.trans hin ?_
      by_cases hb : (List.range xs.length).any (badR xs i) = true
      · rw [if_pos hb, hb]; rfl
      · rw [if_neg hb]
        rw [Bool.not_eq_true] at hb
        rw [hb, Bool.false_or]
        unfold M_R_KraftApart_j88
        rw [iadd1_n (by omega)]
        exact rapart_out hF hB hm k (i + 1) (by omega) (by omega)
    · rw [if_neg (by simp; omega), List.drop_eq_nil_of_le (by simp; omega)]
      rfl
theorem bad_same {xs : List (List Int)} : ((List.range xs.length).any fun i => (List.range i).any (bad xs i)) = (List.range xs.length).any fun i => (List.range xs.length).any (badR xs i) := by
  refine Bool.eq_iff_iff.2 ?_
  simp only [List.any_eq_true, List.mem_range]
  unfold bad badR
  simp only [Bool.and_eq_true, decide_eq_true_eq]
  constructor
  · rintro ⟨i, hi, k, hk, h1, h2, h3⟩
    rw [strt_cmp, Bool.or_eq_true] at h3
    rcases h3 with h3 | h3
    · exact ⟨i, hi, k, by omega, by omega, h1, h2, h3⟩
    · exact ⟨k, by omega, i, hi, by omega, h2, h1, h3⟩
  · rintro ⟨i, hi, k, hk, h0, h1, h2, h3⟩
    by_cases hik : k < i
    · exact ⟨i, hi, k, hik, h1, h2, by rw [strt_cmp, h3]; rfl⟩
    · exact ⟨k, hk, i, by omega, h2, h1, by rw [strt_cmp, h3]; simp⟩
/-- No two that are something begin alike. -/
def apB (xs : List (List Int)) : Bool := !((List.range xs.length).any fun i => (List.range i).any (bad xs i))
theorem apB_iff {xs : List (List Int)} : apB xs = true ↔ ∀ i k, i < xs.length → k < xs.length → i ≠ k → 0 < (xs.getD i []).length → 0 < (xs.getD k []).length → cmpb (xs.getD i []) (xs.getD k []) = false := by
  have hsym : ∀ (x y : List Int), cmpb x y = cmpb y x := fun x y => by rw [strt_cmp, strt_cmp, Bool.or_comm]
  unfold apB
  rw [Bool.not_eq_true']
  constructor
  · intro h i k hi hk hik h1 h2
    cases hc : cmpb (xs.getD i []) (xs.getD k []) with
    | false => rfl
    | true =>
      exfalso
      rw [← Bool.not_eq_true] at h
      apply h
      simp only [List.any_eq_true, List.mem_range]
      unfold bad
      simp only [Bool.and_eq_true, decide_eq_true_eq]
      by_cases hlt : k < i
      · exact ⟨i, hi, k, hlt, h1, h2, hc⟩
      · exact ⟨k, hk, i, by omega, h2, h1, by rw [hsym]; exact hc⟩
  · intro h
    rw [← Bool.not_eq_true]
    simp only [List.any_eq_true, List.mem_range]
    unfold bad
    simp only [Bool.and_eq_true, decide_eq_true_eq]
    rintro ⟨i, hi, k, hk, h1, h2, h3⟩
    rw [h i k hi (by omega) (by omega) h1 h2] at h3
    cases h3
/-- The first fault of bits. -/
def apE : List (Int × List Int) → Int
  | [] => 0
  | c :: cs => if chkOf c.1 c.2 ≠ 0 then chkOf c.1 c.2 else apE cs
def xsl (cs : List (Int × List Int)) : List (List Int) := cs.map fun c => bl c.2 c.1.toNat
/-- Codes that may be handed in. -/
def CB (cs : List (Int × List Int)) : Prop := ∀ c ∈ cs, U8s c.2 ∧ I64 c.1 ∧ c.2.length ≤ 9223372036854775807
theorem xsl_form {cs : List (Int × List Int)} (h : CB cs) (he : apE cs = 0) : cs = (xsl cs).map enc1 ∧ BL (xsl cs) := by
  induction cs with
  | nil => exact ⟨rfl, fun x hx => by simp [xsl] at hx⟩
  | cons c cs ih =>
    unfold apE at he
    by_cases hc : chkOf c.1 c.2 = 0
    · rw [if_neg (by simp [hc])] at he
      obtain ⟨i1, i2⟩ := ih (fun d hd => h d (by simp [hd])) he
      obtain ⟨n, hn, ob⟩ := chkOf_ok hc
      have hb := (h c (by simp)).1
      have hmax := ob.max
      constructor
      · show c :: cs = enc1 (bl c.2 c.1.toNat) :: (xsl cs).map enc1
        rw [← i1]
        congr 1
        unfold enc1
        rw [bl_len, hn, Int.toNat_natCast, pk_bl hb ob, ← hn]
      · intro x hx
        rcases List.mem_cons.1 (show x ∈ bl c.2 c.1.toNat :: xsl cs from hx) with rfl | hx
        · exact ⟨bl_bit _ _, by rw [bl_len, hn, Int.toNat_natCast]; exact ob.max⟩
        · exact i2 x hx
    · rw [if_pos hc] at he
      exact absurd he hc
theorem apchk_l {F : Nat} {cs : List (Int × List Int)} (h : CB cs) (hm : cs.length ≤ 1000) : ∀ (k i : Nat), cs.length < k + i → i ≤ cs.length →
    M_kraft_Apart_l96 F cs k (i : Int) = if apE (cs.drop i) ≠ 0 then some (false, apE (cs.drop i)) else M_kraft_Apart_j2 F cs
  | 0, _, _, _ => by omega
  | k + 1, i, hk, hi => by
    show M_kraft_Apart_b96 F cs (M_kraft_Apart_l96 F cs k) (i : Int) = _
    unfold M_kraft_Apart_b96
    by_cases hlt : i < cs.length
    · obtain ⟨c1, c2, c3⟩ := h _ (List.getElem_mem hlt)
      rw [if_pos (by simp; omega), idx_nat, List.getElem?_eq_getElem hlt, List.drop_eq_getElem_cons hlt]
      simp only [Option.bind_some]
      rw [check_eq c1 c2.1 c2.2 c3]
      simp only [Option.bind_some]
      unfold apE
      by_cases hc : chkOf cs[i].1 cs[i].2 = 0
      · have e : (if chkOf cs[i].1 cs[i].2 ≠ 0 then chkOf cs[i].1 cs[i].2 else apE (cs.drop (i + 1))) = apE (cs.drop (i + 1)) := if_neg (by simp [hc])
        rw [if_neg (show ¬ (chkOf cs[i].1 cs[i].2 != 0) = true by simp [hc]), e, iadd1_n (by omega)]
        exact apchk_l h hm k (i + 1) (by omega) (by omega)
      · have e : (if chkOf cs[i].1 cs[i].2 ≠ 0 then chkOf cs[i].1 cs[i].2 else apE (cs.drop (i + 1))) = chkOf cs[i].1 cs[i].2 := if_pos hc
        rw [if_pos (show (chkOf cs[i].1 cs[i].2 != 0) = true by simpa using hc), e, if_pos hc]
    · rw [if_neg (by simp; omega), List.drop_eq_nil_of_le (by omega)]
      rw [if_neg (by simp [apE])]
theorem rapchk_l {F : Nat} {cs : List (Int × List Int)} (hF : 20000 ≤ F) (h : CB cs) (hm : cs.length ≤ 1000) : ∀ (k i : Nat), cs.length < k + i → i ≤ cs.length →
    M_R_KraftApart_l96 F cs k (i : Int) = if apE (cs.drop i) ≠ 0 then some (false, apE (cs.drop i)) else M_R_KraftApart_j2 F cs
  | 0, _, _, _ => by omega
  | k + 1, i, hk, hi => by
    show M_R_KraftApart_b96 F cs (M_R_KraftApart_l96 F cs k) (i : Int) = _
    unfold M_R_KraftApart_b96
    by_cases hlt : i < cs.length
    · obtain ⟨c1, c2, c3⟩ := h _ (List.getElem_mem hlt)
      rw [if_pos (by simp; omega), idx_nat, List.getElem?_eq_getElem hlt, List.drop_eq_getElem_cons hlt]
      simp only [Option.bind_some]
      rw [bitsCheck_eq hF c1]
      simp only [Option.bind_some]
      unfold apE
      by_cases hc : chkOf cs[i].1 cs[i].2 = 0
      · have e : (if chkOf cs[i].1 cs[i].2 ≠ 0 then chkOf cs[i].1 cs[i].2 else apE (cs.drop (i + 1))) = apE (cs.drop (i + 1)) := if_neg (by simp [hc])
        rw [if_neg (show ¬ (chkOf cs[i].1 cs[i].2 != 0) = true by simp [hc]), e, iadd1_n (by omega)]
        exact rapchk_l hF h hm k (i + 1) (by omega) (by omega)
      · have e : (if chkOf cs[i].1 cs[i].2 ≠ 0 then chkOf cs[i].1 cs[i].2 else apE (cs.drop (i + 1))) = chkOf cs[i].1 cs[i].2 := if_pos hc
        rw [if_pos (show (chkOf cs[i].1 cs[i].2 != 0) = true by simpa using hc), e, if_pos hc]
    · rw [if_neg (by simp; omega), List.drop_eq_nil_of_le (by omega)]
      rw [if_neg (by simp [apE])]
def apartM (cs : List (Int × List Int)) : Bool × Int := if 64 < cs.length then (false, 2) else if apE cs ≠ 0 then (false, apE cs) else (apB (xsl cs), 0)
theorem apart_eq {F : Nat} {cs : List (Int × List Int)} (hF : 20000 ≤ F) (h : CB cs) : M_kraft_Apart F cs = some (apartM cs) := by
  unfold M_kraft_Apart apartM
  by_cases h1 : 64 < cs.length
  · rw [if_pos (by simp; omega), if_pos h1]
  · rw [if_neg (by simp; omega), if_neg h1]
    have hc := apchk_l (F := F) h (by omega) F 0 (by omega) (by omega)
    rw [List.drop_zero] at hc
    refine Eq.trans hc ?_
    by_cases h2 : apE cs = 0
    · rw [if_neg (by simp [h2]), if_neg (by simp [h2])]
      obtain ⟨f1, f2⟩ := xsl_form h h2
      have hl : (xsl cs).length = cs.length := by unfold xsl; simp
      unfold M_kraft_Apart_j2
      have := apart_out (F := F) hF f2 (by omega) F 0 (by omega) (by omega)
      rw [← f1, List.drop_zero] at this
      exact this
    · rw [if_pos h2, if_pos h2]
theorem rapart_eq {F : Nat} {cs : List (Int × List Int)} (hF : 20000 ≤ F) (h : CB cs) : M_R_KraftApart F cs = some (apartM cs) := by
  unfold M_R_KraftApart apartM
  by_cases h1 : 64 < cs.length
  · rw [if_pos (by simp; omega), if_pos h1]
  · rw [if_neg (by simp; omega), if_neg h1]
    have hc := rapchk_l (F := F) hF h (by omega) F 0 (by omega) (by omega)
    rw [List.drop_zero] at hc
    refine Eq.trans hc ?_
    by_cases h2 : apE cs = 0
    · rw [if_neg (by simp [h2]), if_neg (by simp [h2])]
      obtain ⟨f1, f2⟩ := xsl_form h h2
      have hl : (xsl cs).length = cs.length := by unfold xsl; simp
      unfold M_R_KraftApart_j2 apB
      have := rapart_out (F := F) hF f2 (by omega) F 0 (by omega) (by omega)
      rw [← f1, List.drop_zero] at this
      rw [bad_same]
      exact this
    · rw [if_pos h2, if_pos h2]
def dsl (l : List Int) : List (List Int) := (List.range l.length).map (cd l)
theorem dsl_len (l : List Int) : (dsl l).length = l.length := by simp [dsl]
theorem dsl_get {l : List Int} {s : Nat} (h : s < l.length) : (dsl l).getD s [] = cd l s := by simp [dsl, List.getD, h]
theorem cd_len (l : List Int) (s : Nat) : (cd l s).length = (gL l s).toNat := nb_len _ _
theorem cds_enc {l : List Int} (hl : KL l) : cds l = (dsl l).map enc1 := by
  unfold cds dsl
  rw [List.map_map]
  refine List.map_congr_left fun s hs => ?_
  have := hl.at (List.mem_range.1 hs)
  show ent l s = enc1 (cd l s)
  unfold ent enc1
  rw [cd_len, Int.toNat_of_nonneg this.1]
theorem dsl_BL {l : List Int} (hl : KL l) : BL (dsl l) := fun x hx => by
  obtain ⟨s, hs, rfl⟩ := List.mem_map.1 hx
  have := hl.at (List.mem_range.1 hs)
  exact ⟨nb_bit _ _, by rw [cd_len]; omega⟩
def hit (d X : List Int) : Bool := decide (0 < d.length) && (decide (d.length ≤ X.length) && cmpb X d)
def part (d X : List Int) : Bool := decide (X.length < d.length) && cmpb X d
def fndM (ds : List (List Int)) (X : List Int) (at_ : Nat) : Int × Int × Int := match (List.range ds.length).find? (fun s => hit (ds.getD s []) X) with
  | some s => ((s : Int), ((at_ + (ds.getD s []).length : Nat) : Int), 0)
  | none => (0, 0, if (List.range ds.length).any (fun s => part (ds.getD s []) X) then 7 else 5)
theorem any_succ {p : Nat → Bool} {s : Nat} : (List.range (s + 1)).any p = ((List.range s).any p || p s) := by
  rw [List.range_succ, List.any_append]; simp
theorem found_l {F at_ : Nat} {ds : List (List Int)} {x : List Int} (hF : 20000 ≤ F) (hB : BL ds) (hm : ds.length ≤ 1000) (hx : Bit x) (hxm : x.length ≤ 8192) (ha : at_ ≤ x.length) : ∀ (k s : Nat), ds.length < k + s → s ≤ ds.length → ((List.range ds.length).take s).find? (fun s => hit (ds.getD s []) (x.drop at_)) = none →
    M_kraft_Found_l18 F (ds.map enc1) (x.length : Int) (pk x) (at_ : Int) k (if (List.range s).any (fun s => part (ds.getD s []) (x.drop at_)) then 7 else 5, (s : Int)) = some (fndM ds (x.drop at_) at_)
  | 0, _, _, _, _ => by omega
  | k + 1, s, h, hs, hno => by
    show M_kraft_Found_b18 F (ds.map enc1) (x.length : Int) (pk x) (at_ : Int) (M_kraft_Found_l18 F (ds.map enc1) (x.length : Int) (pk x) (at_ : Int) k) (if (List.range s).any (fun s => part (ds.getD s []) (x.drop at_)) then 7 else 5) (s : Int) = _
    unfold M_kraft_Found_b18 M_kraft_Found_j21 M_kraft_Found_j20
    by_cases hlt : s < ds.length
    · have hrec := found_l (F := F) hF hB hm hx hxm ha k (s + 1) (by omega) (by omega)
      obtain ⟨b1, b2⟩ := hB.at s
      have hdl : (x.drop at_).length = x.length - at_ := by simp
      have htk : (List.range ds.length).take (s + 1) = (List.range ds.length).take s ++ [s] := by rw [take_snoc (by simp; omega), List.getElem_range]
      rw [htk, List.find?_append, hno, Option.none_or, any_succ] at hrec
      rw [if_pos (by simp; omega), idx_nat, enc_get hlt]
      simp only [Option.bind_some]
      rw [iadd1_n (by omega)]
      by_cases h0 : (ds.getD s []).length = 0
      · have e1 : hit (ds.getD s []) (x.drop at_) = false := by unfold hit; rw [decide_eq_false (by omega), Bool.false_and]
        have e2 : part (ds.getD s []) (x.drop at_) = false := by unfold part; rw [decide_eq_false (by omega), Bool.false_and]
        rw [if_pos (show (((ds.getD s []).length : Int) == 0) = true by rw [beq_iff_eq]; omega), if_pos trivial]
        rw [e2, Bool.or_false] at hrec
        exact hrec (by simp only [List.find?_cons, e1, List.find?_nil])
      · rw [if_neg (show ¬ (((ds.getD s []).length : Int) == 0) = true by rw [beq_iff_eq]; omega), begins_eq hF hx b1 hxm b2 ha]
        simp only [Option.bind_some]
        by_cases hc : cmpb (x.drop at_) (ds.getD s []) = true
        · rw [hc, if_neg (by simp), isub_n ha (by omega)]
          by_cases hsh : x.length - at_ < (ds.getD s []).length
          · have e1 : hit (ds.getD s []) (x.drop at_) = false := by unfold hit; rw [decide_eq_false (show ¬ (ds.getD s []).length ≤ (x.drop at_).length by omega), Bool.false_and, Bool.and_false]
            have e2 : part (ds.getD s []) (x.drop at_) = true := by unfold part; rw [decide_eq_true (by omega), hc]; rfl
            rw [if_pos (show decide (((x.length - at_ : Nat) : Int) < ((ds.getD s []).length : Int)) = true by rw [decide_eq_true_eq]; omega)]
            rw [e2, Bool.or_true, if_pos rfl] at hrec
            exact hrec (by simp only [List.find?_cons, e1, List.find?_nil])
          · have e1 : hit (ds.getD s []) (x.drop at_) = true := by unfold hit; rw [decide_eq_true (by omega), decide_eq_true (show (ds.getD s []).length ≤ (x.drop at_).length by omega), hc]; rfl
            rw [if_neg (show ¬ decide (((x.length - at_ : Nat) : Int) < ((ds.getD s []).length : Int)) = true by rw [decide_eq_true_eq]; omega), iadd_n (by omega)]
            unfold fndM
            have hfd : (List.range ds.length).find? (fun s => hit (ds.getD s []) (x.drop at_)) = some s := by
              have : List.range ds.length = (List.range ds.length).take (s + 1) ++ (List.range ds.length).drop (s + 1) := (List.take_append_drop _ _).symm
              rw [this, htk, List.find?_append, List.find?_append, hno, Option.none_or, List.find?_cons, e1]; rfl
            rw [hfd]
        · rw [Bool.not_eq_true] at hc
          have e1 : hit (ds.getD s []) (x.drop at_) = false := by unfold hit; rw [hc, Bool.and_false, Bool.and_false]
          have e2 : part (ds.getD s []) (x.drop at_) = false := by unfold part; rw [hc, Bool.and_false]
          rw [hc, if_pos (by simp)]
          rw [e2, Bool.or_false] at hrec
          exact hrec (by simp only [List.find?_cons, e1, List.find?_nil])
    · rw [if_neg (by simp; omega)]
      have : s = ds.length := by omega
      subst this
      rw [List.take_of_length_le (by simp)] at hno
      unfold M_kraft_Found_j11 fndM
      rw [hno]
theorem found_eq {F at_ : Nat} {ds : List (List Int)} {x : List Int} (hF : 20000 ≤ F) (hB : BL ds) (hm : ds.length ≤ 1000) (hx : Bit x) (hxm : x.length ≤ 8192) (ha : at_ ≤ x.length) : M_kraft_Found F (ds.map enc1) (x.length : Int) (pk x) (at_ : Int) = some (fndM ds (x.drop at_) at_) := by
  unfold M_kraft_Found
  have := found_l (F := F) hF hB hm hx hxm ha F 0 (by omega) (by omega) (by simp)
  exact this
def signM (l : List Int) (m : Int) (b : List Int) (a : Int) : Int × Int × Int :=
  if (codesM l).2 ≠ 0 then (0, 0, (codesM l).2) else if raOf m b a ≠ 0 then (0, 0, raOf m b a) else fndM (dsl l) ((bl b m.toNat).drop a.toNat) a.toNat
theorem codesM_ok {l : List Int} (h : (codesM l).2 = 0) : KL l ∧ wsum l ≤ 16777216 ∧ codesM l = (cds l, 0) := by
  unfold codesM at h ⊢
  by_cases h1 : kchk l = 0
  · rw [if_neg (by simp [h1])] at h ⊢
    by_cases h2 : 16777216 < wsum l
    · rw [if_pos h2] at h; simp at h
    · rw [if_neg h2]; exact ⟨kchk_ok.1 h1, by omega, rfl⟩
  · rw [if_pos h1] at h; exact absurd h h1
theorem ra_ok {m a : Int} {b : List Int} (hb : U8s b) (h : raOf m b a = 0) : ∃ (n i : Nat), m = (n : Int) ∧ a = (i : Int) ∧ i ≤ n ∧ n ≤ 8192 ∧ Ok n b ∧ pk (bl b n) = b := by
  unfold raOf at h
  by_cases h1 : chkOf m b = 0
  · rw [if_neg (by simp [h1])] at h
    by_cases h2 : a < 0 ∨ m < a
    · rw [if_pos h2] at h; simp at h
    · obtain ⟨n, hn, ob⟩ := chkOf_ok h1
      obtain ⟨i, hi⟩ := Int.eq_ofNat_of_zero_le (show 0 ≤ a by omega)
      exact ⟨n, i, hn, hi, by omega, ob.max, ob, pk_bl hb ob⟩
  · rw [if_pos h1] at h; exact absurd h h1
theorem sign_eq {F : Nat} {l : List Int} {m a : Int} {b : List Int} (hF : 20000 ≤ F) (hb : U8s b) (hm : I64 m) (lb : b.length ≤ 9223372036854775807) : M_kraft_Sign F l m b a = some (signM l m b a) := by
  unfold M_kraft_Sign signM
  rw [codes_eq hF]
  simp only [Option.bind_some]
  unfold M_kraft_Sign_j1
  by_cases h1 : (codesM l).2 = 0
  · obtain ⟨hl, _, e⟩ := codesM_ok h1
    rw [if_pos (by simpa using h1), eCheck_eq hb hm lb, if_neg (show ¬ (codesM l).2 ≠ 0 by simp [h1])]
    simp only [Option.bind_some]
    by_cases h2 : raOf m b a = 0
    · obtain ⟨n, i, rfl, rfl, hin, hn, ob, hpk⟩ := ra_ok hb h2
      have hl1 := hl.1
      rw [if_neg (by simp [h2]), if_neg (show ¬ raOf (n : Int) b (i : Int) ≠ 0 by simp [h2]), e]
      simp only [Int.toNat_natCast]
      have hf := found_eq (F := F) (at_ := i) (ds := dsl l) (x := bl b n) hF (dsl_BL hl) (by rw [dsl_len]; omega) (bl_bit _ _) (by rw [bl_len]; exact hn) (by rw [bl_len]; exact hin)
      rw [bl_len, hpk, ← cds_enc hl] at hf
      rw [hf]; rfl
    · rw [if_pos (by simpa using h2), if_pos h2]
  · rw [if_neg (by simpa using h1), if_pos (by simpa using h1), if_pos h1]
theorem cmp_part {d X : List Int} (h : X.length < d.length) : cmpb X d = strt d X := by
  unfold cmpb strt
  rw [decide_eq_true (show X.length ≤ d.length by omega), Bool.true_and]
  refine decide_eq_decide.2 ?_
  rw [List.take_of_length_le (l := X) (by omega)]
  exact eq_comm
theorem cmp_hit {d X : List Int} (h : d.length ≤ X.length) : cmpb X d = strt X d := by
  unfold cmpb strt
  rw [decide_eq_true h, Bool.true_and]
  refine decide_eq_decide.2 ?_
  rw [List.take_of_length_le (l := d) h]
theorem rsign_l {F at_ : Nat} {ds : List (List Int)} {X : List Int} {c : Int} (hF : 20000 ≤ F) (hB : BL ds) (hm : ds.length ≤ 1000) (hX : X.length ≤ 8192) (ha : at_ ≤ 8192) : ∀ (k s : Nat), ds.length < k + s → s ≤ ds.length → ((List.range ds.length).take s).find? (fun s => hit (ds.getD s []) X) = none →
    M_R_KraftSign_l46 F (at_ : Int) (ds.map enc1, c) X k ((List.range s).any (fun s => part (ds.getD s []) X), (s : Int)) = some (fndM ds X at_)
  | 0, _, _, _, _ => by omega
  | k + 1, s, h, hs, hno => by
    show M_R_KraftSign_b46 F (at_ : Int) (ds.map enc1, c) X (M_R_KraftSign_l46 F (at_ : Int) (ds.map enc1, c) X k) ((List.range s).any (fun s => part (ds.getD s []) X)) (s : Int) = _
    unfold M_R_KraftSign_b46 M_R_KraftSign_j53 M_R_KraftSign_j56 M_R_KraftSign_j55
    by_cases hlt : s < ds.length
    · have hrec := rsign_l (F := F) (c := c) hF hB hm hX ha k (s + 1) (by omega) (by omega)
      obtain ⟨b1, b2⟩ := hB.at s
      have htk : (List.range ds.length).take (s + 1) = (List.range ds.length).take s ++ [s] := by rw [take_snoc (by simp; omega), List.getElem_range]
      rw [htk, List.find?_append, hno, Option.none_or, any_succ] at hrec
      rw [if_pos (by simp; omega)]
      simp only
      rw [idx_nat, enc_get hlt]
      simp only [Option.bind_some]
      rw [bitList_pk hF b1 b2]
      simp only [Option.bind_some]
      rw [iadd1_n (by omega)]
      have tail : hit (ds.getD s []) X = false → (if false = true then some ((s : Int), iadd .i64 (at_ : Int) ((ds.getD s []).length : Int), (0 : Int)) else if ((List.range s).any fun s => part (ds.getD s []) X) = true then M_R_KraftSign_l46 F (at_ : Int) (ds.map enc1, c) X k (true, ((s + 1 : Nat) : Int)) else if decide ((X.length : Int) < ((ds.getD s []).length : Int)) = true then (M_R_Starts F (ds.getD s []) X).bind fun x372 => M_R_KraftSign_l46 F (at_ : Int) (ds.map enc1, c) X k (x372, ((s + 1 : Nat) : Int)) else M_R_KraftSign_l46 F (at_ : Int) (ds.map enc1, c) X k (false, ((s + 1 : Nat) : Int))) = some (fndM ds X at_) := by
        intro e1
        have hrec := hrec (by simp only [List.find?_cons, e1, List.find?_nil])
        rw [if_neg (by simp)]
        by_cases hsh : ((List.range s).any fun s => part (ds.getD s []) X) = true
        · rw [if_pos hsh]
          rw [hsh, Bool.true_or] at hrec
          exact hrec
        · rw [if_neg hsh]
          rw [Bool.not_eq_true] at hsh
          rw [hsh, Bool.false_or] at hrec
          by_cases hlen : X.length < (ds.getD s []).length
          · rw [if_pos (by simpa using hlen), starts_eq (by omega) (by omega)]
            simp only [Option.bind_some]
            have e2 : part (ds.getD s []) X = strt (ds.getD s []) X := by unfold part; rw [decide_eq_true hlen, Bool.true_and, cmp_part hlen]
            rw [e2] at hrec
            exact hrec
          · have e2 : part (ds.getD s []) X = false := by unfold part; rw [decide_eq_false hlen, Bool.false_and]
            rw [if_neg (by simpa using hlen)]
            rw [e2] at hrec
            exact hrec
      by_cases h0 : 0 < (ds.getD s []).length
      · rw [if_pos (by simpa using h0), starts_eq (by omega) (by omega)]
        simp only [Option.bind_some]
        by_cases hst : strt X (ds.getD s []) = true
        · have hlen : (ds.getD s []).length ≤ X.length := by
            unfold strt at hst
            simp only [Bool.and_eq_true, decide_eq_true_eq] at hst
            exact hst.1
          have e1 : hit (ds.getD s []) X = true := by unfold hit; rw [decide_eq_true h0, decide_eq_true hlen, cmp_hit hlen, hst]; rfl
          rw [if_pos hst, iadd_n (by omega)]
          unfold fndM
          have hfd : (List.range ds.length).find? (fun s => hit (ds.getD s []) X) = some s := by
            have : List.range ds.length = (List.range ds.length).take (s + 1) ++ (List.range ds.length).drop (s + 1) := (List.take_append_drop _ _).symm
            rw [this, htk, List.find?_append, List.find?_append, hno, Option.none_or, List.find?_cons, e1]; rfl
          rw [hfd]
        · have e1 : hit (ds.getD s []) X = false := by
            unfold hit
            by_cases hlen : (ds.getD s []).length ≤ X.length
            · rw [Bool.not_eq_true] at hst
              rw [cmp_hit hlen, hst, Bool.and_false, Bool.and_false]
            · rw [decide_eq_false hlen, Bool.false_and, Bool.and_false]
          rw [Bool.not_eq_true] at hst
          rw [hst]
          exact tail e1
      · have e1 : hit (ds.getD s []) X = false := by unfold hit; rw [decide_eq_false h0, Bool.false_and]
        rw [if_neg (by simpa using h0)]
        exact tail e1
    · rw [if_neg (by simp; omega)]
      have : s = ds.length := by omega
      subst this
      rw [List.take_of_length_le (by simp)] at hno
      unfold M_R_KraftSign_j29 fndM
      rw [hno]
      simp only
      split <;> rfl
theorem rsign_eq {F : Nat} {l : List Int} {m a : Int} {b : List Int} (hF : 20000 ≤ F) (hb : U8s b) : M_R_KraftSign F l m b a = some (signM l m b a) := by
  unfold M_R_KraftSign signM
  rw [rcodes_eq hF]
  simp only [Option.bind_some]
  unfold M_R_KraftSign_j1
  by_cases h1 : (codesM l).2 = 0
  · obtain ⟨hl, _, e⟩ := codesM_ok h1
    rw [if_pos (by simpa using h1), readErr_eq hF hb, if_neg (show ¬ (codesM l).2 ≠ 0 by simp [h1])]
    simp only [Option.bind_some]
    by_cases h2 : raOf m b a = 0
    · obtain ⟨n, i, rfl, rfl, hin, hn, ob, hpk⟩ := ra_ok hb h2
      have hl1 := hl.1
      have hs := sub_n (l := bl b n) (i := i) (j := (bl b n).length) (by rw [bl_len]; exact hin) (by omega)
      rw [List.take_length] at hs
      rw [if_neg (by simp [h2]), if_neg (show ¬ raOf (n : Int) b (i : Int) ≠ 0 by simp [h2]), e, bitList_eq hF hb (by rw [ob.len]; omega) (by omega)]
      simp only [Option.bind_some]
      rw [hs]
      simp only [Option.bind_some, Int.toNat_natCast]
      have hf := rsign_l (F := F) (at_ := i) (ds := dsl l) (X := (bl b n).drop i) (c := 0) hF (dsl_BL hl) (by rw [dsl_len]; omega) (by rw [List.length_drop, bl_len]; omega) (by omega) F 0 (by rw [dsl_len]; omega) (by omega) (by simp)
      rw [cds_enc hl]
      exact hf
    · rw [if_pos (by simpa using h2), if_pos h2]
  · rw [if_neg (by simpa using h1), if_pos (by simpa using h1), if_pos h1]
theorem bv_take {Y : List Int} (hY : Bit Y) {k : Nat} : bv (Y.take k) = bv Y / 2 ^ (Y.length - k) := by
  have h1 := bv_app (Y.take k) (Y.drop k)
  rw [List.take_append_drop, List.length_drop] at h1
  have h2 := bv_lt (l := Y.drop k) (fun x hx => hY x (List.mem_of_mem_drop hx))
  rw [List.length_drop] at h2
  rw [h1, Nat.add_comm, Nat.add_mul_div_right _ _ (Nat.pow_pos (by decide)), Nat.div_eq_of_lt h2, Nat.zero_add]
theorem bv_inj {X Y : List Int} (hX : Bit X) (hY : Bit Y) (hl : X.length = Y.length) (h : bv X = bv Y) : X = Y := by
  rw [← nb_bv hX, ← nb_bv hY, hl, h]
theorem bit_takeK {X : List Int} (h : Bit X) (k : Nat) : Bit (X.take k) := fun x hx => h x (List.mem_of_mem_take hx)
/-- The first begins the second, told by numbers. -/
theorem strt_bv {X Y : List Int} (hX : Bit X) (hY : Bit Y) (hl : X.length ≤ Y.length) : strt Y X = true ↔ bv Y / 2 ^ (Y.length - X.length) = bv X := by
  unfold strt
  simp only [Bool.and_eq_true, decide_eq_true_eq]
  rw [← bv_take hY]
  constructor
  · rintro ⟨_, h⟩; rw [h]
  · intro h
    exact ⟨hl, bv_inj (bit_takeK hY _) hX (by rw [List.length_take]; omega) h⟩
theorem cmp_sym (x y : List Int) : cmpb x y = cmpb y x := by rw [strt_cmp, strt_cmp, Bool.or_comm]
theorem cmp_bv {X Y : List Int} (hX : Bit X) (hY : Bit Y) (hl : X.length ≤ Y.length) : cmpb X Y = true ↔ bv Y / 2 ^ (Y.length - X.length) = bv X := by
  rw [cmp_sym, ← strt_bv hX hY hl, cmp_hit hl]
theorem rsum_dvd {f : Nat → Nat} {d : Nat} : ∀ {n : Nat}, (∀ t, t < n → d ∣ f t) → d ∣ rsum n f
  | 0, _ => by simp [rsum]
  | n + 1, h => by
    rw [rsum_succ]
    exact Nat.dvd_add (rsum_dvd fun t ht => h t (by omega)) (h n (by omega))
theorem pos_dvd {l : List Int} {s : Nat} (hl : KL l) (hs : s < l.length) (h0 : 0 < gL l s) : W (gL l s) ∣ pos l s := by
  unfold pos psn
  refine rsum_dvd fun t ht => ?_
  by_cases hb : bfn l (gL l s) s t = true
  · rw [if_pos hb]
    have hb := bfn_iff.1 hb
    have h1 := hl.at hs
    have h2 := hl.at ht
    unfold W
    rw [if_pos h0, if_pos hb.1]
    exact Nat.pow_dvd_pow 2 (by omega)
  · rw [if_neg hb]; exact Nat.dvd_zero _
/-- What is known of a sign that has a code. -/
structure Sg (l : List Int) (s n : Nat) : Prop where
  lt : s < l.length
  len : gL l s = (n : Int)
  gt0 : 0 < n
  max : n ≤ 24
theorem Sg.of {l : List Int} {s : Nat} (hl : KL l) (hs : s < l.length) (h0 : 0 < gL l s) : ∃ n, Sg l s n := by
  have := hl.at hs
  obtain ⟨n, hn⟩ := Int.eq_ofNat_of_zero_le this.1
  exact ⟨n, hs, hn, by omega, by omega⟩
theorem Sg.We {l : List Int} {s n : Nat} (h : Sg l s n) : W (gL l s) = 2 ^ (24 - n) := by rw [h.len, W_of h.gt0]
theorem Sg.cwpos {l : List Int} {s n : Nat} (hl : KL l) (h : Sg l s n) : cw l s * 2 ^ (24 - n) = pos l s := by
  have := pos_dvd hl h.lt (by rw [h.len]; have := h.gt0; omega)
  unfold cw
  rw [h.We] at *
  exact Nat.div_mul_cancel this
theorem Sg.cwlt {l : List Int} {s n : Nat} (hl : KL l) (hw : wsum l ≤ 16777216) (h : Sg l s n) : cw l s < 2 ^ n := by
  have h1 := pos_end h.lt (by rw [h.len]; have := h.gt0; omega)
  rw [h.We, ← h.cwpos hl] at h1
  have h2 : (cw l s + 1) * 2 ^ (24 - n) ≤ 2 ^ n * 2 ^ (24 - n) := by
    rw [← Nat.pow_add, show n + (24 - n) = 24 by have := h.max; omega, Nat.add_mul, Nat.one_mul]
    exact Nat.le_trans h1 hw
  exact Nat.le_of_mul_le_mul_right h2 (Nat.pow_pos (by decide))
theorem Sg.cdlen {l : List Int} {s n : Nat} (h : Sg l s n) : (cd l s).length = n := by rw [cd_len, h.len, Int.toNat_natCast]
theorem Sg.bve {l : List Int} {s n : Nat} (hl : KL l) (hw : wsum l ≤ 16777216) (h : Sg l s n) : bv (cd l s) = cw l s := by
  unfold cd
  rw [bv_nb, h.len, Int.toNat_natCast, Nat.mod_eq_of_lt (h.cwlt hl hw)]
theorem cd_bit (l : List Int) (s : Nat) : Bit (cd l s) := nb_bit _ _
theorem before_or {l : List Int} {s t n m : Nat} (hs : Sg l s n) (ht : Sg l t m) (hne : s ≠ t) : bfn l (gL l t) t s = true ∨ bfn l (gL l s) s t = true := by
  rw [bfn_iff, bfn_iff, hs.len, ht.len]
  have := hs.gt0
  have := ht.gt0
  omega
/-- The later sign's code, cut to the earlier one's bits, is greater. -/
theorem before_gt {l : List Int} {s t n m : Nat} (hl : KL l) (hs : Sg l s n) (ht : Sg l t m) (h : bfn l (gL l t) t s = true) : n ≤ m ∧ cw l s + 1 ≤ cw l t / 2 ^ (m - n) := by
  have hnm : n ≤ m := by
    have := bfn_iff.1 h
    rw [hs.len, ht.len] at this; omega
  refine ⟨hnm, ?_⟩
  have h1 := pos_before hs.lt h
  rw [hs.We, ← hs.cwpos hl, ← ht.cwpos hl] at h1
  rw [Nat.le_div_iff_mul_le (Nat.pow_pos (by decide))]
  have hm := ht.max
  have e : 2 ^ (24 - n) = 2 ^ (m - n) * 2 ^ (24 - m) := by rw [← Nat.pow_add]; congr 1; omega
  have h2 : ((cw l s + 1) * 2 ^ (m - n)) * 2 ^ (24 - m) ≤ cw l t * 2 ^ (24 - m) := by
    rw [Nat.mul_assoc, ← e, Nat.add_mul, Nat.one_mul]; exact h1
  exact Nat.le_of_mul_le_mul_right h2 (Nat.pow_pos (by decide))
theorem codes_apart {l : List Int} {s t n m : Nat} (hl : KL l) (hw : wsum l ≤ 16777216) (hs : Sg l s n) (ht : Sg l t m) (hne : s ≠ t) : cmpb (cd l s) (cd l t) = false := by
  have key : ∀ {s t n m : Nat}, Sg l s n → Sg l t m → bfn l (gL l t) t s = true → cmpb (cd l s) (cd l t) = false := by
    intro s t n m hs ht h
    obtain ⟨h1, h2⟩ := before_gt hl hs ht h
    rw [← Bool.not_eq_true, cmp_bv (cd_bit _ _) (cd_bit _ _) (by rw [hs.cdlen, ht.cdlen]; exact h1), hs.cdlen, ht.cdlen, hs.bve hl hw, ht.bve hl hw]
    omega
  rcases before_or hs ht hne with h | h
  · exact key hs ht h
  · rw [cmp_sym]; exact key ht hs h
theorem apE_enc : ∀ {ds : List (List Int)}, BL ds → apE (ds.map enc1) = 0
  | [], _ => rfl
  | d :: ds, h => by
    have := chk_pk (h d (by simp)).2
    show (if chkOf (d.length : Int) (pk d) ≠ 0 then chkOf (d.length : Int) (pk d) else apE (ds.map enc1)) = 0
    rw [if_neg (by simp [this])]
    exact apE_enc fun x hx => h x (by simp [hx])
theorem xsl_enc {ds : List (List Int)} (h : BL ds) : xsl (ds.map enc1) = ds := by
  unfold xsl
  rw [List.map_map]
  refine (List.map_congr_left fun d hd => ?_).trans (List.map_id ds)
  show bl (pk d) ((d.length : Int)).toNat = d
  rw [Int.toNat_natCast, bl_pk (h d hd).1]
theorem apartM_enc {ds : List (List Int)} (h : BL ds) (hm : ds.length ≤ 64) : apartM (ds.map enc1) = (apB ds, 0) := by
  unfold apartM
  rw [List.length_map, if_neg (by omega), apE_enc h, if_neg (by simp), xsl_enc h]
theorem dsl_apart {l : List Int} (hl : KL l) (hw : wsum l ≤ 16777216) : apB (dsl l) = true := by
  rw [apB_iff]
  intro i k hi hk hik h1 h2
  rw [dsl_len] at hi hk
  rw [dsl_get hi, cd_len] at h1
  rw [dsl_get hk, cd_len] at h2
  obtain ⟨n, hn⟩ := Sg.of hl hi (by omega)
  obtain ⟨m, hm⟩ := Sg.of hl hk (by omega)
  rw [dsl_get hi, dsl_get hk]
  exact codes_apart hl hw hn hm hik
theorem cds_CB {l : List Int} (hl : KL l) : CB (cds l) := fun c hc => by
  rw [cds_enc hl] at hc
  obtain ⟨d, hd, rfl⟩ := List.mem_map.1 hc
  have := dsl_BL hl d hd
  refine ⟨pk_u8 this.1, ⟨by show -9223372036854775808 ≤ (d.length : Int); omega, by show (d.length : Int) < 9223372036854775808; omega⟩, ?_⟩
  show (pk d).length ≤ _
  rw [pk_len]; omega
theorem kbg_eq {F : Nat} (hF : 20000 ≤ F) : M_L_kraftBegun F = some true := by
  have c1 : codesM [2, 0, 1, 3, 3] = ([(2, [128]), (0, []), (1, [0]), (3, [192]), (3, [224])], 0) := by decide
  have r1 : (if kchk [2, 0, 1, 3, 3] ≠ 0 then ((0 : Int), kchk [2, 0, 1, 3, 3]) else (16777216 - (wsum [2, 0, 1, 3, 3] : Int), 0)) = (0, 0) := by decide
  have a1 : apartM [(2, [128]), (0, []), (1, [0]), (3, [192]), (3, [224])] = (true, 0) := by decide
  have s1 : signM [2, 0, 1, 3, 3] 4 [96] 1 = (3, 4, 0) := by decide
  have c2 : codesM [1, 1, 1] = ([], 8) := by decide
  have s2 : signM [2] 1 [128] 0 = (0, 0, 5) := by decide
  have hcb : CB [(2, [128]), (0, []), (1, [0]), (3, [192]), (3, [224])] := by unfold CB U8s I64; decide
  unfold M_L_kraftBegun
  rw [kRoom_eq (by omega), r1]
  simp only [Option.bind_some]
  rw [codes_eq hF, c1]
  simp only [Option.bind_some]
  rw [if_neg (by decide), apart_eq hF hcb, a1]
  simp only [Option.bind_some]
  rw [sign_eq hF (by unfold U8s; decide) (by unfold I64; decide) (by decide), s1]
  simp only [Option.bind_some]
  rw [codes_eq hF, c2]
  simp only [Option.bind_some]
  rw [sign_eq hF (by unfold U8s; decide) (by unfold I64; decide) (by decide), s2]
  simp only [Option.bind_some]
  rw [if_pos (by decide)]
  show ((some ((2 : Int), [(128 : Int)])).bind _) = _
  simp only [Option.bind_some]
  rw [same_self (by simp; omega) (by decide)]
  simp only [Option.bind_some]
  unfold M_L_kraftBegun_j1
  rw [if_pos rfl]
  show ((some ((1 : Int), [(0 : Int)])).bind _) = _
  simp only [Option.bind_some]
  rw [same_self (by simp; omega) (by decide)]
  simp only [Option.bind_some]
  unfold M_L_kraftBegun_j2
  rw [if_pos rfl]
  show ((some ((3 : Int), [(224 : Int)])).bind _) = _
  simp only [Option.bind_some]
  rw [same_self (by simp; omega) (by decide)]
  rfl
theorem kt_loop {F : Nat} {l : List Int} (hF : 20000 ≤ F) (hl : KL l) {c d : Int} : ∀ (k s : Nat), l.length < k + s → s ≤ l.length → M_L_KraftTells_l6 F (cds l, c) (cds l, d) k (s : Int) = some true
  | 0, _, _, _ => by omega
  | k + 1, s, h, hs => by
    have h1 := hl.1
    have hcl : (cds l).length = l.length := by simp [cds]
    show M_L_KraftTells_b6 F (cds l, c) (cds l, d) (M_L_KraftTells_l6 F (cds l, c) (cds l, d) k) (s : Int) = _
    unfold M_L_KraftTells_b6
    by_cases hlt : s < l.length
    · have hg : (cds l)[s]? = some (ent l s) := by simp [cds, hlt]
      have hat := hl.at hlt
      have hpl : (pk (cd l s)).length ≤ 4 := by rw [pk_len, cd_len]; omega
      rw [if_pos (by simp [hcl]; omega)]
      simp only
      rw [idx_nat, hg]
      simp only [Option.bind_some]
      have hss := same_self (F := F) (n := (ent l s).1) (xs := (ent l s).2) (by show (pk (cd l s)).length < F; omega) (by show (pk (cd l s)).length ≤ _; omega)
      rw [hss]
      simp only [Option.bind_some]
      rw [if_neg (by simp), iadd1_n (by omega)]
      exact kt_loop hF hl k (s + 1) (by omega) (by omega)
    · rw [if_neg (by simp [hcl]; omega)]
      rfl
theorem kraftTells_true {F : Nat} {l : List Int} {cs : List (Int × List Int)} {m a : Int} {b : List Int} (hF : 20000 ≤ F) (hcs : CB cs) (hb : U8s b) (hm : I64 m) (lb : b.length ≤ 9223372036854775807) : M_L_KraftTells F l cs m b a = some true := by
  unfold M_L_KraftTells
  rw [kRoom_eq (by omega), codes_eq hF, apart_eq hF hcs, sign_eq hF hb hm lb, rkcheck_eq (by omega)]
  simp only [Option.bind_some]
  have fin : ∀ (room : Int), room = (if kchk l ≠ 0 then ((0 : Int), kchk l) else (16777216 - (wsum l : Int), 0)).1 →
      M_L_KraftTells_j1 F l cs m b a (if kchk l ≠ 0 then (0, kchk l) else (16777216 - (wsum l : Int), 0)) (codesM l) (apartM cs) (signM l m b a) (kchk l) room = some true := by
    intro room hr
    unfold M_L_KraftTells_j1
    rw [rcodes_eq hF, rapart_eq hF hcs, rsign_eq hF hb, kbg_eq hF]
    simp only [Option.bind_some]
    rw [if_neg (by decide), kcheck_eq (by omega)]
    simp only [Option.bind_some]
    unfold M_L_KraftTells_j3
    have he : (if kchk l ≠ 0 then ((0 : Int), kchk l) else (16777216 - (wsum l : Int), 0)).2 = kchk l := by
      by_cases h : kchk l = 0
      · rw [if_neg (by simp [h]), h]
      · rw [if_pos h]
    rw [if_neg (by rw [he, hr]; simp)]
    by_cases h : (codesM l).2 = 0
    · obtain ⟨hl, _, e⟩ := codesM_ok h
      rw [e]
      exact kt_loop hF hl F 0 (by have := hl.1; omega) (by omega)
    · have e : (codesM l).1 = [] := by
        unfold codesM at h ⊢
        by_cases h1 : kchk l = 0
        · rw [if_neg (by simp [h1])] at h ⊢
          by_cases h2 : 16777216 < wsum l
          · rw [if_pos h2]
          · rw [if_neg h2] at h; simp at h
        · rw [if_pos h1]
      obtain ⟨k, hk⟩ := Nat.exists_eq_succ_of_ne_zero (show F ≠ 0 by omega)
      have e2 : M_L_KraftTells_l6 F (codesM l) (codesM l) F 0 = M_L_KraftTells_b6 F (codesM l) (codesM l) (M_L_KraftTells_l6 F (codesM l) (codesM l) k) 0 := by
        conv => lhs; arg 4; rw [hk]
        rfl
      rw [e2]
      unfold M_L_KraftTells_b6
      rw [e, if_neg (by simp)]
      rfl
  by_cases h : kchk l = 0
  · rw [if_pos (by simpa using h), rroom_eq (by omega) (kchk_ok.1 h)]
    simp only [Option.bind_some]
    exact fin _ (by rw [if_neg (by simp [h])])
  · rw [if_neg (by simpa using h)]
    exact fin _ (by rw [if_pos h])
theorem kc_loop {F : Nat} {l : List Int} (hl : KL l) {c : Int} : ∀ (k s : Nat), l.length < k + s → s ≤ l.length → M_L_KraftCodes_l3 F l (cds l, c) k (s : Int) = some true
  | 0, _, _, _ => by omega
  | k + 1, s, h, hs => by
    have h1 := hl.1
    have hcl : (cds l).length = l.length := by simp [cds]
    show M_L_KraftCodes_b3 F l (cds l, c) (M_L_KraftCodes_l3 F l (cds l, c) k) (s : Int) = _
    unfold M_L_KraftCodes_b3
    by_cases hlt : s < l.length
    · have hg : (cds l)[s]? = some (ent l s) := by simp [cds, hlt]
      rw [if_pos (by simp [hcl]; omega)]
      simp only
      rw [idx_nat, hg]
      simp only [Option.bind_some]
      rw [idx_nat, gL_get hlt]
      simp only [Option.bind_some]
      rw [if_neg (by simp [ent]), iadd1_n (by omega)]
      exact kc_loop hl k (s + 1) (by omega) (by omega)
    · rw [if_neg (by simp [hcl]; omega)]
      rfl
theorem kraftCodes_true {F : Nat} {l : List Int} (hF : 20000 ≤ F) : M_L_KraftCodes F l = some true := by
  unfold M_L_KraftCodes
  rw [kRoom_eq (by omega), codes_eq hF, kbg_eq hF]
  simp only [Option.bind_some]
  rw [if_neg (by decide)]
  by_cases h : kchk l = 0
  · have hl := kchk_ok.1 h
    have h1 := hl.1
    have hn : ¬ kchk l ≠ 0 := by simp [h]
    unfold codesM
    rw [if_neg hn, if_neg hn, if_neg (by simp)]
    by_cases h2 : 16777216 < wsum l
    · rw [if_pos h2, if_pos (by simp)]
      simp; omega
    · have hcl : (cds l).length = l.length := by simp [cds]
      rw [if_neg h2, if_neg (by simp; omega), apart_eq hF (cds_CB hl), cds_enc hl, apartM_enc (dsl_BL hl) (by rw [dsl_len]; exact h1), dsl_apart hl (by omega)]
      simp only [Option.bind_some]
      rw [if_neg (by simp [dsl_len]), ← cds_enc hl]
      exact kc_loop hl F 0 (by omega) (by omega)
  · unfold codesM
    rw [if_pos h, if_pos h, if_pos (by simpa using h)]
    simp
theorem wsum_app (A B : List Int) : wsum (A ++ B) = wsum A + wsum B := by simp [wsum]
theorem wsum_rev (l : List Int) : wsum l.reverse = wsum l := by
  unfold wsum
  exact sum_perm ((List.reverse_perm l).map W)
theorem kl_sub {l m : List Int} (h : KL l) (hl : m.length ≤ l.length) (hm : ∀ x ∈ m, x ∈ l) : KL m := ⟨by have := h.1; omega, fun n hn => h.2 n (hm n hn)⟩
theorem ktu_tail {F : Nat} {l : List Int} {i : Int} (hF : 20000 ≤ F) (hl : KL l) : M_L_KraftTurn_j2 F l i (16777216 - (wsum l : Int), 0) l.reverse = some true := by
  have h1 := hl.1
  have hr : KL l.reverse := kl_sub hl (by simp) (fun x hx => by simpa using hx)
  unfold M_L_KraftTurn_j2
  rw [kRoom_eq (by omega), if_neg (show ¬ kchk l.reverse ≠ 0 by simp [kchk_ok.2 hr]), wsum_rev]
  simp only [Option.bind_some]
  rw [if_neg (by simp)]
  by_cases hi : i < 0 ∨ (l.length : Int) ≤ i
  · rw [if_pos (by simpa using hi)]
  · rw [if_neg (by simpa using hi)]
    obtain ⟨s, rfl⟩ := Int.eq_ofNat_of_zero_le (show 0 ≤ i by omega)
    have hs : s < l.length := by omega
    have e1 := sub_n (l := l) (i := 0) (j := s) (by omega) (by omega)
    have e2 := sub_n (l := l) (i := s + 1) (j := l.length) (by omega) (by omega)
    rw [show ((0 : Nat) : Int) = 0 from rfl, List.drop_zero] at e1
    rw [List.take_length] at e2
    rw [e1]
    simp only [Option.bind_some]
    rw [iadd1_n (by omega), e2]
    simp only [Option.bind_some]
    rw [app_eq (by simp; omega)]
    simp only [Option.bind_some, List.nil_append]
    rw [app_eq (by simp; omega)]
    simp only [Option.bind_some]
    have hk : KL (l.take s ++ l.drop (s + 1)) := kl_sub hl (by simp; omega) (fun x hx => by
      rcases List.mem_append.1 hx with h | h
      · exact List.mem_of_mem_take h
      · exact List.mem_of_mem_drop h)
    have hsum : wsum l = wsum (l.take s ++ l.drop (s + 1)) + W l[s] := by
      have : l = l.take s ++ l[s] :: l.drop (s + 1) := by rw [← List.drop_eq_getElem_cons hs, List.take_append_drop]
      conv => lhs; rw [this]
      rw [wsum_app, wsum_app]
      unfold wsum
      rw [List.map_cons, List.sum_cons]; omega
    rw [kRoom_eq (by omega), if_neg (show ¬ kchk (l.take s ++ l.drop (s + 1)) ≠ 0 by simp [kchk_ok.2 hk])]
    simp only [Option.bind_some]
    rw [if_pos (by simp; omega), idx_nat, List.getElem?_eq_getElem hs]
    simp only [Option.bind_some]
    unfold M_L_KraftTurn_j3
    have hW : 0 < W l[s] ↔ 0 < l[s] := by
      unfold W
      by_cases h : 0 < l[s]
      · rw [if_pos h]
        exact ⟨fun _ => h, fun _ => Nat.pow_pos (by decide)⟩
      · rw [if_neg h]; omega
    have : decide (16777216 - (wsum l : Int) < 16777216 - (wsum (l.take s ++ l.drop (s + 1)) : Int)) = decide (0 < l[s]) := decide_eq_decide.2 (by rw [← hW]; omega)
    rw [this]; simp
theorem ktu_loop {F : Nat} {l : List Int} {i : Int} (hF : 20000 ≤ F) (hl : KL l) : ∀ (k j : Nat), j < k → j ≤ l.length → M_L_KraftTurn_l4 F l i (16777216 - (wsum l : Int), 0) k (l.reverse.take (l.length - j), (j : Int) - 1) = some true
  | 0, _, _, _ => by omega
  | k + 1, j, h, hj => by
    have h1 := hl.1
    show M_L_KraftTurn_b4 F l i (16777216 - (wsum l : Int), 0) (M_L_KraftTurn_l4 F l i (16777216 - (wsum l : Int), 0) k) (l.reverse.take (l.length - j)) ((j : Int) - 1) = _
    unfold M_L_KraftTurn_b4
    cases j with
    | zero =>
      rw [if_neg (by simp), Nat.sub_zero, List.take_of_length_le (by simp)]
      exact ktu_tail hF hl
    | succ j =>
      have hrec := ktu_loop (i := i) hF hl k j (by omega) (by omega)
      have hlt : l.length - (j + 1) < l.reverse.length := by simp; omega
      have e : ((j + 1 : Nat) : Int) - 1 = (j : Int) := by omega
      rw [e, if_pos (by simp), idx_nat, List.getElem?_eq_getElem (by omega)]
      simp only [Option.bind_some]
      rw [app_eq (by simp; omega)]
      simp only [Option.bind_some]
      rw [isub_i64 (by omega) (by omega)]
      have e2 : l.reverse.take (l.length - (j + 1)) ++ [l[j]] = l.reverse.take (l.length - j) := by
        rw [show l.length - j = (l.length - (j + 1)) + 1 by omega, take_snoc hlt, List.getElem_reverse]
        congr 2
        congr 1
        omega
      rw [e2]
      exact hrec
theorem kraftTurn_true {F : Nat} {l : List Int} {i : Int} (hF : 20000 ≤ F) : M_L_KraftTurn F l i = some true := by
  unfold M_L_KraftTurn
  rw [kRoom_eq (by omega), kbg_eq hF]
  simp only [Option.bind_some]
  rw [if_neg (by decide)]
  by_cases h : kchk l = 0
  · have hl := kchk_ok.1 h
    have h1 := hl.1
    have := ktu_loop (F := F) (i := i) hF hl F l.length (by omega) (by omega)
    rw [Nat.sub_self, List.take_zero] at this
    rw [if_neg (show ¬ kchk l ≠ 0 by simp [h]), if_neg (by simp), isub_i64 (by omega) (by omega)]
    exact this
  · rw [if_pos h, if_pos (by simpa using h)]
    rfl
theorem span_sum {N : Nat} : ∀ (L : List (Nat × Nat)) (lo : Nat), L.Pairwise (fun p q => p.1 + p.2 ≤ q.1) → (∀ p ∈ L, lo ≤ p.1 ∧ p.1 + p.2 ≤ N) → lo ≤ N → (L.map (·.2)).sum + lo ≤ N
  | [], lo, _, _, h => by simpa using h
  | p :: L, lo, hp, hb, h => by
    have h1 := hb p (by simp)
    have h2 := List.pairwise_cons.1 hp
    have := span_sum L (p.1 + p.2) h2.2 (fun q hq => ⟨h2.1 q hq, (hb q (by simp [hq])).2⟩) h1.2
    rw [List.map_cons, List.sum_cons]
    omega
def Apt (p q : Nat × Nat) : Prop := p.1 + p.2 ≤ q.1 ∨ q.1 + q.2 ≤ p.1
theorem span_room {N : Nat} {L : List (Nat × Nat)} (hp : L.Pairwise Apt) (hb : ∀ p ∈ L, 0 < p.2 ∧ p.1 + p.2 ≤ N) : (L.map (·.2)).sum ≤ N := by
  have hperm := List.mergeSort_perm L (fun p q => decide (p.1 ≤ q.1))
  have hs := List.pairwise_mergeSort (le := fun (p q : Nat × Nat) => decide (p.1 ≤ q.1)) (fun a b c h1 h2 => by simp at *; omega) (fun a b => by simp; omega) L
  have hp2 : (L.mergeSort fun p q => decide (p.1 ≤ q.1)).Pairwise Apt := hperm.symm.pairwise hp (fun h => h.symm)
  have hb2 : ∀ p ∈ L.mergeSort (fun p q => decide (p.1 ≤ q.1)), 0 < p.2 ∧ p.1 + p.2 ≤ N := fun p h => hb p (hperm.mem_iff.1 h)
  have hc : (L.mergeSort fun p q => decide (p.1 ≤ q.1)).Pairwise (fun p q => p.1 + p.2 ≤ q.1) := by
    refine List.Pairwise.imp_of_mem ?_ (hs.and hp2)
    rintro p q h1 h2 ⟨h3, h4⟩
    have := (hb2 q h2).1
    simp at h3
    rcases h4 with h4 | h4
    · exact h4
    · omega
  have := span_sum _ 0 hc (fun p h => ⟨Nat.zero_le _, (hb2 p h).2⟩) (Nat.zero_le _)
  rw [← sum_perm (hperm.map (·.2))]
  omega
def spn (x : List Int) : Nat × Nat := (bv x * 2 ^ (24 - x.length), 2 ^ (24 - x.length))
theorem spn_apt {x y : List Int} (hx : Bit x) (hy : Bit y) (hxm : x.length ≤ 24) (hym : y.length ≤ 24) (h : cmpb x y = false) : Apt (spn x) (spn y) := by
  have key : ∀ {x y : List Int}, Bit x → Bit y → x.length ≤ y.length → y.length ≤ 24 → cmpb x y = false → Apt (spn x) (spn y) := by
    intro x y hx hy hl hm h
    have h1 : ¬ bv y / 2 ^ (y.length - x.length) = bv x := by rw [← cmp_bv hx hy hl, h]; simp
    have e : 2 ^ (24 - x.length) = 2 ^ (y.length - x.length) * 2 ^ (24 - y.length) := by rw [← Nat.pow_add]; congr 1; omega
    have hp : 0 < 2 ^ (y.length - x.length) := Nat.pow_pos (by decide)
    unfold Apt spn
    simp only
    rw [e]
    generalize hd : 2 ^ (y.length - x.length) = d at *
    generalize hw : 2 ^ (24 - y.length) = w at *
    rcases Nat.lt_or_gt_of_ne h1 with h2 | h2
    · right
      have h3 : bv y + 1 ≤ bv x * d := (Nat.div_lt_iff_lt_mul hp).1 h2
      have := Nat.mul_le_mul_right w h3
      rw [← Nat.mul_assoc]
      rw [Nat.add_mul, Nat.one_mul] at this
      exact this
    · left
      have h3 : (bv x + 1) * d ≤ bv y := (Nat.le_div_iff_mul_le hp).1 h2
      have := Nat.mul_le_mul_right w h3
      rw [← Nat.mul_assoc]
      rw [Nat.add_mul, Nat.one_mul, Nat.add_mul] at this
      exact this
  by_cases hl : x.length ≤ y.length
  · exact key hx hy hl hym h
  · have := key hy hx (by omega) hxm (by rw [cmp_sym]; exact h)
    exact this.symm
def klens (xs : List (List Int)) : List Int := xs.map fun x => (x.length : Int)
theorem klens_sum : ∀ {xs : List (List Int)}, (∀ x ∈ xs, x.length ≤ 24) → wsum (klens xs) = (((xs.filter fun x => decide (0 < x.length)).map spn).map (·.2)).sum
  | [], _ => rfl
  | x :: xs, h => by
    have hr := klens_sum (xs := xs) fun y hy => h y (by simp [hy])
    have : wsum (klens (x :: xs)) = W (x.length : Int) + wsum (klens xs) := by simp [wsum, klens]
    rw [this, hr]
    by_cases h0 : 0 < x.length
    · rw [List.filter_cons, if_pos (by simpa using h0), List.map_cons, List.map_cons, List.sum_cons, W_of h0]; rfl
    · rw [List.filter_cons, if_neg (by simpa using h0)]
      have : x.length = 0 := by omega
      rw [this]; simp [W]
theorem must_room {xs : List (List Int)} (hB : BL xs) (ha : apB xs = true) (hm : ∀ x ∈ xs, x.length ≤ 24) : wsum (klens xs) ≤ 16777216 := by
  rw [klens_sum hm]
  have hp : xs.Pairwise fun x y => 0 < x.length → 0 < y.length → cmpb x y = false := by
    rw [List.pairwise_iff_getElem]
    intro i j hi hj hij h1 h2
    have := apB_iff.1 ha i j hi hj (by omega)
    have e1 : xs.getD i [] = xs[i] := by simp [List.getD, List.getElem?_eq_getElem hi]
    have e2 : xs.getD j [] = xs[j] := by simp [List.getD, List.getElem?_eq_getElem hj]
    rw [e1, e2] at this
    exact this h1 h2
  have hf : (xs.filter fun x => decide (0 < x.length)).Pairwise fun x y => cmpb x y = false := by
    refine List.Pairwise.imp_of_mem ?_ (hp.filter _)
    intro x y h1 h2 h
    exact h (by simpa using (List.mem_filter.1 h1).2) (by simpa using (List.mem_filter.1 h2).2)
  refine span_room (N := 16777216) ?_ ?_
  · rw [List.pairwise_map]
    refine List.Pairwise.imp_of_mem ?_ hf
    intro x y h1 h2 h
    have m1 := (List.mem_filter.1 h1).1
    have m2 := (List.mem_filter.1 h2).1
    exact spn_apt (hB x m1).1 (hB y m2).1 (hm x m1) (hm y m2) h
  · intro p hp
    obtain ⟨x, hx, rfl⟩ := List.mem_map.1 hp
    have m1 := (List.mem_filter.1 hx).1
    refine ⟨Nat.pow_pos (by decide), ?_⟩
    have := bv_lt (hB x m1).1
    have h24 := hm x m1
    show bv x * 2 ^ (24 - x.length) + 2 ^ (24 - x.length) ≤ 16777216
    have h3 : (bv x + 1) * 2 ^ (24 - x.length) ≤ 2 ^ x.length * 2 ^ (24 - x.length) := Nat.mul_le_mul_right _ this
    rw [← Nat.pow_add, show x.length + (24 - x.length) = 24 by omega, Nat.add_mul, Nat.one_mul] at h3
    exact h3
theorem km_loop {F : Nat} {xs : List (List Int)} (hF : 20000 ≤ F) (hB : BL xs) (ha : apB xs = true) (hm : xs.length ≤ 64) : ∀ (k i : Nat), xs.length < k + i → i ≤ xs.length → (∀ j, j < i → (xs.getD j []).length ≤ 24) →
    M_L_KraftMust_l3 F (xs.map enc1) k ((klens xs).take i, (i : Int)) = some true
  | 0, _, _, _, _ => by omega
  | k + 1, i, h, hi, hj => by
    show M_L_KraftMust_b3 F (xs.map enc1) (M_L_KraftMust_l3 F (xs.map enc1) k) ((klens xs).take i) (i : Int) = _
    unfold M_L_KraftMust_b3
    have hlen : (klens xs).length = xs.length := by simp [klens]
    by_cases hlt : i < xs.length
    · rw [if_pos (by simpa using hlt), idx_nat, enc_get hlt]
      simp only [Option.bind_some]
      by_cases h24 : 24 < (xs.getD i []).length
      · rw [if_pos (by simp only [decide_eq_true_eq]; omega)]
      · rw [if_neg (by simp only [decide_eq_true_eq]; omega), app_eq (by simp; omega)]
        simp only [Option.bind_some]
        rw [iadd1_n (by omega)]
        have e : (klens xs).take i ++ [((xs.getD i []).length : Int)] = (klens xs).take (i + 1) := by
          rw [take_snoc (by rw [hlen]; exact hlt)]
          congr 2
          simp [klens, List.getD, List.getElem?_eq_getElem hlt]
        rw [e]
        refine km_loop hF hB ha hm k (i + 1) (by omega) (by omega) fun j hj2 => ?_
        by_cases hji : j = i
        · rw [hji]; omega
        · exact hj j (by omega)
    · have he : i = xs.length := by omega
      have hm24 : ∀ x ∈ xs, x.length ≤ 24 := by
        intro x hx
        obtain ⟨j, hj1, rfl⟩ := List.getElem_of_mem hx
        have := hj j (by omega)
        simpa [List.getD, List.getElem?_eq_getElem hj1] using this
      rw [if_neg (by simpa using hlt)]
      unfold M_L_KraftMust_j2
      have hk : kchk (klens xs) = 0 := kchk_ok.2 ⟨by omega, fun n hn => by
        obtain ⟨x, hx, rfl⟩ := List.mem_map.1 hn
        have := hm24 x hx
        omega⟩
      rw [List.take_of_length_le (by omega), kRoom_eq (by omega), if_neg (show ¬ kchk (klens xs) ≠ 0 by simp [hk])]
      simp only [Option.bind_some]
      have := must_room hB ha hm24
      simp; omega
theorem kraftMust_true {F : Nat} {cs : List (Int × List Int)} (hF : 20000 ≤ F) (hcs : CB cs) : M_L_KraftMust F cs = some true := by
  unfold M_L_KraftMust
  rw [apart_eq hF hcs, kbg_eq hF]
  simp only [Option.bind_some]
  rw [if_neg (by decide)]
  unfold apartM
  by_cases h1 : 64 < cs.length
  · rw [if_pos h1]; simp
  · rw [if_neg h1]
    by_cases h2 : apE cs = 0
    · rw [if_neg (show ¬ apE cs ≠ 0 by simp [h2])]
      cases ha : apB (xsl cs) with
      | false => simp
      | true =>
        rw [if_neg (by simp)]
        obtain ⟨e, hB⟩ := xsl_form hcs h2
        have hl : (xsl cs).length = cs.length := by simp [xsl]
        have := km_loop (F := F) hF hB ha (by omega) F 0 (by omega) (by omega) (fun j hj => by omega)
        rw [← e] at this
        exact this
    · rw [if_pos h2, if_pos (by simp [h2])]
/-- Where all room is used, each place lies in a sign's span. -/
theorem tile {l : List Int} {z : Nat} : ∀ (i : Nat), i ≤ (uN l).length → z < ssum l i → ∃ s, s ∈ uN l ∧ pos l s ≤ z ∧ z < pos l s + W (gL l s)
  | 0, _, h => by simp [ssum] at h
  | i + 1, hi, h => by
    by_cases hz : z < ssum l i
    · exact tile i (by omega) hz
    · rw [ssum_succ (by omega)] at h
      have := ssum_pos (l := l) (i := i) (by omega)
      exact ⟨(uN l)[i], List.getElem_mem _, by omega, by omega⟩
theorem full_sign {l : List Int} {X : List Int} (hl : KL l) (hw : wsum l = 16777216) (hX : Bit X) : (∃ s, s < l.length ∧ hit (cd l s) X = true) ∨ X.length < 24 ∧ ∃ s, s < l.length ∧ part (cd l s) X = true := by
  let z : Nat := if X.length ≤ 24 then bv X * 2 ^ (24 - X.length) else bv X / 2 ^ (X.length - 24)
  have hz : z < 16777216 := by
    have := bv_lt hX
    show (if X.length ≤ 24 then bv X * 2 ^ (24 - X.length) else bv X / 2 ^ (X.length - 24)) < 16777216
    by_cases h : X.length ≤ 24
    · rw [if_pos h]
      have h3 : bv X * 2 ^ (24 - X.length) < 2 ^ X.length * 2 ^ (24 - X.length) := Nat.mul_lt_mul_of_pos_right this (Nat.pow_pos (by decide))
      rw [← Nat.pow_add, show X.length + (24 - X.length) = 24 by omega] at h3
      exact h3
    · rw [if_neg h, Nat.div_lt_iff_lt_mul (Nat.pow_pos (by decide))]
      have : (16777216 : Nat) * 2 ^ (X.length - 24) = 2 ^ X.length := by
        rw [show (16777216 : Nat) = 2 ^ 24 by decide, ← Nat.pow_add]; congr 1; omega
      omega
  obtain ⟨s, hs, h1, h2⟩ := tile (l := l) (z := z) (uN l).length (Nat.le_refl _) (by rw [ssum_all l (fun n hn => (hl.2 n hn).1), hw]; exact hz)
  obtain ⟨hsl, h0⟩ := mem_uN.1 hs
  obtain ⟨n, hn⟩ := Sg.of hl hsl h0
  have hn24 := hn.max
  have hn0 := hn.gt0
  rw [hn.We, ← hn.cwpos hl] at h2
  rw [← hn.cwpos hl] at h1
  have hp : 0 < 2 ^ (24 - n) := Nat.pow_pos (by decide)
  have hzn : z / 2 ^ (24 - n) = cw l s := by
    have a := (Nat.le_div_iff_mul_le hp).2 h1
    have b := (Nat.div_lt_iff_lt_mul (x := z) (y := cw l s + 1) hp).2 (by rw [Nat.add_mul, Nat.one_mul]; exact h2)
    omega
  by_cases hnX : n ≤ X.length
  · left
    refine ⟨s, hsl, ?_⟩
    unfold hit
    rw [hn.cdlen, cmp_sym]
    have : cmpb (cd l s) X = true := by
      rw [cmp_bv (cd_bit _ _) hX (by rw [hn.cdlen]; exact hnX), hn.cdlen, hn.bve hl (by omega), ← hzn]
      show _ = (if X.length ≤ 24 then bv X * 2 ^ (24 - X.length) else bv X / 2 ^ (X.length - 24)) / 2 ^ (24 - n)
      by_cases h : X.length ≤ 24
      · rw [if_pos h, show 2 ^ (24 - n) = 2 ^ (24 - X.length) * 2 ^ (X.length - n) by rw [← Nat.pow_add]; congr 1; omega, ← Nat.div_div_eq_div_mul, Nat.mul_div_cancel _ (Nat.pow_pos (by decide))]
      · rw [if_neg h, Nat.div_div_eq_div_mul, ← Nat.pow_add]
        congr 2; omega
    rw [this]
    simp; omega
  · right
    refine ⟨by omega, s, hsl, ?_⟩
    unfold part
    rw [hn.cdlen]
    have : cmpb X (cd l s) = true := by
      rw [cmp_bv hX (cd_bit _ _) (by rw [hn.cdlen]; omega), hn.cdlen, hn.bve hl (by omega), ← hzn]
      show (if X.length ≤ 24 then bv X * 2 ^ (24 - X.length) else bv X / 2 ^ (X.length - 24)) / 2 ^ (24 - n) / 2 ^ (n - X.length) = _
      rw [if_pos (by omega), Nat.div_div_eq_div_mul, ← Nat.pow_add, show 24 - n + (n - X.length) = 24 - X.length by omega, Nat.mul_div_cancel _ (Nat.pow_pos (by decide))]
    rw [this]
    simp; omega
theorem find_none {p : Nat → Bool} {n : Nat} (h : (List.range n).find? p = none) {s : Nat} (hs : s < n) : p s = false := by
  have := List.find?_eq_none.1 h s (List.mem_range.2 hs)
  simpa using this
theorem full_find {l X : List Int} {a : Nat} (hl : KL l) (hw : wsum l = 16777216) (hX : Bit X) : (fndM (dsl l) X a).2.2 = 0 ∨ (fndM (dsl l) X a).2.2 = 7 ∧ X.length < 24 := by
  unfold fndM
  cases h : (List.range (dsl l).length).find? (fun s => hit ((dsl l).getD s []) X) with
  | some s => left; rfl
  | none =>
    right
    rcases full_sign hl hw hX with ⟨s, hs, h1⟩ | ⟨h1, s, hs, h2⟩
    · have := find_none h (s := s) (by rw [dsl_len]; exact hs)
      rw [dsl_get hs] at this
      rw [this] at h1; simp at h1
    · refine ⟨?_, h1⟩
      simp only
      rw [if_pos]
      rw [List.any_eq_true]
      exact ⟨s, List.mem_range.2 (by rw [dsl_len]; exact hs), by rw [dsl_get hs]; exact h2⟩
def ones24 : List Int := bl [255, 255, 255] 24
theorem ones24_bv : bv ones24 = 16777215 := by decide
theorem ones_find {l : List Int} {a : Nat} (hl : KL l) (hw : wsum l < 16777216) : (fndM (dsl l) ones24 a).2.2 = 5 := by
  have hB : Bit ones24 := bl_bit _ _
  have hlen : ones24.length = 24 := bl_len _ _
  have hno : ∀ s, s < l.length → hit (cd l s) ones24 = false := by
    intro s hs
    cases hh : hit (cd l s) ones24 with
    | false => rfl
    | true =>
      exfalso
      unfold hit at hh
      simp only [Bool.and_eq_true, decide_eq_true_eq] at hh
      obtain ⟨h0, h1, h2⟩ := hh
      rw [cd_len] at h0
      obtain ⟨n, hn⟩ := Sg.of hl hs (by omega)
      have hn24 := hn.max
      rw [cmp_sym, cmp_bv (cd_bit _ _) hB (by rw [hn.cdlen, hlen]; exact hn24), hn.cdlen, hn.bve hl (by omega), hlen, ones24_bv] at h2
      have h3 := pos_end hs (by rw [hn.len]; have := hn.gt0; omega)
      rw [hn.We, ← hn.cwpos hl, ← h2] at h3
      have h4 := Nat.lt_div_mul_add (a := 16777215) (b := 2 ^ (24 - n)) (Nat.pow_pos (by decide))
      omega
  unfold fndM
  cases h : (List.range (dsl l).length).find? (fun s => hit ((dsl l).getD s []) ones24) with
  | some s =>
    have h1 := List.find?_some h
    have h2 := List.mem_range.1 (List.mem_of_find?_eq_some h)
    rw [dsl_len] at h2
    rw [dsl_get h2, hno s h2] at h1
    simp at h1
  | none =>
    simp only
    rw [if_neg]
    rw [List.any_eq_true]
    rintro ⟨s, hs, h1⟩
    have h2 := List.mem_range.1 hs
    rw [dsl_len] at h2
    rw [dsl_get h2] at h1
    unfold part at h1
    simp only [Bool.and_eq_true, decide_eq_true_eq] at h1
    have := hl.at h2
    rw [cd_len, hlen] at h1
    omega
theorem kraftFull_true {F : Nat} {l : List Int} {m : Int} {b : List Int} (hF : 20000 ≤ F) (hb : U8s b) (hm : I64 m) (lb : b.length ≤ 9223372036854775807) : M_L_KraftFull F l m b = some true := by
  unfold M_L_KraftFull
  rw [kRoom_eq (by omega), sign_eq hF hb hm lb, kbg_eq hF]
  simp only [Option.bind_some]
  rw [if_neg (by decide)]
  by_cases hk : kchk l = 0
  · have hl := kchk_ok.1 hk
    rw [if_neg (show ¬ kchk l ≠ 0 by simp [hk])]
    by_cases hw : 16777216 < wsum l
    · rw [if_pos (by simp; omega)]
    · have hcM : (codesM l).2 = 0 := by
        unfold codesM
        rw [if_neg (show ¬ kchk l ≠ 0 by simp [hk]), if_neg hw]
      by_cases hr : raOf m b 0 = 0
      · obtain ⟨n, i, rfl, hi0, _, hn, ob, hpk⟩ := ra_ok hb hr
        have hS : signM l (n : Int) b 0 = fndM (dsl l) (bl b n) 0 := by
          unfold signM
          rw [if_neg (by simp [hcM]), if_neg (by simp [hr])]
          simp
        by_cases hfull : wsum l = 16777216
        · have := full_find (a := 0) hl hfull (bl_bit b n)
          rw [bl_len] at this
          rw [hS]
          by_cases hg : (fndM (dsl l) (bl b n) 0).2.2 = 0
          · rw [if_neg (by simp [hg]; omega), if_pos (by simp; omega), if_pos (by simpa using hg)]; rfl
          · have h7 := this.resolve_left hg
            rw [if_neg (by simp [h7.1]; omega), if_pos (by simp; omega), if_neg (by simpa using hg)]
            unfold M_L_KraftFull_j2
            rw [h7.1]
            simp; omega
        · by_cases hq : (signM l (n : Int) b 0).2.2 = 3 ∨ (signM l (n : Int) b 0).2.2 = 1
          · rw [if_pos (by simp; omega)]
          · rw [if_neg (by simp; omega), if_neg (by simp; omega), sign_eq hF (by unfold U8s; decide) (by unfold I64; decide) (by decide)]
            simp only [Option.bind_some]
            have hS2 : signM l 24 [255, 255, 255] 0 = fndM (dsl l) ones24 0 := by
              unfold signM
              rw [if_neg (by simp [hcM]), if_neg (by decide)]
              rfl
            rw [hS2, ones_find hl (by omega)]
            rfl
      · have hS : (signM l m b 0).2.2 = raOf m b 0 := by
          unfold signM
          rw [if_neg (by simp [hcM]), if_pos hr]
        have h3 : raOf m b 0 = 3 ∨ raOf m b 0 = 1 := by
          unfold raOf at hr ⊢
          unfold chkOf at hr ⊢
          repeat' split <;> simp_all
        rw [if_pos]
        simp only [Bool.or_eq_true, beq_iff_eq, hS]
        rcases h3 with h3 | h3
        · exact Or.inl (Or.inr h3)
        · exact Or.inr h3
  · rw [if_pos hk, if_pos (by simp [hk])]
theorem fnd_code {l Y : List Int} {s n a : Nat} (hl : KL l) (hw : wsum l ≤ 16777216) (hs : Sg l s n) : fndM (dsl l) (cd l s ++ Y) a = ((s : Int), ((a + n : Nat) : Int), 0) := by
  have hc := hs.cdlen
  have hhit : hit (cd l s) (cd l s ++ Y) = true := by
    unfold hit
    have : cmpb (cd l s ++ Y) (cd l s) = true := by
      rw [cmp_hit (by rw [List.length_append]; omega)]
      unfold strt
      simp
    rw [this]
    have := hs.gt0
    simp; omega
  have huni : ∀ t, t < l.length → hit (cd l t) (cd l s ++ Y) = true → t = s := by
    intro t ht hh
    by_cases hts : t = s
    · exact hts
    exfalso
    unfold hit at hh
    simp only [Bool.and_eq_true, decide_eq_true_eq] at hh
    obtain ⟨h0, h1, h2⟩ := hh
    rw [cd_len] at h0
    obtain ⟨m, hm⟩ := Sg.of hl ht (by omega)
    have hap := codes_apart hl hw hm hs hts
    rw [cmp_hit h1] at h2
    unfold strt at h2
    simp only [Bool.and_eq_true, decide_eq_true_eq] at h2
    have h3 := h2.2
    have : cmpb (cd l t) (cd l s) = true := by
      unfold cmpb
      rw [decide_eq_true_eq, ← h3, List.take_take, List.take_append]
      simp only [List.length_take, List.length_append]
      have hz : (List.take (min (cd l s).length (cd l t).length - (cd l s).length) Y) = [] := by
        rw [show min (cd l s).length (cd l t).length - (cd l s).length = 0 by omega]; rfl
      rw [hz, List.append_nil]
      by_cases hlt : (cd l s).length ≤ (cd l t).length
      · rw [List.take_of_length_le (by omega), List.take_of_length_le (by omega)]
      · congr 1; omega
    rw [this] at hap; simp at hap
  unfold fndM
  cases h : (List.range (dsl l).length).find? (fun t => hit ((dsl l).getD t []) (cd l s ++ Y)) with
  | none =>
    have := find_none h (s := s) (by rw [dsl_len]; exact hs.lt)
    rw [dsl_get hs.lt, hhit] at this
    simp at this
  | some t =>
    have h1 := List.find?_some h
    have h2 := List.mem_range.1 (List.mem_of_find?_eq_some h)
    rw [dsl_len] at h2
    rw [dsl_get h2] at h1
    have := huni t h2 h1
    subst this
    simp only
    rw [dsl_get h2, hc]
def kflat (l : List Int) (P : List Nat) : List Int := (P.map (cd l)).flatten
theorem kflat_bit (l : List Int) (P : List Nat) : Bit (kflat l P) := fun x hx => by
  obtain ⟨y, hy, hx⟩ := List.mem_flatten.1 hx
  obtain ⟨s, _, rfl⟩ := List.mem_map.1 hy
  exact cd_bit l s x hx
theorem kflat_snoc (l : List Int) (P : List Nat) (s : Nat) : kflat l (P ++ [s]) = kflat l P ++ cd l s := by simp [kflat]
theorem kflat_drop (l : List Int) (P : List Nat) (i : Nat) : (kflat l P).drop (kflat l (P.take i)).length = kflat l (P.drop i) := by
  have : kflat l P = kflat l (P.take i) ++ kflat l (P.drop i) := by
    unfold kflat
    rw [← List.flatten_append, ← List.map_append, List.take_append_drop]
  rw [this, List.drop_left]
def ksgs (P : List Nat) : List Int := P.map fun (s : Nat) => (s : Int)
theorem kb_read {F : Nat} {l : List Int} {P : List Nat} (hF : 20000 ≤ F) (hl : KL l) (hw : wsum l ≤ 16777216) (hP : ∀ s ∈ P, ∃ n, Sg l s n) (hm : (kflat l P).length ≤ 2400) (hP1 : P.length ≤ 100) : ∀ (k i : Nat), P.length < k + i → i ≤ P.length →
    M_L_KraftBack_l42 F l (ksgs P) ((kflat l P).length : Int) (pk (kflat l P)) k (((kflat l (P.take i)).length : Int), (i : Int)) = some true
  | 0, _, _, _ => by omega
  | k + 1, i, h, hi => by
    show M_L_KraftBack_b42 F l (ksgs P) ((kflat l P).length : Int) (pk (kflat l P)) (M_L_KraftBack_l42 F l (ksgs P) ((kflat l P).length : Int) (pk (kflat l P)) k) ((kflat l (P.take i)).length : Int) (i : Int) = _
    unfold M_L_KraftBack_b42
    have hsl : (ksgs P).length = P.length := by simp [ksgs]
    have hB := kflat_bit l P
    by_cases hlt : i < P.length
    · obtain ⟨n, hn⟩ := hP P[i] (List.getElem_mem hlt)
      have hn0 := hn.gt0
      have hci := hn.cdlen
      have hst : kflat l (P.take (i + 1)) = kflat l (P.take i) ++ cd l P[i] := by rw [take_snoc hlt, kflat_snoc]
      have hdr : kflat l (P.drop i) = cd l P[i] ++ kflat l (P.drop (i + 1)) := by
        rw [List.drop_eq_getElem_cons hlt]; rfl
      have hle : (kflat l (P.take i)).length ≤ (kflat l P).length := by
        have := congrArg List.length (kflat_drop l P i)
        have e : kflat l P = kflat l (P.take i) ++ kflat l (P.drop i) := by
          unfold kflat
          rw [← List.flatten_append, ← List.map_append, List.take_append_drop]
        rw [e, List.length_append]; omega
      have hS : signM l ((kflat l P).length : Int) (pk (kflat l P)) ((kflat l (P.take i)).length : Int) = ((P[i] : Int), (((kflat l (P.take i)).length + n : Nat) : Int), 0) := by
        unfold signM
        have hcM : (codesM l).2 = 0 := by
          unfold codesM
          rw [if_neg (show ¬ kchk l ≠ 0 by simp [kchk_ok.2 hl]), if_neg (by omega)]
        have hra : raOf ((kflat l P).length : Int) (pk (kflat l P)) ((kflat l (P.take i)).length : Int) = 0 := by
          unfold raOf
          rw [chk_pk (by omega), if_neg (by simp), if_neg (by omega)]
        rw [if_neg (by simp [hcM]), if_neg (by simp [hra]), Int.toNat_natCast, Int.toNat_natCast, bl_pk hB, kflat_drop, hdr]
        exact fnd_code hl hw hn
      rw [if_pos (by simpa [hsl] using hlt), sign_eq hF (pk_u8 hB) ⟨by omega, by omega⟩ (pk_len9 (by omega)), hS]
      simp only [Option.bind_some]
      rw [if_neg (by simp), idx_nat]
      have hg : (ksgs P)[i]? = some (P[i] : Int) := by simp [ksgs, hlt]
      rw [hg]
      simp only [Option.bind_some]
      unfold M_L_KraftBack_j46
      rw [if_neg (by simp; omega), iadd1_n (by omega)]
      have := kb_read hF hl hw hP hm hP1 k (i + 1) (by omega) (by omega)
      rw [hst, List.length_append, hci] at this
      exact this
    · rw [if_neg (by simpa [hsl] using hlt)]
      unfold M_L_KraftBack_j33
      rw [List.take_of_length_le (by omega)]
      simp
theorem kb_put {F : Nat} {l sg : List Int} {c : Int} (hF : 20000 ≤ F) (hl : KL l) (hw : wsum l ≤ 16777216) : ∀ (k i : Nat) (P : List Nat), 100 < k + i → i ≤ 100 → P.length ≤ i → (kflat l P).length ≤ 24 * i → (∀ s ∈ P, ∃ n, Sg l s n) →
    M_L_KraftBack_l57 F l sg (cds l, c) k (ksgs P, (i : Int), ((kflat l P).length : Int), pk (kflat l P)) = some true
  | 0, _, _, _, _, _, _, _ => by omega
  | k + 1, i, P, h, hi, hPi, hlen, hP => by
    show M_L_KraftBack_b57 F l sg (cds l, c) (M_L_KraftBack_l57 F l sg (cds l, c) k) (ksgs P) (i : Int) ((kflat l P).length : Int) (pk (kflat l P)) = _
    unfold M_L_KraftBack_b57
    have h1 := hl.1
    have hcl : (cds l).length = l.length := by simp [cds]
    by_cases hlt : i < sg.length ∧ i < 100
    · have hskip : M_L_KraftBack_j60 F (M_L_KraftBack_l57 F l sg (cds l, c) k) (i : Int) (ksgs P) ((kflat l P).length : Int) (pk (kflat l P)) = some true := by
        unfold M_L_KraftBack_j60
        rw [iadd1_n (by omega)]
        exact kb_put hF hl hw k (i + 1) P (by omega) (by omega) (by omega) (by omega) hP
      rw [if_pos (by simp; omega), idx_nat, List.getElem?_eq_getElem hlt.1]
      simp only [Option.bind_some]
      by_cases hin : 0 ≤ sg[i] ∧ sg[i] < (l.length : Int)
      · obtain ⟨s, hs⟩ := Int.eq_ofNat_of_zero_le hin.1
        have hsl : s < l.length := by omega
        rw [hs, if_pos (by simp [hcl]; omega), idx_nat]
        have hg : (cds l)[s]? = some (ent l s) := by simp [cds, hsl]
        rw [hg]
        simp only [Option.bind_some]
        unfold M_L_KraftBack_j61
        by_cases h0 : 0 < gL l s
        · obtain ⟨n, hn⟩ := Sg.of hl hsl h0
          have hn24 := hn.max
          have hcn := hn.cdlen
          rw [if_pos (by show decide (0 < gL l s) = true; simpa using h0), idx_nat, hg]
          simp only [Option.bind_some]
          have e1 : (ent l s).1 = ((cd l s).length : Int) := by rw [hcn]; exact hn.len
          have e2 : (ent l s).2 = pk (cd l s) := rfl
          rw [e1, e2, join_eq hF (pk_u8 (kflat_bit l P)) (pk_u8 (cd_bit l s)) ⟨by omega, by omega⟩ ⟨by omega, by omega⟩ (pk_len9 (by omega)) (pk_len9 (by omega)), jn_form (kflat_bit l P) (cd_bit l s) (by omega) (by omega), if_pos (by omega)]
          simp only [Option.bind_some]
          unfold M_L_KraftBack_j62
          rw [if_neg (by simp), app_eq (by simp [ksgs]; omega)]
          simp only [Option.bind_some]
          unfold M_L_KraftBack_j60
          rw [iadd1_n (by omega)]
          have e3 : ksgs P ++ [(s : Int)] = ksgs (P ++ [s]) := by simp [ksgs]
          rw [e3, ← kflat_snoc]
          refine kb_put hF hl hw k (i + 1) (P ++ [s]) (by omega) (by omega) (by simp; omega) (by rw [kflat_snoc, List.length_append]; omega) ?_
          intro t ht
          rcases List.mem_append.1 ht with ht | ht
          · exact hP t ht
          · simp at ht
            exact ⟨n, ht ▸ hn⟩
        · rw [if_neg (by show ¬ decide (0 < gL l s) = true; simpa using h0)]
          exact hskip
      · rw [if_neg (by simp [hcl]; omega)]
        unfold M_L_KraftBack_j61
        rw [if_neg (by simp)]
        exact hskip
    · rw [if_neg (by simp; omega)]
      unfold M_L_KraftBack_j19
      have := kb_read (F := F) hF hl hw hP (by omega) (by omega) F 0 (by omega) (by omega)
      exact this
theorem kraftBack_true {F : Nat} {l sg : List Int} (hF : 20000 ≤ F) : M_L_KraftBack F l sg = some true := by
  unfold M_L_KraftBack
  rw [codes_eq hF, kbg_eq hF]
  simp only [Option.bind_some]
  rw [if_neg (by decide), begun_bits' hF]
  simp only [Option.bind_some]
  unfold M_L_KraftBack_j2
  rw [if_neg (by decide)]
  by_cases h : (codesM l).2 = 0
  · obtain ⟨hl, hw, e⟩ := codesM_ok h
    rw [if_neg (by simp [h]), e]
    have := kb_put (F := F) (sg := sg) (c := 0) hF hl hw F 0 [] (by omega) (by omega) (by simp) (by simp [kflat]) (fun s hs => by simp at hs)
    rw [show kflat l [] = [] from rfl, pk_nil] at this
    exact this
  · rw [if_pos (by simpa using h)]
    have : (codesM l).1 = [] := by
      unfold codesM at h ⊢
      by_cases h1 : kchk l = 0
      · rw [if_neg (by simp [h1])] at h ⊢
        by_cases h2 : 16777216 < wsum l
        · rw [if_pos h2]
        · rw [if_neg h2] at h; simp at h
      · rw [if_pos h1]
    rw [this]; rfl
theorem order_lt {l : List Int} {s t n m : Nat} (hl : KL l) (hw : wsum l ≤ 16777216) (hs : Sg l s n) (ht : Sg l t m) (h : bfn l (gL l t) t s = true) : bv ((cd l s).take (min n m)) < bv ((cd l t).take (min n m)) := by
  obtain ⟨h1, h2⟩ := before_gt hl hs ht h
  rw [Nat.min_eq_left h1, bv_take (cd_bit _ _), bv_take (cd_bit _ _), hs.cdlen, ht.cdlen, hs.bve hl hw, ht.bve hl hw, Nat.sub_self, Nat.pow_zero, Nat.div_one]
  omega
theorem kraftOrder_true {F : Nat} {l : List Int} {s t : Int} (hF : 20000 ≤ F) : M_L_KraftOrder F l s t = some true := by
  unfold M_L_KraftOrder
  rw [codes_eq hF, kbg_eq hF]
  simp only [Option.bind_some]
  rw [if_neg (by decide), begun_bits' hF]
  simp only [Option.bind_some]
  unfold M_L_KraftOrder_j2
  rw [if_neg (by decide)]
  have htr : M_L_KraftOrder_j5 F l s t (codesM l) true = some true := by
    unfold M_L_KraftOrder_j5 M_L_KraftOrder_j6
    rw [if_pos rfl, if_pos rfl]
  by_cases h : (codesM l).2 = 0
  · obtain ⟨hl, hw, e⟩ := codesM_ok h
    have hl1 := hl.1
    have hcl : (cds l).length = l.length := by simp [cds]
    rw [e]
    rw [e] at htr
    by_cases hin : 0 ≤ s ∧ s < (l.length : Int) ∧ 0 ≤ t ∧ t < (l.length : Int) ∧ s ≠ t
    · obtain ⟨i, rfl⟩ := Int.eq_ofNat_of_zero_le hin.1
      obtain ⟨j, rfl⟩ := Int.eq_ofNat_of_zero_le hin.2.2.1
      have hi : i < l.length := by omega
      have hj : j < l.length := by omega
      have hij : i ≠ j := by omega
      have gi : (cds l)[i]? = some (ent l i) := by simp [cds, hi]
      have gj : (cds l)[j]? = some (ent l j) := by simp [cds, hj]
      rw [if_neg (by simp [hcl]; omega), idx_nat, gi]
      simp only [Option.bind_some]
      by_cases h0 : 0 < gL l i
      · have e0 : ((ent l i).1 == (0 : Int)) = false := by
          show (gL l i == 0) = false
          rw [beq_eq_false_iff_ne]; omega
        rw [e0]
        unfold M_L_KraftOrder_j5
        rw [if_neg (by simp), idx_nat, gj]
        simp only [Option.bind_some]
        unfold M_L_KraftOrder_j6
        by_cases h1 : 0 < gL l j
        · have e1 : ((ent l j).1 == (0 : Int)) = false := by
            show (gL l j == 0) = false
            rw [beq_eq_false_iff_ne]; omega
          rw [e1, if_neg (by simp)]
          simp only [idx_nat, gi, gj, Option.bind_some]
          obtain ⟨n, hn⟩ := Sg.of hl hi h0
          obtain ⟨m, hm⟩ := Sg.of hl hj h1
          have hn24 := hn.max
          have hm24 := hm.max
          have hmin : imin (ent l i).1 (ent l j).1 = ((min n m : Nat) : Int) := by
            show imin (gL l i) (gL l j) = _
            rw [hn.len, hm.len]
            unfold imin
            split <;> omega
          have get : ∀ {i n : Nat}, Sg l i n → min n m ≤ n → True := fun _ _ => trivial
          have ei : (ent l i).1 = ((cd l i).length : Int) := by rw [hn.cdlen]; exact hn.len
          have ej : (ent l j).1 = ((cd l j).length : Int) := by rw [hm.cdlen]; exact hm.len
          have ei2 : (ent l i).2 = pk (cd l i) := rfl
          have ej2 : (ent l j).2 = pk (cd l j) := rfl
          rw [hmin]
          unfold chk
          rw [if_pos (by simp; omega), ei, ei2, ej, ej2]
          have hni := hn.cdlen
          have hmj := hm.cdlen
          have gg1 := gt_form (cd_bit l i) (by omega : (cd l i).length ≤ 8192) (a := 0) (w := min n m) (by omega) (by omega)
          have gg2 := gt_form (cd_bit l j) (by omega : (cd l j).length ≤ 8192) (a := 0) (w := min n m) (by omega) (by omega)
          rw [List.drop_zero] at gg1 gg2
          rw [get_eq hF (pk_u8 (cd_bit l i)) ⟨by omega, by omega⟩ (pk_len9 (by omega))]
          simp only [Option.bind_some]
          rw [get_eq hF (pk_u8 (cd_bit l j)) ⟨by omega, by omega⟩ (pk_len9 (by omega))]
          simp only [Option.bind_some]
          have z0 : ((0 : Nat) : Int) = 0 := rfl
          rw [z0] at gg1 gg2
          rw [gg1, gg2]
          simp only [gL_get hi, gL_get hj, Option.bind_some]
          unfold M_L_KraftOrder_j7
          rcases before_or hn hm hij with hb | hb
          · have hlt := order_lt hl hw hn hm hb
            have hb := bfn_iff.1 hb
            rw [if_neg (by simp; omega)]
            by_cases hd : gL l i < gL l j
            · rw [if_pos (by simpa using hd)]
              simp; omega
            · have hd2 : gL l i = gL l j := by omega
              rw [if_neg (by simpa using hd), if_pos (by simpa using hd2)]
              simp; omega
          · have hlt := order_lt hl hw hm hn hb
            rw [Nat.min_comm m n] at hlt
            have hb := bfn_iff.1 hb
            rw [if_neg (by simp; omega), if_neg (by simp; omega)]
            by_cases hd2 : gL l i = gL l j
            · rw [if_pos (by simpa using hd2)]
              simp; omega
            · rw [if_neg (by simpa using hd2)]
              simp; omega
        · have hat := hl.at hj
          have e1 : ((ent l j).1 == (0 : Int)) = true := by
            show (gL l j == 0) = true
            rw [beq_iff_eq]; omega
          rw [e1, if_pos rfl]
      · have hat := hl.at hi
        have e1 : ((ent l i).1 == (0 : Int)) = true := by
          show (gL l i == 0) = true
          rw [beq_iff_eq]; omega
        rw [e1]; exact htr
    · rw [if_pos (by simp [hcl]; omega)]
      exact htr
  · rw [if_pos (by simp [h])]
    exact htr
end Go.Proofs.Ytinpmgkbgcccmaa
