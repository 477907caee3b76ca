/- Plain facts of what the functions of this seat compute. -/
import Derived.Test.YtjeaicfjildchaaModels
import Derived.KernelRfl
namespace Go.Proofs.Ytjeaicfjildchaa
open Go SX
/-- The byte at place k of a list of bits. -/
def byt (l : List Int) (k : Nat) : Int :=
  l.getD (8 * k) 0 * 128 + l.getD (8 * k + 1) 0 * 64 + l.getD (8 * k + 2) 0 * 32 + l.getD (8 * k + 3) 0 * 16 + l.getD (8 * k + 4) 0 * 8 + l.getD (8 * k + 5) 0 * 4 + l.getD (8 * k + 6) 0 * 2 + l.getD (8 * k + 7) 0
def pk (l : List Int) : List Int := (List.range ((l.length + 7) / 8)).map (byt l)
def Bit (l : List Int) : Prop := ∀ x ∈ l, x = 0 ∨ x = 1
theorem Bit.getD {l : List Int} (h : Bit l) (i : Nat) : l.getD i 0 = 0 ∨ l.getD i 0 = 1 := by
  by_cases hi : i < l.length
  · have := h l[i] (List.getElem_mem hi)
    simpa [List.getD, hi] using this
  · left
    simp [List.getD, List.getElem?_eq_none (Nat.le_of_not_lt hi)]
theorem getD_ge {l : List Int} {i : Nat} (h : l.length ≤ i) : l.getD i 0 = 0 := by simp [List.getD, List.getElem?_eq_none h]
theorem getD_snoc (l : List Int) (x : Int) (i : Nat) : (l ++ [x]).getD i 0 = if i = l.length then x else l.getD i 0 := by
  by_cases h : i = l.length
  · subst h; simp [List.getD]
  · rw [if_neg h]
    by_cases h2 : i < l.length
    · simp [List.getD, List.getElem?_append_left h2]
    · rw [getD_ge (by simp; omega), getD_ge (by omega)]
theorem byt_range {l : List Int} (h : Bit l) (k : Nat) : 0 ≤ byt l k ∧ byt l k < 256 := by
  have h0 := h.getD (8 * k); have h1 := h.getD (8 * k + 1); have h2 := h.getD (8 * k + 2); have h3 := h.getD (8 * k + 3)
  have h4 := h.getD (8 * k + 4); have h5 := h.getD (8 * k + 5); have h6 := h.getD (8 * k + 6); have h7 := h.getD (8 * k + 7)
  unfold byt
  omega
theorem byt_snoc_other {l : List Int} {x : Int} {k : Nat} (h : k ≠ l.length / 8) : byt (l ++ [x]) k = byt l k := by
  unfold byt
  simp only [getD_snoc]
  rw [if_neg (by omega), if_neg (by omega), if_neg (by omega), if_neg (by omega), if_neg (by omega), if_neg (by omega), if_neg (by omega), if_neg (by omega)]
theorem byt_snoc_at {l : List Int} {x : Int} : byt (l ++ [x]) (l.length / 8) = byt l (l.length / 8) + x * 2 ^ (7 - l.length % 8) := by
  obtain ⟨k, hk⟩ : ∃ k, k = l.length / 8 := ⟨_, rfl⟩
  obtain ⟨r, hr⟩ : ∃ r, r = l.length % 8 := ⟨_, rfl⟩
  have hl : l.length = 8 * k + r := by omega
  have hr8 : r < 8 := by omega
  rw [← hk, ← hr]
  unfold byt
  simp only [getD_snoc, hl]
  have hg : ∀ j, r ≤ j → l.getD (8 * k + j) 0 = 0 := fun j hj => getD_ge (by omega)
  have g0 := hg 0; have g1 := hg 1; have g2 := hg 2; have g3 := hg 3; have g4 := hg 4; have g5 := hg 5; have g6 := hg 6; have g7 := hg 7
  rw [Nat.add_zero] at g0
  rcases (by omega : r = 0 ∨ r = 1 ∨ r = 2 ∨ r = 3 ∨ r = 4 ∨ r = 5 ∨ r = 6 ∨ r = 7) with rfl | rfl | rfl | rfl | rfl | rfl | rfl | rfl
  · rw [show (2 : Int) ^ (7 - 0) = 128 from by decide]
    rw [if_pos (by omega), if_neg (by omega), if_neg (by omega), if_neg (by omega), if_neg (by omega), if_neg (by omega), if_neg (by omega), if_neg (by omega)]
    have e0 := g0 (by omega)
    have e1 := g1 (by omega)
    have e2 := g2 (by omega)
    have e3 := g3 (by omega)
    have e4 := g4 (by omega)
    have e5 := g5 (by omega)
    have e6 := g6 (by omega)
    have e7 := g7 (by omega)
    omega
  · rw [show (2 : Int) ^ (7 - 1) = 64 from by decide]
    rw [if_neg (by omega), if_pos (by omega), if_neg (by omega), if_neg (by omega), if_neg (by omega), if_neg (by omega), if_neg (by omega), if_neg (by omega)]
    have e1 := g1 (by omega)
    have e2 := g2 (by omega)
    have e3 := g3 (by omega)
    have e4 := g4 (by omega)
    have e5 := g5 (by omega)
    have e6 := g6 (by omega)
    have e7 := g7 (by omega)
    omega
  · rw [show (2 : Int) ^ (7 - 2) = 32 from by decide]
    rw [if_neg (by omega), if_neg (by omega), if_pos (by omega), if_neg (by omega), if_neg (by omega), if_neg (by omega), if_neg (by omega), if_neg (by omega)]
    have e2 := g2 (by omega)
    have e3 := g3 (by omega)
    have e4 := g4 (by omega)
    have e5 := g5 (by omega)
    have e6 := g6 (by omega)
    have e7 := g7 (by omega)
    omega
  · rw [show (2 : Int) ^ (7 - 3) = 16 from by decide]
    rw [if_neg (by omega), if_neg (by omega), if_neg (by omega), if_pos (by omega), if_neg (by omega), if_neg (by omega), if_neg (by omega), if_neg (by omega)]
    have e3 := g3 (by omega)
    have e4 := g4 (by omega)
    have e5 := g5 (by omega)
    have e6 := g6 (by omega)
    have e7 := g7 (by omega)
    omega
  · rw [show (2 : Int) ^ (7 - 4) = 8 from by decide]
    rw [if_neg (by omega), if_neg (by omega), if_neg (by omega), if_neg (by omega), if_pos (by omega), if_neg (by omega), if_neg (by omega), if_neg (by omega)]
    have e4 := g4 (by omega)
    have e5 := g5 (by omega)
    have e6 := g6 (by omega)
    have e7 := g7 (by omega)
    omega
  · rw [show (2 : Int) ^ (7 - 5) = 4 from by decide]
    rw [if_neg (by omega), if_neg (by omega), if_neg (by omega), if_neg (by omega), if_neg (by omega), if_pos (by omega), if_neg (by omega), if_neg (by omega)]
    have e5 := g5 (by omega)
    have e6 := g6 (by omega)
    have e7 := g7 (by omega)
    omega
  · rw [show (2 : Int) ^ (7 - 6) = 2 from by decide]
    rw [if_neg (by omega), if_neg (by omega), if_neg (by omega), if_neg (by omega), if_neg (by omega), if_neg (by omega), if_pos (by omega), if_neg (by omega)]
    have e6 := g6 (by omega)
    have e7 := g7 (by omega)
    omega
  · rw [show (2 : Int) ^ (7 - 7) = 1 from by decide]
    rw [if_neg (by omega), if_neg (by omega), if_neg (by omega), if_neg (by omega), if_neg (by omega), if_neg (by omega), if_neg (by omega), if_pos (by omega)]
    have e7 := g7 (by omega)
    omega
theorem irem8 (n : Nat) : irem (n : Int) 8 = ((n % 8 : Nat) : Int) := by
  unfold irem; rw [Int.tmod_eq_emod_of_nonneg (by omega)]; omega
theorem iquo8 {n : Nat} (h : n ≤ 9223372036854775807) : iquo .i64 (n : Int) 8 = ((n / 8 : Nat) : Int) := by
  unfold iquo; rw [Int.tdiv_eq_ediv_of_nonneg (by omega), wrap_i64 (by omega) (by omega)]; omega
/-- A byte has nothing yet behind the last bit. -/
theorem byt_low {l : List Int} : byt l (l.length / 8) % 2 ^ (8 - l.length % 8) = 0 := by
  obtain ⟨k, hk⟩ : ∃ k, k = l.length / 8 := ⟨_, rfl⟩
  obtain ⟨r, hr⟩ : ∃ r, r = l.length % 8 := ⟨_, rfl⟩
  have hl : l.length = 8 * k + r := by omega
  have hr8 : r < 8 := by omega
  rw [← hk, ← hr]
  unfold byt
  have hg : ∀ j, r ≤ j → l.getD (8 * k + j) 0 = 0 := fun j hj => getD_ge (by omega)
  have g0 := hg 0; have g1 := hg 1; have g2 := hg 2; have g3 := hg 3; have g4 := hg 4; have g5 := hg 5; have g6 := hg 6; have g7 := hg 7
  rw [Nat.add_zero] at g0
  rcases (by omega : r = 0 ∨ r = 1 ∨ r = 2 ∨ r = 3 ∨ r = 4 ∨ r = 5 ∨ r = 6 ∨ r = 7) with rfl | rfl | rfl | rfl | rfl | rfl | rfl | rfl
  · have e0 := g0 (by omega); have e1 := g1 (by omega); have e2 := g2 (by omega); have e3 := g3 (by omega); have e4 := g4 (by omega); have e5 := g5 (by omega); have e6 := g6 (by omega); have e7 := g7 (by omega)
    rw [show (2 : Int) ^ (8 - 0) = 256 from by decide]; omega
  · have e1 := g1 (by omega); have e2 := g2 (by omega); have e3 := g3 (by omega); have e4 := g4 (by omega); have e5 := g5 (by omega); have e6 := g6 (by omega); have e7 := g7 (by omega)
    rw [show (2 : Int) ^ (8 - 1) = 128 from by decide]; omega
  · have e2 := g2 (by omega); have e3 := g3 (by omega); have e4 := g4 (by omega); have e5 := g5 (by omega); have e6 := g6 (by omega); have e7 := g7 (by omega)
    rw [show (2 : Int) ^ (8 - 2) = 64 from by decide]; omega
  · have e3 := g3 (by omega); have e4 := g4 (by omega); have e5 := g5 (by omega); have e6 := g6 (by omega); have e7 := g7 (by omega)
    rw [show (2 : Int) ^ (8 - 3) = 32 from by decide]; omega
  · have e4 := g4 (by omega); have e5 := g5 (by omega); have e6 := g6 (by omega); have e7 := g7 (by omega)
    rw [show (2 : Int) ^ (8 - 4) = 16 from by decide]; omega
  · have e5 := g5 (by omega); have e6 := g6 (by omega); have e7 := g7 (by omega)
    rw [show (2 : Int) ^ (8 - 5) = 8 from by decide]; omega
  · have e6 := g6 (by omega); have e7 := g7 (by omega)
    rw [show (2 : Int) ^ (8 - 6) = 4 from by decide]; omega
  · have e7 := g7 (by omega)
    rw [show (2 : Int) ^ (8 - 7) = 2 from by decide]; omega
theorem byt_end {l : List Int} (h : l.length % 8 = 0) : byt l (l.length / 8) = 0 := by
  unfold byt
  rw [getD_ge (by omega), getD_ge (by omega), getD_ge (by omega), getD_ge (by omega), getD_ge (by omega), getD_ge (by omega), getD_ge (by omega), getD_ge (by omega)]
  rfl
theorem ior_comm (k : IntKind) (a b : Int) : ior k a b = ior k b a := by unfold ior; rw [BitVec.or_comm]
/-- The room for one more bit. -/
def room (l : List Int) : List Int := (List.range (l.length / 8 + 1)).map (byt l)
theorem room_j1 {F : Nat} {l : List Int} (hl : Bit l) {x : Int} (hx : x = 0 ∨ x = 1) (hn : l.length ≤ 1000000) : M_bits_writer_bit_j1 F (l.length : Int) x (room l) = some (((l.length + 1 : Nat) : Int), pk (l ++ [x])) := by
  unfold M_bits_writer_bit_j1
  rw [iquo8 (by omega), irem8]
  have hg : (room l)[l.length / 8]? = some (byt l (l.length / 8)) := by simp [room]
  rw [idx_nat, hg]
  simp only [Option.bind_some]
  have hc : decide ((0 : Int) ≤ ((l.length % 8 : Nat) : Int)) = true := decide_eq_true (by omega)
  rw [hc]
  simp only [chk, if_true, lett, Int.toNat_natCast]
  have hb := byt_range hl (l.length / 8)
  have hr8 : l.length % 8 < 8 := Nat.mod_lt _ (by decide)
  have e1 : ishl .u64 x 7 = x * 128 := by
    have := ishl_u64 (a := x) (m := 7) (by decide)
    rw [show ((7 : Nat) : Int) = 7 from rfl] at this
    rw [this]
    rcases hx with rfl | rfl <;> decide
  have e2 : iconv .u8 (x * 128) = x * 128 := wrap_u8 (by omega) (by omega)
  have e3 : ishr .u8 (x * 128) ((l.length % 8 : Nat) : Int) = x * 2 ^ (7 - l.length % 8) := by
    rw [ishr_eq (by simp only [IntKind.bits]; omega)]
    have key : ∀ r : Fin 8, ((0 : Int) * 128 / 2 ^ r.val = 0 * 2 ^ (7 - r.val)) ∧ ((1 : Int) * 128 / 2 ^ r.val = 1 * 2 ^ (7 - r.val)) := by decide
    have := key ⟨l.length % 8, hr8⟩
    rcases hx with rfl | rfl
    · exact this.1
    · exact this.2
  have key2 : ∀ r : Fin 8, (1 : Int) ≤ 2 ^ (7 - r.val) ∧ (2 : Int) ^ (8 - r.val) = 2 * 2 ^ (7 - r.val) ∧ (2 : Int) ^ (7 - r.val) ≤ 128 ∧ (256 : Int) % 2 ^ (8 - r.val) = 0 ∧ (2 : Int) ^ (8 - r.val) ≤ 256 := by decide
  have hk2 := key2 ⟨l.length % 8, hr8⟩
  simp only at hk2
  have hat := byt_snoc_at (l := l) (x := x)
  have hb2 : Bit (l ++ [x]) := by
    intro y hy
    rcases List.mem_append.1 hy with h | h
    · exact hl y h
    · simp at h; subst h; exact hx
  have hbb := byt_range hb2 (l.length / 8)
  have e4 : ior .u8 (byt l (l.length / 8)) (x * 2 ^ (7 - l.length % 8)) = byt (l ++ [x]) (l.length / 8) := by
    rw [ior_comm, ior_add (m := 8 - l.length % 8) ?_ ?_ hb.1 byt_low rfl ?_]
    · rw [hat]; omega
    · rcases hx with rfl | rfl <;> omega
    · rcases hx with rfl | rfl <;> omega
    · simp only [IntKind.bits]
      rw [show (2 : Int) ^ 8 = 256 from by decide]
      omega
  rw [e1, e2, e3, e4, iadd_i64 (by omega) (by omega)]
  congr 2
  unfold room pk
  have hlen : ((l ++ [x]).length + 7) / 8 = l.length / 8 + 1 := by simp; omega
  rw [hlen]
  apply List.ext_getElem?
  intro k
  rw [List.getElem?_set]
  by_cases hk : l.length / 8 = k
  · subst hk; simp
  · rw [if_neg hk]
    simp only [List.getElem?_map]
    by_cases h3 : k < l.length / 8 + 1
    · rw [List.getElem?_range h3]
      simp only [Option.map_some]
      rw [byt_snoc_other (fun e => hk e.symm)]
    · rw [List.getElem?_eq_none (by simpa using h3)]
      rfl
theorem bit_eq {F : Nat} {l : List Int} (hl : Bit l) {x : Int} (hx : x = 0 ∨ x = 1) (hn : l.length ≤ 1000000) : M_bits_writer_bit F (l.length : Int) (pk l) x = some (((l.length + 1 : Nat) : Int), pk (l ++ [x])) := by
  unfold M_bits_writer_bit
  rw [irem8]
  by_cases h : l.length % 8 = 0
  · have h1 : ((((l.length % 8 : Nat) : Int) : Int) == 0) = true := by simp [h]
    simp only [h1, if_true]
    rw [app_eq (by simp [pk]; omega)]
    simp only [Option.bind_some]
    have : pk l ++ [0] = room l := by
      unfold pk room
      rw [show (l.length + 7) / 8 = l.length / 8 from by omega, List.range_succ, List.map_append]
      simp [byt_end h]
    rw [this]
    exact room_j1 hl hx hn
  · have h1 : ((((l.length % 8 : Nat) : Int) : Int) == 0) = false := by simp; omega
    simp only [h1, Bool.false_eq_true, if_false]
    have : pk l = room l := by
      unfold pk room
      rw [show (l.length + 7) / 8 = l.length / 8 + 1 from by omega]
    rw [this]
    exact room_j1 hl hx hn
def bitAt (b : List Int) (i : Nat) : Int := b.getD (i / 8) 0 / 2 ^ (7 - i % 8) % 2
def bl (b : List Int) (n : Nat) : List Int := (List.range n).map (bitAt b)
theorem bitAt_bit (b : List Int) (i : Nat) : bitAt b i = 0 ∨ bitAt b i = 1 := by unfold bitAt; omega
theorem bl_bit (b : List Int) (n : Nat) : Bit (bl b n) := by
  intro x hx
  obtain ⟨i, _, rfl⟩ := List.mem_map.1 hx
  exact bitAt_bit b i
theorem bl_len (b : List Int) (n : Nat) : (bl b n).length = n := by simp [bl]
def U8s (l : List Int) : Prop := ∀ n ∈ l, 0 ≤ n ∧ n < 256
theorem at_eq {F : Nat} {n : Int} {b : List Int} (hb : U8s b) {i : Nat} (hi : i / 8 < b.length) (hm : i ≤ 1000000) : M_bits_At F n b (i : Int) = some (bitAt b i) := by
  unfold M_bits_At
  rw [iquo8 (by omega), irem8, idx_nat]
  have hg : b[i / 8]? = some b[i / 8] := by simp [hi]
  rw [hg]
  simp only [Option.bind_some]
  have e1 : isub .i64 7 ((i % 8 : Nat) : Int) = ((7 - i % 8 : Nat) : Int) := by rw [isub_i64 (by omega) (by omega)]; omega
  rw [e1]
  have hc : decide ((0 : Int) ≤ ((7 - i % 8 : Nat) : Int)) = true := decide_eq_true (by omega)
  rw [hc]
  simp only [chk, if_true, lett]
  have hx := hb b[i / 8] (List.getElem_mem hi)
  rw [ishr_eq (by simp only [IntKind.bits]; omega)]
  have hp : (1 : Int) ≤ 2 ^ (7 - i % 8) := by
    have key : ∀ r : Fin 8, (1 : Int) ≤ 2 ^ (7 - r.val) := by decide
    exact key ⟨i % 8, Nat.mod_lt _ (by decide)⟩
  have h1 : 0 ≤ b[i / 8] / 2 ^ (7 - i % 8) := Int.ediv_nonneg hx.1 (by omega)
  have h2 : b[i / 8] / 2 ^ (7 - i % 8) ≤ b[i / 8] := Int.ediv_le_self _ hx.1
  have e2 : iconv .u64 (b[i / 8] / 2 ^ (7 - i % 8)) = b[i / 8] / 2 ^ (7 - i % 8) := wrap_u64 h1 (by omega)
  rw [e2]
  have e3 := iand_mask (k := .u64) (a := b[i / 8] / 2 ^ (7 - i % 8)) (m := 1) h1 (by simp only [IntKind.bits]; rw [show (2 : Int) ^ 64 = 18446744073709551616 from by decide]; omega) (by decide) rfl
  rw [show ((2 ^ 1 - 1 : Nat) : Int) = 1 from rfl, show (2 : Int) ^ 1 = 2 from rfl] at e3
  rw [e3]
  unfold bitAt
  simp [List.getD, hg]
/-- All places, one behind the other, written behind what is there. -/
theorem places_l {F : Nat} {n : Int} {b : List Int} (hb : U8s b) {yy : (Int × List Int) → Int → Option ((Int × List Int) ⊕ Empty)} (hy : ∀ (l : List Int) x, Bit l → (x = 0 ∨ x = 1) → l.length ≤ 100000 → yy ((l.length : Int), pk l) x = some (.inl (((l.length + 1 : Nat) : Int), pk (l ++ [x])))) {to : Nat} (ht : to ≤ 8 * b.length) (hm : to ≤ 10000) :
    ∀ (k i : Nat) (l : List Int), to < k + i → i ≤ to → Bit l → l.length + (to - i) ≤ 100000 →
      M_bits_places_1_l1 F yy (to : Int) n b k ((i : Int), ((l.length : Int), pk l)) = some (.inl (((l.length + (to - i) : Nat) : Int), pk (l ++ (bl b to).drop i)))
  | 0, i, l, h, hi, _, _ => by omega
  | k + 1, i, l, h, hi, hl, hc => by
    have hstep : M_bits_places_1_l1 F yy (to : Int) n b (k + 1) ((i : Int), ((l.length : Int), pk l)) = M_bits_places_1_b1 F yy (to : Int) n b (M_bits_places_1_l1 F yy (to : Int) n b k) (i : Int) ((l.length : Int), pk l) := rfl
    rw [hstep]
    unfold M_bits_places_1_b1
    by_cases hlt : i < to
    · have h1 : (i : Int) < (to : Int) := by omega
      simp only [h1, decide_true, if_true]
      rw [at_eq hb (by omega) (by omega)]
      simp only [Option.bind_some]
      have hx := bitAt_bit b i
      rw [hy l _ hl hx (by omega)]
      simp only [Option.bind_some, Sum.elim_inl]
      rw [iadd_i64 (by omega) (by omega), show (i : Int) + 1 = ((i + 1 : Nat) : Int) from by omega]
      have hl2 : Bit (l ++ [bitAt b i]) := by
        intro y hy2
        rcases List.mem_append.1 hy2 with h | h
        · exact hl y h
        · simp at h; subst h; exact hx
      have := places_l (F := F) (n := n) hb hy ht hm k (i + 1) (l ++ [bitAt b i]) (by omega) (by omega) hl2 (by simp; omega)
      rw [show (l ++ [bitAt b i]).length = l.length + 1 from by simp] at this
      rw [this]
      have hd : (bl b to).drop i = bitAt b i :: (bl b to).drop (i + 1) := by
        rw [List.drop_eq_getElem_cons (by rw [bl_len]; exact hlt)]
        congr 1
        simp [bl]
      rw [hd, List.append_assoc, show l.length + 1 + (to - (i + 1)) = l.length + (to - i) from by omega]
      rfl
    · have h1 : ¬ (i : Int) < (to : Int) := by omega
      simp only [h1, decide_false, Bool.false_eq_true, if_false]
      rw [List.drop_eq_nil_of_le (by rw [bl_len]; omega), List.append_nil, show l.length + (to - i) = l.length from by omega]
structure Ok (n : Nat) (b : List Int) : Prop where
  max : n ≤ 8192
  len : b.length = (n + 7) / 8
  low : n % 8 ≠ 0 → b.getD (n / 8) 0 % 2 ^ (8 - n % 8) = 0
theorem bl_getD {b : List Int} {n i : Nat} : (bl b n).getD i 0 = if i < n then bitAt b i else 0 := by
  by_cases h : i < n
  · rw [if_pos h]; simp [bl, List.getD, h]
  · rw [if_neg h]; exact getD_ge (by rw [bl_len]; omega)
theorem bits8 {x : Int} (h0 : 0 ≤ x) (h1 : x < 256) : x / 128 % 2 * 128 + x / 64 % 2 * 64 + x / 32 % 2 * 32 + x / 16 % 2 * 16 + x / 8 % 2 * 8 + x / 4 % 2 * 4 + x / 2 % 2 * 2 + x / 1 % 2 = x := by omega
theorem bitAt_8 (b : List Int) (k : Nat) : bitAt b (8 * k) = b.getD k 0 / 128 % 2 ∧ bitAt b (8 * k + 1) = b.getD k 0 / 64 % 2 ∧ bitAt b (8 * k + 2) = b.getD k 0 / 32 % 2 ∧ bitAt b (8 * k + 3) = b.getD k 0 / 16 % 2 ∧
    bitAt b (8 * k + 4) = b.getD k 0 / 8 % 2 ∧ bitAt b (8 * k + 5) = b.getD k 0 / 4 % 2 ∧ bitAt b (8 * k + 6) = b.getD k 0 / 2 % 2 ∧ bitAt b (8 * k + 7) = b.getD k 0 / 1 % 2 := by
  unfold bitAt
  rw [show 8 * k / 8 = k from by omega, show (8 * k + 1) / 8 = k from by omega, show (8 * k + 2) / 8 = k from by omega, show (8 * k + 3) / 8 = k from by omega, show (8 * k + 4) / 8 = k from by omega, show (8 * k + 5) / 8 = k from by omega, show (8 * k + 6) / 8 = k from by omega, show (8 * k + 7) / 8 = k from by omega,
    show 8 * k % 8 = 0 from by omega, show (8 * k + 1) % 8 = 1 from by omega, show (8 * k + 2) % 8 = 2 from by omega, show (8 * k + 3) % 8 = 3 from by omega, show (8 * k + 4) % 8 = 4 from by omega, show (8 * k + 5) % 8 = 5 from by omega, show (8 * k + 6) % 8 = 6 from by omega, show (8 * k + 7) % 8 = 7 from by omega]
  exact ⟨rfl, rfl, rfl, rfl, rfl, rfl, rfl, rfl⟩
theorem byt_bl {n : Nat} {b : List Int} (hb : U8s b) (h : Ok n b) {k : Nat} (hk : k < (n + 7) / 8) : byt (bl b n) k = b.getD k 0 := by
  have hx : 0 ≤ b.getD k 0 ∧ b.getD k 0 < 256 := by
    have hlt : k < b.length := by rw [h.len]; exact hk
    have := hb b[k] (List.getElem_mem hlt)
    simpa [List.getD, hlt] using this
  obtain ⟨c0, c1, c2, c3, c4, c5, c6, c7⟩ := bitAt_8 b k
  unfold byt
  simp only [bl_getD]
  rw [c0, c1, c2, c3, c4, c5, c6, c7]
  by_cases hf : 8 * k + 8 ≤ n
  · rw [if_pos (by omega), if_pos (by omega), if_pos (by omega), if_pos (by omega), if_pos (by omega), if_pos (by omega), if_pos (by omega), if_pos (by omega)]
    exact bits8 hx.1 hx.2
  · have hkn : n / 8 = k := by omega
    obtain ⟨r, hr⟩ : ∃ r, r = n % 8 := ⟨_, rfl⟩
    have hn : n = 8 * k + r := by omega
    have hlow := h.low (by omega)
    rw [hkn, ← hr] at hlow
    generalize b.getD k 0 = x at hx hlow
    rcases (by omega : r = 1 ∨ r = 2 ∨ r = 3 ∨ r = 4 ∨ r = 5 ∨ r = 6 ∨ r = 7) with rfl | rfl | rfl | rfl | rfl | rfl | rfl
    · rw [if_pos (by omega), if_neg (by omega), if_neg (by omega), if_neg (by omega), if_neg (by omega), if_neg (by omega), if_neg (by omega), if_neg (by omega)]
      rw [show (2 : Int) ^ (8 - 1) = 128 from by decide] at hlow
      omega
    · rw [if_pos (by omega), if_pos (by omega), if_neg (by omega), if_neg (by omega), if_neg (by omega), if_neg (by omega), if_neg (by omega), if_neg (by omega)]
      rw [show (2 : Int) ^ (8 - 2) = 64 from by decide] at hlow
      omega
    · rw [if_pos (by omega), if_pos (by omega), if_pos (by omega), if_neg (by omega), if_neg (by omega), if_neg (by omega), if_neg (by omega), if_neg (by omega)]
      rw [show (2 : Int) ^ (8 - 3) = 32 from by decide] at hlow
      omega
    · rw [if_pos (by omega), if_pos (by omega), if_pos (by omega), if_pos (by omega), if_neg (by omega), if_neg (by omega), if_neg (by omega), if_neg (by omega)]
      rw [show (2 : Int) ^ (8 - 4) = 16 from by decide] at hlow
      omega
    · rw [if_pos (by omega), if_pos (by omega), if_pos (by omega), if_pos (by omega), if_pos (by omega), if_neg (by omega), if_neg (by omega), if_neg (by omega)]
      rw [show (2 : Int) ^ (8 - 5) = 8 from by decide] at hlow
      omega
    · rw [if_pos (by omega), if_pos (by omega), if_pos (by omega), if_pos (by omega), if_pos (by omega), if_pos (by omega), if_neg (by omega), if_neg (by omega)]
      rw [show (2 : Int) ^ (8 - 6) = 4 from by decide] at hlow
      omega
    · rw [if_pos (by omega), if_pos (by omega), if_pos (by omega), if_pos (by omega), if_pos (by omega), if_pos (by omega), if_pos (by omega), if_neg (by omega)]
      rw [show (2 : Int) ^ (8 - 7) = 2 from by decide] at hlow
      omega
theorem pk_bl {n : Nat} {b : List Int} (hb : U8s b) (h : Ok n b) : pk (bl b n) = b := by
  unfold pk
  rw [bl_len]
  apply List.ext_getElem?
  intro k
  by_cases hk : k < (n + 7) / 8
  · rw [List.getElem?_map, List.getElem?_range hk]
    simp only [Option.map_some]
    rw [byt_bl hb h hk]
    have hlt : k < b.length := by rw [h.len]; exact hk
    simp [List.getD, hlt]
  · rw [List.getElem?_eq_none (by simpa using hk), List.getElem?_eq_none (by rw [h.len]; omega)]
/-- What 'Check' tells. -/
def chkOf (n : Int) (b : List Int) : Int :=
  if n < 0 ∨ 8192 < n then 3 else if (b.length : Int) ≠ (n + 7) / 8 then 1 else if n % 8 ≠ 0 ∧ b.getD (n.toNat / 8) 0 % 2 ^ (8 - n.toNat % 8) ≠ 0 then 1 else 0
theorem chkOf_ok {n : Int} {b : List Int} (h : chkOf n b = 0) : ∃ m : Nat, n = m ∧ Ok m b := by
  unfold chkOf at h
  split at h
  · simp at h
  · rename_i h1
    split at h
    · simp at h
    · rename_i h2
      split at h
      · simp at h
      · rename_i h3
        obtain ⟨m, rfl⟩ := Int.eq_ofNat_of_zero_le (show 0 ≤ n by omega)
        refine ⟨m, rfl, by omega, by omega, fun hm => ?_⟩
        simp only [Int.toNat_natCast] at h3
        by_cases hz : b.getD (m / 8) 0 % 2 ^ (8 - m % 8) = 0
        · exact hz
        · exact absurd ⟨by omega, hz⟩ h3
theorem check_eq {F : Nat} {n : Int} {b : List Int} (hb : U8s b) (h1 : -9223372036854775808 ≤ n) (h2 : n < 9223372036854775808) (hm : b.length ≤ 9223372036854775807) : M_bits_Check F n b = some (chkOf n b) := by
  unfold M_bits_Check chkOf
  by_cases c1 : n < 0 ∨ 8192 < n
  · have : (decide (n < 0) || decide (8192 < n)) = true := by simpa using c1
    rw [if_pos this, if_pos c1]
  · have : (decide (n < 0) || decide (8192 < n)) = false := by simpa using c1
    rw [this, if_neg c1]
    simp only [Bool.false_eq_true, if_false]
    obtain ⟨m, rfl⟩ := Int.eq_ofNat_of_zero_le (show 0 ≤ n by omega)
    have e1 : iquo .i64 (iadd .i64 (m : Int) 7) 8 = ((m : Int) + 7) / 8 := by
      rw [iadd_i64 (by omega) (by omega), show (m : Int) + 7 = ((m + 7 : Nat) : Int) from by omega, iquo8 (by omega)]
      omega
    rw [e1, irem8]
    by_cases c2 : (b.length : Int) ≠ ((m : Int) + 7) / 8
    · have : ((b.length : Int) != ((m : Int) + 7) / 8) = true := by simpa using c2
      rw [if_pos this, if_pos c2]
    · have : ((b.length : Int) != ((m : Int) + 7) / 8) = false := by simpa using c2
      rw [this, if_neg c2]
      simp only [Bool.false_eq_true, if_false]
      by_cases c3 : m % 8 = 0
      · have : ((((m % 8 : Nat) : Int)) != 0) = false := by simp [c3]
        have hn : ¬ ((m : Int) % 8 ≠ 0 ∧ b.getD ((m : Int).toNat / 8) 0 % 2 ^ (8 - (m : Int).toNat % 8) ≠ 0) := fun h => h.1 (by omega)
        rw [this, if_neg hn]
        simp [M_bits_Check_j2]
      · have : ((((m % 8 : Nat) : Int)) != 0) = true := by simp; omega
        rw [this]
        simp only [if_true]
        have hlen : b.length = m / 8 + 1 := by omega
        have e2 : isub .i64 (b.length : Int) 1 = ((m / 8 : Nat) : Int) := by rw [isub_i64 (by omega) (by omega)]; omega
        have hg : b[m / 8]? = some b[m / 8] := by simp [hlen]
        rw [e2, idx_nat, hg]
        simp only [Option.bind_some]
        have hc : decide ((0 : Int) ≤ ((m % 8 : Nat) : Int)) = true := decide_eq_true (by omega)
        rw [hc]
        simp only [chk, if_true]
        have hx := hb b[m / 8] (List.getElem_mem (by omega))
        have hgd : b.getD (m / 8) 0 = b[m / 8] := by simp [List.getD, hg]
        rw [Int.toNat_natCast, hgd]
        generalize b[m / 8] = x at hx
        have e3 : (ishl .u8 x ((m % 8 : Nat) : Int) != 0) = decide (x % 2 ^ (8 - m % 8) ≠ 0) := by
          have key : ishl .u8 x ((m % 8 : Nat) : Int) = (x * 2 ^ (m % 8)) % 256 := by
            unfold ishl
            have h : min (((m % 8 : Nat) : Int).toNat) (IntKind.bits .u8) = m % 8 := by simp [IntKind.bits]; omega
            rw [h, wrap_u8_mod]
          rw [key]
          rcases (by omega : m % 8 = 1 ∨ m % 8 = 2 ∨ m % 8 = 3 ∨ m % 8 = 4 ∨ m % 8 = 5 ∨ m % 8 = 6 ∨ m % 8 = 7) with h | h | h | h | h | h | h <;> rw [h]
          · rw [show (2 : Int) ^ 1 = 2 from rfl, show (2 : Int) ^ (8 - 1) = 128 from by decide]; by_cases hz : x % 128 = 0 <;> simp [hz] <;> omega
          · rw [show (2 : Int) ^ 2 = 4 from rfl, show (2 : Int) ^ (8 - 2) = 64 from by decide]; by_cases hz : x % 64 = 0 <;> simp [hz] <;> omega
          · rw [show (2 : Int) ^ 3 = 8 from rfl, show (2 : Int) ^ (8 - 3) = 32 from by decide]; by_cases hz : x % 32 = 0 <;> simp [hz] <;> omega
          · rw [show (2 : Int) ^ 4 = 16 from by decide]; try rw [show (2 : Int) ^ (8 - 4) = 16 from by decide]
            by_cases hz : x % 16 = 0 <;> simp [hz] <;> omega
          · rw [show (2 : Int) ^ 5 = 32 from by decide, show (2 : Int) ^ (8 - 5) = 8 from by decide]; by_cases hz : x % 8 = 0 <;> simp [hz] <;> omega
          · rw [show (2 : Int) ^ 6 = 64 from by decide, show (2 : Int) ^ (8 - 6) = 4 from by decide]; by_cases hz : x % 4 = 0 <;> simp [hz] <;> omega
          · rw [show (2 : Int) ^ 7 = 128 from by decide, show (2 : Int) ^ (8 - 7) = 2 from by decide]; by_cases hz : x % 2 = 0 <;> simp [hz] <;> omega
        rw [e3]
        unfold M_bits_Check_j2
        by_cases hz : x % 2 ^ (8 - m % 8) = 0
        · rw [if_neg (by simp [hz]), if_neg (by simp [hz])]
        · rw [if_pos (by simp [hz]), if_pos ⟨by omega, hz⟩]
theorem begun_bits (n : Nat) : M_L_bitsBegun (n + 200) = some true := by kernel_rfl
theorem clone_eq {F : Nat} {x : List Int} (h : x.length ≤ 1000000) : M_slices_Clone_byte_byte F x = some x := by
  unfold M_slices_Clone_byte_byte
  rw [app_eq (by simp; omega)]
  rfl
theorem own_eq {F : Nat} {n : Int} {b : List Int} (h : b.length ≤ 1000000) : M_bits_own F n b = some (n, b) := by
  unfold M_bits_own
  rw [clone_eq h]
  rfl
theorem both_eq {F : Nat} (hF : 20000 ≤ F) {n m : Nat} {a b : List Int} (ha : U8s a) (hb : U8s b) (oa : Ok n a) (ob : Ok m b) : M_bits_Both F n a m b = some (((n + m : Nat) : Int), pk (bl a n ++ bl b m)) := by
  unfold M_bits_Both
  have hal : a.length ≤ 1000000 := by rw [oa.len]; have := oa.max; omega
  rw [own_eq hal]
  simp only [Option.bind_some, M_bits_places, M_bits_places_1]
  have hm := ob.max
  have hn := oa.max
  have := places_l (F := F) (n := (m : Int)) hb (yy := fun (p : Int × List Int) (x53 : Int) => M_bits_Both_r2 F p.1 p.2 x53) (fun l x hl hx hlen => by
    simp only [M_bits_Both_r2]
    rw [bit_eq hl hx (by omega)]
    rfl) (to := m) (by rw [ob.len]; omega) (by omega) F 0 (bl a n) (by omega) (by omega) (bl_bit a n) (by rw [bl_len]; omega)
  rw [bl_len, pk_bl ha oa, List.drop_zero, Nat.sub_zero] at this
  rw [show ((0 : Nat) : Int) = 0 from rfl] at this
  have h2 : M_bits_places_1_l1 F (fun (x : Int × List Int) (x53 : Int) => match x with | (x45, x48) => M_bits_Both_r2 F x45 x48 x53) (m : Int) (m : Int) b F (0, ((n : Int), a)) = some (.inl (((n + m : Nat) : Int), pk (bl a n ++ bl b m))) := this
  rw [h2]
  rfl
def joinOf (n : Int) (a : List Int) (m : Int) (b : List Int) : Int :=
  if chkOf n a ≠ 0 then chkOf n a else if chkOf m b ≠ 0 then chkOf m b else if 8192 < n + m then 8 else 0
def jn (n : Int) (a : List Int) (m : Int) (b : List Int) : Int × List Int × Int :=
  if joinOf n a m b ≠ 0 then (0, [], joinOf n a m b) else (n + m, pk (bl a n.toNat ++ bl b m.toNat), 0)
def I64 (n : Int) : Prop := -9223372036854775808 ≤ n ∧ n < 9223372036854775808
theorem join_eq {F : Nat} (hF : 20000 ≤ F) {n m : Int} {a b : List Int} (ha : U8s a) (hb : U8s b) (hn : I64 n) (hm : I64 m) (la : a.length ≤ 9223372036854775807) (lb : b.length ≤ 9223372036854775807) : M_bits_Join F n a m b = some (jn n a m b) := by
  unfold M_bits_Join jn joinOf
  rw [check_eq ha hn.1 hn.2 la]
  simp only [Option.bind_some]
  by_cases h1 : chkOf n a = 0
  · obtain ⟨n', rfl, oa⟩ := chkOf_ok h1
    have hb1 : (chkOf (n' : Int) a == 0) = true := by simp [h1]
    rw [if_pos hb1, check_eq hb hm.1 hm.2 lb]
    simp only [Option.bind_some]
    unfold M_bits_Join_j1
    by_cases h2 : chkOf m b = 0
    · obtain ⟨m', rfl, ob⟩ := chkOf_ok h2
      have e1 : iadd .i64 (n' : Int) (m' : Int) = (n' : Int) + (m' : Int) := by
        have := oa.max; have := ob.max
        exact iadd_i64 (by omega) (by omega)
      rw [e1, h1, h2]
      by_cases h3 : (8192 : Int) < (n' : Int) + (m' : Int)
      · simp [h3, M_bits_Join_j2]
      · simp only [h3, beq_self_eq_true, decide_false, Bool.and_false, Bool.false_eq_true, if_false, ne_eq, not_true_eq_false, M_bits_Join_j2, bne_self_eq_false]
        rw [both_eq hF ha hb oa ob]
        simp
    · have hb2 : (chkOf m b == 0) = false := by simpa using h2
      have hb3 : (chkOf m b != 0) = true := by simpa using h2
      rw [hb2]
      simp only [Bool.false_and, Bool.false_eq_true, if_false, M_bits_Join_j2, hb3, if_true, h1, ne_eq, not_true_eq_false, h2, not_false_eq_true]
  · have hb1 : (chkOf n a == 0) = false := by simpa using h1
    have hb3 : (chkOf n a != 0) = true := by simpa using h1
    rw [hb1]
    simp only [Bool.false_eq_true, if_false, M_bits_Join_j1, hb1, Bool.false_and, M_bits_Join_j2, hb3, if_true, ne_eq, h1, not_false_eq_true]
theorem pk_getD {l : List Int} {k : Nat} (hk : k < (l.length + 7) / 8) : (pk l).getD k 0 = byt l k := by
  unfold pk
  simp [List.getD, hk]
theorem pk_u8 {l : List Int} (h : Bit l) : U8s (pk l) := by
  intro x hx
  obtain ⟨k, _, rfl⟩ := List.mem_map.1 hx
  exact byt_range h k
theorem pk_len (l : List Int) : (pk l).length = (l.length + 7) / 8 := by simp [pk]
theorem ok_pk {l : List Int} (hm : l.length ≤ 8192) : Ok l.length (pk l) where
  max := hm
  len := pk_len l
  low := fun h => by
    rw [pk_getD (by omega)]
    exact byt_low
theorem bitAt_pk {l : List Int} (h : Bit l) {i : Nat} (hi : i < l.length) : bitAt (pk l) i = l.getD i 0 := by
  obtain ⟨k, hk⟩ : ∃ k, k = i / 8 := ⟨_, rfl⟩
  obtain ⟨r, hr⟩ : ∃ r, r = i % 8 := ⟨_, rfl⟩
  have hl : i = 8 * k + r := by omega
  have hr8 : r < 8 := by omega
  obtain ⟨c0, c1, c2, c3, c4, c5, c6, c7⟩ := bitAt_8 (pk l) k
  have hb : (pk l).getD k 0 = byt l k := pk_getD (by omega)
  rw [hb] at c0 c1 c2 c3 c4 c5 c6 c7
  have hbd : ∀ q, 0 ≤ l.getD q 0 ∧ l.getD q 0 ≤ 1 := fun q => by have := h.getD q; omega
  have h0 := hbd (8 * k); have h1 := hbd (8 * k + 1); have h2 := hbd (8 * k + 2); have h3 := hbd (8 * k + 3)
  have h4 := hbd (8 * k + 4); have h5 := hbd (8 * k + 5); have h6 := hbd (8 * k + 6); have h7 := hbd (8 * k + 7)
  clear hbd hb
  unfold byt at c0 c1 c2 c3 c4 c5 c6 c7
  rcases (by omega : r = 0 ∨ r = 1 ∨ r = 2 ∨ r = 3 ∨ r = 4 ∨ r = 5 ∨ r = 6 ∨ r = 7) with rfl | rfl | rfl | rfl | rfl | rfl | rfl | rfl
  · rw [hl, Nat.add_zero, c0]; clear c0 c1 c2 c3 c4 c5 c6 c7; generalize l.getD (8 * k) 0 = y0 at *; generalize l.getD (8 * k + 1) 0 = y1 at *; generalize l.getD (8 * k + 2) 0 = y2 at *; generalize l.getD (8 * k + 3) 0 = y3 at *; generalize l.getD (8 * k + 4) 0 = y4 at *; generalize l.getD (8 * k + 5) 0 = y5 at *; generalize l.getD (8 * k + 6) 0 = y6 at *; generalize l.getD (8 * k + 7) 0 = y7 at *; clear h hi hl hr hk hr8; omega
  · rw [hl, c1]; clear c0 c1 c2 c3 c4 c5 c6 c7; generalize l.getD (8 * k) 0 = y0 at *; generalize l.getD (8 * k + 1) 0 = y1 at *; generalize l.getD (8 * k + 2) 0 = y2 at *; generalize l.getD (8 * k + 3) 0 = y3 at *; generalize l.getD (8 * k + 4) 0 = y4 at *; generalize l.getD (8 * k + 5) 0 = y5 at *; generalize l.getD (8 * k + 6) 0 = y6 at *; generalize l.getD (8 * k + 7) 0 = y7 at *; clear h hi hl hr hk hr8; omega
  · rw [hl, c2]; clear c0 c1 c2 c3 c4 c5 c6 c7; generalize l.getD (8 * k) 0 = y0 at *; generalize l.getD (8 * k + 1) 0 = y1 at *; generalize l.getD (8 * k + 2) 0 = y2 at *; generalize l.getD (8 * k + 3) 0 = y3 at *; generalize l.getD (8 * k + 4) 0 = y4 at *; generalize l.getD (8 * k + 5) 0 = y5 at *; generalize l.getD (8 * k + 6) 0 = y6 at *; generalize l.getD (8 * k + 7) 0 = y7 at *; clear h hi hl hr hk hr8; omega
  · rw [hl, c3]; clear c0 c1 c2 c3 c4 c5 c6 c7; generalize l.getD (8 * k) 0 = y0 at *; generalize l.getD (8 * k + 1) 0 = y1 at *; generalize l.getD (8 * k + 2) 0 = y2 at *; generalize l.getD (8 * k + 3) 0 = y3 at *; generalize l.getD (8 * k + 4) 0 = y4 at *; generalize l.getD (8 * k + 5) 0 = y5 at *; generalize l.getD (8 * k + 6) 0 = y6 at *; generalize l.getD (8 * k + 7) 0 = y7 at *; clear h hi hl hr hk hr8; omega
  · rw [hl, c4]; clear c0 c1 c2 c3 c4 c5 c6 c7; generalize l.getD (8 * k) 0 = y0 at *; generalize l.getD (8 * k + 1) 0 = y1 at *; generalize l.getD (8 * k + 2) 0 = y2 at *; generalize l.getD (8 * k + 3) 0 = y3 at *; generalize l.getD (8 * k + 4) 0 = y4 at *; generalize l.getD (8 * k + 5) 0 = y5 at *; generalize l.getD (8 * k + 6) 0 = y6 at *; generalize l.getD (8 * k + 7) 0 = y7 at *; clear h hi hl hr hk hr8; omega
  · rw [hl, c5]; clear c0 c1 c2 c3 c4 c5 c6 c7; generalize l.getD (8 * k) 0 = y0 at *; generalize l.getD (8 * k + 1) 0 = y1 at *; generalize l.getD (8 * k + 2) 0 = y2 at *; generalize l.getD (8 * k + 3) 0 = y3 at *; generalize l.getD (8 * k + 4) 0 = y4 at *; generalize l.getD (8 * k + 5) 0 = y5 at *; generalize l.getD (8 * k + 6) 0 = y6 at *; generalize l.getD (8 * k + 7) 0 = y7 at *; clear h hi hl hr hk hr8; omega
  · rw [hl, c6]; clear c0 c1 c2 c3 c4 c5 c6 c7; generalize l.getD (8 * k) 0 = y0 at *; generalize l.getD (8 * k + 1) 0 = y1 at *; generalize l.getD (8 * k + 2) 0 = y2 at *; generalize l.getD (8 * k + 3) 0 = y3 at *; generalize l.getD (8 * k + 4) 0 = y4 at *; generalize l.getD (8 * k + 5) 0 = y5 at *; generalize l.getD (8 * k + 6) 0 = y6 at *; generalize l.getD (8 * k + 7) 0 = y7 at *; clear h hi hl hr hk hr8; omega
  · rw [hl, c7]; clear c0 c1 c2 c3 c4 c5 c6 c7; generalize l.getD (8 * k) 0 = y0 at *; generalize l.getD (8 * k + 1) 0 = y1 at *; generalize l.getD (8 * k + 2) 0 = y2 at *; generalize l.getD (8 * k + 3) 0 = y3 at *; generalize l.getD (8 * k + 4) 0 = y4 at *; generalize l.getD (8 * k + 5) 0 = y5 at *; generalize l.getD (8 * k + 6) 0 = y6 at *; generalize l.getD (8 * k + 7) 0 = y7 at *; clear h hi hl hr hk hr8; omega
theorem bl_pk {l : List Int} (h : Bit l) : bl (pk l) l.length = l := by
  apply List.ext_getElem?
  intro i
  by_cases hi : i < l.length
  · have h1 : (bl (pk l) l.length)[i]? = some (bitAt (pk l) i) := by simp [bl, hi]
    rw [h1, bitAt_pk h hi]
    simp [List.getD, hi]
  · rw [List.getElem?_eq_none (by rw [bl_len]; omega), List.getElem?_eq_none (by omega)]
theorem same_l (F : Nat) {xs ys : List Int} (hl : xs.length = ys.length) (hm : xs.length ≤ 9223372036854775807) : ∀ (k i : Nat), xs.length < k + i → i ≤ xs.length →
    M_R_SameBytes_l3 F xs ys k (i : Int) = some (decide (xs.drop i = ys.drop i))
  | 0, i, h, _ => by omega
  | k + 1, i, h, hi => by
    show M_R_SameBytes_b3 F xs ys (M_R_SameBytes_l3 F xs ys k) i = _
    unfold M_R_SameBytes_b3
    by_cases hlt : i < xs.length
    · have hlt' : (i : Int) < (xs.length : Int) := by omega
      have hlt2 : i < ys.length := by omega
      have hg : xs[i]? = some xs[i] := by simp [hlt]
      have hg2 : ys[i]? = some ys[i] := by simp [hlt2]
      simp only [hlt', decide_true, if_true, idx_nat, hg, hg2, Option.bind_some]
      have e : (xs.drop i = ys.drop i) ↔ (xs[i] = ys[i] ∧ xs.drop (i + 1) = ys.drop (i + 1)) := by
        rw [List.drop_eq_getElem_cons hlt, List.drop_eq_getElem_cons hlt2, List.cons.injEq]
      simp only [e]
      by_cases he : xs[i] = ys[i]
      · simp only [he, bne_self_eq_false, Bool.false_eq_true, if_false, true_and]
        rw [iadd_i64 (by omega) (by omega), show (i : Int) + 1 = ((i + 1 : Nat) : Int) from by omega, same_l F hl hm k (i + 1) (by omega) (by omega)]
      · have : (xs[i] != ys[i]) = true := by simpa using he
        simp only [this, if_true, he, false_and, decide_false]
    · have hlt' : ¬ (i : Int) < (xs.length : Int) := by omega
      simp only [hlt', decide_false, Bool.false_eq_true, if_false]
      rw [List.drop_eq_nil_of_le (by omega), List.drop_eq_nil_of_le (by omega)]
      rfl
theorem sameBytes_eq {F : Nat} {xs ys : List Int} (hF : xs.length < F) (hm : xs.length ≤ 9223372036854775807) : M_R_SameBytes F xs ys = some (decide (xs = ys)) := by
  unfold M_R_SameBytes
  by_cases hl : xs.length = ys.length
  · have : (((xs.length : Int) : Int) != (ys.length : Int)) = false := by simp [hl]
    simp only [this, Bool.false_eq_true, if_false]
    have := same_l F hl hm F 0 (by omega) (by omega)
    simpa using this
  · have : (((xs.length : Int) : Int) != (ys.length : Int)) = true := by simp; omega
    simp only [this, if_true]
    have : xs ≠ ys := fun e => hl (by rw [e])
    simp [this]
theorem sameBits_eq {F : Nat} {n m : Int} {xs ys : List Int} (hF : xs.length < F) (hm : xs.length ≤ 9223372036854775807) : M_R_SameBits F n xs m ys = some (decide (n = m ∧ xs = ys)) := by
  unfold M_R_SameBits
  by_cases h : n = m
  · have hb : (n == m) = true := by simp [h]
    rw [if_pos hb, sameBytes_eq hF hm]
    simp [M_R_SameBits_j1, h]
  · have hb : (n == m) = false := by simpa using h
    rw [hb]
    simp [M_R_SameBits_j1, h]
theorem chkOf_of_ok {n : Nat} {b : List Int} (h : Ok n b) : chkOf (n : Int) b = 0 := by
  unfold chkOf
  have := h.max
  have := h.len
  rw [if_neg (by omega), if_neg (by omega), if_neg]
  rintro ⟨h1, h2⟩
  rw [Int.toNat_natCast] at h2
  exact h2 (h.low (by omega))
theorem bit_app {l k : List Int} (h : Bit l) (h2 : Bit k) : Bit (l ++ k) := by
  intro x hx
  rcases List.mem_append.1 hx with h3 | h3
  · exact h x h3
  · exact h2 x h3
theorem begun_bits' {F : Nat} (hF : 20000 ≤ F) : M_L_bitsBegun F = some true := by
  obtain ⟨n, rfl⟩ : ∃ n, F = n + 200 := ⟨F - 200, by omega⟩
  exact begun_bits n
theorem two64 : (2 : Nat) ^ 64 = 18446744073709551616 := by decide
theorem ishr_n {n k : Nat} (hn : n < 18446744073709551616) : ishr .u64 (n : Int) (k : Int) = ((n / 2 ^ k : Nat) : Int) := by
  unfold ishr
  rw [Int.fdiv_eq_ediv_of_nonneg _ (by exact_mod_cast Nat.zero_le _), Int.toNat_natCast]
  simp only [IntKind.bits]
  by_cases h : k ≤ 64
  · rw [Nat.min_eq_left h]; norm_cast
  · rw [Nat.min_eq_right (by omega)]
    have h1 : n / 2 ^ 64 = 0 := Nat.div_eq_of_lt (by omega)
    have h2 : n / 2 ^ k = 0 := Nat.div_eq_of_lt (Nat.lt_of_lt_of_le hn (by rw [← two64]; exact Nat.pow_le_pow_right (by decide) (by omega)))
    rw [h2]
    have : ((n : Int) / 2 ^ 64) = ((n / 2 ^ 64 : Nat) : Int) := by norm_cast
    rw [this, h1]
theorem iand1_n {n : Nat} (hn : n < 18446744073709551616) : iand .u64 (n : Int) 1 = ((n % 2 : Nat) : Int) := by
  have e := iand_mask (k := .u64) (a := (n : Int)) (m := 1) (by omega) (by simp only [IntKind.bits]; rw [show (2 : Int) ^ 64 = 18446744073709551616 from by decide]; omega) (by decide) rfl
  rw [show ((2 ^ 1 - 1 : Nat) : Int) = 1 from rfl, show (2 : Int) ^ 1 = 2 from rfl] at e
  rw [e]; omega
theorem ishl_n {n k : Nat} (hk : k ≤ 64) : ishl .u64 (n : Int) (k : Int) = ((n * 2 ^ k % 18446744073709551616 : Nat) : Int) := by
  rw [ishl_u64 hk, Int.natCast_emod, Int.natCast_mul, Int.natCast_pow]; rfl
theorem ior_n {a b m : Nat} (ha : a < 2 ^ m) (hb : b % 2 ^ m = 0) (h : a + b < 18446744073709551616) : ior .u64 (b : Int) (a : Int) = ((b + a : Nat) : Int) := by
  rw [ior_comm, ior_add (m := m) (by omega) (by exact_mod_cast ha) (by omega) (by exact_mod_cast hb) rfl (by simp only [IntKind.bits]; rw [show (2 : Int) ^ 64 = 18446744073709551616 from by decide]; omega)]
  omega
theorem iadd_n {a b : Nat} (h : a + b < 9223372036854775808) : iadd .i64 (a : Int) (b : Int) = ((a + b : Nat) : Int) := by rw [iadd_i64 (by omega) (by omega)]; omega
theorem iadd1_n {a : Nat} (h : a + 1 < 9223372036854775808) : iadd .i64 (a : Int) 1 = ((a + 1 : Nat) : Int) := by rw [iadd_i64 (by omega) (by omega)]; omega
theorem isub_n {a b : Nat} (h : b ≤ a) (h2 : a < 9223372036854775808) : isub .i64 (a : Int) (b : Int) = ((a - b : Nat) : Int) := by rw [isub_i64 (by omega) (by omega)]; omega
theorem isub1_n {a : Nat} (h : 1 ≤ a) (h2 : a < 9223372036854775808) : isub .i64 (a : Int) 1 = ((a - 1 : Nat) : Int) := by rw [isub_i64 (by omega) (by omega)]; omega
/-- The bits of a number, in so many places, the highest one first. -/
def nb (n : Nat) : Nat → List Int
  | 0 => []
  | w + 1 => ((n / 2 ^ w % 2 : Nat) : Int) :: nb n w
theorem nb_len (n : Nat) : ∀ w, (nb n w).length = w
  | 0 => rfl
  | w + 1 => by simp [nb, nb_len n w]
theorem nb_bit (n : Nat) : ∀ w, Bit (nb n w)
  | 0 => by intro x hx; simp [nb] at hx
  | w + 1 => by
    intro x hx
    rcases List.mem_cons.1 hx with rfl | h
    · omega
    · exact nb_bit n w x h
/-- The number of bits. -/
def bv (l : List Int) : Nat := l.foldl (fun n b => 2 * n + b.toNat) 0
theorem bv_from (l : List Int) : ∀ m, l.foldl (fun n b => 2 * n + b.toNat) m = m * 2 ^ l.length + bv l := by
  induction l with
  | nil => intro m; simp [bv]
  | cons x l ih =>
    intro m
    show l.foldl _ _ = _
    rw [ih]
    show _ = _ + l.foldl _ _
    rw [ih, List.length_cons, Nat.pow_succ]
    generalize 2 ^ l.length = p
    rw [Nat.add_mul, Nat.add_mul]
    have : 2 * m * p = m * (p * 2) := by rw [Nat.mul_comm 2 m, Nat.mul_assoc, Nat.mul_comm 2 p]
    omega
theorem bv_app (l k : List Int) : bv (l ++ k) = bv l * 2 ^ k.length + bv k := by
  unfold bv
  rw [List.foldl_append, bv_from k]; rfl
theorem bv_cons (x : Int) (l : List Int) : bv (x :: l) = x.toNat * 2 ^ l.length + bv l := by
  have := bv_app [x] l
  simpa [bv] using this
theorem bv_lt {l : List Int} (h : Bit l) : bv l < 2 ^ l.length := by
  induction l with
  | nil => simp [bv]
  | cons x l ih =>
    have h1 := ih (fun y hy => h y (List.mem_cons_of_mem _ hy))
    rw [bv_cons, List.length_cons, Nat.pow_succ]
    rcases h x List.mem_cons_self with rfl | rfl
    · simp; omega
    · simp; omega
theorem bv_nb (n : Nat) : ∀ w, bv (nb n w) = n % 2 ^ w
  | 0 => by simp [nb, bv, Nat.mod_one]
  | w + 1 => by
    rw [nb, bv_cons, nb_len, bv_nb n w, Int.toNat_natCast, Nat.pow_succ, Nat.mod_mul, Nat.mul_comm, Nat.add_comm]
theorem nb_app (n a : Nat) : ∀ b, nb n (b + a) = nb (n / 2 ^ a) b ++ nb n a
  | 0 => by simp [nb]
  | b + 1 => by
    rw [show b + 1 + a = (b + a) + 1 from by omega, nb, nb_app n a b, nb, List.cons_append]
    congr 3
    rw [Nat.div_div_eq_div_mul, ← Nat.pow_add, Nat.add_comm]
theorem nb_snoc (n w : Nat) : nb n (w + 1) = nb (n / 2) w ++ [((n % 2 : Nat) : Int)] := by
  have := nb_app n 1 w
  simpa [nb] using this
theorem number_l {F : Nat} {n : Nat} (hn : n < 18446744073709551616) : ∀ (w k : Nat) (l : List Int), w < k → Bit l → l.length + w ≤ 100000 →
    M_bits_writer_number_l1 F (n : Int) k ((w : Int) - 1, (l.length : Int), pk l) = some (((l.length + w : Nat) : Int), pk (l ++ nb n w))
  | _, 0, _, h, _, _ => by omega
  | 0, k + 1, l, _, _, _ => by
    show M_bits_writer_number_b1 F (n : Int) _ (((0 : Nat) : Int) - 1) (l.length : Int) (pk l) = _
    unfold M_bits_writer_number_b1
    rw [if_neg (by simp)]
    simp [nb]
  | w + 1, k + 1, l, h, hl, hm => by
    show M_bits_writer_number_b1 F (n : Int) (M_bits_writer_number_l1 F (n : Int) k) (((w + 1 : Nat) : Int) - 1) (l.length : Int) (pk l) = _
    unfold M_bits_writer_number_b1
    rw [show ((w + 1 : Nat) : Int) - 1 = (w : Int) from by omega, if_pos (by simp)]
    have hc : decide ((0 : Int) ≤ (w : Int)) = true := decide_eq_true (by omega)
    rw [hc]
    simp only [chk, if_true]
    rw [ishr_n hn, iand1_n (by have := Nat.div_le_self n (2 ^ w); omega)]
    have hx : ((n / 2 ^ w % 2 : Nat) : Int) = 0 ∨ ((n / 2 ^ w % 2 : Nat) : Int) = 1 := by omega
    rw [bit_eq hl hx (by omega)]
    simp only [Option.bind_some]
    rw [isub_i64 (by omega) (by omega)]
    have := number_l (F := F) hn w k (l ++ [((n / 2 ^ w % 2 : Nat) : Int)]) (by omega) (bit_app hl (by intro y hy; simp only [List.mem_singleton] at hy; rw [hy]; exact hx)) (by simp; omega)
    rw [show (l ++ [((n / 2 ^ w % 2 : Nat) : Int)]).length = l.length + 1 from by simp] at this
    rw [this, List.append_assoc, show l.length + 1 + w = l.length + (w + 1) from by omega]
    rfl
theorem number_eq {F : Nat} {n w : Nat} {l : List Int} (hn : n < 18446744073709551616) (hF : w < F) (hl : Bit l) (hm : l.length + w ≤ 100000) :
    M_bits_writer_number F (l.length : Int) (pk l) (n : Int) (w : Int) = some (((l.length + w : Nat) : Int), pk (l ++ nb n w)) := by
  unfold M_bits_writer_number
  rw [isub_i64 (by omega) (by omega)]
  exact number_l hn w F l hF hl hm
theorem add_eq {F : Nat} {n w m : Nat} {b : List Int} (hn : n < 18446744073709551616) (hF : w < F) (hb : U8s b) (ob : Ok m b) (hw : w ≤ 10000) :
    M_bits_Add F (m : Int) b (n : Int) (w : Int) = some (((m + w : Nat) : Int), pk (bl b m ++ nb n w)) := by
  unfold M_bits_Add
  have := ob.max
  rw [own_eq (by rw [ob.len]; omega)]
  simp only [Option.bind_some]
  have h := number_eq (F := F) (l := bl b m) hn hF (bl_bit _ _) (by rw [bl_len]; omega)
  rw [bl_len, pk_bl hb ob] at h
  rw [h]; rfl
def U64 (n : Int) : Prop := 0 ≤ n ∧ n < 18446744073709551616
theorem bl_get {b : List Int} {n i : Nat} (h : i < n) : (bl b n)[i]? = some (bitAt b i) := by simp [bl, h]
theorem read_l {F : Nat} {n : Int} {m a w : Nat} {b : List Int} (hb : U8s b) (hlen : m ≤ 8 * b.length) (hm : m ≤ 10000) (ha : a + w ≤ m) (hw : w ≤ 64) : ∀ (k i v : Nat), w < k + i → i ≤ w → v < 2 ^ i →
    M_bits_Read_l3 F n b (a : Int) (w : Int) k ((v : Int), (i : Int)) = some (((v * 2 ^ (w - i) + bv (((bl b m).drop (a + i)).take (w - i)) : Nat) : Int), true)
  | 0, _, _, _, _, _ => by omega
  | k + 1, i, v, h, hi, hv => by
    show M_bits_Read_b3 F n b (a : Int) (w : Int) (M_bits_Read_l3 F n b (a : Int) (w : Int) k) (v : Int) (i : Int) = _
    unfold M_bits_Read_b3
    by_cases hlt : i < w
    · rw [if_pos (by simp; omega), iadd_n (by omega), at_eq hb (by omega) (by omega)]
      simp only [Option.bind_some]
      have hx := bitAt_bit b (a + i)
      have hv64 : 2 * v + 1 < 18446744073709551616 := by
        have : 2 ^ (i + 1) ≤ 2 ^ 64 := Nat.pow_le_pow_right (by decide) (by omega)
        rw [Nat.pow_succ, two64] at this
        omega
      obtain ⟨x, hxe⟩ : ∃ x : Nat, bitAt b (a + i) = (x : Int) := Int.eq_ofNat_of_zero_le (by omega)
      have hx1 : x < 2 := by omega
      have e1 : ishl .u64 (v : Int) 1 = ((v * 2 : Nat) : Int) := by
        have := ishl_n (n := v) (k := 1) (by decide)
        rw [show ((1 : Nat) : Int) = 1 from rfl] at this
        rw [this]; omega
      have e2 : ior .u64 ((v * 2 : Nat) : Int) (x : Int) = ((v * 2 + x : Nat) : Int) := ior_n (m := 1) (by omega) (by omega) (by omega)
      rw [hxe, e1, e2, iadd1_n (by omega)]
      rw [read_l hb hlen hm ha hw k (i + 1) (v * 2 + x) (by omega) (by omega) (by rw [Nat.pow_succ]; omega)]
      have hd : ((bl b m).drop (a + i)).take (w - i) = (x : Int) :: ((bl b m).drop (a + (i + 1))).take (w - (i + 1)) := by
        rw [List.drop_eq_getElem_cons (by rw [bl_len]; omega), show w - i = (w - (i + 1)) + 1 from by omega, List.take_succ_cons, show a + i + 1 = a + (i + 1) from by omega]
        congr 1
        have := bl_get (b := b) (n := m) (i := a + i) (by omega)
        rw [List.getElem?_eq_getElem (by rw [bl_len]; omega)] at this
        rw [← hxe]; exact Option.some.inj this
      rw [hd, bv_cons, Int.toNat_natCast]
      have hl : (((bl b m).drop (a + (i + 1))).take (w - (i + 1))).length = w - (i + 1) := by simp [bl_len]; omega
      rw [hl, show w - i = (w - (i + 1)) + 1 from by omega, Nat.pow_succ, Nat.add_mul]
      congr 3
      rw [Nat.mul_assoc, Nat.mul_comm 2, Nat.add_assoc]
    · rw [if_neg (by simp; omega)]
      rw [show w - i = 0 from by omega]
      simp [M_bits_Read_j2, bv]
theorem read_eq {F : Nat} {m a w : Nat} {b : List Int} (hF : 100 ≤ F) (hb : U8s b) (ob : Ok m b) (ha : a ≤ m) (hw : w ≤ 64) :
    M_bits_Read F (m : Int) b (a : Int) (w : Int) = some (if a + w ≤ m then (((bv (((bl b m).drop a).take w) : Nat) : Int), true) else (0, false)) := by
  unfold M_bits_Read
  have hmx := ob.max
  rw [isub_n ha (by omega)]
  by_cases h : a + w ≤ m
  · rw [if_neg (by simp; omega), if_pos h]
    have := read_l (F := F) (n := (m : Int)) (m := m) (a := a) (w := w) hb (by rw [ob.len]; omega) (by omega) h hw F 0 0 (by omega) (by omega) (by decide)
    simpa using this
  · rw [if_pos (by simp; omega), if_neg h]
theorem iconv_i64_n {n : Nat} (h : n < 9223372036854775808) : iconv .i64 (n : Int) = (n : Int) := wrap_i64 (by omega) (by omega)
theorem iconv_u64_n {n : Nat} (h : n < 18446744073709551616) : iconv .u64 (n : Int) = (n : Int) := wrap_u64 (by omega) (by omega)
theorem bit_n {l : List Int} (h : Bit l) {i : Nat} (hi : i < l.length) : ∃ x : Nat, l[i]? = some (x : Int) ∧ x < 2 := by
  have := h l[i] (List.getElem_mem hi)
  obtain ⟨x, hx⟩ := Int.eq_ofNat_of_zero_le (show 0 ≤ l[i] by omega)
  exact ⟨x, by rw [List.getElem?_eq_getElem hi, hx], by omega⟩
theorem bit_drop {l : List Int} (h : Bit l) (i : Nat) : Bit (l.drop i) := fun x hx => h x (List.mem_of_mem_drop hx)
theorem bit_take {l : List Int} (h : Bit l) (i : Nat) : Bit (l.take i) := fun x hx => h x (List.mem_of_mem_take hx)
theorem chk_form {n : Int} {b : List Int} (hb : U8s b) : chkOf n b ≠ 0 ∨ ∃ l : List Int, Bit l ∧ l.length ≤ 8192 ∧ n = (l.length : Int) ∧ b = pk l := by
  by_cases h : chkOf n b = 0
  · obtain ⟨m, rfl, ob⟩ := chkOf_ok h
    exact .inr ⟨bl b m, bl_bit _ _, by rw [bl_len]; exact ob.max, by rw [bl_len], (pk_bl hb ob).symm⟩
  · exact .inl h
theorem chk_pk {l : List Int} (hm : l.length ≤ 8192) : chkOf (l.length : Int) (pk l) = 0 := chkOf_of_ok (ok_pk hm)
theorem jn_bad2 {n m : Int} {a b : List Int} (h0 : chkOf n a = 0) (h : chkOf m b ≠ 0) : jn n a m b = (0, [], chkOf m b) := by
  unfold jn joinOf; simp [h0, h]
theorem jn_form {l k : List Int} (hl : Bit l) (hk : Bit k) (h1 : l.length ≤ 8192) (h2 : k.length ≤ 8192) :
    jn (l.length : Int) (pk l) (k.length : Int) (pk k) = if l.length + k.length ≤ 8192 then (((l ++ k).length : Int), pk (l ++ k), 0) else (0, [], 8) := by
  by_cases h : l.length + k.length ≤ 8192
  · have e : joinOf (l.length : Int) (pk l) (k.length : Int) (pk k) = 0 := by
      unfold joinOf; rw [chk_pk h1, chk_pk h2, if_neg (by simp), if_neg (by simp), if_neg (by omega)]
    unfold jn
    rw [e, if_pos h, if_neg (by simp), Int.toNat_natCast, Int.toNat_natCast, bl_pk hl, bl_pk hk]; simp
  · have e : joinOf (l.length : Int) (pk l) (k.length : Int) (pk k) = 8 := by
      unfold joinOf; rw [chk_pk h1, chk_pk h2, if_neg (by simp), if_neg (by simp), if_pos (by omega)]
    unfold jn
    rw [e, if_neg h, if_pos (by decide)]
theorem i64_len {l : List Int} (h : l.length ≤ 8192) : I64 (l.length : Int) := ⟨by omega, by omega⟩
theorem pk_len9 {l : List Int} (h : l.length ≤ 8192) : (pk l).length ≤ 9223372036854775807 := by rw [pk_len]; omega
theorem pk_nil : pk [] = [] := rfl
theorem same_self {F : Nat} {n : Int} {xs : List Int} (hF : xs.length < F) (hm : xs.length ≤ 1000000) : M_R_SameBits F n xs n xs = some true := by
  rw [sameBits_eq hF (by omega)]; simp
def un (n : Nat) : List Int := List.replicate n 0 ++ [1]
theorem un_len (n : Nat) : (un n).length = n + 1 := by simp [un]
theorem bit_rep (n : Nat) : Bit (List.replicate n 0) := by intro x hx; left; exact (List.mem_replicate.1 hx).2
theorem bit_one : Bit [1] := by intro x hx; right; simpa using hx
theorem un_bit (n : Nat) : Bit (un n) := bit_app (bit_rep n) bit_one
theorem pk_rep (n : Nat) : pk (List.replicate n 0) = List.replicate ((n + 7) / 8) 0 := by
  unfold pk
  rw [List.length_replicate]
  apply List.ext_getElem?
  intro k
  by_cases hk : k < (n + 7) / 8
  · have hz : ∀ i, (List.replicate n (0 : Int)).getD i 0 = 0 := by
      intro i
      by_cases h : i < n
      · simp [List.getD, h]
      · exact getD_ge (by simp; omega)
    rw [List.getElem?_map, List.getElem?_range hk, List.getElem?_replicate, if_pos hk]
    simp only [Option.map_some, byt, hz]
    rfl
  · rw [List.getElem?_eq_none (by simpa using hk), List.getElem?_eq_none (by simpa using hk)]
theorem add_pk {F : Nat} {n w : Nat} {l : List Int} (hn : n < 18446744073709551616) (hF : w < F) (hl : Bit l) (hm : l.length ≤ 8192) (hw : w ≤ 10000) :
    M_bits_Add F (l.length : Int) (pk l) (n : Int) (w : Int) = some (((l ++ nb n w).length : Int), pk (l ++ nb n w)) := by
  rw [add_eq hn hF (pk_u8 hl) (ok_pk hm) hw, bl_pk hl, List.length_append, nb_len]
theorem raw_eq {F n : Nat} (hF : 20000 ≤ F) (hn : n < 8192) : M_unary_Raw F (n : Int) = some (((un n).length : Int), pk (un n)) := by
  unfold M_unary_Raw
  have e : iquo .u64 (iadd .u64 (n : Int) 7) 8 = (((n + 7) / 8 : Nat) : Int) := by
    unfold iquo iadd
    rw [wrap_u64 (n := (n : Int) + 7) (by omega) (by omega), Int.tdiv_eq_ediv_of_nonneg (by omega), wrap_u64 (by omega) (by omega)]
    omega
  rw [e]
  have hmk : mk 140737488355328 (0 : Int) (((n + 7) / 8 : Nat) : Int) = some (pk (List.replicate n 0)) := by
    unfold mk
    rw [if_pos (by omega), Int.toNat_natCast, pk_rep]
  rw [hmk]
  simp only [Option.bind_some]
  rw [iconv_i64_n (by omega)]
  have h := add_pk (F := F) (n := 1) (w := 1) (l := List.replicate n 0) (by decide) (by omega) (bit_rep n) (by simp; omega) (by decide)
  rw [List.length_replicate] at h
  rw [show ((1 : Nat) : Int) = 1 from rfl] at h
  rw [h]
  rfl
/-- How many noughts are ahead of the first 1. -/
def fz : List Int → Option Nat
  | [] => none
  | x :: l => if x = 1 then some 0 else (fz l).map (· + 1)
theorem fz_un (n : Nat) (r : List Int) : fz (un n ++ r) = some n := by
  induction n with
  | zero => simp [un, fz]
  | succ n ih =>
    have : un (n + 1) ++ r = 0 :: (un n ++ r) := by simp [un, List.replicate_succ]
    rw [this, fz, if_neg (by decide), ih]; rfl
theorem fz_lt {l : List Int} {n : Nat} (h : fz l = some n) : n < l.length := by
  induction l generalizing n with
  | nil => simp [fz] at h
  | cons x l ih =>
    unfold fz at h
    split at h
    · simp at h; subst h; simp
    · cases hf : fz l with
      | none => rw [hf] at h; simp at h
      | some m => rw [hf] at h; simp at h; subst h; have := ih hf; simp; omega
theorem at_pk {F : Nat} {m : Int} {l : List Int} (hl : Bit l) (hm : l.length ≤ 90000) {i : Nat} (hi : i < l.length) : M_bits_At F m (pk l) (i : Int) = some l[i] := by
  rw [at_eq (pk_u8 hl) (by rw [pk_len]; omega) (by omega), bitAt_pk hl hi]
  simp [List.getD, hi]
theorem from_l {F : Nat} {l : List Int} (hl : Bit l) (hm : l.length ≤ 8192) (a : Nat) : ∀ (k i : Nat), l.length < k + i → i ≤ l.length → a ≤ i →
    M_unary_From_l3 F (l.length : Int) (pk l) (a : Int) k (i : Int) = some (match fz (l.drop i) with | none => (0, 0, false) | some n => (((i - a + n : Nat) : Int), ((i + n + 1 : Nat) : Int), true))
  | 0, _, _, _, _ => by omega
  | k + 1, i, h, hi, ha => by
    show M_unary_From_b3 F (l.length : Int) (pk l) (a : Int) (M_unary_From_l3 F (l.length : Int) (pk l) (a : Int) k) (i : Int) = _
    unfold M_unary_From_b3
    by_cases hlt : i < l.length
    · rw [if_pos (by simp; omega), at_pk hl (by omega) hlt, List.drop_eq_getElem_cons hlt, fz]
      simp only [Option.bind_some]
      by_cases h1 : l[i] = 1
      · rw [if_pos (by simpa using h1), if_pos h1, isub_n ha (by omega), iconv_u64_n (by omega), iadd1_n (by omega)]
        rfl
      · rw [if_neg (by simpa using h1), if_neg h1, iadd1_n (by omega), from_l hl hm a k (i + 1) (by omega) (by omega) (by omega)]
        cases fz (l.drop (i + 1)) with
        | none => rfl
        | some n =>
          simp only [Option.map_some]
          rw [show i + 1 - a + n = i - a + (n + 1) from by omega, show i + 1 + n + 1 = i + (n + 1) + 1 from by omega]
    · rw [if_neg (by simp; omega), List.drop_eq_nil_of_le (by omega)]
      rfl
theorem from_eq {F : Nat} (hF : 20000 ≤ F) {l : List Int} (hl : Bit l) (hm : l.length ≤ 8192) {a : Nat} (ha : a ≤ l.length) :
    M_unary_From F (l.length : Int) (pk l) (a : Int) = some (match fz (l.drop a) with | none => (0, 0, false) | some n => ((n : Int), ((a + n + 1 : Nat) : Int), true)) := by
  unfold M_unary_From
  have := from_l (F := F) hl hm a F a (by omega) ha (by omega)
  rw [this]
  cases fz (l.drop a) with
  | none => rfl
  | some n => simp only; rw [Nat.sub_self, Nat.zero_add]
/-- What is wrong with bits, and a place. -/
def raOf (m : Int) (b : List Int) (a : Int) : Int := if chkOf m b ≠ 0 then chkOf m b else if a < 0 ∨ m < a then 3 else 0
theorem ra_bad {m a : Int} {b : List Int} (h : chkOf m b ≠ 0) : raOf m b a = chkOf m b := by unfold raOf; rw [if_pos h]
theorem ra_range {l : List Int} {a : Int} (h1 : l.length ≤ 8192) (h : ¬ (0 ≤ a ∧ a ≤ (l.length : Int))) : raOf (l.length : Int) (pk l) a = 3 := by
  unfold raOf; rw [if_neg (by simp [chk_pk h1]), if_pos (by omega)]
theorem ra_form {l : List Int} {a : Nat} (h1 : l.length ≤ 8192) (h : a ≤ l.length) : raOf (l.length : Int) (pk l) (a : Int) = 0 := by
  unfold raOf; rw [if_neg (by simp [chk_pk h1]), if_neg (by omega)]
theorem ra_cases {m a : Int} {b : List Int} (hb : U8s b) : raOf m b a ≠ 0 ∨ ∃ (l : List Int) (i : Nat), Bit l ∧ l.length ≤ 8192 ∧ m = (l.length : Int) ∧ b = pk l ∧ a = (i : Int) ∧ i ≤ l.length := by
  rcases chk_form hb (n := m) with h | ⟨l, hl, hm, rfl, rfl⟩
  · left; rw [ra_bad h]; exact h
  · by_cases h : 0 ≤ a ∧ a ≤ (l.length : Int)
    · obtain ⟨i, rfl⟩ := Int.eq_ofNat_of_zero_le h.1
      exact .inr ⟨l, i, hl, hm, rfl, rfl, rfl, by omega⟩
    · left; rw [ra_range hm h]; decide
/-- How many bits a number has. -/
def len (x : Nat) : Nat := if x = 0 then 0 else x.log2 + 1
theorem len_le {x k : Nat} : len x ≤ k ↔ x < 2 ^ k := by
  unfold len
  by_cases h : x = 0
  · rw [if_pos h, h]; simp [Nat.pow_pos]
  · rw [if_neg h]; exact Nat.log2_lt h
theorem len_unique {x k : Nat} (h1 : x < 2 ^ k) (h2 : k = 0 ∨ 2 ^ (k - 1) ≤ x) : len x = k := by
  have h3 := len_le.2 h1
  rcases h2 with rfl | h2
  · omega
  · by_cases h4 : len x ≤ k - 1
    · have := len_le.1 h4; omega
    · omega
theorem len_lt {x : Nat} : x < 2 ^ len x := len_le.1 (Nat.le_refl _)
theorem len_ge {x : Nat} (h : x ≠ 0) : 2 ^ (len x - 1) ≤ x := by
  have h1 : 1 ≤ len x := by unfold len; rw [if_neg h]; omega
  apply Nat.le_of_not_lt
  intro h2
  have := len_le.2 h2
  omega
theorem len_pos {x : Nat} (h : x ≠ 0) : 1 ≤ len x := by unfold len; rw [if_neg h]; omega
theorem len_shift {x k : Nat} (h : 2 ^ k ≤ x) : len (x / 2 ^ k) + k = len x := by
  have hp : 0 < 2 ^ k := Nat.pow_pos (by decide)
  have hx : x ≠ 0 := by omega
  have hd : x / 2 ^ k ≠ 0 := by
    intro h0
    rw [Nat.div_eq_zero_iff] at h0
    omega
  symm
  apply len_unique
  · rw [Nat.pow_add]
    have := len_lt (x := x / 2 ^ k)
    exact (Nat.div_lt_iff_lt_mul hp).1 this
  · right
    have h1 := len_pos hd
    have := len_ge hd
    rw [show len (x / 2 ^ k) + k - 1 = len (x / 2 ^ k) - 1 + k from by omega, Nat.pow_add]
    exact (Nat.le_div_iff_mul_le hp).1 this
theorem len_tab : ∀ x : Fin 256, ∀ k : Fin 8, M_math_bits_Len64_j3 0 ((x.val : Nat) : Int) ((8 * k.val : Nat) : Int) = some ((len x.val + 8 * k.val : Nat) : Int) := by decide +kernel
theorem len64_3 {F x k : Nat} (hx : x < 256) (hk : k ≤ 56) (h8 : k % 8 = 0) : M_math_bits_Len64_j3 F (x : Int) (k : Int) = some ((len x + k : Nat) : Int) := by
  have h := len_tab ⟨x, hx⟩ ⟨k / 8, by omega⟩
  simp only at h
  rw [show 8 * (k / 8) = k from by omega] at h
  exact h
theorem len64_2 {F x k : Nat} (hx : x < 65536) (hk : k ≤ 48) (h8 : k % 8 = 0) : M_math_bits_Len64_j2 F (x : Int) (k : Int) = some ((len x + k : Nat) : Int) := by
  unfold M_math_bits_Len64_j2
  by_cases h : 256 ≤ x
  · have e := ishr_n (n := x) (k := 8) (by omega)
    rw [show ((8 : Nat) : Int) = 8 from rfl] at e
    have e2 : iadd .i64 (k : Int) 8 = ((k + 8 : Nat) : Int) := by rw [iadd_i64 (by omega) (by omega)]; omega
    rw [if_pos (by simp; omega), e, e2, len64_3 (by omega) (by omega) (by omega), ← len_shift (x := x) (k := 8) (by omega)]
    congr 2; omega
  · rw [if_neg (by simp; omega), len64_3 (by omega) (by omega) (by omega)]
theorem len64_1 {F x k : Nat} (hx : x < 4294967296) (hk : k ≤ 32) (h8 : k % 8 = 0) : M_math_bits_Len64_j1 F (x : Int) (k : Int) = some ((len x + k : Nat) : Int) := by
  unfold M_math_bits_Len64_j1
  by_cases h : 65536 ≤ x
  · have e := ishr_n (n := x) (k := 16) (by omega)
    rw [show ((16 : Nat) : Int) = 16 from rfl] at e
    have e2 : iadd .i64 (k : Int) 16 = ((k + 16 : Nat) : Int) := by rw [iadd_i64 (by omega) (by omega)]; omega
    rw [if_pos (by simp; omega), e, e2, len64_2 (by omega) (by omega) (by omega), ← len_shift (x := x) (k := 16) (by omega)]
    congr 2; omega
  · rw [if_neg (by simp; omega), len64_2 (by omega) (by omega) (by omega)]
theorem len64_eq {F x : Nat} (hx : x < 18446744073709551616) : M_math_bits_Len64 F (x : Int) = some ((len x : Nat) : Int) := by
  unfold M_math_bits_Len64
  by_cases h : 4294967296 ≤ x
  · have e := ishr_n (n := x) (k := 32) (by omega)
    rw [show ((32 : Nat) : Int) = 32 from rfl] at e
    have := len64_1 (F := F) (x := x / 2 ^ 32) (k := 32) (by omega) (by omega) (by omega)
    rw [show ((32 : Nat) : Int) = 32 from rfl] at this
    rw [if_pos (by simp; omega), e, this, len_shift (x := x) (k := 32) (by omega)]
  · have := len64_1 (F := F) (x := x) (k := 0) (by omega) (by omega) (by omega)
    rw [show ((0 : Nat) : Int) = 0 from rfl] at this
    rw [if_neg (by simp; omega), this, Nat.add_zero]
/-- How many bits a number, and one, has behind its highest one. -/
def lg (n : Nat) : Nat := len (n + 1) - 1
theorem lg_le {n : Nat} : 2 ^ lg n ≤ n + 1 := len_ge (by omega)
theorem lg_lt {n : Nat} : n + 1 < 2 ^ (lg n + 1) := by
  have h := len_pos (x := n + 1) (by omega)
  unfold lg
  rw [Nat.sub_add_cancel h]; exact len_lt
theorem lg_small {n : Nat} (h : n ≤ 1099511627776) : lg n ≤ 40 := by
  have : len (n + 1) ≤ 41 := len_le.2 (by omega)
  unfold lg; omega
theorem pow64 {k : Nat} (h : k ≤ 63) : 2 ^ k ≤ 9223372036854775808 := by
  have := Nat.pow_le_pow_right (show 0 < 2 by decide) h
  rwa [show (2 : Nat) ^ 63 = 9223372036854775808 from by decide] at this
theorem shl1_n {k : Nat} (h : k ≤ 63) : ishl .u64 1 (k : Int) = ((2 ^ k : Nat) : Int) := by
  have := ishl_n (n := 1) (k := k) (by omega)
  rw [show ((1 : Nat) : Int) = 1 from rfl] at this
  have hp := pow64 h
  rw [this, Nat.one_mul, Nat.mod_eq_of_lt (by omega)]
theorem usub_n {a b : Nat} (h : b ≤ a) (h2 : a < 18446744073709551616) : isub .u64 (a : Int) (b : Int) = ((a - b : Nat) : Int) := by
  unfold isub; rw [wrap_u64 (by omega) (by omega)]; omega
theorem usub1_n {a : Nat} (h : 1 ≤ a) (h2 : a < 18446744073709551616) : isub .u64 (a : Int) 1 = ((a - 1 : Nat) : Int) := by
  unfold isub; rw [wrap_u64 (by omega) (by omega)]; omega
theorem uadd_n {a b : Nat} (h2 : a + b < 18446744073709551616) : iadd .u64 (a : Int) (b : Int) = ((a + b : Nat) : Int) := by
  unfold iadd; rw [wrap_u64 (by omega) (by omega)]; omega
theorem uadd1_n {a : Nat} (h2 : a + 1 < 18446744073709551616) : iadd .u64 (a : Int) 1 = ((a + 1 : Nat) : Int) := by
  unfold iadd; rw [wrap_u64 (by omega) (by omega)]; omega
theorem read_pk {F a w : Nat} {l : List Int} (hF : 100 ≤ F) (hl : Bit l) (hm : l.length ≤ 8192) (ha : a ≤ l.length) (hw : w ≤ 64) :
    M_bits_Read F (l.length : Int) (pk l) (a : Int) (w : Int) = some (if a + w ≤ l.length then (((bv ((l.drop a).take w) : Nat) : Int), true) else (0, false)) := by
  have := read_eq hF (pk_u8 hl) (ok_pk hm) ha hw
  rwa [bl_pk hl] at this
theorem eCheck_eq {F : Nat} {m a : Int} {b : List Int} (hb : U8s b) (hm : I64 m) (lb : b.length ≤ 9223372036854775807) : M_elias_Check F m b a = some (raOf m b a) := by
  unfold M_elias_Check raOf
  rw [check_eq hb hm.1 hm.2 lb]
  simp only [Option.bind_some]
  by_cases h1 : chkOf m b = 0
  · rw [if_pos (by simpa using h1), if_neg (by simp [h1])]
    simp only [M_elias_Check_j3, M_elias_Check_j2]
    by_cases h : a < 0 ∨ m < a
    · rw [if_pos h, if_pos (by simp; omega)]
    · rw [if_neg h, if_neg (by simp; omega), h1]
  · rw [if_neg (by simpa using h1), if_pos h1]
    rfl
def sh (m : Nat) : Nat := len (m - 1)
def dd (m : Nat) : Nat := 2 ^ sh m - m
theorem sh_le {m : Nat} (h : 1 ≤ m) : m ≤ 2 ^ sh m := by have := len_lt (x := m - 1); unfold sh; omega
theorem sh_63 {m : Nat} (h : m ≤ 9223372036854775808) : sh m ≤ 63 := len_le.2 (by rw [show (2 : Nat) ^ 63 = 9223372036854775808 from by decide]; omega)
theorem sh_ge {m : Nat} (h : 2 ≤ m) : 1 ≤ sh m ∧ 2 ^ (sh m - 1) < m := by
  have h1 := len_pos (x := m - 1) (by omega)
  have h2 := len_ge (x := m - 1) (by omega)
  unfold sh; omega
theorem sh_1 : sh 1 = 0 := rfl
theorem dd_add {m : Nat} (h : 1 ≤ m) : m + dd m = 2 ^ sh m := by have := sh_le h; unfold dd; omega
theorem dd_lt {m : Nat} (h : 1 ≤ m) (hd : 0 < dd m) : 1 ≤ sh m ∧ dd m < 2 ^ (sh m - 1) := by
  by_cases h2 : 2 ≤ m
  · obtain ⟨h3, h4⟩ := sh_ge h2
    have h5 := dd_add h
    have h6 : 2 ^ sh m = 2 * 2 ^ (sh m - 1) := by rw [← Nat.pow_succ']; congr 1; omega
    omega
  · obtain rfl : m = 1 := by omega
    simp [dd, sh_1] at hd
theorem shape_eq {F m : Nat} (h : 1 ≤ m) (h2 : m ≤ 9223372036854775808) : M_golomb_shape F (m : Int) = some ((sh m : Int), (dd m : Int)) := by
  unfold M_golomb_shape
  have h63 := sh_63 h2
  have hl := sh_le h
  rw [usub1_n h (by omega), len64_eq (by omega)]
  simp only [Option.bind_some]
  have hc : decide ((0 : Int) ≤ ((len (m - 1) : Nat) : Int)) = true := decide_eq_true (by omega)
  rw [hc]
  simp only [chk, if_true]
  have hp := pow64 h63
  have e := shl1_n h63
  unfold sh at e hl hp
  rw [e, usub_n hl (by omega)]
  rfl
def le (n m : Nat) : List Int := if n < dd m then nb n (sh m - 1) else nb (n + dd m) (sh m)
theorem le_bit (n m : Nat) : Bit (le n m) := by unfold le; split <;> exact nb_bit _ _
theorem le_len (n m : Nat) : (le n m).length = if n < dd m then sh m - 1 else sh m := by unfold le; split <;> exact nb_len _ _
theorem addLeast_eq {F n m : Nat} {l : List Int} (hF : 20000 ≤ F) (hl : Bit l) (hlm : l.length ≤ 8192) (hm : m ≤ 9223372036854775808) (hn : n < m) :
    M_golomb_addLeast F (l.length : Int) (pk l) (n : Int) (m : Int) = some (((l ++ le n m).length : Int), pk (l ++ le n m)) := by
  unfold M_golomb_addLeast le
  have h63 := sh_63 hm
  have ha := dd_add (m := m) (by omega)
  have hp := pow64 h63
  rw [shape_eq (by omega) hm]
  simp only [Option.bind_some]
  by_cases h : n < dd m
  · obtain ⟨h1, h2⟩ := dd_lt (m := m) (by omega) (by omega)
    rw [if_pos (by simp; omega), if_pos h, isub1_n h1 (by omega), add_pk (by omega) (by omega) hl hlm (by omega)]
    rfl
  · rw [if_neg (by simp; omega), if_neg h, uadd_n (by omega), add_pk (by omega) (by omega) hl hlm (by omega)]
    rfl
/-- The number of a least code, and the place behind it. -/
def flR (l : List Int) (a m : Nat) : Option (Nat × Nat) := if a + sh m ≤ l.length then some (bv ((l.drop a).take (sh m)) - dd m, a + sh m) else none
def flOf (l : List Int) (a m : Nat) : Option (Nat × Nat) :=
  if 0 < dd m then (if a + (sh m - 1) ≤ l.length then (if bv ((l.drop a).take (sh m - 1)) < dd m then some (bv ((l.drop a).take (sh m - 1)), a + (sh m - 1)) else flR l a m) else none) else flR l a m
theorem take_snoc_bv {l : List Int} (hl : Bit l) {a s : Nat} (hs : 1 ≤ s) (h : a + s ≤ l.length) : ∃ x, x < 2 ∧ bv ((l.drop a).take s) = 2 * bv ((l.drop a).take (s - 1)) + x := by
  obtain ⟨x, hx, hx2⟩ := bit_n (bit_drop hl a) (i := s - 1) (by simp; omega)
  refine ⟨x, hx2, ?_⟩
  have : (l.drop a).take s = (l.drop a).take (s - 1) ++ [(x : Int)] := by
    have h1 : s = (s - 1) + 1 := by omega
    conv => lhs; rw [h1, List.take_add_one, hx]
    rfl
  rw [this, bv_app]
  simp [bv]
  omega
theorem fl_lt {l : List Int} (hl : Bit l) {a m n q : Nat} (hm : 1 ≤ m) (h : flOf l a m = some (n, q)) : n < m ∧ q ≤ l.length := by
  have hR : flR l a m = some (n, q) → n < m ∧ q ≤ l.length := by
    intro h
    unfold flR at h
    split at h
    · rename_i h1
      simp only [Option.some.injEq, Prod.mk.injEq] at h
      have := bv_lt (bit_take (bit_drop hl a) (sh m))
      rw [List.length_take, List.length_drop, Nat.min_eq_left (by omega)] at this
      have := dd_add hm
      omega
    · simp at h
  unfold flOf at h
  split at h
  · rename_i h0
    split at h
    · split at h
      · simp only [Option.some.injEq, Prod.mk.injEq] at h
        have h1 := dd_lt hm h0
        have h2 := dd_add hm
        have h6 : 2 ^ sh m = 2 * 2 ^ (sh m - 1) := by rw [← Nat.pow_succ']; congr 1; omega
        omega
      · exact hR h
    · simp at h
  · exact hR h
theorem fromLeast_eq {F a m : Nat} {l : List Int} (hF : 20000 ≤ F) (hl : Bit l) (hlm : l.length ≤ 8192) (ha : a ≤ l.length) (hm1 : 1 ≤ m) (hm : m ≤ 9223372036854775808) :
    match flOf l a m with
    | none => ∃ x y, M_golomb_fromLeast F (l.length : Int) (pk l) (a : Int) (m : Int) = some (x, y, false)
    | some p => M_golomb_fromLeast F (l.length : Int) (pk l) (a : Int) (m : Int) = some ((p.1 : Int), (p.2 : Int), true) := by
  have h63 := sh_63 hm
  have hadd := dd_add hm1
  have hp := pow64 h63
  have hj1 : (0 < dd m → ¬ bv ((l.drop a).take (sh m - 1)) < dd m) → match flR l a m with
      | none => ∃ x y, M_golomb_fromLeast_j1 F (l.length : Int) (pk l) (a : Int) ((sh m : Int), (dd m : Int)) = some (x, y, false)
      | some p => M_golomb_fromLeast_j1 F (l.length : Int) (pk l) (a : Int) ((sh m : Int), (dd m : Int)) = some ((p.1 : Int), (p.2 : Int), true) := by
    intro hge
    unfold flR M_golomb_fromLeast_j1
    simp only
    rw [read_pk (by omega) hl hlm ha (by omega)]
    simp only [Option.bind_some]
    by_cases h : a + sh m ≤ l.length
    · rw [if_pos h, if_pos h]
      simp only
      have hb := bv_lt (bit_take (bit_drop hl a) (sh m))
      rw [List.length_take, List.length_drop, Nat.min_eq_left (by omega)] at hb
      have hdb : dd m ≤ bv ((l.drop a).take (sh m)) := by
        by_cases h0 : 0 < dd m
        · obtain ⟨h1, _⟩ := dd_lt hm1 h0
          obtain ⟨x, _, hx⟩ := take_snoc_bv hl h1 h
          have := hge h0
          omega
        · omega
      rw [usub_n hdb (by omega), iadd_n (by omega)]
    · rw [if_neg h, if_neg h]
      exact ⟨_, _, rfl⟩
  by_cases h0 : 0 < dd m
  · obtain ⟨h1, h2⟩ := dd_lt hm1 h0
    by_cases h3 : a + (sh m - 1) ≤ l.length
    · by_cases h4 : bv ((l.drop a).take (sh m - 1)) < dd m
      · have e : flOf l a m = some (bv ((l.drop a).take (sh m - 1)), a + (sh m - 1)) := by unfold flOf; rw [if_pos h0, if_pos h3, if_pos h4]
        rw [e]
        unfold M_golomb_fromLeast
        rw [shape_eq hm1 hm]
        simp only [Option.bind_some]
        rw [if_pos (by simp; omega), isub1_n h1 (by omega), read_pk (by omega) hl hlm ha (by omega), if_pos h3]
        simp only [Option.bind_some, Bool.not_true, Bool.false_eq_true, if_false]
        rw [if_pos (by simp; omega), iadd_n (by omega), isub1_n (by omega) (by omega), show a + sh m - 1 = a + (sh m - 1) from by omega]
      · have e : flOf l a m = flR l a m := by unfold flOf; rw [if_pos h0, if_pos h3, if_neg h4]
        have e2 : M_golomb_fromLeast F (l.length : Int) (pk l) (a : Int) (m : Int) = M_golomb_fromLeast_j1 F (l.length : Int) (pk l) (a : Int) ((sh m : Int), (dd m : Int)) := by
          unfold M_golomb_fromLeast
          rw [shape_eq hm1 hm]
          simp only [Option.bind_some]
          rw [if_pos (by simp; omega), isub1_n h1 (by omega), read_pk (by omega) hl hlm ha (by omega), if_pos h3]
          simp only [Option.bind_some, Bool.not_true, Bool.false_eq_true, if_false]
          rw [if_neg (by simp; omega)]
        rw [e, e2]
        exact hj1 (fun _ => h4)
    · have e : flOf l a m = none := by unfold flOf; rw [if_pos h0, if_neg h3]
      rw [e]
      unfold M_golomb_fromLeast
      rw [shape_eq hm1 hm]
      simp only [Option.bind_some]
      rw [if_pos (by simp; omega), isub1_n h1 (by omega), read_pk (by omega) hl hlm ha (by omega), if_neg h3]
      exact ⟨_, _, rfl⟩
  · have e : flOf l a m = flR l a m := by unfold flOf; rw [if_neg h0]
    have e2 : M_golomb_fromLeast F (l.length : Int) (pk l) (a : Int) (m : Int) = M_golomb_fromLeast_j1 F (l.length : Int) (pk l) (a : Int) ((sh m : Int), (dd m : Int)) := by
      unfold M_golomb_fromLeast
      rw [shape_eq hm1 hm]
      simp only [Option.bind_some]
      rw [if_neg (by simp; omega)]
    rw [e, e2]
    exact hj1 (fun h => absurd h h0)
theorem fl_le {n m : Nat} (hn : n < m) (p r : List Int) : flOf (p ++ le n m ++ r) p.length m = some (n, p.length + (le n m).length) := by
  have hd : (p ++ le n m ++ r).drop p.length = le n m ++ r := by rw [List.append_assoc, List.drop_left]
  have hll := le_len n m
  have hadd := dd_add (m := m) (by omega)
  have hL : (p ++ le n m ++ r).length = p.length + (le n m).length + r.length := by simp; omega
  unfold flOf flR
  rw [hd, hL, hll]
  by_cases h : n < dd m
  · obtain ⟨h1, h2⟩ := dd_lt (m := m) (by omega) (by omega)
    have e : bv ((le n m ++ r).take (sh m - 1)) = n := by
      unfold le
      rw [if_pos h, List.take_left' (nb_len _ _), bv_nb, Nat.mod_eq_of_lt (by omega)]
    rw [if_pos h, if_pos (by omega), if_pos (by omega), e, if_pos h]
  · have e : bv ((le n m ++ r).take (sh m)) = n + dd m := by
      unfold le
      rw [if_neg h, List.take_left' (nb_len _ _), bv_nb, Nat.mod_eq_of_lt (by omega)]
    rw [if_neg h]
    by_cases h0 : 0 < dd m
    · obtain ⟨h1, h2⟩ := dd_lt (m := m) (by omega) h0
      have e2 : bv ((le n m ++ r).take (sh m - 1)) = (n + dd m) / 2 := by
        unfold le
        rw [if_neg h]
        have hs : nb (n + dd m) (sh m) = nb ((n + dd m) / 2) (sh m - 1) ++ [((((n + dd m) % 2 : Nat)) : Int)] := by
          have := nb_snoc (n + dd m) (sh m - 1)
          rwa [show sh m - 1 + 1 = sh m from by omega] at this
        have h6 : 2 ^ sh m = 2 * 2 ^ (sh m - 1) := by rw [← Nat.pow_succ']; congr 1; omega
        rw [hs, List.append_assoc, List.take_left' (nb_len _ _), bv_nb, Nat.mod_eq_of_lt (by omega)]
      rw [if_pos h0, if_pos (by omega), e2, if_neg (by omega), if_pos (by omega), e, Nat.add_sub_cancel]
    · rw [if_neg h0, if_pos (by omega), e, Nat.add_sub_cancel]
def Rt (m : Int) : Prop := 1 ≤ m ∧ m ≤ 1099511627776
instance rtDec (m : Int) : Decidable (Rt m) := inferInstanceAs (Decidable (_ ∧ _))
theorem right_eq {F : Nat} {m : Int} : M_golomb_right F m = some (decide (Rt m)) := by
  unfold M_golomb_right Rt
  by_cases h1 : 1 ≤ m <;> by_cases h2 : m ≤ 1099511627776 <;> simp [h1, h2]
def ok3 (l : List Int) : Int × List Int × Int := ((l.length : Int), pk l, 0)
def gl (n m : Int) : Int × List Int × Int := if ¬ (Rt m ∧ n < m) then (0, [], 3) else ok3 (le n.toNat m.toNat)
theorem gl_bad {n m : Int} (h : ¬ (Rt m ∧ n < m)) : gl n m = (0, [], 3) := by unfold gl; rw [if_pos h]
theorem gl_form {n m : Nat} (h : Rt m) (h2 : n < m) : gl n m = ok3 (le n m) := by
  unfold gl; rw [if_neg (fun hh => hh ⟨h, by omega⟩), Int.toNat_natCast, Int.toNat_natCast]
theorem rt_nat {m : Int} (h : Rt m) : ∃ k : Nat, m = k ∧ 1 ≤ k ∧ k ≤ 1099511627776 := by
  obtain ⟨k, rfl⟩ := Int.eq_ofNat_of_zero_le (show 0 ≤ m by have := h.1; omega)
  exact ⟨k, rfl, by have := h.1; omega, by have := h.2; omega⟩
theorem bit_nil : Bit [] := by intro x hx; simp at hx
theorem least_eq {F : Nat} (hF : 20000 ≤ F) {n m : Int} (hn : U64 n) : M_golomb_Least F n m = some (gl n m) := by
  unfold M_golomb_Least
  rw [right_eq]
  simp only [Option.bind_some]
  by_cases h : Rt m
  · obtain ⟨m, rfl, h1, h2⟩ := rt_nat h
    obtain ⟨n, rfl⟩ := Int.eq_ofNat_of_zero_le hn.1
    by_cases h3 : n < m
    · rw [decide_eq_true h, if_neg (by simp; omega), gl_form h h3]
      have := addLeast_eq (n := n) (m := m) hF bit_nil (by simp) (by omega) h3
      rw [List.nil_append] at this
      rw [show (([] : List Int).length : Int) = 0 from rfl, pk_nil] at this
      rw [this]; rfl
    · rw [decide_eq_true h, if_pos (by simp; omega), gl_bad (fun hh => by have := hh.2; omega)]
  · rw [decide_eq_false h, if_pos (by simp), gl_bad (fun hh => h hh.1)]
def gc (n m : Nat) : List Int := un (n / m) ++ le (n % m) m
theorem gc_bit (n m : Nat) : Bit (gc n m) := bit_app (un_bit _) (le_bit _ _)
def Cd (n m : Int) : Prop := Rt m ∧ n ≤ 1099511627776 ∧ n / m < 8128
instance cdDec (n m : Int) : Decidable (Cd n m) := inferInstanceAs (Decidable (_ ∧ _))
def go (n m : Int) : Int × List Int × Int := if Cd n m then ok3 (gc n.toNat m.toNat) else (0, [], 3)
theorem go_bad {n m : Int} (h : ¬ Cd n m) : go n m = (0, [], 3) := by unfold go; rw [if_neg h]
theorem go_form {n m : Nat} (h : Cd n m) : go n m = ok3 (gc n m) := by unfold go; rw [if_pos h, Int.toNat_natCast, Int.toNat_natCast]
theorem uquo_n {a b : Nat} (ha : a < 18446744073709551616) : iquo .u64 (a : Int) (b : Int) = ((a / b : Nat) : Int) := by
  unfold iquo
  rw [Int.tdiv_eq_ediv_of_nonneg (by omega), ← Int.natCast_ediv]
  have := Nat.div_le_self a b
  generalize a / b = q at this
  exact wrap_u64 (by omega) (by omega)
theorem urem_n {a b : Nat} : irem (a : Int) (b : Int) = ((a % b : Nat) : Int) := by
  unfold irem; rw [Int.tmod_eq_emod_of_nonneg (by omega)]; norm_cast
theorem umul_n {a b : Nat} (h : a * b < 18446744073709551616) : imul .u64 (a : Int) (b : Int) = ((a * b : Nat) : Int) := by
  unfold imul
  rw [← Int.natCast_mul]
  generalize a * b = q at h
  exact wrap_u64 (by omega) (by omega)
theorem gcode_eq {F : Nat} (hF : 20000 ≤ F) {n m : Int} (hn : U64 n) : M_golomb_Code F n m = some (go n m) := by
  unfold M_golomb_Code
  rw [right_eq]
  simp only [Option.bind_some]
  by_cases h : Rt m
  · obtain ⟨m, rfl, h1, h2⟩ := rt_nat h
    obtain ⟨n, rfl⟩ := Int.eq_ofNat_of_zero_le hn.1
    by_cases h3 : n ≤ 1099511627776
    · have hc : ((m : Int) != 0) = true := by rw [bne_iff_ne]; omega
      rw [decide_eq_true h, if_neg (by simp; omega), hc, uquo_n (by omega)]
      simp only [chk, if_true]
      unfold M_golomb_Code_j2
      have hdiv : (n : Int) / (m : Int) = ((n / m : Nat) : Int) := by norm_cast
      by_cases h4 : n / m < 8128
      · rw [if_neg (by simp only [decide_eq_true_eq]; omega), go_form ⟨h, by omega, by rw [hdiv]; omega⟩, hc]
        simp only [chk, if_true]
        rw [uquo_n (by omega), raw_eq hF (by omega), urem_n]
        simp only [Option.bind_some]
        rw [addLeast_eq hF (un_bit _) (by rw [un_len]; omega) (by omega) (Nat.mod_lt _ (by omega))]
        rfl
      · rw [if_pos (by simp only [decide_eq_true_eq]; omega), go_bad (fun hh => by have := hh.2.2; rw [hdiv] at this; omega)]
    · rw [decide_eq_true h, if_pos (by simp; omega), go_bad (fun hh => by have := hh.2.1; omega)]
      rfl
  · rw [decide_eq_false h, if_pos (by simp), go_bad (fun hh => h hh.1)]
    rfl
theorem contains_1 {F : Nat} (hF : 10 ≤ F) {x : Bool} : M_slices_Contains_bool_bool F [x] false = some (!x) := by
  obtain ⟨F, rfl⟩ : ∃ G, F = G + 10 := ⟨F - 10, by omega⟩
  cases x <;> rfl
theorem contains_2 {F : Nat} (hF : 10 ≤ F) {x y : Bool} : M_slices_Contains_bool_bool F [x, y] false = some (!(x && y)) := by
  obtain ⟨F, rfl⟩ : ∃ G, F = G + 10 := ⟨F - 10, by omega⟩
  cases x <;> cases y <;> rfl
/-- What is wrong with bits and a place, or what else. -/
def rq (m : Int) (b : List Int) (a : Int) (ok : Bool) : Int := if raOf m b a ≠ 0 then raOf m b a else if ok then 0 else 3
theorem gcheck_gen {F : Nat} {m a : Int} {b : List Int} (hb : U8s b) (hm : I64 m) (lb : b.length ≤ 9223372036854775807) {xs : List Bool} {ok : Bool} (h : M_slices_Contains_bool_bool F xs false = some (!ok)) :
    M_golomb_check F m b a xs = some (rq m b a ok) := by
  unfold M_golomb_check rq
  rw [eCheck_eq hb hm lb]
  simp only [Option.bind_some]
  by_cases h1 : raOf m b a = 0
  · rw [h1, if_pos (by rfl), h]
    cases ok <;> rfl
  · rw [if_neg (by simpa using h1), if_pos h1]
    rfl
/-- What is told of a number that is read. -/
def en (p : Option (Nat × Nat)) : Int × Int × Int := match p with
  | none => (0, 0, 7)
  | some p => if 1099511627776 < p.1 then (0, 0, 3) else ((p.1 : Int), (p.2 : Int), 0)
theorem ended_yes {F n q : Nat} : M_golomb_ended F (n : Int) (q : Int) true = some (en (some (n, q))) := by
  unfold M_golomb_ended en
  rw [if_neg (by simp)]
  by_cases h : 1099511627776 < n
  · simp only; rw [if_pos (by simp; omega), if_pos h]
  · simp only; rw [if_neg (by simp; omega), if_neg h]
def gRd (f : List Int → Nat → Int × Int × Int) (m : Int) (b : List Int) (a : Int) (ok : Bool) : Int × Int × Int := if rq m b a ok ≠ 0 then (0, 0, rq m b a ok) else f (bl b m.toNat) a.toNat
theorem gRd_bad {f : List Int → Nat → Int × Int × Int} {m a : Int} {b : List Int} {ok : Bool} (h : rq m b a ok ≠ 0) : gRd f m b a ok = (0, 0, rq m b a ok) := by unfold gRd; rw [if_pos h]
theorem rq_form {l : List Int} {a : Nat} (h1 : l.length ≤ 8192) (h : a ≤ l.length) : rq (l.length : Int) (pk l) (a : Int) true = 0 := by unfold rq; rw [ra_form h1 h]; rfl
theorem gRd_form {f : List Int → Nat → Int × Int × Int} {l : List Int} (hl : Bit l) {a : Nat} (h1 : l.length ≤ 8192) (h : a ≤ l.length) : gRd f (l.length : Int) (pk l) (a : Int) true = f l a := by
  unfold gRd; rw [rq_form h1 h, if_neg (by simp), Int.toNat_natCast, Int.toNat_natCast, bl_pk hl]
theorem rq_cases {m a : Int} {b : List Int} {ok : Bool} (hb : U8s b) : rq m b a ok ≠ 0 ∨ (ok = true ∧ ∃ (l : List Int) (i : Nat), Bit l ∧ l.length ≤ 8192 ∧ m = (l.length : Int) ∧ b = pk l ∧ a = (i : Int) ∧ i ≤ l.length) := by
  rcases ra_cases hb (m := m) (a := a) with h | h
  · left; unfold rq; rw [if_pos h]; exact h
  · cases ok with
    | true => exact .inr ⟨rfl, h⟩
    | false =>
      left
      obtain ⟨l, i, hl, hlm, rfl, rfl, rfl, hi⟩ := h
      unfold rq; rw [ra_form hlm hi]; decide
theorem readLeast_eq {F : Nat} (hF : 20000 ≤ F) {m a k : Int} {b : List Int} (hb : U8s b) (hm : I64 m) (lb : b.length ≤ 9223372036854775807) :
    M_golomb_ReadLeast F m b a k = some (gRd (fun l i => en (flOf l i k.toNat)) m b a (decide (Rt k))) := by
  unfold M_golomb_ReadLeast
  rw [right_eq]
  simp only [Option.bind_some]
  rw [gcheck_gen hb hm lb (contains_1 (by omega))]
  simp only [Option.bind_some]
  rcases rq_cases hb (m := m) (a := a) (ok := decide (Rt k)) with h | ⟨hk, l, i, hl, hlm, rfl, rfl, rfl, hi⟩
  · rw [if_pos (by simpa using h), gRd_bad h]
  · obtain ⟨k, rfl, h1, h2⟩ := rt_nat (of_decide_eq_true hk)
    rw [hk, rq_form hlm hi, if_neg (by simp), gRd_form hl hlm hi, Int.toNat_natCast]
    have := fromLeast_eq (m := k) hF hl hlm hi h1 (by omega)
    cases hf : flOf l i k with
    | none =>
      rw [hf] at this
      obtain ⟨x, y, e⟩ := this
      rw [e]; rfl
    | some p =>
      rw [hf] at this
      simp only at this
      rw [this]
      simp only [Option.bind_some]
      rw [ended_yes]
      rfl
def gq (k : Nat) (l : List Int) (i : Nat) : Int × Int × Int := match fz (l.drop i) with
  | none => (0, 0, 7)
  | some q => if 8128 ≤ q then (0, 0, 3) else en ((flOf l (i + q + 1) k).map fun p => (q * k + p.1, p.2))
theorem gread_eq {F : Nat} (hF : 20000 ≤ F) {m a k : Int} {b : List Int} (hb : U8s b) (hm : I64 m) (lb : b.length ≤ 9223372036854775807) :
    M_golomb_Read F m b a k = some (gRd (gq k.toNat) m b a (decide (Rt k))) := by
  unfold M_golomb_Read
  rw [right_eq]
  simp only [Option.bind_some]
  rw [gcheck_gen hb hm lb (contains_1 (by omega))]
  simp only [Option.bind_some]
  rcases rq_cases hb (m := m) (a := a) (ok := decide (Rt k)) with h | ⟨hk, l, i, hl, hlm, rfl, rfl, rfl, hi⟩
  · rw [if_pos (by simpa using h), gRd_bad h]
  · obtain ⟨k, rfl, h1, h2⟩ := rt_nat (of_decide_eq_true hk)
    rw [hk, rq_form hlm hi, if_neg (by simp), gRd_form hl hlm hi, Int.toNat_natCast, from_eq hF hl hlm hi]
    unfold gq
    cases hz : fz (l.drop i) with
    | none => rfl
    | some q =>
      have hq := fz_lt hz
      rw [List.length_drop] at hq
      simp only [Option.bind_some, Bool.true_and, Bool.not_true, Bool.false_eq_true, if_false]
      by_cases h3 : 8128 ≤ q
      · rw [if_pos (by simp; omega), if_pos h3]
      · rw [if_neg (by simp; omega), if_neg h3]
        have hmul : q * k ≤ 8128 * 1099511627776 := Nat.mul_le_mul (by omega) (by omega)
        have := fromLeast_eq (a := i + q + 1) (m := k) hF hl hlm (by omega) h1 (by omega)
        cases hf : flOf l (i + q + 1) k with
        | none =>
          rw [hf] at this
          obtain ⟨x, y, e⟩ := this
          rw [e]; rfl
        | some p =>
          rw [hf] at this
          simp only at this
          have hp := fl_lt hl (n := p.1) (q := p.2) h1 hf
          rw [this]
          simp only [Option.bind_some]
          rw [umul_n (by omega), uadd_n (by omega), ended_yes]
          rfl
def zh (n k : Nat) : Nat := lg n / k
def zf (n k : Nat) : Nat := 2 ^ (zh n k * k)
def zt (n k : Nat) : Nat := 2 ^ (zh n k * k + k)
def ze (n k : Nat) : List Int := un (zh n k) ++ le (n + 1 - zf n k) (zt n k - zf n k)
theorem ze_bit (n k : Nat) : Bit (ze n k) := bit_app (un_bit _) (le_bit _ _)
theorem zf_le (n k : Nat) : zf n k ≤ n + 1 := by
  have h : zh n k * k ≤ lg n := Nat.div_mul_le_self _ _
  exact Nat.le_trans (Nat.pow_le_pow_right (by decide) h) lg_le
theorem zt_gt {n k : Nat} (hk : 1 ≤ k) : n + 1 < zt n k := by
  have h : lg n + 1 ≤ zh n k * k + k := by
    have := Nat.lt_mul_div_succ (lg n) hk
    unfold zh
    rw [Nat.mul_add, Nat.mul_one, Nat.mul_comm] at this
    omega
  exact Nat.lt_of_lt_of_le lg_lt (Nat.pow_le_pow_right (by decide) h)
theorem zt_56 {n k : Nat} (hn : n ≤ 1099511627776) (hk2 : k ≤ 16) : zh n k * k ≤ 40 ∧ zt n k ≤ 72057594037927936 := by
  have h : zh n k * k ≤ lg n := Nat.div_mul_le_self _ _
  have h40 := lg_small hn
  refine ⟨by omega, ?_⟩
  have : zt n k ≤ 2 ^ 56 := Nat.pow_le_pow_right (by decide) (by omega)
  rwa [show (2 : Nat) ^ 56 = 72057594037927936 from by decide] at this
def Zk (k : Int) : Prop := 1 ≤ k ∧ k ≤ 16
instance zkDec (k : Int) : Decidable (Zk k) := inferInstanceAs (Decidable (_ ∧ _))
theorem zk_nat {k : Int} (h : Zk k) : ∃ j : Nat, k = j ∧ 1 ≤ j ∧ j ≤ 16 := by
  obtain ⟨j, rfl⟩ := Int.eq_ofNat_of_zero_le (show 0 ≤ k by have := h.1; omega)
  exact ⟨j, rfl, by have := h.1; omega, by have := h.2; omega⟩
theorem span_eq {F n k : Nat} (hn : n ≤ 1099511627776) (hk : 1 ≤ k) (hk2 : k ≤ 16) : M_golomb_span F (n : Int) (k : Int) = some ((zh n k : Int), (zf n k : Int), (zt n k : Int)) := by
  unfold M_golomb_span
  obtain ⟨h40, h56⟩ := zt_56 hn hk2
  have hlen : len (n + 1) = lg n + 1 := by have := len_pos (x := n + 1) (by omega); unfold lg; omega
  have hl40 := lg_small hn
  have hzl : zh n k ≤ lg n := Nat.div_le_self _ _
  have hc0 : ((k : Int) != 0) = true := by rw [bne_iff_ne]; omega
  rw [uadd1_n (by omega), len64_eq (by omega), hlen]
  simp only [Option.bind_some]
  rw [isub1_n (by omega) (by omega), Nat.add_sub_cancel]
  have e1 : iquo .i64 (lg n : Int) (k : Int) = ((zh n k : Nat) : Int) := by
    unfold iquo zh
    rw [Int.tdiv_eq_ediv_of_nonneg (by omega), ← Int.natCast_ediv]
    unfold zh at hzl
    generalize lg n / k = q at hzl
    exact wrap_i64 (by omega) (by omega)
  have e2 : imul .i64 ((zh n k : Nat) : Int) (k : Int) = ((zh n k * k : Nat) : Int) := by
    unfold imul
    rw [← Int.natCast_mul]
    generalize zh n k * k = q at h40
    exact wrap_i64 (by omega) (by omega)
  rw [e1, e2, iadd_n (by omega), hc0]
  have c1 : decide ((0 : Int) ≤ ((zh n k * k : Nat) : Int)) = true := decide_eq_true (Int.natCast_nonneg _)
  have c2 : decide ((0 : Int) ≤ ((zh n k * k + k : Nat) : Int)) = true := decide_eq_true (Int.natCast_nonneg _)
  rw [c1, c2]
  simp only [chk, if_true]
  rw [shl1_n (by omega), shl1_n (by omega)]
  rfl
def gz (n k : Int) : Int × List Int × Int := if Zk k ∧ n ≤ 1099511627776 then ok3 (ze n.toNat k.toNat) else (0, [], 3)
theorem gz_bad {n k : Int} (h : ¬ (Zk k ∧ n ≤ 1099511627776)) : gz n k = (0, [], 3) := by unfold gz; rw [if_neg h]
theorem gz_form {n k : Nat} (h : Zk k) (h2 : n ≤ 1099511627776) : gz n k = ok3 (ze n k) := by unfold gz; rw [if_pos ⟨h, by omega⟩, Int.toNat_natCast, Int.toNat_natCast]
theorem zeta_eq {F : Nat} (hF : 20000 ≤ F) {n k : Int} (hn : U64 n) : M_golomb_Zeta F n k = some (gz n k) := by
  unfold M_golomb_Zeta
  by_cases h : Zk k ∧ n ≤ 1099511627776
  · obtain ⟨n, rfl⟩ := Int.eq_ofNat_of_zero_le hn.1
    obtain ⟨k, rfl, h1, h2⟩ := zk_nat h.1
    have hn2 : n ≤ 1099511627776 := by have := h.2; omega
    have hl40 := lg_small hn2
    have hzl : zh n k ≤ lg n := Nat.div_le_self _ _
    have a1 := zf_le n k
    have a2 := zt_gt (n := n) h1
    have a3 := (zt_56 hn2 h2).2
    rw [if_neg (by simp; omega), span_eq hn2 h1 h2, gz_form h.1 hn2]
    simp only [Option.bind_some]
    rw [iconv_u64_n (by omega), raw_eq hF (by omega), uadd1_n (by omega), usub_n a1 (by omega), usub_n (by omega) (by omega)]
    simp only [Option.bind_some]
    rw [addLeast_eq hF (un_bit _) (by rw [un_len]; omega) (by omega) (by omega)]
    rfl
  · rw [if_pos (by unfold Zk at h; simp; omega), gz_bad h]
def zq (k : Nat) (l : List Int) (i : Nat) : Int × Int × Int := match fz (l.drop i) with
  | none => (0, 0, 7)
  | some h => if 41 ≤ h * k then (0, 0, 3) else en ((flOf l (i + h + 1) (2 ^ (h * k + k) - 2 ^ (h * k))).map fun p => (2 ^ (h * k) + p.1 - 1, p.2))
theorem pow_gap {a k : Nat} (hk : 1 ≤ k) : 2 * 2 ^ a ≤ 2 ^ (a + k) := by
  rw [← Nat.pow_succ']; exact Nat.pow_le_pow_right (by decide) (by omega)
theorem pow_56 {a : Nat} (h : a ≤ 56) : 2 ^ a ≤ 72057594037927936 := by
  have : 2 ^ a ≤ 2 ^ 56 := Nat.pow_le_pow_right (by decide) h
  rwa [show (2 : Nat) ^ 56 = 72057594037927936 from by decide] at this
theorem fromZeta_eq {F i k : Nat} {l : List Int} (hF : 20000 ≤ F) (hl : Bit l) (hlm : l.length ≤ 8192) (hi : i ≤ l.length) (h1 : 1 ≤ k) (h2 : k ≤ 16) : M_golomb_FromZeta F (l.length : Int) (pk l) (i : Int) (k : Int) = some (zq k l i) := by
  unfold M_golomb_FromZeta
  rw [from_eq hF hl hlm hi]
  unfold zq
  cases hz : fz (l.drop i) with
  | none => rfl
  | some h =>
    have hq := fz_lt hz
    rw [List.length_drop] at hq
    have hmul : h * k ≤ 8192 * 16 := Nat.mul_le_mul (by omega) h2
    simp only [Option.bind_some, Bool.not_true, Bool.false_eq_true, if_false]
    rw [iconv_u64_n (by omega), umul_n (by omega), iconv_i64_n (by omega)]
    by_cases h3 : 41 ≤ h * k
    · rw [if_pos (by simp only [decide_eq_true_eq]; omega), if_pos h3]
    · rw [if_neg (by simp only [decide_eq_true_eq]; omega), if_neg h3]
      have e2 : imul .i64 (h : Int) (k : Int) = ((h * k : Nat) : Int) := by
        unfold imul
        rw [← Int.natCast_mul]
        generalize h * k = q at hmul
        exact wrap_i64 (by omega) (by omega)
      have c1 : decide ((0 : Int) ≤ ((h * k : Nat) : Int)) = true := decide_eq_true (Int.natCast_nonneg _)
      have c2 : decide ((0 : Int) ≤ (k : Int)) = true := decide_eq_true (by omega)
      rw [e2, c1, c2]
      simp only [chk, if_true, lett]
      have p1 := pow_56 (a := h * k) (by omega)
      have p2 := pow_56 (a := h * k + k) (by omega)
      have p3 := pow_gap (a := h * k) h1
      have p0 : 0 < 2 ^ (h * k) := Nat.pow_pos (by decide)
      rw [shl1_n (by omega), ishl_n (by omega), ← Nat.pow_add, Nat.mod_eq_of_lt (by omega), usub_n (by omega) (by omega)]
      have := fromLeast_eq (a := i + h + 1) (m := 2 ^ (h * k + k) - 2 ^ (h * k)) hF hl hlm (by omega) (by omega) (by omega)
      cases hf : flOf l (i + h + 1) (2 ^ (h * k + k) - 2 ^ (h * k)) with
      | none =>
        rw [hf] at this
        obtain ⟨x, y, e⟩ := this
        rw [e]; rfl
      | some p =>
        rw [hf] at this
        simp only at this
        have hp := fl_lt hl (n := p.1) (q := p.2) (by omega) hf
        rw [this]
        simp only [Option.bind_some]
        rw [uadd_n (by omega), usub1_n (by omega) (by omega), ended_yes]
        rfl
theorem readZeta_eq {F : Nat} (hF : 20000 ≤ F) {m a k : Int} {b : List Int} (hb : U8s b) (hm : I64 m) (lb : b.length ≤ 9223372036854775807) :
    M_golomb_ReadZeta F m b a k = some (gRd (zq k.toNat) m b a (decide (Zk k))) := by
  unfold M_golomb_ReadZeta
  have hc : M_slices_Contains_bool_bool F [decide (1 ≤ k), decide (k ≤ 16)] false = some (!(decide (Zk k))) := by
    rw [contains_2 (by omega)]
    unfold Zk
    by_cases h1 : 1 ≤ k <;> by_cases h2 : k ≤ 16 <;> simp [h1, h2]
  rw [gcheck_gen hb hm lb hc]
  simp only [Option.bind_some]
  rcases rq_cases hb (m := m) (a := a) (ok := decide (Zk k)) with h | ⟨hk, l, i, hl, hlm, rfl, rfl, rfl, hi⟩
  · rw [if_pos (by simpa using h), gRd_bad h]
  · obtain ⟨k, rfl, h1, h2⟩ := zk_nat (of_decide_eq_true hk)
    rw [hk, rq_form hlm hi, if_neg (by simp), gRd_form hl hlm hi, Int.toNat_natCast, fromZeta_eq hF hl hlm hi h1 h2]
    rfl
theorem begun_golomb (n : Nat) : M_L_golombBegun (n + 200) = some true := by kernel_rfl
theorem begun_golomb' {F : Nat} (hF : 20000 ≤ F) : M_L_golombBegun F = some true := by
  obtain ⟨n, rfl⟩ : ∃ n, F = n + 200 := ⟨F - 200, by omega⟩
  exact begun_golomb n
theorem le_len64 {n m : Nat} (hm : m ≤ 9223372036854775808) : (le n m).length ≤ 63 := by
  have := le_len n m; have := sh_63 hm; split at * <;> omega
theorem gc_len {n m : Nat} : (gc n m).length = n / m + 1 + (le (n % m) m).length := by unfold gc; rw [List.length_append, un_len]
theorem gq_gc {n m : Nat} (hm : 1 ≤ m) (hn : n ≤ 1099511627776) (hq : n / m < 8128) (r : List Int) : gq m (gc n m ++ r) 0 = ((n : Int), ((gc n m).length : Int), 0) := by
  unfold gq
  have hd : (gc n m ++ r).drop 0 = un (n / m) ++ (le (n % m) m ++ r) := by rw [List.drop_zero]; unfold gc; rw [List.append_assoc]
  rw [hd, fz_un]
  simp only
  rw [if_neg (by omega)]
  have hlt : n % m < m := Nat.mod_lt _ (by omega)
  have := fl_le hlt (un (n / m)) r
  rw [un_len] at this
  have e : gc n m ++ r = un (n / m) ++ le (n % m) m ++ r := rfl
  rw [e, Nat.zero_add, this]
  have hdm : n / m * m + n % m = n := by rw [Nat.mul_comm]; exact Nat.div_add_mod n m
  simp only [Option.map_some, en, hdm]
  rw [if_neg (by omega), gc_len]
theorem zq_ze {n k : Nat} (hk : 1 ≤ k) (hk2 : k ≤ 16) (hn : n ≤ 1099511627776) (r : List Int) : zq k (ze n k ++ r) 0 = ((n : Int), ((ze n k).length : Int), 0) := by
  unfold zq
  have a1 := zf_le n k
  have a2 := zt_gt (n := n) hk
  have h40 := (zt_56 hn hk2).1
  have hd : (ze n k ++ r).drop 0 = un (zh n k) ++ (le (n + 1 - zf n k) (zt n k - zf n k) ++ r) := by rw [List.drop_zero]; unfold ze; rw [List.append_assoc]
  rw [hd, fz_un]
  simp only
  rw [if_neg (by omega)]
  have := fl_le (n := n + 1 - zf n k) (m := zt n k - zf n k) (by omega) (un (zh n k)) r
  rw [un_len] at this
  have e : ze n k ++ r = un (zh n k) ++ le (n + 1 - zf n k) (zt n k - zf n k) ++ r := rfl
  have e2 : 2 ^ (zh n k * k + k) - 2 ^ (zh n k * k) = zt n k - zf n k := rfl
  rw [e, e2, Nat.zero_add, this]
  have hdm : 2 ^ (zh n k * k) + (n + 1 - zf n k) - 1 = n := by
    have : 2 ^ (zh n k * k) = zf n k := rfl
    omega
  simp only [Option.map_some, en, hdm]
  rw [if_neg (by omega)]
  unfold ze
  rw [List.length_append, un_len]
theorem ze_len {n k : Nat} (hn : n ≤ 1099511627776) (hk2 : k ≤ 16) : (ze n k).length ≤ 200 := by
  have hzl : zh n k ≤ lg n := Nat.div_le_self _ _
  have hl40 := lg_small (n := n) (by omega)
  have a3 := (zt_56 (n := n) (by omega) hk2).2
  have hle := le_len64 (n := n + 1 - zf n k) (m := zt n k - zf n k) (by omega)
  unfold ze; rw [List.length_append, un_len]; omega
theorem gback2 {F : Nat} (h0 : 20000 ≤ F) {n : Int} {m : Int} {b C : List Int} {q : Int} (hb : U8s b) (hm : I64 m) (lb : b.length ≤ 9223372036854775807) (hC : Bit C) (hl : C.length ≤ 8192)
    (hr : ∀ k, Bit k → (C ++ k).length ≤ 8192 → M_L_GolombBack_2 F ((C ++ k).length : Int) (pk (C ++ k)) q = some (n, (C.length : Int), 0)) :
    M_L_GolombBack_1_L_GolombBack_2 F (C.length : Int) (pk C) 0 q m b n = some true := by
  unfold M_L_GolombBack_1_L_GolombBack_2
  rw [join_eq h0 (pk_u8 hC) hb (i64_len hl) hm (pk_len9 hl) lb]
  simp only [Option.bind_some]
  rcases chk_form hb (n := m) with h1 | ⟨k, hk, hkm, rfl, rfl⟩
  · rw [jn_bad2 (chk_pk hl) h1, if_pos (by simp [h1]), if_pos (by simp)]
    rfl
  rw [jn_form hC hk hl hkm]
  by_cases hs : C.length + k.length ≤ 8192
  · have hL : (C ++ k).length ≤ 8192 := by rw [List.length_append]; exact hs
    rw [if_pos hs, if_neg (by simp)]
    simp only
    rw [hr k hk hL]
    simp
  · rw [if_neg hs, if_pos (by simp), if_pos (by simp)]
    rfl
theorem gbad2 {F : Nat} (h0 : 20000 ≤ F) {n : Int} {m : Int} {b : List Int} {q : Int} (hb : U8s b) (hm : I64 m) (lb : b.length ≤ 9223372036854775807) :
    M_L_GolombBack_1_L_GolombBack_2 F 0 [] 3 q m b n = some true := by
  unfold M_L_GolombBack_1_L_GolombBack_2
  rw [join_eq h0 (by intro x hx; simp at hx) hb ⟨by omega, by omega⟩ hm (by simp) lb]
  simp only [Option.bind_some]
  rw [if_pos (by simp), if_neg (by simp), same_self (by simp; omega) (by simp)]
  rfl
theorem gback3 {F : Nat} (h0 : 20000 ≤ F) {n : Int} {m : Int} {b C : List Int} {q : Int} (hb : U8s b) (hm : I64 m) (lb : b.length ≤ 9223372036854775807) (hC : Bit C) (hl : C.length ≤ 8192)
    (hr : ∀ k, Bit k → (C ++ k).length ≤ 8192 → M_L_GolombBack_3 F ((C ++ k).length : Int) (pk (C ++ k)) q = some (n, (C.length : Int), 0)) :
    M_L_GolombBack_1_L_GolombBack_3 F (C.length : Int) (pk C) 0 q m b n = some true := by
  unfold M_L_GolombBack_1_L_GolombBack_3
  rw [join_eq h0 (pk_u8 hC) hb (i64_len hl) hm (pk_len9 hl) lb]
  simp only [Option.bind_some]
  rcases chk_form hb (n := m) with h1 | ⟨k, hk, hkm, rfl, rfl⟩
  · rw [jn_bad2 (chk_pk hl) h1, if_pos (by simp [h1]), if_pos (by simp)]
    rfl
  rw [jn_form hC hk hl hkm]
  by_cases hs : C.length + k.length ≤ 8192
  · have hL : (C ++ k).length ≤ 8192 := by rw [List.length_append]; exact hs
    rw [if_pos hs, if_neg (by simp)]
    simp only
    rw [hr k hk hL]
    simp
  · rw [if_neg hs, if_pos (by simp), if_pos (by simp)]
    rfl
theorem gbad3 {F : Nat} (h0 : 20000 ≤ F) {n : Int} {m : Int} {b : List Int} {q : Int} (hb : U8s b) (hm : I64 m) (lb : b.length ≤ 9223372036854775807) :
    M_L_GolombBack_1_L_GolombBack_3 F 0 [] 3 q m b n = some true := by
  unfold M_L_GolombBack_1_L_GolombBack_3
  rw [join_eq h0 (by intro x hx; simp at hx) hb ⟨by omega, by omega⟩ hm (by simp) lb]
  simp only [Option.bind_some]
  rw [if_pos (by simp), if_neg (by simp), same_self (by simp; omega) (by simp)]
  rfl
theorem gback4 {F : Nat} (h0 : 20000 ≤ F) {n : Int} {m : Int} {b C : List Int} {q : Int} (hb : U8s b) (hm : I64 m) (lb : b.length ≤ 9223372036854775807) (hC : Bit C) (hl : C.length ≤ 8192)
    (hr : ∀ k, Bit k → (C ++ k).length ≤ 8192 → M_L_GolombBack_4 F ((C ++ k).length : Int) (pk (C ++ k)) q = some (n, (C.length : Int), 0)) :
    M_L_GolombBack_1_L_GolombBack_4 F (C.length : Int) (pk C) 0 q m b n = some true := by
  unfold M_L_GolombBack_1_L_GolombBack_4
  rw [join_eq h0 (pk_u8 hC) hb (i64_len hl) hm (pk_len9 hl) lb]
  simp only [Option.bind_some]
  rcases chk_form hb (n := m) with h1 | ⟨k, hk, hkm, rfl, rfl⟩
  · rw [jn_bad2 (chk_pk hl) h1, if_pos (by simp [h1]), if_pos (by simp)]
    rfl
  rw [jn_form hC hk hl hkm]
  by_cases hs : C.length + k.length ≤ 8192
  · have hL : (C ++ k).length ≤ 8192 := by rw [List.length_append]; exact hs
    rw [if_pos hs, if_neg (by simp)]
    simp only
    rw [hr k hk hL]
    simp
  · rw [if_neg hs, if_pos (by simp), if_pos (by simp)]
    rfl
theorem gbad4 {F : Nat} (h0 : 20000 ≤ F) {n : Int} {m : Int} {b : List Int} {q : Int} (hb : U8s b) (hm : I64 m) (lb : b.length ≤ 9223372036854775807) :
    M_L_GolombBack_1_L_GolombBack_4 F 0 [] 3 q m b n = some true := by
  unfold M_L_GolombBack_1_L_GolombBack_4
  rw [join_eq h0 (by intro x hx; simp at hx) hb ⟨by omega, by omega⟩ hm (by simp) lb]
  simp only [Option.bind_some]
  rw [if_pos (by simp), if_neg (by simp), same_self (by simp; omega) (by simp)]
  rfl
theorem law_gback {F : Nat} (h0 : 20000 ≤ F) {n m k l : Int} {b : List Int} (hn : U64 n) (hm : I64 l) (hb : U8s b) (lb : b.length ≤ 9223372036854775807) : M_L_GolombBack F n m k l b = some true := by
  unfold M_L_GolombBack
  rw [begun_golomb' h0]
  simp only [Option.bind_some, Bool.not_true, Bool.false_eq_true, if_false]
  rw [begun_bits' h0]
  simp only [Option.bind_some, Bool.not_true, M_L_GolombBack_j2, Bool.false_eq_true, if_false]
  rw [least_eq h0 hn, gcode_eq h0 hn, zeta_eq h0 hn]
  simp only [Option.bind_some]
  obtain ⟨n, rfl⟩ := Int.eq_ofNat_of_zero_le hn.1
  have e1 : M_L_GolombBack_1_L_GolombBack_2 F (gl n m).1 (gl n m).2.1 (gl n m).2.2 m l b n = some true := by
    by_cases h1 : Rt m ∧ (n : Int) < m
    · obtain ⟨m, rfl, k1, k2⟩ := rt_nat h1.1
      have l1 := le_len64 (n := n) (m := m) (by omega)
      rw [gl_form h1.1 (by omega)]
      refine gback2 h0 hb hm lb (le_bit n m) (by omega) fun k hk hL => ?_
      unfold M_L_GolombBack_2
      have hLb := bit_app (le_bit n m) hk
      have hf := fl_le (n := n) (m := m) (by omega) [] k
      rw [List.nil_append, List.length_nil, Nat.zero_add] at hf
      rw [readLeast_eq h0 (pk_u8 hLb) (i64_len hL) (pk_len9 hL), decide_eq_true h1.1, show (0 : Int) = ((0 : Nat) : Int) from rfl, gRd_form hLb hL (by omega), Int.toNat_natCast, hf]
      simp only [Option.bind_some, en]
      rw [if_neg (by omega)]
      rfl
    · rw [gl_bad h1]; exact gbad2 h0 hb hm lb
  have e2 : M_L_GolombBack_1_L_GolombBack_3 F (go n m).1 (go n m).2.1 (go n m).2.2 m l b n = some true := by
    by_cases h1 : Cd n m
    · obtain ⟨m, rfl, k1, k2⟩ := rt_nat h1.1
      have q1 := h1.2.2
      have p1 := h1.2.1
      have d1 : (n : Int) / (m : Int) = ((n / m : Nat) : Int) := (Int.natCast_ediv n m).symm
      rw [d1] at q1
      have l1 := le_len64 (n := n % m) (m := m) (by omega)
      rw [go_form h1]
      refine gback3 h0 hb hm lb (gc_bit n m) (by rw [gc_len]; omega) fun k hk hL => ?_
      unfold M_L_GolombBack_3
      have hLb := bit_app (gc_bit n m) hk
      rw [gread_eq h0 (pk_u8 hLb) (i64_len hL) (pk_len9 hL), decide_eq_true h1.1, show (0 : Int) = ((0 : Nat) : Int) from rfl, gRd_form hLb hL (by omega), Int.toNat_natCast, gq_gc k1 (by omega) (by omega)]
      rfl
    · rw [go_bad h1]; exact gbad3 h0 hb hm lb
  have e3 : M_L_GolombBack_1_L_GolombBack_4 F (gz n k).1 (gz n k).2.1 (gz n k).2.2 k l b n = some true := by
    by_cases h1 : Zk k ∧ (n : Int) ≤ 1099511627776
    · obtain ⟨k, rfl, k1, k2⟩ := zk_nat h1.1
      have l1 := ze_len (n := n) (k := k) (by omega) k2
      rw [gz_form h1.1 (by omega)]
      refine gback4 h0 hb hm lb (ze_bit n k) (by omega) fun j hj hL => ?_
      unfold M_L_GolombBack_4
      have hLb := bit_app (ze_bit n k) hj
      rw [readZeta_eq h0 (pk_u8 hLb) (i64_len hL) (pk_len9 hL), decide_eq_true h1.1, show (0 : Int) = ((0 : Nat) : Int) from rfl, gRd_form hLb hL (by omega), Int.toNat_natCast, zq_ze k1 k2 (by omega)]
      rfl
    · rw [gz_bad h1]; exact gbad4 h0 hb hm lb
  rw [e1]
  simp only [Option.bind_some, if_true]
  rw [e2]
  simp only [Option.bind_some, M_L_GolombBack_j3, if_true]
  rw [e3]
  rfl
end Go.Proofs.Ytjeaicfjildchaa
