/- Plain facts of what the functions of this seat compute. -/
import Derived.Test.YtnlodcokfndnmaaGreatModels
import Derived.KernelRfl
import Derived.Lib.SlicesCompact
namespace Go.Proofs.YtnlodcokfndnmaaGreat
open Go SX
variable {F : Nat} {rec68 : (List (Int × Int) × List Int × Int) → Option (List (Int × Int) × List Int)} {l : List Int} {least : Int} {o : List (Int × Int)} {rest : List Int} {i : Int}
def byt (l : List Int) (k : Nat) : Int :=
  l.getD (8 * k) 0 * 128 + l.getD (8 * k + 1) 0 * 64 + l.getD (8 * k + 2) 0 * 32 + l.getD (8 * k + 3) 0 * 16 + l.getD (8 * k + 4) 0 * 8 + l.getD (8 * k + 5) 0 * 4 + l.getD (8 * k + 6) 0 * 2 + l.getD (8 * k + 7) 0
def pk (l : List Int) : List Int := (List.range ((l.length + 7) / 8)).map (byt l)
def Bit (l : List Int) : Prop := ∀ x ∈ l, x = 0 ∨ x = 1
theorem Bit.getD {l : List Int} (h : Bit l) (i : Nat) : l.getD i 0 = 0 ∨ l.getD i 0 = 1 := by
  by_cases hi : i < l.length
  · have := h l[i] (List.getElem_mem hi)
    simpa [List.getD, hi] using this
  · left
    simp [List.getD, List.getElem?_eq_none (Nat.le_of_not_lt hi)]
theorem vG {l : List Int} {i : Nat} (h : l.length ≤ i) : l.getD i 0 = 0 := by simp [List.getD, List.getElem?_eq_none h]
theorem qeZ (l : List Int) (x : Int) (i : Nat) : (l ++ [x]).getD i 0 = if i = l.length then x else l.getD i 0 := by
  by_cases h : i = l.length
  · subst h; simp [List.getD]
  · rw [if_neg h]
    by_cases h2 : i < l.length
    · simp [List.getD, List.getElem?_append_left h2]
    · rw [vG (by simp; omega), vG (by omega)]
theorem qc6 {l : List Int} (h : Bit l) (k : Nat) : 0 ≤ byt l k ∧ byt l k < 256 := by
  have h0 := h.getD (8 * k); have h1 := h.getD (8 * k + 1); have h2 := h.getD (8 * k + 2); have h3 := h.getD (8 * k + 3)
  have h4 := h.getD (8 * k + 4); have h5 := h.getD (8 * k + 5); have h6 := h.getD (8 * k + 6); have h7 := h.getD (8 * k + 7)
  unfold byt
  omega
theorem qdS {l : List Int} {x : Int} {k : Nat} (h : k ≠ l.length / 8) : byt (l ++ [x]) k = byt l k := by
  unfold byt
  simp only [qeZ]
  rw [if_neg (by omega), if_neg (by omega), if_neg (by omega), if_neg (by omega), if_neg (by omega), if_neg (by omega), if_neg (by omega), if_neg (by omega)]
theorem qgB {l : List Int} {x : Int} : byt (l ++ [x]) (l.length / 8) = byt l (l.length / 8) + x * 2 ^ (7 - l.length % 8) := by
  obtain ⟨k, hk⟩ : ∃ k, k = l.length / 8 := ⟨_, rfl⟩
  obtain ⟨r, hr⟩ : ∃ r, r = l.length % 8 := ⟨_, rfl⟩
  have hl : l.length = 8 * k + r := by omega
  have hr8 : r < 8 := by omega
  rw [← hk, ← hr]
  unfold byt
  simp only [qeZ, hl]
  have hg : ∀ j, r ≤ j → l.getD (8 * k + j) 0 = 0 := fun j hj => vG (by omega)
  have g0 := hg 0; have g1 := hg 1; have g2 := hg 2; have g3 := hg 3; have g4 := hg 4; have g5 := hg 5; have g6 := hg 6; have g7 := hg 7
  rw [Nat.add_zero] at g0
  rcases (by omega : r = 0 ∨ r = 1 ∨ r = 2 ∨ r = 3 ∨ r = 4 ∨ r = 5 ∨ r = 6 ∨ r = 7) with rfl | rfl | rfl | rfl | rfl | rfl | rfl | rfl
  · rw [show (2 : Int) ^ (7 - 0) = 128 from by decide]
    rw [if_pos (by omega), if_neg (by omega), if_neg (by omega), if_neg (by omega), if_neg (by omega), if_neg (by omega), if_neg (by omega), if_neg (by omega)]
    have e0 := g0 (by omega)
    have e1 := g1 (by omega)
    have e2 := g2 (by omega)
    have e3 := g3 (by omega)
    have e4 := g4 (by omega)
    have e5 := g5 (by omega)
    have e6 := g6 (by omega)
    have e7 := g7 (by omega)
    omega
  · rw [show (2 : Int) ^ (7 - 1) = 64 from by decide]
    rw [if_neg (by omega), if_pos (by omega), if_neg (by omega), if_neg (by omega), if_neg (by omega), if_neg (by omega), if_neg (by omega), if_neg (by omega)]
    have e1 := g1 (by omega)
    have e2 := g2 (by omega)
    have e3 := g3 (by omega)
    have e4 := g4 (by omega)
    have e5 := g5 (by omega)
    have e6 := g6 (by omega)
    have e7 := g7 (by omega)
    omega
  · rw [show (2 : Int) ^ (7 - 2) = 32 from by decide]
    rw [if_neg (by omega), if_neg (by omega), if_pos (by omega), if_neg (by omega), if_neg (by omega), if_neg (by omega), if_neg (by omega), if_neg (by omega)]
    have e2 := g2 (by omega)
    have e3 := g3 (by omega)
    have e4 := g4 (by omega)
    have e5 := g5 (by omega)
    have e6 := g6 (by omega)
    have e7 := g7 (by omega)
    omega
  · rw [show (2 : Int) ^ (7 - 3) = 16 from by decide]
    rw [if_neg (by omega), if_neg (by omega), if_neg (by omega), if_pos (by omega), if_neg (by omega), if_neg (by omega), if_neg (by omega), if_neg (by omega)]
    have e3 := g3 (by omega)
    have e4 := g4 (by omega)
    have e5 := g5 (by omega)
    have e6 := g6 (by omega)
    have e7 := g7 (by omega)
    omega
  · rw [show (2 : Int) ^ (7 - 4) = 8 from by decide]
    rw [if_neg (by omega), if_neg (by omega), if_neg (by omega), if_neg (by omega), if_pos (by omega), if_neg (by omega), if_neg (by omega), if_neg (by omega)]
    have e4 := g4 (by omega)
    have e5 := g5 (by omega)
    have e6 := g6 (by omega)
    have e7 := g7 (by omega)
    omega
  · rw [show (2 : Int) ^ (7 - 5) = 4 from by decide]
    rw [if_neg (by omega), if_neg (by omega), if_neg (by omega), if_neg (by omega), if_neg (by omega), if_pos (by omega), if_neg (by omega), if_neg (by omega)]
    have e5 := g5 (by omega)
    have e6 := g6 (by omega)
    have e7 := g7 (by omega)
    omega
  · rw [show (2 : Int) ^ (7 - 6) = 2 from by decide]
    rw [if_neg (by omega), if_neg (by omega), if_neg (by omega), if_neg (by omega), if_neg (by omega), if_neg (by omega), if_pos (by omega), if_neg (by omega)]
    have e6 := g6 (by omega)
    have e7 := g7 (by omega)
    omega
  · rw [show (2 : Int) ^ (7 - 7) = 1 from by decide]
    rw [if_neg (by omega), if_neg (by omega), if_neg (by omega), if_neg (by omega), if_neg (by omega), if_neg (by omega), if_neg (by omega), if_pos (by omega)]
    have e7 := g7 (by omega)
    omega
theorem irem8 (n : Nat) : irem (n : Int) 8 = ((n % 8 : Nat) : Int) := by
  unfold irem; rw [Int.tmod_eq_emod_of_nonneg (by omega)]; omega
theorem iquo8 {n : Nat} (h : n ≤ 9223372036854775807) : iquo .i64 (n : Int) 8 = ((n / 8 : Nat) : Int) := by
  unfold iquo; rw [Int.tdiv_eq_ediv_of_nonneg (by omega), kS (by omega) (by omega)]; omega
theorem qie {l : List Int} : byt l (l.length / 8) % 2 ^ (8 - l.length % 8) = 0 := by
  obtain ⟨k, hk⟩ : ∃ k, k = l.length / 8 := ⟨_, rfl⟩
  obtain ⟨r, hr⟩ : ∃ r, r = l.length % 8 := ⟨_, rfl⟩
  have hl : l.length = 8 * k + r := by omega
  have hr8 : r < 8 := by omega
  rw [← hk, ← hr]
  unfold byt
  have hg : ∀ j, r ≤ j → l.getD (8 * k + j) 0 = 0 := fun j hj => vG (by omega)
  have g0 := hg 0; have g1 := hg 1; have g2 := hg 2; have g3 := hg 3; have g4 := hg 4; have g5 := hg 5; have g6 := hg 6; have g7 := hg 7
  rw [Nat.add_zero] at g0
  rcases (by omega : r = 0 ∨ r = 1 ∨ r = 2 ∨ r = 3 ∨ r = 4 ∨ r = 5 ∨ r = 6 ∨ r = 7) with rfl | rfl | rfl | rfl | rfl | rfl | rfl | rfl
  · have e0 := g0 (by omega); have e1 := g1 (by omega); have e2 := g2 (by omega); have e3 := g3 (by omega); have e4 := g4 (by omega); have e5 := g5 (by omega); have e6 := g6 (by omega); have e7 := g7 (by omega)
    rw [show (2 : Int) ^ (8 - 0) = 256 from by decide]; omega
  · have e1 := g1 (by omega); have e2 := g2 (by omega); have e3 := g3 (by omega); have e4 := g4 (by omega); have e5 := g5 (by omega); have e6 := g6 (by omega); have e7 := g7 (by omega)
    rw [show (2 : Int) ^ (8 - 1) = 128 from by decide]; omega
  · have e2 := g2 (by omega); have e3 := g3 (by omega); have e4 := g4 (by omega); have e5 := g5 (by omega); have e6 := g6 (by omega); have e7 := g7 (by omega)
    rw [show (2 : Int) ^ (8 - 2) = 64 from by decide]; omega
  · have e3 := g3 (by omega); have e4 := g4 (by omega); have e5 := g5 (by omega); have e6 := g6 (by omega); have e7 := g7 (by omega)
    rw [show (2 : Int) ^ (8 - 3) = 32 from by decide]; omega
  · have e4 := g4 (by omega); have e5 := g5 (by omega); have e6 := g6 (by omega); have e7 := g7 (by omega)
    rw [show (2 : Int) ^ (8 - 4) = 16 from by decide]; omega
  · have e5 := g5 (by omega); have e6 := g6 (by omega); have e7 := g7 (by omega)
    rw [show (2 : Int) ^ (8 - 5) = 8 from by decide]; omega
  · have e6 := g6 (by omega); have e7 := g7 (by omega)
    rw [show (2 : Int) ^ (8 - 6) = 4 from by decide]; omega
  · have e7 := g7 (by omega)
    rw [show (2 : Int) ^ (8 - 7) = 2 from by decide]; omega
theorem qlz {l : List Int} (h : l.length % 8 = 0) : byt l (l.length / 8) = 0 := by
  unfold byt
  rw [vG (by omega), vG (by omega), vG (by omega), vG (by omega), vG (by omega), vG (by omega), vG (by omega), vG (by omega)]
  rfl
theorem qgL (k : IntKind) (a b : Int) : ior k a b = ior k b a := by unfold ior; rw [BitVec.or_comm]
def room (l : List Int) : List Int := (List.range (l.length / 8 + 1)).map (byt l)
theorem qiL {F : Nat} {l : List Int} (hl : Bit l) {x : Int} (hx : x = 0 ∨ x = 1) (hn : l.length ≤ 1000000) : kh F (l.length : Int) x (room l) = some (((l.length + 1 : Nat) : Int), pk (l ++ [x])) := by
  unfold kh
  rw [iquo8 (by omega), irem8]
  have hg : (room l)[l.length / 8]? = some (byt l (l.length / 8)) := by simp [room]
  rw [qQ, hg]
  simp only [Option.bind_some]
  have hc : decide ((0 : Int) ≤ ((l.length % 8 : Nat) : Int)) = true := decide_eq_true (by omega)
  rw [hc]
  simp only [chk, if_true, lett, Int.toNat_natCast]
  have hb := qc6 hl (l.length / 8)
  have hr8 : l.length % 8 < 8 := Nat.mod_lt _ (by decide)
  have e1 : ishl .u64 x 7 = x * 128 := by
    have := qd1 (a := x) (m := 7) (by decide)
    rw [show ((7 : Nat) : Int) = 7 from rfl] at this
    rw [this]
    rcases hx with rfl | rfl <;> decide
  have e2 : iconv .u8 (x * 128) = x * 128 := qmG (by omega) (by omega)
  have e3 : ishr .u8 (x * 128) ((l.length % 8 : Nat) : Int) = x * 2 ^ (7 - l.length % 8) := by
    rw [qcK (by simp only [IntKind.bits]; omega)]
    have key : ∀ r : Fin 8, ((0 : Int) * 128 / 2 ^ r.val = 0 * 2 ^ (7 - r.val)) ∧ ((1 : Int) * 128 / 2 ^ r.val = 1 * 2 ^ (7 - r.val)) := by decide
    have := key ⟨l.length % 8, hr8⟩
    rcases hx with rfl | rfl
    · exact this.1
    · exact this.2
  have key2 : ∀ r : Fin 8, (1 : Int) ≤ 2 ^ (7 - r.val) ∧ (2 : Int) ^ (8 - r.val) = 2 * 2 ^ (7 - r.val) ∧ (2 : Int) ^ (7 - r.val) ≤ 128 ∧ (256 : Int) % 2 ^ (8 - r.val) = 0 ∧ (2 : Int) ^ (8 - r.val) ≤ 256 := by decide
  have hk2 := key2 ⟨l.length % 8, hr8⟩
  simp only at hk2
  have hat := qgB (l := l) (x := x)
  have hb2 : Bit (l ++ [x]) := by
    intro y hy
    rcases List.mem_append.1 hy with h | h
    · exact hl y h
    · simp at h; subst h; exact hx
  have hbb := qc6 hb2 (l.length / 8)
  have e4 : ior .u8 (byt l (l.length / 8)) (x * 2 ^ (7 - l.length % 8)) = byt (l ++ [x]) (l.length / 8) := by
    rw [qgL, qir (m := 8 - l.length % 8) ?_ ?_ hb.1 qie rfl ?_]
    · rw [hat]; omega
    · rcases hx with rfl | rfl <;> omega
    · rcases hx with rfl | rfl <;> omega
    · simp only [IntKind.bits]
      rw [show (2 : Int) ^ 8 = 256 from by decide]
      omega
  rw [e1, e2, e3, e4, qE (by omega) (by omega)]
  congr 2
  unfold room pk
  have hlen : ((l ++ [x]).length + 7) / 8 = l.length / 8 + 1 := by simp; omega
  rw [hlen]
  apply List.ext_getElem?
  intro k
  rw [List.getElem?_set]
  by_cases hk : l.length / 8 = k
  · subst hk; simp
  · rw [if_neg hk]
    simp only [List.getElem?_map]
    by_cases h3 : k < l.length / 8 + 1
    · rw [List.getElem?_range h3]
      simp only [Option.map_some]
      rw [qdS (fun e => hk e.symm)]
    · rw [List.getElem?_eq_none (by simpa using h3)]
      rfl
theorem qjJ {F : Nat} {l : List Int} (hl : Bit l) {x : Int} (hx : x = 0 ∨ x = 1) (hn : l.length ≤ 1000000) : ye F (l.length : Int) (pk l) x = some (((l.length + 1 : Nat) : Int), pk (l ++ [x])) := by
  unfold ye
  rw [irem8]
  by_cases h : l.length % 8 = 0
  · have h1 : ((((l.length % 8 : Nat) : Int) : Int) == 0) = true := by simp [h]
    simp only [h1, if_true]
    rw [kY (by simp [pk]; omega)]
    simp only [Option.bind_some]
    have : pk l ++ [0] = room l := by
      unfold pk room
      rw [show (l.length + 7) / 8 = l.length / 8 from by omega, List.range_succ, List.map_append]
      simp [qlz h]
    rw [this]
    exact qiL hl hx hn
  · have h1 : ((((l.length % 8 : Nat) : Int) : Int) == 0) = false := by simp; omega
    simp only [h1, Bool.false_eq_true, if_false]
    have : pk l = room l := by
      unfold pk room
      rw [show (l.length + 7) / 8 = l.length / 8 + 1 from by omega]
    rw [this]
    exact qiL hl hx hn
def bitAt (b : List Int) (i : Nat) : Int := b.getD (i / 8) 0 / 2 ^ (7 - i % 8) % 2
def bl (b : List Int) (n : Nat) : List Int := (List.range n).map (bitAt b)
theorem qc5 (b : List Int) (i : Nat) : bitAt b i = 0 ∨ bitAt b i = 1 := by unfold bitAt; omega
theorem qhn (b : List Int) (n : Nat) : Bit (bl b n) := by
  intro x hx
  obtain ⟨i, _, rfl⟩ := List.mem_map.1 hx
  exact qc5 b i
theorem jG (b : List Int) (n : Nat) : (bl b n).length = n := by simp [bl]
def U8s (l : List Int) : Prop := ∀ n ∈ l, 0 ≤ n ∧ n < 256
theorem qjG {F : Nat} {n : Int} {b : List Int} (hb : U8s b) {i : Nat} (hi : i / 8 < b.length) (hm : i ≤ 1000000) : vS F n b (i : Int) = some (bitAt b i) := by
  unfold vS
  rw [iquo8 (by omega), irem8, qQ]
  have hg : b[i / 8]? = some b[i / 8] := by simp [hi]
  rw [hg]
  simp only [Option.bind_some]
  have e1 : isub .i64 7 ((i % 8 : Nat) : Int) = ((7 - i % 8 : Nat) : Int) := by rw [q6 (by omega) (by omega)]; omega
  rw [e1]
  have hc : decide ((0 : Int) ≤ ((7 - i % 8 : Nat) : Int)) = true := decide_eq_true (by omega)
  rw [hc]
  simp only [chk, if_true, lett]
  have hx := hb b[i / 8] (List.getElem_mem hi)
  rw [qcK (by simp only [IntKind.bits]; omega)]
  have hp : (1 : Int) ≤ 2 ^ (7 - i % 8) := by
    have key : ∀ r : Fin 8, (1 : Int) ≤ 2 ^ (7 - r.val) := by decide
    exact key ⟨i % 8, Nat.mod_lt _ (by decide)⟩
  have h1 : 0 ≤ b[i / 8] / 2 ^ (7 - i % 8) := Int.ediv_nonneg hx.1 (by omega)
  have h2 : b[i / 8] / 2 ^ (7 - i % 8) ≤ b[i / 8] := Int.ediv_le_self _ hx.1
  have e2 : iconv .u64 (b[i / 8] / 2 ^ (7 - i % 8)) = b[i / 8] / 2 ^ (7 - i % 8) := kD h1 (by omega)
  rw [e2]
  have e3 := qbQ (k := .u64) (a := b[i / 8] / 2 ^ (7 - i % 8)) (m := 1) h1 (by simp only [IntKind.bits]; rw [show (2 : Int) ^ 64 = 18446744073709551616 from by decide]; omega) (by decide) rfl
  rw [show ((2 ^ 1 - 1 : Nat) : Int) = 1 from rfl, show (2 : Int) ^ 1 = 2 from rfl] at e3
  rw [e3]
  unfold bitAt
  simp [List.getD, hg]
theorem qgQ {F : Nat} {n : Int} {b : List Int} (hb : U8s b) {yy : (Int × List Int) → Int → Option ((Int × List Int) ⊕ Empty)} (hy : ∀ (l : List Int) x, Bit l → (x = 0 ∨ x = 1) → l.length ≤ 100000 → yy ((l.length : Int), pk l) x = some (.inl (((l.length + 1 : Nat) : Int), pk (l ++ [x])))) {to : Nat} (ht : to ≤ 8 * b.length) (hm : to ≤ 10000) :
    ∀ (k i : Nat) (l : List Int), to < k + i → i ≤ to → Bit l → l.length + (to - i) ≤ 100000 →
      zn F yy (to : Int) n b k ((i : Int), ((l.length : Int), pk l)) = some (.inl (((l.length + (to - i) : Nat) : Int), pk (l ++ (bl b to).drop i)))
  | 0, i, l, h, hi, _, _ => by omega
  | k + 1, i, l, h, hi, hl, hc => by
    have hstep : zn F yy (to : Int) n b (k + 1) ((i : Int), ((l.length : Int), pk l)) = yL F yy (to : Int) n b (zn F yy (to : Int) n b k) (i : Int) ((l.length : Int), pk l) := rfl
    rw [hstep]
    unfold yL
    by_cases hlt : i < to
    · have h1 : (i : Int) < (to : Int) := by omega
      simp only [h1, decide_true, if_true]
      rw [qjG hb (by omega) (by omega)]
      simp only [Option.bind_some]
      have hx := qc5 b i
      rw [hy l _ hl hx (by omega)]
      simp only [Option.bind_some, Sum.elim_inl]
      rw [qE (by omega) (by omega), show (i : Int) + 1 = ((i + 1 : Nat) : Int) from by omega]
      have hl2 : Bit (l ++ [bitAt b i]) := by
        intro y hy2
        rcases List.mem_append.1 hy2 with h | h
        · exact hl y h
        · simp at h; subst h; exact hx
      have := qgQ (F := F) (n := n) hb hy ht hm k (i + 1) (l ++ [bitAt b i]) (by omega) (by omega) hl2 (by simp; omega)
      rw [show (l ++ [bitAt b i]).length = l.length + 1 from by simp] at this
      rw [this]
      have hd : (bl b to).drop i = bitAt b i :: (bl b to).drop (i + 1) := by
        rw [List.drop_eq_getElem_cons (by rw [jG]; exact hlt)]
        congr 1
        simp [bl]
      rw [hd, List.append_assoc, show l.length + 1 + (to - (i + 1)) = l.length + (to - i) from by omega]
      rfl
    · have h1 : ¬ (i : Int) < (to : Int) := by omega
      simp only [h1, decide_false, Bool.false_eq_true, if_false]
      rw [List.drop_eq_nil_of_le (by rw [jG]; omega), List.append_nil, show l.length + (to - i) = l.length from by omega]
structure Ok (n : Nat) (b : List Int) : Prop where
  max : n ≤ 8192
  len : b.length = (n + 7) / 8
  low : n % 8 ≠ 0 → b.getD (n / 8) 0 % 2 ^ (8 - n % 8) = 0
theorem qlx {b : List Int} {n i : Nat} : (bl b n).getD i 0 = if i < n then bitAt b i else 0 := by
  by_cases h : i < n
  · rw [if_pos h]; simp [bl, List.getD, h]
  · rw [if_neg h]; exact vG (by rw [jG]; omega)
theorem bits8 {x : Int} (h0 : 0 ≤ x) (h1 : x < 256) : x / 128 % 2 * 128 + x / 64 % 2 * 64 + x / 32 % 2 * 32 + x / 16 % 2 * 16 + x / 8 % 2 * 8 + x / 4 % 2 * 4 + x / 2 % 2 * 2 + x / 1 % 2 = x := by omega
theorem qia (b : List Int) (k : Nat) : bitAt b (8 * k) = b.getD k 0 / 128 % 2 ∧ bitAt b (8 * k + 1) = b.getD k 0 / 64 % 2 ∧ bitAt b (8 * k + 2) = b.getD k 0 / 32 % 2 ∧ bitAt b (8 * k + 3) = b.getD k 0 / 16 % 2 ∧
    bitAt b (8 * k + 4) = b.getD k 0 / 8 % 2 ∧ bitAt b (8 * k + 5) = b.getD k 0 / 4 % 2 ∧ bitAt b (8 * k + 6) = b.getD k 0 / 2 % 2 ∧ bitAt b (8 * k + 7) = b.getD k 0 / 1 % 2 := by
  unfold bitAt
  rw [show 8 * k / 8 = k from by omega, show (8 * k + 1) / 8 = k from by omega, show (8 * k + 2) / 8 = k from by omega, show (8 * k + 3) / 8 = k from by omega, show (8 * k + 4) / 8 = k from by omega, show (8 * k + 5) / 8 = k from by omega, show (8 * k + 6) / 8 = k from by omega, show (8 * k + 7) / 8 = k from by omega,
    show 8 * k % 8 = 0 from by omega, show (8 * k + 1) % 8 = 1 from by omega, show (8 * k + 2) % 8 = 2 from by omega, show (8 * k + 3) % 8 = 3 from by omega, show (8 * k + 4) % 8 = 4 from by omega, show (8 * k + 5) % 8 = 5 from by omega, show (8 * k + 6) % 8 = 6 from by omega, show (8 * k + 7) % 8 = 7 from by omega]
  exact ⟨rfl, rfl, rfl, rfl, rfl, rfl, rfl, rfl⟩
theorem qm1 {n : Nat} {b : List Int} (hb : U8s b) (h : Ok n b) {k : Nat} (hk : k < (n + 7) / 8) : byt (bl b n) k = b.getD k 0 := by
  have hx : 0 ≤ b.getD k 0 ∧ b.getD k 0 < 256 := by
    have hlt : k < b.length := by rw [h.len]; exact hk
    have := hb b[k] (List.getElem_mem hlt)
    simpa [List.getD, hlt] using this
  obtain ⟨c0, c1, c2, c3, c4, c5, c6, c7⟩ := qia b k
  unfold byt
  simp only [qlx]
  rw [c0, c1, c2, c3, c4, c5, c6, c7]
  by_cases hf : 8 * k + 8 ≤ n
  · rw [if_pos (by omega), if_pos (by omega), if_pos (by omega), if_pos (by omega), if_pos (by omega), if_pos (by omega), if_pos (by omega), if_pos (by omega)]
    exact bits8 hx.1 hx.2
  · have hkn : n / 8 = k := by omega
    obtain ⟨r, hr⟩ : ∃ r, r = n % 8 := ⟨_, rfl⟩
    have hn : n = 8 * k + r := by omega
    have hlow := h.low (by omega)
    rw [hkn, ← hr] at hlow
    generalize b.getD k 0 = x at hx hlow
    rcases (by omega : r = 1 ∨ r = 2 ∨ r = 3 ∨ r = 4 ∨ r = 5 ∨ r = 6 ∨ r = 7) with rfl | rfl | rfl | rfl | rfl | rfl | rfl
    · rw [if_pos (by omega), if_neg (by omega), if_neg (by omega), if_neg (by omega), if_neg (by omega), if_neg (by omega), if_neg (by omega), if_neg (by omega)]
      rw [show (2 : Int) ^ (8 - 1) = 128 from by decide] at hlow
      omega
    · rw [if_pos (by omega), if_pos (by omega), if_neg (by omega), if_neg (by omega), if_neg (by omega), if_neg (by omega), if_neg (by omega), if_neg (by omega)]
      rw [show (2 : Int) ^ (8 - 2) = 64 from by decide] at hlow
      omega
    · rw [if_pos (by omega), if_pos (by omega), if_pos (by omega), if_neg (by omega), if_neg (by omega), if_neg (by omega), if_neg (by omega), if_neg (by omega)]
      rw [show (2 : Int) ^ (8 - 3) = 32 from by decide] at hlow
      omega
    · rw [if_pos (by omega), if_pos (by omega), if_pos (by omega), if_pos (by omega), if_neg (by omega), if_neg (by omega), if_neg (by omega), if_neg (by omega)]
      rw [show (2 : Int) ^ (8 - 4) = 16 from by decide] at hlow
      omega
    · rw [if_pos (by omega), if_pos (by omega), if_pos (by omega), if_pos (by omega), if_pos (by omega), if_neg (by omega), if_neg (by omega), if_neg (by omega)]
      rw [show (2 : Int) ^ (8 - 5) = 8 from by decide] at hlow
      omega
    · rw [if_pos (by omega), if_pos (by omega), if_pos (by omega), if_pos (by omega), if_pos (by omega), if_pos (by omega), if_neg (by omega), if_neg (by omega)]
      rw [show (2 : Int) ^ (8 - 6) = 4 from by decide] at hlow
      omega
    · rw [if_pos (by omega), if_pos (by omega), if_pos (by omega), if_pos (by omega), if_pos (by omega), if_pos (by omega), if_pos (by omega), if_neg (by omega)]
      rw [show (2 : Int) ^ (8 - 7) = 2 from by decide] at hlow
      omega
theorem qkw {n : Nat} {b : List Int} (hb : U8s b) (h : Ok n b) : pk (bl b n) = b := by
  unfold pk
  rw [jG]
  apply List.ext_getElem?
  intro k
  by_cases hk : k < (n + 7) / 8
  · rw [List.getElem?_map, List.getElem?_range hk]
    simp only [Option.map_some]
    rw [qm1 hb h hk]
    have hlt : k < b.length := by rw [h.len]; exact hk
    simp [List.getD, hlt]
  · rw [List.getElem?_eq_none (by simpa using hk), List.getElem?_eq_none (by rw [h.len]; omega)]
def chkOf (n : Int) (b : List Int) : Int :=
  if n < 0 ∨ 8192 < n then 3 else if (b.length : Int) ≠ (n + 7) / 8 then 1 else if n % 8 ≠ 0 ∧ b.getD (n.toNat / 8) 0 % 2 ^ (8 - n.toNat % 8) ≠ 0 then 1 else 0
theorem qjO {n : Int} {b : List Int} (h : chkOf n b = 0) : ∃ m : Nat, n = m ∧ Ok m b := by
  unfold chkOf at h
  split at h
  · simp at h
  · rename_i h1
    split at h
    · simp at h
    · rename_i h2
      split at h
      · simp at h
      · rename_i h3
        obtain ⟨m, rfl⟩ := Int.eq_ofNat_of_zero_le (show 0 ≤ n by omega)
        refine ⟨m, rfl, by omega, by omega, fun hm => ?_⟩
        simp only [Int.toNat_natCast] at h3
        by_cases hz : b.getD (m / 8) 0 % 2 ^ (8 - m % 8) = 0
        · exact hz
        · exact absurd ⟨by omega, hz⟩ h3
theorem qjN {F : Nat} {n : Int} {b : List Int} (hb : U8s b) (h1 : -9223372036854775808 ≤ n) (h2 : n < 9223372036854775808) (hm : b.length ≤ 9223372036854775807) : qai F n b = some (chkOf n b) := by
  unfold qai chkOf
  by_cases c1 : n < 0 ∨ 8192 < n
  · have : (decide (n < 0) || decide (8192 < n)) = true := by simpa using c1
    rw [if_pos this, if_pos c1]
  · have : (decide (n < 0) || decide (8192 < n)) = false := by simpa using c1
    rw [this, if_neg c1]
    simp only [Bool.false_eq_true, if_false]
    obtain ⟨m, rfl⟩ := Int.eq_ofNat_of_zero_le (show 0 ≤ n by omega)
    have e1 : iquo .i64 (iadd .i64 (m : Int) 7) 8 = ((m : Int) + 7) / 8 := by
      rw [qE (by omega) (by omega), show (m : Int) + 7 = ((m + 7 : Nat) : Int) from by omega, iquo8 (by omega)]
      omega
    rw [e1, irem8]
    by_cases c2 : (b.length : Int) ≠ ((m : Int) + 7) / 8
    · have : ((b.length : Int) != ((m : Int) + 7) / 8) = true := by simpa using c2
      rw [if_pos this, if_pos c2]
    · have : ((b.length : Int) != ((m : Int) + 7) / 8) = false := by simpa using c2
      rw [this, if_neg c2]
      simp only [Bool.false_eq_true, if_false]
      by_cases c3 : m % 8 = 0
      · have : ((((m % 8 : Nat) : Int)) != 0) = false := by simp [c3]
        have hn : ¬ ((m : Int) % 8 ≠ 0 ∧ b.getD ((m : Int).toNat / 8) 0 % 2 ^ (8 - (m : Int).toNat % 8) ≠ 0) := fun h => h.1 (by omega)
        rw [this, if_neg hn]
        simp [yX]
      · have : ((((m % 8 : Nat) : Int)) != 0) = true := by simp; omega
        rw [this]
        simp only [if_true]
        have hlen : b.length = m / 8 + 1 := by omega
        have e2 : isub .i64 (b.length : Int) 1 = ((m / 8 : Nat) : Int) := by rw [q6 (by omega) (by omega)]; omega
        have hg : b[m / 8]? = some b[m / 8] := by simp [hlen]
        rw [e2, qQ, hg]
        simp only [Option.bind_some]
        have hc : decide ((0 : Int) ≤ ((m % 8 : Nat) : Int)) = true := decide_eq_true (by omega)
        rw [hc]
        simp only [chk, if_true]
        have hx := hb b[m / 8] (List.getElem_mem (by omega))
        have hgd : b.getD (m / 8) 0 = b[m / 8] := by simp [List.getD, hg]
        rw [Int.toNat_natCast, hgd]
        generalize b[m / 8] = x at hx
        have e3 : (ishl .u8 x ((m % 8 : Nat) : Int) != 0) = decide (x % 2 ^ (8 - m % 8) ≠ 0) := by
          have key : ishl .u8 x ((m % 8 : Nat) : Int) = (x * 2 ^ (m % 8)) % 256 := by
            unfold ishl
            have h : min (((m % 8 : Nat) : Int).toNat) (IntKind.bits .u8) = m % 8 := by simp [IntKind.bits]; omega
            rw [h, qhf]
          rw [key]
          rcases (by omega : m % 8 = 1 ∨ m % 8 = 2 ∨ m % 8 = 3 ∨ m % 8 = 4 ∨ m % 8 = 5 ∨ m % 8 = 6 ∨ m % 8 = 7) with h | h | h | h | h | h | h <;> rw [h]
          · rw [show (2 : Int) ^ 1 = 2 from rfl, show (2 : Int) ^ (8 - 1) = 128 from by decide]; by_cases hz : x % 128 = 0 <;> simp [hz] <;> omega
          · rw [show (2 : Int) ^ 2 = 4 from rfl, show (2 : Int) ^ (8 - 2) = 64 from by decide]; by_cases hz : x % 64 = 0 <;> simp [hz] <;> omega
          · rw [show (2 : Int) ^ 3 = 8 from rfl, show (2 : Int) ^ (8 - 3) = 32 from by decide]; by_cases hz : x % 32 = 0 <;> simp [hz] <;> omega
          · rw [show (2 : Int) ^ 4 = 16 from by decide]; try rw [show (2 : Int) ^ (8 - 4) = 16 from by decide]
            by_cases hz : x % 16 = 0 <;> simp [hz] <;> omega
          · rw [show (2 : Int) ^ 5 = 32 from by decide, show (2 : Int) ^ (8 - 5) = 8 from by decide]; by_cases hz : x % 8 = 0 <;> simp [hz] <;> omega
          · rw [show (2 : Int) ^ 6 = 64 from by decide, show (2 : Int) ^ (8 - 6) = 4 from by decide]; by_cases hz : x % 4 = 0 <;> simp [hz] <;> omega
          · rw [show (2 : Int) ^ 7 = 128 from by decide, show (2 : Int) ^ (8 - 7) = 2 from by decide]; by_cases hz : x % 2 = 0 <;> simp [hz] <;> omega
        rw [e3]
        unfold yX
        by_cases hz : x % 2 ^ (8 - m % 8) = 0
        · rw [if_neg (by simp [hz]), if_neg (by simp [hz])]
        · rw [if_pos (by simp [hz]), if_pos ⟨by omega, hz⟩]
theorem qjQ {F : Nat} {x : List Int} (h : x.length ≤ 1000000) : kf F x = some x := by
  unfold kf
  rw [kY (by simp; omega)]
  rfl
theorem qkn {F : Nat} {n : Int} {b : List Int} (h : b.length ≤ 1000000) : qav F n b = some (n, b) := by
  unfold qav
  rw [qjQ h]
  rfl
theorem qfF {F : Nat} (hF : 20000 ≤ F) {n m : Nat} {a b : List Int} (ha : U8s a) (hb : U8s b) (oa : Ok n a) (ob : Ok m b) : yG F n a m b = some (((n + m : Nat) : Int), pk (bl a n ++ bl b m)) := by
  unfold yG
  have hal : a.length ≤ 1000000 := by rw [oa.len]; have := oa.max; omega
  rw [qkn hal]
  simp only [Option.bind_some, qaY, qaf]
  have hm := ob.max
  have hn := oa.max
  have := qgQ (F := F) (n := (m : Int)) hb (yy := fun (p : Int × List Int) (x53 : Int) => vJ F p.1 p.2 x53) (fun l x hl hx hlen => by
    simp only [vJ]
    rw [qjJ hl hx (by omega)]
    rfl) (to := m) (by rw [ob.len]; omega) (by omega) F 0 (bl a n) (by omega) (by omega) (qhn a n) (by rw [jG]; omega)
  rw [jG, qkw ha oa, List.drop_zero, Nat.sub_zero] at this
  rw [show ((0 : Nat) : Int) = 0 from rfl] at this
  have h2 : zn F (fun (x : Int × List Int) (x53 : Int) => match x with | (x45, x48) => vJ F x45 x48 x53) (m : Int) (m : Int) b F (0, ((n : Int), a)) = some (.inl (((n + m : Nat) : Int), pk (bl a n ++ bl b m))) := this
  rw [h2]
  rfl
def I64 (n : Int) : Prop := -9223372036854775808 ≤ n ∧ n < 9223372036854775808
theorem qiA {l : List Int} {k : Nat} (hk : k < (l.length + 7) / 8) : (pk l).getD k 0 = byt l k := by
  unfold pk
  simp [List.getD, hk]
theorem qb7 {l : List Int} (h : Bit l) : U8s (pk l) := by
  intro x hx
  obtain ⟨k, _, rfl⟩ := List.mem_map.1 hx
  exact qc6 h k
theorem qea (l : List Int) : (pk l).length = (l.length + 7) / 8 := by simp [pk]
theorem qcM {l : List Int} (hm : l.length ≤ 8192) : Ok l.length (pk l) where
  max := hm
  len := qea l
  low := fun h => by
    rw [qiA (by omega)]
    exact qie
theorem qgz {l : List Int} (h : Bit l) {i : Nat} (hi : i < l.length) : bitAt (pk l) i = l.getD i 0 := by
  obtain ⟨k, hk⟩ : ∃ k, k = i / 8 := ⟨_, rfl⟩
  obtain ⟨r, hr⟩ : ∃ r, r = i % 8 := ⟨_, rfl⟩
  have hl : i = 8 * k + r := by omega
  have hr8 : r < 8 := by omega
  obtain ⟨c0, c1, c2, c3, c4, c5, c6, c7⟩ := qia (pk l) k
  have hb : (pk l).getD k 0 = byt l k := qiA (by omega)
  rw [hb] at c0 c1 c2 c3 c4 c5 c6 c7
  have hbd : ∀ q, 0 ≤ l.getD q 0 ∧ l.getD q 0 ≤ 1 := fun q => by have := h.getD q; omega
  have h0 := hbd (8 * k); have h1 := hbd (8 * k + 1); have h2 := hbd (8 * k + 2); have h3 := hbd (8 * k + 3)
  have h4 := hbd (8 * k + 4); have h5 := hbd (8 * k + 5); have h6 := hbd (8 * k + 6); have h7 := hbd (8 * k + 7)
  clear hbd hb
  unfold byt at c0 c1 c2 c3 c4 c5 c6 c7
  rcases (by omega : r = 0 ∨ r = 1 ∨ r = 2 ∨ r = 3 ∨ r = 4 ∨ r = 5 ∨ r = 6 ∨ r = 7) with rfl | rfl | rfl | rfl | rfl | rfl | rfl | rfl
  · rw [hl, Nat.add_zero, c0]; clear c0 c1 c2 c3 c4 c5 c6 c7; generalize l.getD (8 * k) 0 = y0 at *; generalize l.getD (8 * k + 1) 0 = y1 at *; generalize l.getD (8 * k + 2) 0 = y2 at *; generalize l.getD (8 * k + 3) 0 = y3 at *; generalize l.getD (8 * k + 4) 0 = y4 at *; generalize l.getD (8 * k + 5) 0 = y5 at *; generalize l.getD (8 * k + 6) 0 = y6 at *; generalize l.getD (8 * k + 7) 0 = y7 at *; clear h hi hl hr hk hr8; omega
  · rw [hl, c1]; clear c0 c1 c2 c3 c4 c5 c6 c7; generalize l.getD (8 * k) 0 = y0 at *; generalize l.getD (8 * k + 1) 0 = y1 at *; generalize l.getD (8 * k + 2) 0 = y2 at *; generalize l.getD (8 * k + 3) 0 = y3 at *; generalize l.getD (8 * k + 4) 0 = y4 at *; generalize l.getD (8 * k + 5) 0 = y5 at *; generalize l.getD (8 * k + 6) 0 = y6 at *; generalize l.getD (8 * k + 7) 0 = y7 at *; clear h hi hl hr hk hr8; omega
  · rw [hl, c2]; clear c0 c1 c2 c3 c4 c5 c6 c7; generalize l.getD (8 * k) 0 = y0 at *; generalize l.getD (8 * k + 1) 0 = y1 at *; generalize l.getD (8 * k + 2) 0 = y2 at *; generalize l.getD (8 * k + 3) 0 = y3 at *; generalize l.getD (8 * k + 4) 0 = y4 at *; generalize l.getD (8 * k + 5) 0 = y5 at *; generalize l.getD (8 * k + 6) 0 = y6 at *; generalize l.getD (8 * k + 7) 0 = y7 at *; clear h hi hl hr hk hr8; omega
  · rw [hl, c3]; clear c0 c1 c2 c3 c4 c5 c6 c7; generalize l.getD (8 * k) 0 = y0 at *; generalize l.getD (8 * k + 1) 0 = y1 at *; generalize l.getD (8 * k + 2) 0 = y2 at *; generalize l.getD (8 * k + 3) 0 = y3 at *; generalize l.getD (8 * k + 4) 0 = y4 at *; generalize l.getD (8 * k + 5) 0 = y5 at *; generalize l.getD (8 * k + 6) 0 = y6 at *; generalize l.getD (8 * k + 7) 0 = y7 at *; clear h hi hl hr hk hr8; omega
  · rw [hl, c4]; clear c0 c1 c2 c3 c4 c5 c6 c7; generalize l.getD (8 * k) 0 = y0 at *; generalize l.getD (8 * k + 1) 0 = y1 at *; generalize l.getD (8 * k + 2) 0 = y2 at *; generalize l.getD (8 * k + 3) 0 = y3 at *; generalize l.getD (8 * k + 4) 0 = y4 at *; generalize l.getD (8 * k + 5) 0 = y5 at *; generalize l.getD (8 * k + 6) 0 = y6 at *; generalize l.getD (8 * k + 7) 0 = y7 at *; clear h hi hl hr hk hr8; omega
  · rw [hl, c5]; clear c0 c1 c2 c3 c4 c5 c6 c7; generalize l.getD (8 * k) 0 = y0 at *; generalize l.getD (8 * k + 1) 0 = y1 at *; generalize l.getD (8 * k + 2) 0 = y2 at *; generalize l.getD (8 * k + 3) 0 = y3 at *; generalize l.getD (8 * k + 4) 0 = y4 at *; generalize l.getD (8 * k + 5) 0 = y5 at *; generalize l.getD (8 * k + 6) 0 = y6 at *; generalize l.getD (8 * k + 7) 0 = y7 at *; clear h hi hl hr hk hr8; omega
  · rw [hl, c6]; clear c0 c1 c2 c3 c4 c5 c6 c7; generalize l.getD (8 * k) 0 = y0 at *; generalize l.getD (8 * k + 1) 0 = y1 at *; generalize l.getD (8 * k + 2) 0 = y2 at *; generalize l.getD (8 * k + 3) 0 = y3 at *; generalize l.getD (8 * k + 4) 0 = y4 at *; generalize l.getD (8 * k + 5) 0 = y5 at *; generalize l.getD (8 * k + 6) 0 = y6 at *; generalize l.getD (8 * k + 7) 0 = y7 at *; clear h hi hl hr hk hr8; omega
  · rw [hl, c7]; clear c0 c1 c2 c3 c4 c5 c6 c7; generalize l.getD (8 * k) 0 = y0 at *; generalize l.getD (8 * k + 1) 0 = y1 at *; generalize l.getD (8 * k + 2) 0 = y2 at *; generalize l.getD (8 * k + 3) 0 = y3 at *; generalize l.getD (8 * k + 4) 0 = y4 at *; generalize l.getD (8 * k + 5) 0 = y5 at *; generalize l.getD (8 * k + 6) 0 = y6 at *; generalize l.getD (8 * k + 7) 0 = y7 at *; clear h hi hl hr hk hr8; omega
theorem qb5 {l : List Int} (h : Bit l) : bl (pk l) l.length = l := by
  apply List.ext_getElem?
  intro i
  by_cases hi : i < l.length
  · have h1 : (bl (pk l) l.length)[i]? = some (bitAt (pk l) i) := by simp [bl, hi]
    rw [h1, qgz h hi]
    simp [List.getD, hi]
  · rw [List.getElem?_eq_none (by rw [jG]; omega), List.getElem?_eq_none (by omega)]
theorem qgD {n : Nat} {b : List Int} (h : Ok n b) : chkOf (n : Int) b = 0 := by
  unfold chkOf
  have := h.max
  have := h.len
  rw [if_neg (by omega), if_neg (by omega), if_neg]
  rintro ⟨h1, h2⟩
  rw [Int.toNat_natCast] at h2
  exact h2 (h.low (by omega))
theorem ym {l k : List Int} (h : Bit l) (h2 : Bit k) : Bit (l ++ k) := by
  intro x hx
  rcases List.mem_append.1 hx with h3 | h3
  · exact h x h3
  · exact h2 x h3
theorem two64 : (2 : Nat) ^ 64 = 18446744073709551616 := by decide
theorem qfR {n k : Nat} (hn : n < 18446744073709551616) : ishr .u64 (n : Int) (k : Int) = ((n / 2 ^ k : Nat) : Int) := by
  unfold ishr
  rw [Int.fdiv_eq_ediv_of_nonneg _ (by exact_mod_cast Nat.zero_le _), Int.toNat_natCast]
  simp only [IntKind.bits]
  by_cases h : k ≤ 64
  · rw [Nat.min_eq_left h]; norm_cast
  · rw [Nat.min_eq_right (by omega)]
    have h1 : n / 2 ^ 64 = 0 := Nat.div_eq_of_lt (by omega)
    have h2 : n / 2 ^ k = 0 := Nat.div_eq_of_lt (Nat.lt_of_lt_of_le hn (by rw [← two64]; exact Nat.pow_le_pow_right (by decide) (by omega)))
    rw [h2]
    have : ((n : Int) / 2 ^ 64) = ((n / 2 ^ 64 : Nat) : Int) := by norm_cast
    rw [this, h1]
theorem qlO {n : Nat} (hn : n < 18446744073709551616) : iand .u64 (n : Int) 1 = ((n % 2 : Nat) : Int) := by
  have e := qbQ (k := .u64) (a := (n : Int)) (m := 1) (by omega) (by simp only [IntKind.bits]; rw [show (2 : Int) ^ 64 = 18446744073709551616 from by decide]; omega) (by decide) rfl
  rw [show ((2 ^ 1 - 1 : Nat) : Int) = 1 from rfl, show (2 : Int) ^ 1 = 2 from rfl] at e
  rw [e]; omega
theorem qht {n k : Nat} (hk : k ≤ 64) : ishl .u64 (n : Int) (k : Int) = ((n * 2 ^ k % 18446744073709551616 : Nat) : Int) := by
  rw [qd1 hk, Int.natCast_emod, Int.natCast_mul, Int.natCast_pow]; rfl
theorem qnJ {a b m : Nat} (ha : a < 2 ^ m) (hb : b % 2 ^ m = 0) (h : a + b < 18446744073709551616) : ior .u64 (b : Int) (a : Int) = ((b + a : Nat) : Int) := by
  rw [qgL, qir (m := m) (by omega) (by exact_mod_cast ha) (by omega) (by exact_mod_cast hb) rfl (by simp only [IntKind.bits]; rw [show (2 : Int) ^ 64 = 18446744073709551616 from by decide]; omega)]
  omega
theorem vZ {a b : Nat} (h : a + b < 9223372036854775808) : iadd .i64 (a : Int) (b : Int) = ((a + b : Nat) : Int) := by rw [qE (by omega) (by omega)]; omega
theorem qG {a : Nat} (h : a + 1 < 9223372036854775808) : iadd .i64 (a : Int) 1 = ((a + 1 : Nat) : Int) := by rw [qE (by omega) (by omega)]; omega
theorem qkb {a b : Nat} (h : b ≤ a) (h2 : a < 9223372036854775808) : isub .i64 (a : Int) (b : Int) = ((a - b : Nat) : Int) := by rw [q6 (by omega) (by omega)]; omega
theorem qap {a : Nat} (h : 1 ≤ a) (h2 : a < 9223372036854775808) : isub .i64 (a : Int) 1 = ((a - 1 : Nat) : Int) := by rw [q6 (by omega) (by omega)]; omega
def nb (n : Nat) : Nat → List Int
  | 0 => []
  | w + 1 => ((n / 2 ^ w % 2 : Nat) : Int) :: nb n w
theorem jP (n : Nat) : ∀ w, (nb n w).length = w
  | 0 => rfl
  | w + 1 => by simp [nb, jP n w]
theorem qhB (n : Nat) : ∀ w, Bit (nb n w)
  | 0 => by intro x hx; simp [nb] at hx
  | w + 1 => by
    intro x hx
    rcases List.mem_cons.1 hx with rfl | h
    · omega
    · exact qhB n w x h
def bv (l : List Int) : Nat := l.foldl (fun n b => 2 * n + b.toNat) 0
theorem qly (l : List Int) : ∀ m, l.foldl (fun n b => 2 * n + b.toNat) m = m * 2 ^ l.length + bv l := by
  induction l with
  | nil => intro m; simp [bv]
  | cons x l ih =>
    intro m
    show l.foldl _ _ = _
    rw [ih]
    show _ = _ + l.foldl _ _
    rw [ih, List.length_cons, Nat.pow_succ]
    generalize 2 ^ l.length = p
    rw [Nat.add_mul, Nat.add_mul]
    have : 2 * m * p = m * (p * 2) := by rw [Nat.mul_comm 2 m, Nat.mul_assoc, Nat.mul_comm 2 p]
    omega
theorem qjK (l k : List Int) : bv (l ++ k) = bv l * 2 ^ k.length + bv k := by
  unfold bv
  rw [List.foldl_append, qly k]; rfl
theorem qfG (x : Int) (l : List Int) : bv (x :: l) = x.toNat * 2 ^ l.length + bv l := by
  have := qjK [x] l
  simpa [bv] using this
theorem qjL {l : List Int} (h : Bit l) : bv l < 2 ^ l.length := by
  induction l with
  | nil => simp [bv]
  | cons x l ih =>
    have h1 := ih (fun y hy => h y (List.mem_cons_of_mem _ hy))
    rw [qfG, List.length_cons, Nat.pow_succ]
    rcases h x List.mem_cons_self with rfl | rfl
    · simp; omega
    · simp; omega
theorem qgA (n : Nat) : ∀ w, bv (nb n w) = n % 2 ^ w
  | 0 => by simp [nb, bv, Nat.mod_one]
  | w + 1 => by
    rw [nb, qfG, jP, qgA n w, Int.toNat_natCast, Nat.pow_succ, Nat.mod_mul, Nat.mul_comm, Nat.add_comm]
theorem qkk (n a : Nat) : ∀ b, nb n (b + a) = nb (n / 2 ^ a) b ++ nb n a
  | 0 => by simp [nb]
  | b + 1 => by
    rw [show b + 1 + a = (b + a) + 1 from by omega, nb, qkk n a b, nb, List.cons_append]
    congr 3
    rw [Nat.div_div_eq_div_mul, ← Nat.pow_add, Nat.add_comm]
theorem qiw (n w : Nat) : nb n (w + 1) = nb (n / 2) w ++ [((n % 2 : Nat) : Int)] := by
  have := qkk n 1 w
  simpa [nb] using this
theorem qgO {F : Nat} {n : Nat} (hn : n < 18446744073709551616) : ∀ (w k : Nat) (l : List Int), w < k → Bit l → l.length + w ≤ 100000 →
    zj F (n : Int) k ((w : Int) - 1, (l.length : Int), pk l) = some (((l.length + w : Nat) : Int), pk (l ++ nb n w))
  | _, 0, _, h, _, _ => by omega
  | 0, k + 1, l, _, _, _ => by
    show zi F (n : Int) _ (((0 : Nat) : Int) - 1) (l.length : Int) (pk l) = _
    unfold zi
    rw [if_neg (by simp)]
    simp [nb]
  | w + 1, k + 1, l, h, hl, hm => by
    show zi F (n : Int) (zj F (n : Int) k) (((w + 1 : Nat) : Int) - 1) (l.length : Int) (pk l) = _
    unfold zi
    rw [show ((w + 1 : Nat) : Int) - 1 = (w : Int) from by omega, if_pos (by simp)]
    have hc : decide ((0 : Int) ≤ (w : Int)) = true := decide_eq_true (by omega)
    rw [hc]
    simp only [chk, if_true]
    rw [qfR hn, qlO (by have := Nat.div_le_self n (2 ^ w); omega)]
    have hx : ((n / 2 ^ w % 2 : Nat) : Int) = 0 ∨ ((n / 2 ^ w % 2 : Nat) : Int) = 1 := by omega
    rw [qjJ hl hx (by omega)]
    simp only [Option.bind_some]
    rw [q6 (by omega) (by omega)]
    have := qgO (F := F) hn w k (l ++ [((n / 2 ^ w % 2 : Nat) : Int)]) (by omega) (ym hl (by intro y hy; simp only [List.mem_singleton] at hy; rw [hy]; exact hx)) (by simp; omega)
    rw [show (l ++ [((n / 2 ^ w % 2 : Nat) : Int)]).length = l.length + 1 from by simp] at this
    rw [this, List.append_assoc, show l.length + 1 + w = l.length + (w + 1) from by omega]
    rfl
theorem qjc {F : Nat} {n w : Nat} {l : List Int} (hn : n < 18446744073709551616) (hF : w < F) (hl : Bit l) (hm : l.length + w ≤ 100000) :
    yf F (l.length : Int) (pk l) (n : Int) (w : Int) = some (((l.length + w : Nat) : Int), pk (l ++ nb n w)) := by
  unfold yf
  rw [q6 (by omega) (by omega)]
  exact qgO hn w F l hF hl hm
theorem qmY {F : Nat} {n w m : Nat} {b : List Int} (hn : n < 18446744073709551616) (hF : w < F) (hb : U8s b) (ob : Ok m b) (hw : w ≤ 10000) :
    vI F (m : Int) b (n : Int) (w : Int) = some (((m + w : Nat) : Int), pk (bl b m ++ nb n w)) := by
  unfold vI
  have := ob.max
  rw [qkn (by rw [ob.len]; omega)]
  simp only [Option.bind_some]
  have h := qjc (F := F) (l := bl b m) hn hF (qhn _ _) (by rw [jG]; omega)
  rw [jG, qkw hb ob] at h
  rw [h]; rfl
def U64 (n : Int) : Prop := 0 ≤ n ∧ n < 18446744073709551616
theorem qm0 {b : List Int} {n i : Nat} (h : i < n) : (bl b n)[i]? = some (bitAt b i) := by simp [bl, h]
theorem qkD {F : Nat} {n : Int} {m a w : Nat} {b : List Int} (hb : U8s b) (hlen : m ≤ 8 * b.length) (hm : m ≤ 10000) (ha : a + w ≤ m) (hw : w ≤ 64) : ∀ (k i v : Nat), w < k + i → i ≤ w → v < 2 ^ i →
    yw F n b (a : Int) (w : Int) k ((v : Int), (i : Int)) = some (((v * 2 ^ (w - i) + bv (((bl b m).drop (a + i)).take (w - i)) : Nat) : Int), true)
  | 0, _, _, _, _, _ => by omega
  | k + 1, i, v, h, hi, hv => by
    show jw F n b (a : Int) (w : Int) (yw F n b (a : Int) (w : Int) k) (v : Int) (i : Int) = _
    unfold jw
    by_cases hlt : i < w
    · rw [if_pos (by simp; omega), vZ (by omega), qjG hb (by omega) (by omega)]
      simp only [Option.bind_some]
      have hx := qc5 b (a + i)
      have hv64 : 2 * v + 1 < 18446744073709551616 := by
        have : 2 ^ (i + 1) ≤ 2 ^ 64 := Nat.pow_le_pow_right (by decide) (by omega)
        rw [Nat.pow_succ, two64] at this
        omega
      obtain ⟨x, hxe⟩ : ∃ x : Nat, bitAt b (a + i) = (x : Int) := Int.eq_ofNat_of_zero_le (by omega)
      have hx1 : x < 2 := by omega
      have e1 : ishl .u64 (v : Int) 1 = ((v * 2 : Nat) : Int) := by
        have := qht (n := v) (k := 1) (by decide)
        rw [show ((1 : Nat) : Int) = 1 from rfl] at this
        rw [this]; omega
      have e2 : ior .u64 ((v * 2 : Nat) : Int) (x : Int) = ((v * 2 + x : Nat) : Int) := qnJ (m := 1) (by omega) (by omega) (by omega)
      rw [hxe, e1, e2, qG (by omega)]
      rw [qkD hb hlen hm ha hw k (i + 1) (v * 2 + x) (by omega) (by omega) (by rw [Nat.pow_succ]; omega)]
      have hd : ((bl b m).drop (a + i)).take (w - i) = (x : Int) :: ((bl b m).drop (a + (i + 1))).take (w - (i + 1)) := by
        rw [List.drop_eq_getElem_cons (by rw [jG]; omega), show w - i = (w - (i + 1)) + 1 from by omega, List.take_succ_cons, show a + i + 1 = a + (i + 1) from by omega]
        congr 1
        have := qm0 (b := b) (n := m) (i := a + i) (by omega)
        rw [List.getElem?_eq_getElem (by rw [jG]; omega)] at this
        rw [← hxe]; exact Option.some.inj this
      rw [hd, qfG, Int.toNat_natCast]
      have hl : (((bl b m).drop (a + (i + 1))).take (w - (i + 1))).length = w - (i + 1) := by simp [jG]; omega
      rw [hl, show w - i = (w - (i + 1)) + 1 from by omega, Nat.pow_succ, Nat.add_mul]
      congr 3
      rw [Nat.mul_assoc, Nat.mul_comm 2, Nat.add_assoc]
    · rw [if_neg (by simp; omega)]
      rw [show w - i = 0 from by omega]
      simp [qau, bv]
theorem ql1 {F : Nat} {m a w : Nat} {b : List Int} (hF : 100 ≤ F) (hb : U8s b) (ob : Ok m b) (ha : a ≤ m) (hw : w ≤ 64) :
    yH F (m : Int) b (a : Int) (w : Int) = some (if a + w ≤ m then (((bv (((bl b m).drop a).take w) : Nat) : Int), true) else (0, false)) := by
  unfold yH
  have hmx := ob.max
  rw [qkb ha (by omega)]
  by_cases h : a + w ≤ m
  · rw [if_neg (by simp; omega), if_pos h]
    have := qkD (F := F) (n := (m : Int)) (m := m) (a := a) (w := w) hb (by rw [ob.len]; omega) (by omega) h hw F 0 0 (by omega) (by omega) (by decide)
    simpa using this
  · rw [if_pos (by simp; omega), if_neg h]
theorem qlQ (n : Nat) : irem (n : Int) 2 = ((n % 2 : Nat) : Int) := by
  unfold irem; rw [Int.tmod_eq_emod_of_nonneg (by omega)]; omega
theorem qlP {n : Nat} (h : n < 18446744073709551616) : iquo .u64 (n : Int) 2 = ((n / 2 : Nat) : Int) := by
  unfold iquo; rw [Int.tdiv_eq_ediv_of_nonneg (by omega), kD (by omega) (by omega)]; omega
theorem qad {n : Nat} (h : n < 9223372036854775808) : iconv .i64 (n : Int) = (n : Int) := kS (by omega) (by omega)
theorem kJ {n : Nat} (h : n < 18446744073709551616) : iconv .u64 (n : Int) = (n : Int) := kD (by omega) (by omega)
theorem qnG {l : List Int} (h : Bit l) {i : Nat} (hi : i < l.length) : ∃ x : Nat, l[i]? = some (x : Int) ∧ x < 2 := by
  have := h l[i] (List.getElem_mem hi)
  obtain ⟨x, hx⟩ := Int.eq_ofNat_of_zero_le (show 0 ≤ l[i] by omega)
  exact ⟨x, by rw [List.getElem?_eq_getElem hi, hx], by omega⟩
theorem qiU {α : Type} {l : List α} {i j : Nat} (h1 : i ≤ j) (h2 : j ≤ l.length) : sub l (i : Int) (j : Int) = some ((l.take j).drop i) := by
  unfold sub
  rw [if_pos ⟨by omega, by omega, by omega⟩, Int.toNat_natCast, Int.toNat_natCast]
theorem qcA {l : List Int} (h : Bit l) (i : Nat) : Bit (l.drop i) := fun x hx => h x (List.mem_of_mem_drop hx)
theorem qdR {l : List Int} (h : Bit l) (i : Nat) : Bit (l.take i) := fun x hx => h x (List.mem_of_mem_take hx)
theorem qjP {n : Int} {b : List Int} (hb : U8s b) : chkOf n b ≠ 0 ∨ ∃ l : List Int, Bit l ∧ l.length ≤ 8192 ∧ n = (l.length : Int) ∧ b = pk l := by
  by_cases h : chkOf n b = 0
  · obtain ⟨m, rfl, ob⟩ := qjO h
    exact .inr ⟨bl b m, qhn _ _, by rw [jG]; exact ob.max, by rw [jG], (qkw hb ob).symm⟩
  · exact .inl h
theorem qm3 {l : List Int} (hm : l.length ≤ 8192) : chkOf (l.length : Int) (pk l) = 0 := qgD (qcM hm)
theorem qlN {l : List Int} (h : l.length ≤ 8192) : I64 (l.length : Int) := ⟨by omega, by omega⟩
theorem qlX {l : List Int} (h : l.length ≤ 8192) : (pk l).length ≤ 9223372036854775807 := by rw [qea]; omega
def un (n : Nat) : List Int := List.replicate n 0 ++ [1]
theorem qcs (n : Nat) : (un n).length = n + 1 := by simp [un]
theorem qib (n : Nat) : Bit (List.replicate n 0) := by intro x hx; left; exact (List.mem_replicate.1 hx).2
theorem qlw : Bit [1] := by intro x hx; right; simpa using hx
theorem qge (n : Nat) : Bit (un n) := ym (qib n) qlw
theorem qni (n : Nat) : pk (List.replicate n 0) = List.replicate ((n + 7) / 8) 0 := by
  unfold pk
  rw [List.length_replicate]
  apply List.ext_getElem?
  intro k
  by_cases hk : k < (n + 7) / 8
  · have hz : ∀ i, (List.replicate n (0 : Int)).getD i 0 = 0 := by
      intro i
      by_cases h : i < n
      · simp [List.getD, h]
      · exact vG (by simp; omega)
    rw [List.getElem?_map, List.getElem?_range hk, List.getElem?_replicate, if_pos hk]
    simp only [Option.map_some, byt, hz]
    rfl
  · rw [List.getElem?_eq_none (by simpa using hk), List.getElem?_eq_none (by simpa using hk)]
theorem qfE {F : Nat} {n w : Nat} {l : List Int} (hn : n < 18446744073709551616) (hF : w < F) (hl : Bit l) (hm : l.length ≤ 8192) (hw : w ≤ 10000) :
    vI F (l.length : Int) (pk l) (n : Int) (w : Int) = some (((l ++ nb n w).length : Int), pk (l ++ nb n w)) := by
  rw [qmY hn hF (qb7 hl) (qcM hm) hw, qb5 hl, List.length_append, jP]
theorem qkA {F n : Nat} (hF : 20000 ≤ F) (hn : n < 8192) : qac F (n : Int) = some (((un n).length : Int), pk (un n)) := by
  unfold qac
  have e : iquo .u64 (iadd .u64 (n : Int) 7) 8 = (((n + 7) / 8 : Nat) : Int) := by
    unfold iquo iadd
    rw [kD (n := (n : Int) + 7) (by omega) (by omega), Int.tdiv_eq_ediv_of_nonneg (by omega), kD (by omega) (by omega)]
    omega
  rw [e]
  have hmk : mk 140737488355328 (0 : Int) (((n + 7) / 8 : Nat) : Int) = some (pk (List.replicate n 0)) := by
    unfold mk
    rw [if_pos (by omega), Int.toNat_natCast, qni]
  rw [hmk]
  simp only [Option.bind_some]
  rw [qad (by omega)]
  have h := qfE (F := F) (n := 1) (w := 1) (l := List.replicate n 0) (by decide) (by omega) (qib n) (by simp; omega) (by decide)
  rw [List.length_replicate] at h
  rw [show ((1 : Nat) : Int) = 1 from rfl] at h
  rw [h]
  rfl
def fz : List Int → Option Nat
  | [] => none
  | x :: l => if x = 1 then some 0 else (fz l).map (· + 1)
theorem qmN (n : Nat) (r : List Int) : fz (un n ++ r) = some n := by
  induction n with
  | zero => simp [un, fz]
  | succ n ih =>
    have : un (n + 1) ++ r = 0 :: (un n ++ r) := by simp [un, List.replicate_succ]
    rw [this, fz, if_neg (by decide), ih]; rfl
theorem qmM {l : List Int} {n : Nat} (h : fz l = some n) : n < l.length := by
  induction l generalizing n with
  | nil => simp [fz] at h
  | cons x l ih =>
    unfold fz at h
    split at h
    · simp at h; subst h; simp
    · cases hf : fz l with
      | none => rw [hf] at h; simp at h
      | some m => rw [hf] at h; simp at h; subst h; have := ih hf; simp; omega
theorem qjH {F : Nat} {m : Int} {l : List Int} (hl : Bit l) (hm : l.length ≤ 90000) {i : Nat} (hi : i < l.length) : vS F m (pk l) (i : Int) = some l[i] := by
  rw [qjG (qb7 hl) (by rw [qea]; omega) (by omega), qgz hl hi]
  simp [List.getD, hi]
theorem qj1 {F : Nat} {l : List Int} (hl : Bit l) (hm : l.length ≤ 8192) (a : Nat) : ∀ (k i : Nat), l.length < k + i → i ≤ l.length → a ≤ i →
    ya F (l.length : Int) (pk l) (a : Int) k (i : Int) = some (match fz (l.drop i) with | none => (0, 0, false) | some n => (((i - a + n : Nat) : Int), ((i + n + 1 : Nat) : Int), true))
  | 0, _, _, _, _ => by omega
  | k + 1, i, h, hi, ha => by
    show jp F (l.length : Int) (pk l) (a : Int) (ya F (l.length : Int) (pk l) (a : Int) k) (i : Int) = _
    unfold jp
    by_cases hlt : i < l.length
    · rw [if_pos (by simp; omega), qjH hl (by omega) hlt, List.drop_eq_getElem_cons hlt, fz]
      simp only [Option.bind_some]
      by_cases h1 : l[i] = 1
      · rw [if_pos (by simpa using h1), if_pos h1, qkb ha (by omega), kJ (by omega), qG (by omega)]
        rfl
      · rw [if_neg (by simpa using h1), if_neg h1, qG (by omega), qj1 hl hm a k (i + 1) (by omega) (by omega) (by omega)]
        cases fz (l.drop (i + 1)) with
        | none => rfl
        | some n =>
          simp only [Option.map_some]
          rw [show i + 1 - a + n = i - a + (n + 1) from by omega, show i + 1 + n + 1 = i + (n + 1) + 1 from by omega]
    · rw [if_neg (by simp; omega), List.drop_eq_nil_of_le (by omega)]
      rfl
theorem qik {F : Nat} (hF : 20000 ≤ F) {l : List Int} (hl : Bit l) (hm : l.length ≤ 8192) {a : Nat} (ha : a ≤ l.length) :
    jF F (l.length : Int) (pk l) (a : Int) = some (match fz (l.drop a) with | none => (0, 0, false) | some n => ((n : Int), ((a + n + 1 : Nat) : Int), true)) := by
  unfold jF
  have := qj1 (F := F) hl hm a F a (by omega) ha (by omega)
  rw [this]
  cases fz (l.drop a) with
  | none => rfl
  | some n => simp only; rw [Nat.sub_self, Nat.zero_add]
theorem qic {F : Nat} (hF : 20000 ≤ F) {l k : List Int} (hl : Bit l) (hk : Bit k) (h1 : l.length ≤ 8192) (h2 : k.length ≤ 8192) :
    yG F (l.length : Int) (pk l) (k.length : Int) (pk k) = some (((l ++ k).length : Int), pk (l ++ k)) := by
  rw [qfF hF (qb7 hl) (qb7 hk) (qcM h1) (qcM h2), qb5 hl, qb5 hk, List.length_append]
def len (x : Nat) : Nat := if x = 0 then 0 else x.log2 + 1
theorem qbo {x k : Nat} : len x ≤ k ↔ x < 2 ^ k := by
  unfold len
  by_cases h : x = 0
  · rw [if_pos h, h]; simp [Nat.pow_pos]
  · rw [if_neg h]; exact Nat.log2_lt h
theorem qhz {x k : Nat} (h1 : x < 2 ^ k) (h2 : k = 0 ∨ 2 ^ (k - 1) ≤ x) : len x = k := by
  have h3 := qbo.2 h1
  rcases h2 with rfl | h2
  · omega
  · by_cases h4 : len x ≤ k - 1
    · have := qbo.1 h4; omega
    · omega
theorem qhy {x : Nat} : x < 2 ^ len x := qbo.1 (Nat.le_refl _)
theorem qhx {x : Nat} (h : x ≠ 0) : 2 ^ (len x - 1) ≤ x := by
  have h1 : 1 ≤ len x := by unfold len; rw [if_neg h]; omega
  apply Nat.le_of_not_lt
  intro h2
  have := qbo.2 h2
  omega
theorem qbS {x : Nat} (h : x ≠ 0) : 1 ≤ len x := by unfold len; rw [if_neg h]; omega
theorem qbT {x k : Nat} (h : 2 ^ k ≤ x) : len (x / 2 ^ k) + k = len x := by
  have hp : 0 < 2 ^ k := Nat.pow_pos (by decide)
  have hx : x ≠ 0 := by omega
  have hd : x / 2 ^ k ≠ 0 := by
    intro h0
    rw [Nat.div_eq_zero_iff] at h0
    omega
  symm
  apply qhz
  · rw [Nat.pow_add]
    have := qhy (x := x / 2 ^ k)
    exact (Nat.div_lt_iff_lt_mul hp).1 this
  · right
    have h1 := qbS hd
    have := qhx hd
    rw [show len (x / 2 ^ k) + k - 1 = len (x / 2 ^ k) - 1 + k from by omega, Nat.pow_add]
    exact (Nat.le_div_iff_mul_le hp).1 this
theorem qlR : ∀ x : Fin 256, ∀ k : Fin 8, kn 0 ((x.val : Nat) : Int) ((8 * k.val : Nat) : Int) = some ((len x.val + 8 * k.val : Nat) : Int) := by decide +kernel
theorem qiu {F x k : Nat} (hx : x < 256) (hk : k ≤ 56) (h8 : k % 8 = 0) : kn F (x : Int) (k : Int) = some ((len x + k : Nat) : Int) := by
  have h := qlR ⟨x, hx⟩ ⟨k / 8, by omega⟩
  simp only at h
  rw [show 8 * (k / 8) = k from by omega] at h
  exact h
theorem qit {F x k : Nat} (hx : x < 65536) (hk : k ≤ 48) (h8 : k % 8 = 0) : km F (x : Int) (k : Int) = some ((len x + k : Nat) : Int) := by
  unfold km
  by_cases h : 256 ≤ x
  · have e := qfR (n := x) (k := 8) (by omega)
    rw [show ((8 : Nat) : Int) = 8 from rfl] at e
    have e2 : iadd .i64 (k : Int) 8 = ((k + 8 : Nat) : Int) := by rw [qE (by omega) (by omega)]; omega
    rw [if_pos (by simp; omega), e, e2, qiu (by omega) (by omega) (by omega), ← qbT (x := x) (k := 8) (by omega)]
    congr 2; omega
  · rw [if_neg (by simp; omega), qiu (by omega) (by omega) (by omega)]
theorem qis {F x k : Nat} (hx : x < 4294967296) (hk : k ≤ 32) (h8 : k % 8 = 0) : kj F (x : Int) (k : Int) = some ((len x + k : Nat) : Int) := by
  unfold kj
  by_cases h : 65536 ≤ x
  · have e := qfR (n := x) (k := 16) (by omega)
    rw [show ((16 : Nat) : Int) = 16 from rfl] at e
    have e2 : iadd .i64 (k : Int) 16 = ((k + 16 : Nat) : Int) := by rw [qE (by omega) (by omega)]; omega
    rw [if_pos (by simp; omega), e, e2, qit (by omega) (by omega) (by omega), ← qbT (x := x) (k := 16) (by omega)]
    congr 2; omega
  · rw [if_neg (by simp; omega), qit (by omega) (by omega) (by omega)]
theorem qd4 {F x : Nat} (hx : x < 18446744073709551616) : kr F (x : Int) = some ((len x : Nat) : Int) := by
  unfold kr
  by_cases h : 4294967296 ≤ x
  · have e := qfR (n := x) (k := 32) (by omega)
    rw [show ((32 : Nat) : Int) = 32 from rfl] at e
    have := qis (F := F) (x := x / 2 ^ 32) (k := 32) (by omega) (by omega) (by omega)
    rw [show ((32 : Nat) : Int) = 32 from rfl] at this
    rw [if_pos (by simp; omega), e, this, qbT (x := x) (k := 32) (by omega)]
  · have := qis (F := F) (x := x) (k := 0) (by omega) (by omega) (by omega)
    rw [show ((0 : Nat) : Int) = 0 from rfl] at this
    rw [if_neg (by simp; omega), this, Nat.add_zero]
def lg (n : Nat) : Nat := len (n + 1) - 1
theorem qkg {n : Nat} : 2 ^ lg n ≤ n + 1 := qhx (by omega)
theorem qkh {n : Nat} : n + 1 < 2 ^ (lg n + 1) := by
  have h := qbS (x := n + 1) (by omega)
  unfold lg
  rw [Nat.sub_add_cancel h]; exact qhy
theorem qa9 {n : Nat} (h : n ≤ 1099511627776) : lg n ≤ 40 := by
  have : len (n + 1) ≤ 41 := qbo.2 (by omega)
  unfold lg; omega
theorem qmO {n : Nat} (h : n + 1 < 18446744073709551616) : lg n ≤ 63 := by
  have : len (n + 1) ≤ 64 := qbo.2 (by rw [two64]; exact h)
  unfold lg; omega
theorem ql3 {F n : Nat} (h : n + 1 < 18446744073709551616) : qaj F (n : Int) = some ((lg n : Nat) : Int) := by
  unfold qaj
  have e : iadd .u64 (n : Int) 1 = ((n + 1 : Nat) : Int) := by unfold iadd; rw [kD (by omega) (by omega)]; omega
  rw [e, qd4 (by omega)]
  simp only [Option.bind_some]
  have h1 := qbS (x := n + 1) (by omega)
  have h2 : len (n + 1) ≤ 64 := qbo.2 (by rw [two64]; omega)
  rw [qap h1 (by omega)]
  rfl
theorem pow64 {k : Nat} (h : k ≤ 63) : 2 ^ k ≤ 9223372036854775808 := by
  have := Nat.pow_le_pow_right (show 0 < 2 by decide) h
  rwa [show (2 : Nat) ^ 63 = 9223372036854775808 from by decide] at this
theorem qdk {k : Nat} (h : k ≤ 63) : ishl .u64 1 (k : Int) = ((2 ^ k : Nat) : Int) := by
  have := qht (n := 1) (k := k) (by omega)
  rw [show ((1 : Nat) : Int) = 1 from rfl] at this
  have hp := pow64 h
  rw [this, Nat.one_mul, Nat.mod_eq_of_lt (by omega)]
theorem qes {a b : Nat} (h : b ≤ a) (h2 : a < 18446744073709551616) : isub .u64 (a : Int) (b : Int) = ((a - b : Nat) : Int) := by
  unfold isub; rw [kD (by omega) (by omega)]; omega
theorem qdH {a : Nat} (h : 1 ≤ a) (h2 : a < 18446744073709551616) : isub .u64 (a : Int) 1 = ((a - 1 : Nat) : Int) := by
  unfold isub; rw [kD (by omega) (by omega)]; omega
theorem qh3 {a b : Nat} (h2 : a + b < 18446744073709551616) : iadd .u64 (a : Int) (b : Int) = ((a + b : Nat) : Int) := by
  unfold iadd; rw [kD (by omega) (by omega)]; omega
theorem qdG {a : Nat} (h2 : a + 1 < 18446744073709551616) : iadd .u64 (a : Int) 1 = ((a + 1 : Nat) : Int) := by
  unfold iadd; rw [kD (by omega) (by omega)]; omega
theorem qna {F n k : Nat} (hn : n < 18446744073709551616) (hk : k ≤ 63) : qaL F (n : Int) (k : Int) = some ((n % 2 ^ k : Nat) : Int) := by
  unfold qaL
  have hp := pow64 hk
  have hp0 : 0 < 2 ^ k := Nat.pow_pos (by decide)
  have hc : decide ((0 : Int) ≤ (k : Int)) = true := decide_eq_true (by omega)
  rw [hc]
  simp only [chk, if_true, lett]
  rw [qdk hk, qdH (by omega) (by omega)]
  have e := qbQ (k := .u64) (a := (n : Int)) (m := k) (by omega) (by simp only [IntKind.bits]; rw [show (2 : Int) ^ 64 = 18446744073709551616 from by decide]; omega) (by simp only [IntKind.bits]; omega) rfl
  rw [e]
  norm_cast
theorem qnd {n k w : Nat} (h : w ≤ k) : nb (n % 2 ^ k) w = nb n w := by
  induction w with
  | zero => rfl
  | succ w ih =>
    rw [nb, nb, ih (by omega)]
    congr 2
    have hp : 2 ^ k = 2 ^ w * 2 ^ (k - w) := by rw [← Nat.pow_add]; congr 1; omega
    rw [hp, Nat.mod_mul_right_div_self]
    have hp2 : 2 ^ (k - w) = 2 * 2 ^ (k - w - 1) := by rw [← Nat.pow_succ']; congr 1; omega
    rw [hp2, Nat.mod_mul_right_mod]
def ga (n : Nat) : List Int := un (lg n) ++ nb (n + 1) (lg n)
theorem qbk (n : Nat) : Bit (ga n) := ym (qge _) (qhB _ _)
theorem qhq (n : Nat) : (ga n).length = 2 * lg n + 1 := by unfold ga; rw [List.length_append, qcs, jP]; omega
theorem qds {F n : Nat} (hF : 20000 ≤ F) (hn : n + 1 < 18446744073709551616) : yx F (n : Int) = some (((ga n).length : Int), pk (ga n)) := by
  unfold yx
  have h63 := qmO hn
  rw [ql3 hn]
  simp only [Option.bind_some]
  rw [kJ (by omega), qkA hF (by omega)]
  simp only [Option.bind_some]
  rw [qdG hn, qna hn h63]
  simp only [Option.bind_some]
  have hlt : (n + 1) % 2 ^ lg n < 18446744073709551616 := by have := Nat.mod_le (n + 1) (2 ^ lg n); omega
  rw [qfE hlt (by omega) (qge _) (by rw [qcs]; omega) (by omega), qnd (Nat.le_refl _)]
  rfl
def numOf (l : List Int) (k a : Nat) : Int × Int × Int :=
  if 64 ≤ k then (0, 0, 3) else if l.length < a + k then (0, 0, 7) else if 1099511627776 < bv ((l.drop a).take k) + 2 ^ k - 1 then (0, 0, 3) else (((bv ((l.drop a).take k) + 2 ^ k - 1 : Nat) : Int), ((a + k : Nat) : Int), 0)
def fg (l : List Int) (a : Nat) : Int × Int × Int := match fz (l.drop a) with | none => (0, 0, 7) | some k => numOf l k (a + k + 1)
theorem qcQ {F a w : Nat} {l : List Int} (hF : 100 ≤ F) (hl : Bit l) (hm : l.length ≤ 8192) (ha : a ≤ l.length) (hw : w ≤ 64) :
    yH F (l.length : Int) (pk l) (a : Int) (w : Int) = some (if a + w ≤ l.length then (((bv ((l.drop a).take w) : Nat) : Int), true) else (0, false)) := by
  have := ql1 hF (qb7 hl) (qcM hm) ha hw
  rwa [qb5 hl] at this
theorem qjY {l : List Int} {a : Nat} : (fg l a).2.2 ≠ 0 ∨ ∃ n q : Nat, fg l a = ((n : Int), (q : Int), 0) ∧ n ≤ 1099511627776 ∧ q ≤ l.length := by
  unfold fg
  cases hf : fz (l.drop a) with
  | none => left; simp
  | some k =>
    simp only
    unfold numOf
    by_cases h1 : 64 ≤ k
    · left; rw [if_pos h1]; decide
    · rw [if_neg h1]
      by_cases h2 : l.length < a + k + 1 + k
      · left; rw [if_pos h2]; decide
      · rw [if_neg h2]
        by_cases h3 : 1099511627776 < bv ((l.drop (a + k + 1)).take k) + 2 ^ k - 1
        · left; rw [if_pos h3]; decide
        · right; rw [if_neg h3]; exact ⟨_, _, rfl, by omega, by omega⟩
theorem qhC {F k a : Nat} {l : List Int} (hF : 20000 ≤ F) (hl : Bit l) (hm : l.length ≤ 8192) (ha : a ≤ l.length) :
    (if decide ((64 : Int) ≤ (k : Int)) then some ((0 : Int), (0 : Int), (3 : Int)) else ((yH F (l.length : Int) (pk l) (a : Int) (iconv .i64 (k : Int))).bind fun x10 => (if (!x10.2) then some (0, 0, 7) else (chk (decide ((0 : Int) ≤ (k : Int))) ((lett (iadd .u64 x10.1 (isub .u64 (ishl .u64 1 (k : Int)) 1)) fun x16 => (if (decide (1099511627776 < x16)) then some (0, 0, 3) else some (x16, iadd .i64 (a : Int) (iconv .i64 (k : Int)), 0)))))))) = some (numOf l k a) := by
  unfold numOf
  by_cases h1 : 64 ≤ k
  · rw [if_pos (by simp; omega), if_pos h1]
  · rw [if_neg (by simp; omega), if_neg h1, qad (by omega), qcQ (by omega) hl hm ha (by omega)]
    simp only [Option.bind_some]
    by_cases h2 : a + k ≤ l.length
    · rw [if_pos h2, if_neg (show ¬ l.length < a + k by omega)]
      have hc : decide ((0 : Int) ≤ (k : Int)) = true := decide_eq_true (by omega)
      simp only [Bool.not_true, Bool.false_eq_true, if_false, hc, chk, if_true, lett]
      have hb := qjL (qdR (qcA hl a) k)
      rw [List.length_take, List.length_drop, Nat.min_eq_left (by omega)] at hb
      have hp := pow64 (k := k) (by omega)
      have hp0 : 0 < 2 ^ k := Nat.pow_pos (by decide)
      rw [qdk (by omega), qdH (by omega) (by omega), qh3 (by omega), vZ (by omega), show bv ((l.drop a).take k) + (2 ^ k - 1) = bv ((l.drop a).take k) + 2 ^ k - 1 from by omega]
      by_cases h3 : 1099511627776 < bv ((l.drop a).take k) + 2 ^ k - 1
      · rw [if_pos h3, if_pos (by simp only [decide_eq_true_eq]; omega)]
      · rw [if_neg h3, if_neg (by simp only [decide_eq_true_eq]; omega)]
    · rw [if_neg h2, if_pos (show l.length < a + k by omega)]
      rfl
theorem qcE {F a : Nat} {l : List Int} (hF : 20000 ≤ F) (hl : Bit l) (hm : l.length ≤ 8192) (ha : a ≤ l.length) : yg F (l.length : Int) (pk l) (a : Int) = some (fg l a) := by
  unfold yg zg vX
  rw [qik hF hl hm ha]
  unfold fg
  cases hf : fz (l.drop a) with
  | none => rfl
  | some k =>
    have hk := qmM hf
    rw [List.length_drop] at hk
    simp only [Option.bind_some, Bool.not_true, Bool.false_eq_true, if_false, bne_self_eq_false]
    rw [qhC hF hl hm (by omega)]
    rfl
theorem qkm {n : Nat} (hn : n ≤ 1099511627776) (p r : List Int) : numOf (p ++ nb (n + 1) (lg n) ++ r) (lg n) p.length = ((n : Int), ((p.length + lg n : Nat) : Int), 0) := by
  have h40 := qa9 hn
  have h1 := qkg (n := n)
  have h2 := qkh (n := n)
  have hp0 : 0 < 2 ^ lg n := Nat.pow_pos (by decide)
  have hbv : bv (((p ++ nb (n + 1) (lg n) ++ r).drop p.length).take (lg n)) = n + 1 - 2 ^ lg n := by
    rw [List.append_assoc, List.drop_left, List.take_left' (jP _ _), qgA]
    rw [Nat.pow_succ] at h2
    rw [Nat.mod_eq_sub_mod h1, Nat.mod_eq_of_lt (by omega)]
  unfold numOf
  rw [hbv, if_neg (by omega), if_neg (by rw [List.length_append, List.length_append, jP]; omega), if_neg (by omega), show n + 1 - 2 ^ lg n + 2 ^ lg n - 1 = n from by omega]
theorem qnH {n : Nat} (hn : n ≤ 1099511627776) (p r : List Int) : fg (p ++ ga n ++ r) p.length = ((n : Int), ((p.length + (ga n).length : Nat) : Int), 0) := by
  unfold fg
  have h0 : (p ++ ga n ++ r).drop p.length = un (lg n) ++ (nb (n + 1) (lg n) ++ r) := by
    rw [List.append_assoc, List.drop_left]; unfold ga; rw [List.append_assoc]
  rw [h0, qmN]
  simp only
  have := qkm hn (p ++ un (lg n)) r
  rw [List.length_append, qcs] at this
  have e : p ++ ga n ++ r = p ++ un (lg n) ++ nb (n + 1) (lg n) ++ r := by unfold ga; simp [List.append_assoc]
  rw [e, show p.length + lg n + 1 = p.length + (lg n + 1) from by omega, this, qhq, show p.length + (lg n + 1) + lg n = p.length + (2 * lg n + 1) from by omega]
theorem qgy {F : Nat} : ∀ (k n : Nat) (t : List Int), len n < k → n < 18446744073709551616 → t.length + len n ≤ 10000 → vf F k ((n : Int), t) = some (nb n (len n) ++ t)
  | 0, _, _, h, _, _ => by omega
  | k + 1, n, t, h, hn, ht => by
    show jX F (vf F k) (n : Int) t = _
    unfold jX
    by_cases h0 : n = 0
    · subst h0
      rw [if_neg (by simp)]
      simp [qaX, len, nb]
    · rw [if_pos (by simp; omega), qlQ, qad (by omega), kY (by simp; omega)]
      simp only [Option.bind_some]
      have hl : len n = len (n / 2) + 1 := by
        by_cases h1 : n = 1
        · subst h1; rfl
        · have := qbT (x := n) (k := 1) (by omega); rw [Nat.pow_one] at this; omega
      rw [qlP hn, List.singleton_append, qgy k (n / 2) _ (by omega) (by omega) (by simp; omega), hl, qiw]
      simp
theorem qi4 {F n : Nat} (hF : 20000 ≤ F) (hn : n < 18446744073709551616) : qbf F (n : Int) = some (nb n (len n)) := by
  unfold qbf
  have h64 : len n ≤ 64 := qbo.2 (by rw [two64]; exact hn)
  rw [qgy F n [] (by omega) hn (by simp; omega), List.append_nil]
theorem qne {n : Nat} : nb (n + 1) (len (n + 1)) = 1 :: nb (n + 1) (lg n) := by
  have h1 := qbS (x := n + 1) (by omega)
  have h2 := qkg (n := n)
  have h3 := qkh (n := n)
  have e : len (n + 1) = lg n + 1 := by unfold lg; omega
  rw [e, nb]
  congr 1
  have hd : (n + 1) / 2 ^ lg n = 1 := by
    rw [Nat.pow_succ] at h3
    exact Nat.div_eq_of_lt_le (by omega) (by omega)
  rw [hd]; rfl
theorem qdr {F : Nat} {m : List Int} (hm : m.length ≤ 1000) (h1 : 1 ≤ m.length) : ∀ (k i : Nat), m.length < k + i → 1 ≤ i → i ≤ m.length →
    kK F m k (List.replicate (i - 1) 0, (i : Int)) = some (List.replicate (m.length - 1) 0 ++ m)
  | 0, _, _, _, _ => by omega
  | k + 1, i, h, hi1, hi => by
    show vQ F m (kK F m k) (List.replicate (i - 1) 0) (i : Int) = _
    unfold vQ
    by_cases hlt : i < m.length
    · rw [if_pos (by simp; omega), kY (by simp; omega), ← List.replicate_succ', qG (by omega)]
      simp only [Option.bind_some]
      have := qdr (F := F) hm h1 k (i + 1) (by omega) (by omega) (by omega)
      rw [Nat.add_sub_cancel] at this
      rw [show i - 1 + 1 = i from by omega]
      exact this
    · rw [if_neg (by simp; omega)]
      obtain rfl : i = m.length := by omega
      unfold jL
      rw [kY (by simp; omega)]
      rfl
theorem qcF {F n : Nat} (hF : 20000 ≤ F) (hn : n + 1 < 18446744073709551616) : v7 F (n : Int) = some (ga n) := by
  unfold v7
  have h64 := qmO hn
  rw [qdG hn, qi4 hF (by omega), qne]
  simp only [Option.bind_some]
  have := qdr (F := F) (m := 1 :: nb (n + 1) (lg n)) (by simp [jP]; omega) (by simp) F 1 (by simp [jP]; omega) (by omega) (by simp)
  rw [Nat.sub_self, List.replicate_zero] at this
  rw [show ((1 : Nat) : Int) = 1 from rfl] at this
  rw [this]
  simp [ga, un, jP]
def sh (m : Nat) : Nat := len (m - 1)
def dd (m : Nat) : Nat := 2 ^ sh m - m
theorem qmQ {m : Nat} (h : 1 ≤ m) : m ≤ 2 ^ sh m := by have := qhy (x := m - 1); unfold sh; omega
theorem qiR {m : Nat} (h : m ≤ 9223372036854775808) : sh m ≤ 63 := qbo.2 (by rw [show (2 : Nat) ^ 63 = 9223372036854775808 from by decide]; omega)
theorem qnM {m : Nat} (h : 2 ≤ m) : 1 ≤ sh m ∧ 2 ^ (sh m - 1) < m := by
  have h1 := qbS (x := m - 1) (by omega)
  have h2 := qhx (x := m - 1) (by omega)
  unfold sh; omega
theorem qnV : sh 1 = 0 := rfl
theorem qc7 {m : Nat} (h : 1 ≤ m) : m + dd m = 2 ^ sh m := by have := qmQ h; unfold dd; omega
theorem qeY {m : Nat} (h : 1 ≤ m) (hd : 0 < dd m) : 1 ≤ sh m ∧ dd m < 2 ^ (sh m - 1) := by
  by_cases h2 : 2 ≤ m
  · obtain ⟨h3, h4⟩ := qnM h2
    have h5 := qc7 h
    have h6 : 2 ^ sh m = 2 * 2 ^ (sh m - 1) := by rw [← Nat.pow_succ']; congr 1; omega
    omega
  · obtain rfl : m = 1 := by omega
    simp [dd, qnV] at hd
theorem qbO {F m : Nat} (h : 1 ≤ m) (h2 : m ≤ 9223372036854775808) : vL F (m : Int) = some ((sh m : Int), (dd m : Int)) := by
  unfold vL
  have h63 := qiR h2
  have hl := qmQ h
  rw [qdH h (by omega), qd4 (by omega)]
  simp only [Option.bind_some]
  have hc : decide ((0 : Int) ≤ ((len (m - 1) : Nat) : Int)) = true := decide_eq_true (by omega)
  rw [hc]
  simp only [chk, if_true]
  have hp := pow64 h63
  have e := qdk h63
  unfold sh at e hl hp
  rw [e, qes hl (by omega)]
  rfl
def le (n m : Nat) : List Int := if n < dd m then nb n (sh m - 1) else nb (n + dd m) (sh m)
theorem qm9 (n m : Nat) : Bit (le n m) := by unfold le; split <;> exact qhB _ _
theorem qke (n m : Nat) : (le n m).length = if n < dd m then sh m - 1 else sh m := by unfold le; split <;> exact jP _ _
theorem qgx {F n m : Nat} {l : List Int} (hF : 20000 ≤ F) (hl : Bit l) (hlm : l.length ≤ 8192) (hm : m ≤ 9223372036854775808) (hn : n < m) :
    vo F (l.length : Int) (pk l) (n : Int) (m : Int) = some (((l ++ le n m).length : Int), pk (l ++ le n m)) := by
  unfold vo le
  have h63 := qiR hm
  have ha := qc7 (m := m) (by omega)
  have hp := pow64 h63
  rw [qbO (by omega) hm]
  simp only [Option.bind_some]
  by_cases h : n < dd m
  · obtain ⟨h1, h2⟩ := qeY (m := m) (by omega) (by omega)
    rw [if_pos (by simp; omega), if_pos h, qap h1 (by omega), qfE (by omega) (by omega) hl hlm (by omega)]
    rfl
  · rw [if_neg (by simp; omega), if_neg h, qh3 (by omega), qfE (by omega) (by omega) hl hlm (by omega)]
    rfl
def flR (l : List Int) (a m : Nat) : Option (Nat × Nat) := if a + sh m ≤ l.length then some (bv ((l.drop a).take (sh m)) - dd m, a + sh m) else none
def flOf (l : List Int) (a m : Nat) : Option (Nat × Nat) :=
  if 0 < dd m then (if a + (sh m - 1) ≤ l.length then (if bv ((l.drop a).take (sh m - 1)) < dd m then some (bv ((l.drop a).take (sh m - 1)), a + (sh m - 1)) else flR l a m) else none) else flR l a m
theorem qgc {l : List Int} (hl : Bit l) {a s : Nat} (hs : 1 ≤ s) (h : a + s ≤ l.length) : ∃ x, x < 2 ∧ bv ((l.drop a).take s) = 2 * bv ((l.drop a).take (s - 1)) + x := by
  obtain ⟨x, hx, hx2⟩ := qnG (qcA hl a) (i := s - 1) (by simp; omega)
  refine ⟨x, hx2, ?_⟩
  have : (l.drop a).take s = (l.drop a).take (s - 1) ++ [(x : Int)] := by
    have h1 : s = (s - 1) + 1 := by omega
    conv => lhs; rw [h1, List.take_add_one, hx]
    rfl
  rw [this, qjK]
  simp [bv]
  omega
theorem qmL {l : List Int} (hl : Bit l) {a m n q : Nat} (hm : 1 ≤ m) (h : flOf l a m = some (n, q)) : n < m ∧ q ≤ l.length := by
  have hR : flR l a m = some (n, q) → n < m ∧ q ≤ l.length := by
    intro h
    unfold flR at h
    split at h
    · rename_i h1
      simp only [Option.some.injEq, Prod.mk.injEq] at h
      have := qjL (qdR (qcA hl a) (sh m))
      rw [List.length_take, List.length_drop, Nat.min_eq_left (by omega)] at this
      have := qc7 hm
      omega
    · simp at h
  unfold flOf at h
  split at h
  · rename_i h0
    split at h
    · split at h
      · simp only [Option.some.injEq, Prod.mk.injEq] at h
        have h1 := qeY hm h0
        have h2 := qc7 hm
        have h6 : 2 ^ sh m = 2 * 2 ^ (sh m - 1) := by rw [← Nat.pow_succ']; congr 1; omega
        omega
      · exact hR h
    · simp at h
  · exact hR h
theorem qfM {F a m : Nat} {l : List Int} (hF : 20000 ≤ F) (hl : Bit l) (hlm : l.length ≤ 8192) (ha : a ≤ l.length) (hm1 : 1 ≤ m) (hm : m ≤ 9223372036854775808) :
    match flOf l a m with
    | none => ∃ x y, qS F (l.length : Int) (pk l) (a : Int) (m : Int) = some (x, y, false)
    | some p => qS F (l.length : Int) (pk l) (a : Int) (m : Int) = some ((p.1 : Int), (p.2 : Int), true) := by
  have h63 := qiR hm
  have hadd := qc7 hm1
  have hp := pow64 h63
  have hj1 : (0 < dd m → ¬ bv ((l.drop a).take (sh m - 1)) < dd m) → match flR l a m with
      | none => ∃ x y, qW F (l.length : Int) (pk l) (a : Int) ((sh m : Int), (dd m : Int)) = some (x, y, false)
      | some p => qW F (l.length : Int) (pk l) (a : Int) ((sh m : Int), (dd m : Int)) = some ((p.1 : Int), (p.2 : Int), true) := by
    intro hge
    unfold flR qW
    simp only
    rw [qcQ (by omega) hl hlm ha (by omega)]
    simp only [Option.bind_some]
    by_cases h : a + sh m ≤ l.length
    · rw [if_pos h, if_pos h]
      simp only
      have hb := qjL (qdR (qcA hl a) (sh m))
      rw [List.length_take, List.length_drop, Nat.min_eq_left (by omega)] at hb
      have hdb : dd m ≤ bv ((l.drop a).take (sh m)) := by
        by_cases h0 : 0 < dd m
        · obtain ⟨h1, _⟩ := qeY hm1 h0
          obtain ⟨x, _, hx⟩ := qgc hl h1 h
          have := hge h0
          omega
        · omega
      rw [qes hdb (by omega), vZ (by omega)]
    · rw [if_neg h, if_neg h]
      exact ⟨_, _, rfl⟩
  by_cases h0 : 0 < dd m
  · obtain ⟨h1, h2⟩ := qeY hm1 h0
    by_cases h3 : a + (sh m - 1) ≤ l.length
    · by_cases h4 : bv ((l.drop a).take (sh m - 1)) < dd m
      · have e : flOf l a m = some (bv ((l.drop a).take (sh m - 1)), a + (sh m - 1)) := by unfold flOf; rw [if_pos h0, if_pos h3, if_pos h4]
        rw [e]
        unfold qS
        rw [qbO hm1 hm]
        simp only [Option.bind_some]
        rw [if_pos (by simp; omega), qap h1 (by omega), qcQ (by omega) hl hlm ha (by omega), if_pos h3]
        simp only [Option.bind_some, Bool.not_true, Bool.false_eq_true, if_false]
        rw [if_pos (by simp; omega), vZ (by omega), qap (by omega) (by omega), show a + sh m - 1 = a + (sh m - 1) from by omega]
      · have e : flOf l a m = flR l a m := by unfold flOf; rw [if_pos h0, if_pos h3, if_neg h4]
        have e2 : qS F (l.length : Int) (pk l) (a : Int) (m : Int) = qW F (l.length : Int) (pk l) (a : Int) ((sh m : Int), (dd m : Int)) := by
          unfold qS
          rw [qbO hm1 hm]
          simp only [Option.bind_some]
          rw [if_pos (by simp; omega), qap h1 (by omega), qcQ (by omega) hl hlm ha (by omega), if_pos h3]
          simp only [Option.bind_some, Bool.not_true, Bool.false_eq_true, if_false]
          rw [if_neg (by simp; omega)]
        rw [e, e2]
        exact hj1 (fun _ => h4)
    · have e : flOf l a m = none := by unfold flOf; rw [if_pos h0, if_neg h3]
      rw [e]
      unfold qS
      rw [qbO hm1 hm]
      simp only [Option.bind_some]
      rw [if_pos (by simp; omega), qap h1 (by omega), qcQ (by omega) hl hlm ha (by omega), if_neg h3]
      exact ⟨_, _, rfl⟩
  · have e : flOf l a m = flR l a m := by unfold flOf; rw [if_neg h0]
    have e2 : qS F (l.length : Int) (pk l) (a : Int) (m : Int) = qW F (l.length : Int) (pk l) (a : Int) ((sh m : Int), (dd m : Int)) := by
      unfold qS
      rw [qbO hm1 hm]
      simp only [Option.bind_some]
      rw [if_neg (by simp; omega)]
    rw [e, e2]
    exact hj1 (fun h => absurd h h0)
theorem qnI {n m : Nat} (hn : n < m) (p r : List Int) : flOf (p ++ le n m ++ r) p.length m = some (n, p.length + (le n m).length) := by
  have hd : (p ++ le n m ++ r).drop p.length = le n m ++ r := by rw [List.append_assoc, List.drop_left]
  have hll := qke n m
  have hadd := qc7 (m := m) (by omega)
  have hL : (p ++ le n m ++ r).length = p.length + (le n m).length + r.length := by simp; omega
  unfold flOf flR
  rw [hd, hL, hll]
  by_cases h : n < dd m
  · obtain ⟨h1, h2⟩ := qeY (m := m) (by omega) (by omega)
    have e : bv ((le n m ++ r).take (sh m - 1)) = n := by
      unfold le
      rw [if_pos h, List.take_left' (jP _ _), qgA, Nat.mod_eq_of_lt (by omega)]
    rw [if_pos h, if_pos (by omega), if_pos (by omega), e, if_pos h]
  · have e : bv ((le n m ++ r).take (sh m)) = n + dd m := by
      unfold le
      rw [if_neg h, List.take_left' (jP _ _), qgA, Nat.mod_eq_of_lt (by omega)]
    rw [if_neg h]
    by_cases h0 : 0 < dd m
    · obtain ⟨h1, h2⟩ := qeY (m := m) (by omega) h0
      have e2 : bv ((le n m ++ r).take (sh m - 1)) = (n + dd m) / 2 := by
        unfold le
        rw [if_neg h]
        have hs : nb (n + dd m) (sh m) = nb ((n + dd m) / 2) (sh m - 1) ++ [((((n + dd m) % 2 : Nat)) : Int)] := by
          have := qiw (n + dd m) (sh m - 1)
          rwa [show sh m - 1 + 1 = sh m from by omega] at this
        have h6 : 2 ^ sh m = 2 * 2 ^ (sh m - 1) := by rw [← Nat.pow_succ']; congr 1; omega
        rw [hs, List.append_assoc, List.take_left' (jP _ _), qgA, Nat.mod_eq_of_lt (by omega)]
      rw [if_pos h0, if_pos (by omega), e2, if_neg (by omega), if_pos (by omega), e, Nat.add_sub_cancel]
    · rw [if_neg h0, if_pos (by omega), e, Nat.add_sub_cancel]
def ok3 (l : List Int) : Int × List Int × Int := ((l.length : Int), pk l, 0)
theorem qny {a b : Nat} (h : a * b < 18446744073709551616) : imul .u64 (a : Int) (b : Int) = ((a * b : Nat) : Int) := by
  unfold imul
  rw [← Int.natCast_mul]
  generalize a * b = q at h
  exact kD (by omega) (by omega)
def en (p : Option (Nat × Nat)) : Int × Int × Int := match p with
  | none => (0, 0, 7)
  | some p => if 1099511627776 < p.1 then (0, 0, 3) else ((p.1 : Int), (p.2 : Int), 0)
theorem qi6 {F n q : Nat} : jz F (n : Int) (q : Int) true = some (en (some (n, q))) := by
  unfold jz en
  rw [if_neg (by simp)]
  by_cases h : 1099511627776 < n
  · simp only; rw [if_pos (by simp; omega), if_pos h]
  · simp only; rw [if_neg (by simp; omega), if_neg h]
def zh (n k : Nat) : Nat := lg n / k
def zf (n k : Nat) : Nat := 2 ^ (zh n k * k)
def zt (n k : Nat) : Nat := 2 ^ (zh n k * k + k)
def ze (n k : Nat) : List Int := un (zh n k) ++ le (n + 1 - zf n k) (zt n k - zf n k)
theorem qh9 (n k : Nat) : Bit (ze n k) := ym (qge _) (qm9 _ _)
theorem qmV (n k : Nat) : zf n k ≤ n + 1 := by
  have h : zh n k * k ≤ lg n := Nat.div_mul_le_self _ _
  exact Nat.le_trans (Nat.pow_le_pow_right (by decide) h) qkg
theorem qmX {n k : Nat} (hk : 1 ≤ k) : n + 1 < zt n k := by
  have h : lg n + 1 ≤ zh n k * k + k := by
    have := Nat.lt_mul_div_succ (lg n) hk
    unfold zh
    rw [Nat.mul_add, Nat.mul_one, Nat.mul_comm] at this
    omega
  exact Nat.lt_of_lt_of_le qkh (Nat.pow_le_pow_right (by decide) h)
theorem qi1 {n k : Nat} (hn : n ≤ 1099511627776) (hk2 : k ≤ 16) : zh n k * k ≤ 40 ∧ zt n k ≤ 72057594037927936 := by
  have h : zh n k * k ≤ lg n := Nat.div_mul_le_self _ _
  have h40 := qa9 hn
  refine ⟨by omega, ?_⟩
  have : zt n k ≤ 2 ^ 56 := Nat.pow_le_pow_right (by decide) (by omega)
  rwa [show (2 : Nat) ^ 56 = 72057594037927936 from by decide] at this
def Zk (k : Int) : Prop := 1 ≤ k ∧ k ≤ 16
instance zkDec (k : Int) : Decidable (Zk k) := inferInstanceAs (Decidable (_ ∧ _))
theorem qnF {k : Int} (h : Zk k) : ∃ j : Nat, k = j ∧ 1 ≤ j ∧ j ≤ 16 := by
  obtain ⟨j, rfl⟩ := Int.eq_ofNat_of_zero_le (show 0 ≤ k by have := h.1; omega)
  exact ⟨j, rfl, by have := h.1; omega, by have := h.2; omega⟩
theorem qma {F n k : Nat} (hn : n ≤ 1099511627776) (hk : 1 ≤ k) (hk2 : k ≤ 16) : j2 F (n : Int) (k : Int) = some ((zh n k : Int), (zf n k : Int), (zt n k : Int)) := by
  unfold j2
  obtain ⟨h40, h56⟩ := qi1 hn hk2
  have hlen : len (n + 1) = lg n + 1 := by have := qbS (x := n + 1) (by omega); unfold lg; omega
  have hl40 := qa9 hn
  have hzl : zh n k ≤ lg n := Nat.div_le_self _ _
  have hc0 : ((k : Int) != 0) = true := by rw [bne_iff_ne]; omega
  rw [qdG (by omega), qd4 (by omega), hlen]
  simp only [Option.bind_some]
  rw [qap (by omega) (by omega), Nat.add_sub_cancel]
  have e1 : iquo .i64 (lg n : Int) (k : Int) = ((zh n k : Nat) : Int) := by
    unfold iquo zh
    rw [Int.tdiv_eq_ediv_of_nonneg (by omega), ← Int.natCast_ediv]
    unfold zh at hzl
    generalize lg n / k = q at hzl
    exact kS (by omega) (by omega)
  have e2 : imul .i64 ((zh n k : Nat) : Int) (k : Int) = ((zh n k * k : Nat) : Int) := by
    unfold imul
    rw [← Int.natCast_mul]
    generalize zh n k * k = q at h40
    exact kS (by omega) (by omega)
  rw [e1, e2, vZ (by omega), hc0]
  have c1 : decide ((0 : Int) ≤ ((zh n k * k : Nat) : Int)) = true := decide_eq_true (Int.natCast_nonneg _)
  have c2 : decide ((0 : Int) ≤ ((zh n k * k + k : Nat) : Int)) = true := decide_eq_true (Int.natCast_nonneg _)
  rw [c1, c2]
  simp only [chk, if_true]
  rw [qdk (by omega), qdk (by omega)]
  rfl
def gz (n k : Int) : Int × List Int × Int := if Zk k ∧ n ≤ 1099511627776 then ok3 (ze n.toNat k.toNat) else (0, [], 3)
theorem qm7 {n k : Int} (h : ¬ (Zk k ∧ n ≤ 1099511627776)) : gz n k = (0, [], 3) := by unfold gz; rw [if_neg h]
theorem qiq {n k : Nat} (h : Zk k) (h2 : n ≤ 1099511627776) : gz n k = ok3 (ze n k) := by unfold gz; rw [if_pos ⟨h, by omega⟩, Int.toNat_natCast, Int.toNat_natCast]
theorem qmI {F : Nat} (hF : 20000 ≤ F) {n k : Int} (hn : U64 n) : j1 F n k = some (gz n k) := by
  unfold j1
  by_cases h : Zk k ∧ n ≤ 1099511627776
  · obtain ⟨n, rfl⟩ := Int.eq_ofNat_of_zero_le hn.1
    obtain ⟨k, rfl, h1, h2⟩ := qnF h.1
    have hn2 : n ≤ 1099511627776 := by have := h.2; omega
    have hl40 := qa9 hn2
    have hzl : zh n k ≤ lg n := Nat.div_le_self _ _
    have a1 := qmV n k
    have a2 := qmX (n := n) h1
    have a3 := (qi1 hn2 h2).2
    rw [if_neg (by simp; omega), qma hn2 h1 h2, qiq h.1 hn2]
    simp only [Option.bind_some]
    rw [kJ (by omega), qkA hF (by omega), qdG (by omega), qes a1 (by omega), qes (by omega) (by omega)]
    simp only [Option.bind_some]
    rw [qgx hF (qge _) (by rw [qcs]; omega) (by omega) (by omega)]
    rfl
  · rw [if_pos (by unfold Zk at h; simp; omega), qm7 h]
def zq (k : Nat) (l : List Int) (i : Nat) : Int × Int × Int := match fz (l.drop i) with
  | none => (0, 0, 7)
  | some h => if 41 ≤ h * k then (0, 0, 3) else en ((flOf l (i + h + 1) (2 ^ (h * k + k) - 2 ^ (h * k))).map fun p => (2 ^ (h * k) + p.1 - 1, p.2))
theorem qiB {a k : Nat} (hk : 1 ≤ k) : 2 * 2 ^ a ≤ 2 ^ (a + k) := by
  rw [← Nat.pow_succ']; exact Nat.pow_le_pow_right (by decide) (by omega)
theorem qkx {a : Nat} (h : a ≤ 56) : 2 ^ a ≤ 72057594037927936 := by
  have : 2 ^ a ≤ 2 ^ 56 := Nat.pow_le_pow_right (by decide) h
  rwa [show (2 : Nat) ^ 56 = 72057594037927936 from by decide] at this
theorem qgI {F i k : Nat} {l : List Int} (hF : 20000 ≤ F) (hl : Bit l) (hlm : l.length ≤ 8192) (hi : i ≤ l.length) (h1 : 1 ≤ k) (h2 : k ≤ 16) : vn F (l.length : Int) (pk l) (i : Int) (k : Int) = some (zq k l i) := by
  unfold vn
  rw [qik hF hl hlm hi]
  unfold zq
  cases hz : fz (l.drop i) with
  | none => rfl
  | some h =>
    have hq := qmM hz
    rw [List.length_drop] at hq
    have hmul : h * k ≤ 8192 * 16 := Nat.mul_le_mul (by omega) h2
    simp only [Option.bind_some, Bool.not_true, Bool.false_eq_true, if_false]
    rw [kJ (by omega), qny (by omega), qad (by omega)]
    by_cases h3 : 41 ≤ h * k
    · rw [if_pos (by simp only [decide_eq_true_eq]; omega), if_pos h3]
    · rw [if_neg (by simp only [decide_eq_true_eq]; omega), if_neg h3]
      have e2 : imul .i64 (h : Int) (k : Int) = ((h * k : Nat) : Int) := by
        unfold imul
        rw [← Int.natCast_mul]
        generalize h * k = q at hmul
        exact kS (by omega) (by omega)
      have c1 : decide ((0 : Int) ≤ ((h * k : Nat) : Int)) = true := decide_eq_true (Int.natCast_nonneg _)
      have c2 : decide ((0 : Int) ≤ (k : Int)) = true := decide_eq_true (by omega)
      rw [e2, c1, c2]
      simp only [chk, if_true, lett]
      have p1 := qkx (a := h * k) (by omega)
      have p2 := qkx (a := h * k + k) (by omega)
      have p3 := qiB (a := h * k) h1
      have p0 : 0 < 2 ^ (h * k) := Nat.pow_pos (by decide)
      rw [qdk (by omega), qht (by omega), ← Nat.pow_add, Nat.mod_eq_of_lt (by omega), qes (by omega) (by omega)]
      have := qfM (a := i + h + 1) (m := 2 ^ (h * k + k) - 2 ^ (h * k)) hF hl hlm (by omega) (by omega) (by omega)
      cases hf : flOf l (i + h + 1) (2 ^ (h * k + k) - 2 ^ (h * k)) with
      | none =>
        rw [hf] at this
        obtain ⟨x, y, e⟩ := this
        rw [e]; rfl
      | some p =>
        rw [hf] at this
        simp only at this
        have hp := qmL hl (n := p.1) (q := p.2) (by omega) hf
        rw [this]
        simp only [Option.bind_some]
        rw [qh3 (by omega), qdH (by omega) (by omega), qi6]
        rfl
theorem qil {n : Nat} (hn : n ≤ 1099511627776) : (ga n).length ≤ 81 := by rw [qhq]; have := qa9 hn; omega
theorem qkf {n m : Nat} (hm : m ≤ 9223372036854775808) : (le n m).length ≤ 63 := by
  have := qke n m; have := qiR hm; split at * <;> omega
theorem qnE {n k : Nat} (hn : n ≤ 1099511627776) (hk2 : k ≤ 16) : (ze n k).length ≤ 200 := by
  have hzl : zh n k ≤ lg n := Nat.div_le_self _ _
  have hl40 := qa9 (n := n) (by omega)
  have a3 := (qi1 (n := n) (by omega) hk2).2
  have hle := qkf (n := n + 1 - zf n k) (m := zt n k - zf n k) (by omega)
  unfold ze; rw [List.length_append, qcs]; omega
def foldOf (x : Int) : Int := if x < 0 then 2 * (-(x + 1)) + 1 else 2 * x
theorem qgh {x : Int} (h1 : -9223372036854775808 ≤ x) (h2 : x < 0) : IntKind.wrap .u64 x = x + 18446744073709551616 := by
  rw [qc2]; omega
theorem qls (n : Nat) (h : n < 18446744073709551616) : ixor .u64 (n : Int) 18446744073709551615 = 18446744073709551615 - (n : Int) := by
  unfold ixor
  have h1 : (BitVec.ofInt (IntKind.bits .u64) (n : Int)) = BitVec.ofNat 64 n := by simp [IntKind.bits]
  have h2 : (BitVec.ofInt (IntKind.bits .u64) (18446744073709551615 : Int)) = BitVec.allOnes 64 := by show BitVec.ofInt 64 _ = _; decide
  rw [h1, h2]
  have h3 : (BitVec.ofNat 64 n ^^^ BitVec.allOnes 64) = ~~~ (BitVec.ofNat 64 n) := BitVec.xor_allOnes
  have h4 : (BitVec.ofNat 64 n ^^^ BitVec.allOnes 64).toNat = 18446744073709551615 - n := by
    rw [h3, BitVec.toNat_not, BitVec.toNat_ofNat]
    omega
  show IntKind.wrap .u64 ((BitVec.ofNat 64 n ^^^ BitVec.allOnes 64).toNat : Int) = _
  rw [h4, kD (by omega) (by omega)]
  omega
theorem qh8 (n : Nat) (h : n < 18446744073709551616) : ixor .u64 (n : Int) 0 = (n : Int) := by
  unfold ixor
  have h1 : (BitVec.ofInt (IntKind.bits .u64) (n : Int)) = BitVec.ofNat 64 n := by simp [IntKind.bits]
  have h2 : (BitVec.ofInt (IntKind.bits .u64) (0 : Int)) = 0#64 := by show BitVec.ofInt 64 _ = _; decide
  rw [h1, h2]
  show IntKind.wrap .u64 ((BitVec.ofNat 64 n ^^^ 0#64).toNat : Int) = _
  rw [BitVec.xor_zero, BitVec.toNat_ofNat, Nat.mod_eq_of_lt (by omega), kD (by omega) (by omega)]
theorem qh6 (n : Nat) (h : n < 9223372036854775808) : ixor .i64 (n : Int) (-1) = -(n : Int) - 1 := by
  unfold ixor
  have h1 : (BitVec.ofInt (IntKind.bits .i64) (n : Int)) = BitVec.ofNat 64 n := by simp [IntKind.bits]
  have h2 : (BitVec.ofInt (IntKind.bits .i64) (-1 : Int)) = BitVec.allOnes 64 := by show BitVec.ofInt 64 _ = _; decide
  rw [h1, h2]
  have h3 : (BitVec.ofNat 64 n ^^^ BitVec.allOnes 64) = ~~~ (BitVec.ofNat 64 n) := BitVec.xor_allOnes
  have h4 : (BitVec.ofNat 64 n ^^^ BitVec.allOnes 64).toNat = 18446744073709551615 - n := by
    rw [h3, BitVec.toNat_not, BitVec.toNat_ofNat]
    omega
  show IntKind.wrap .i64 ((BitVec.ofNat 64 n ^^^ BitVec.allOnes 64).toNat : Int) = _
  rw [h4]
  unfold IntKind.wrap
  simp only [IntKind.bits, IntKind.signed, show (2 ^ 64 : Int) = 18446744073709551616 from by decide, show (2 ^ (64 - 1) : Int) = 9223372036854775808 from by decide]
  rw [if_pos (by simp; omega)]
  omega
theorem qh7 (n : Nat) (h : n < 9223372036854775808) : ixor .i64 (n : Int) 0 = (n : Int) := by
  unfold ixor
  have h1 : (BitVec.ofInt (IntKind.bits .i64) (n : Int)) = BitVec.ofNat 64 n := by simp [IntKind.bits]
  have h2 : (BitVec.ofInt (IntKind.bits .i64) (0 : Int)) = 0#64 := by show BitVec.ofInt 64 _ = _; decide
  rw [h1, h2]
  show IntKind.wrap .i64 ((BitVec.ofNat 64 n ^^^ 0#64).toNat : Int) = _
  rw [BitVec.xor_zero, BitVec.toNat_ofNat, Nat.mod_eq_of_lt (by omega), kS (by omega) (by omega)]
theorem qij (F : Nat) {x : Int} (h1 : -9223372036854775808 ≤ x) (h2 : x < 9223372036854775808) : jd F x = some (foldOf x) := by
  unfold jd lett foldOf
  have hs : ishr .i64 x 63 = x / 9223372036854775808 := by
    have := qcK (k := .i64) (a := x) (m := 63) (by decide)
    rw [show ((63 : Nat) : Int) = 63 from rfl, show (2 : Int) ^ 63 = 9223372036854775808 from by decide] at this
    exact this
  have hl : ∀ y : Int, ishl .u64 y 1 = (y * 2) % 18446744073709551616 := fun y => qd1 (a := y) (m := 1) (by decide)
  rw [hs, hl]
  by_cases hx : x < 0
  · rw [if_pos hx, show x / 9223372036854775808 = -1 from by omega]
    have e1 : iconv .u64 x = x + 18446744073709551616 := qgh h1 hx
    have e2 : iconv .u64 (-1) = 18446744073709551615 := by decide
    rw [e1, e2, show (x + 18446744073709551616) * 2 % 18446744073709551616 = (((2 * x + 18446744073709551616).toNat : Nat) : Int) from by omega, qls _ (by omega)]
    congr 1
    omega
  · rw [if_neg hx, show x / 9223372036854775808 = 0 from by omega]
    have e1 : iconv .u64 x = x := kD (by omega) (by omega)
    have e2 : iconv .u64 0 = 0 := by decide
    rw [e1, e2, show x * 2 % 18446744073709551616 = ((2 * x).toNat : Int) from by omega, qh8 _ (by omega)]
    congr 1
    omega
def zp (n : Int) : Int := if n % 2 = 0 then n / 2 else -(n / 2) - 1
theorem qfn (F : Nat) {n : Int} (h1 : 0 ≤ n) (h2 : n < 18446744073709551616) : vb F n = some (zp n) := by
  unfold vb lett zp
  have hs : ishr .u64 n 1 = n / 2 := by
    have := qcK (k := .u64) (a := n) (m := 1) (by decide)
    simpa using this
  have ha : iand .u64 n 1 = n % 2 := by
    have := qbQ (k := .u64) (a := n) (m := 1) h1 (by simpa [IntKind.bits] using h2) (by decide) rfl
    simpa using this
  have e1 : iconv .i64 (n / 2) = n / 2 := kS (by omega) (by omega)
  have e2 : iconv .i64 (n % 2) = n % 2 := kS (by omega) (by omega)
  rw [hs, ha, e1, e2]
  by_cases h : n % 2 = 0
  · rw [if_pos h, h, show isub .i64 0 0 = 0 from by decide, show n / 2 = ((n / 2).toNat : Int) from by omega, qh7 _ (by omega)]
  · rw [if_neg h, show n % 2 = 1 from by omega, show isub .i64 0 1 = -1 from by decide, show n / 2 = ((n / 2).toNat : Int) from by omega, qh6 _ (by omega)]
theorem qdw (x : Int) : zp (foldOf x) = x := by
  unfold zp foldOf
  split <;> split <;> omega
theorem qfU {F : Nat} {x : Int} : j9 F x = some (decide (0 ≤ x ∧ x ≤ 1048576)) := by
  unfold j9
  congr 1
  by_cases h : 0 ≤ x <;> by_cases h2 : x ≤ 1048576 <;> simp [h, h2]
def gk : Int → List Int → Int
  | _, [] => 0
  | last, n :: l => if 0 ≤ n ∧ n ≤ 1048576 then (if n ≤ last then 4 else gk n l) else 3
def gkc (l : List Int) : Int := if 300 < l.length then 2 else gk (-1) l
theorem qgJ {F : Nat} {l : List Int} (hm : l.length ≤ 300) : ∀ (k i : Nat) (last : Int), l.length < k + i → i ≤ l.length →
    k6 F l k (last, (i : Int)) = some (gk last (l.drop i))
  | 0, _, _, _, _ => by omega
  | k + 1, i, last, h, hi => by
    show jh F l (k6 F l k) last (i : Int) = _
    unfold jh
    by_cases hlt : i < l.length
    · rw [if_pos (by simp; omega), qQ, List.getElem?_eq_getElem hlt, List.drop_eq_getElem_cons hlt, gk]
      simp only [Option.bind_some]
      rw [qfU]
      simp only [Option.bind_some]
      by_cases h1 : 0 ≤ l[i] ∧ l[i] ≤ 1048576
      · rw [decide_eq_true h1, if_pos h1, if_neg (by simp)]
        by_cases h2 : l[i] ≤ last
        · rw [if_pos h2, if_pos (by simpa using h2)]
        · rw [if_neg h2, if_neg (by simpa using h2), qG (by omega)]
          exact qgJ hm k (i + 1) _ (by omega) (by omega)
      · rw [decide_eq_false h1, if_neg h1, if_pos (by simp)]
    · rw [if_neg (by simp; omega), List.drop_eq_nil_of_le (by omega)]
      rfl
theorem qa7 {F : Nat} (hF : 20000 ≤ F) {l : List Int} : yh F l = some (gkc l) := by
  unfold yh gkc
  by_cases h : 300 < l.length
  · rw [if_pos (by simp; omega), if_pos h]
  · rw [if_neg (by simp; omega), if_neg h]
    exact qgJ (by omega) F 0 (-1) (by omega) (by omega)
def Ris : Int → List Int → Prop
  | _, [] => True
  | last, n :: l => (0 ≤ n ∧ n ≤ 1048576) ∧ last < n ∧ Ris n l
theorem qj7 : ∀ {last : Int} {l : List Int}, gk last l = 0 ↔ Ris last l
  | _, [] => by simp [gk, Ris]
  | last, n :: l => by
    unfold gk Ris
    by_cases h1 : 0 ≤ n ∧ n ≤ 1048576
    · rw [if_pos h1]
      by_cases h2 : n ≤ last
      · rw [if_pos h2]; simp; omega
      · rw [if_neg h2, qj7]; simp [h1]; omega
    · rw [if_neg h1]; simp; omega
theorem ky {l : List Int} : gkc l = 0 ↔ (l.length ≤ 300 ∧ Ris (-1) l) := by
  unfold gkc
  by_cases h : 300 < l.length
  · rw [if_pos h]; simp; omega
  · rw [if_neg h, qj7]; simp; omega
def Nd (x : Int) : Prop := 0 ≤ x ∧ x ≤ 1048576
instance ndDec (x : Int) : Decidable (Nd x) := inferInstanceAs (Decidable (_ ∧ _))
def gp : Bool → Int → List Int → List Int
  | _, _, [] => []
  | b, a, n :: l => (if b then n - a - 1 else foldOf (n - a)) :: gp true n l
theorem qhr : ∀ (b : Bool) (a : Int) (l : List Int), (gp b a l).length = l.length
  | _, _, [] => rfl
  | b, a, n :: l => by rw [gp, List.length_cons, List.length_cons, qhr]
theorem qm5 {F : Nat} {a n : Int} {b : Bool} (ha : Nd a) (hn : Nd n) (hb : b = true → a < n) : vm F a b n = some (if b then n - a - 1 else foldOf (n - a), n, true) := by
  unfold vm
  have h1 := ha.1; have h2 := ha.2; have h3 := hn.1; have h4 := hn.2
  cases b with
  | true =>
    have := hb rfl
    rw [if_pos rfl, if_pos rfl, q6 (a := n) (b := a) (by omega) (by omega), q6 (a := n - a) (by omega) (by omega)]
    have e : iconv .u64 (n - a - 1) = n - a - 1 := kD (by omega) (by omega)
    rw [e]; rfl
  | false =>
    rw [if_neg (by simp), if_neg (by simp), q6 (by omega) (by omega), qij F (by omega) (by omega)]
    rfl
theorem qj9 {F : Nat} {l : List Int} (hm : l.length ≤ 300) : ∀ (k i : Nat) (a : Int) (b : Bool) (o : List Int), l.length < k + i → i ≤ l.length → Nd a → (b = true → Ris a (l.drop i)) → (b = false → ∃ q, Ris q (l.drop i)) → o.length + (l.length - i) ≤ 1000 →
    vh F l k (o, (i : Int), a, b) = some (o ++ gp b a (l.drop i))
  | 0, _, _, _, _, _, _, _, _, _, _ => by omega
  | k + 1, i, a, b, o, h, hi, ha, hb, hb2, ho => by
    show jZ F l (vh F l k) o (i : Int) a b = _
    unfold jZ
    by_cases hlt : i < l.length
    · rw [List.drop_eq_getElem_cons hlt] at hb hb2 ⊢
      have hx : Nd l[i] ∧ Ris l[i] (l.drop (i + 1)) := by
        cases b with
        | true => have := hb rfl; exact ⟨this.1, this.2.2⟩
        | false => obtain ⟨q, hq⟩ := hb2 rfl; exact ⟨hq.1, hq.2.2⟩
      rw [if_pos (by simp; omega), qQ, List.getElem?_eq_getElem hlt]
      simp only [Option.bind_some]
      rw [qm5 ha hx.1 (fun h => (hb h).2.1)]
      simp only [Option.bind_some]
      rw [kY (by simp; omega), qG (by omega)]
      simp only [Option.bind_some]
      rw [qj9 hm k (i + 1) _ _ _ (by omega) (by omega) hx.1 (fun _ => hx.2) (fun h => by cases h) (by simp; omega)]
      rw [gp]
      simp
    · rw [if_neg (by simp; omega), List.drop_eq_nil_of_le (by omega)]
      simp [qaZ, gp]
theorem qlL {F : Nat} (hF : 20000 ≤ F) {l : List Int} {a q : Int} (hm : l.length ≤ 300) (ha : Nd a) (hr : Ris q l) : qax F l a = some (gp false a l) := by
  unfold qax
  have := qj9 (F := F) hm F 0 a false [] (by omega) (by omega) ha (fun h => by cases h) (fun _ => ⟨q, by rw [List.drop_zero]; exact hr⟩) (by simp; omega)
  rw [List.drop_zero, List.nil_append] at this
  exact this
def st (b : Bool) (a g : Int) : Option Int := if 2097152 < g then none else if Nd (if b then a + g + 1 else a + zp g) then some (if b then a + g + 1 else a + zp g) else none
theorem qnN {b : Bool} {a g n : Int} (h : st b a g = some n) : Nd n ∧ g ≤ 2097152 ∧ n = (if b then a + g + 1 else a + zp g) := by
  unfold st at h
  by_cases h1 : 2097152 < g
  · rw [if_pos h1] at h; simp at h
  · rw [if_neg h1] at h
    by_cases h2 : Nd (if b then a + g + 1 else a + zp g)
    · rw [if_pos h2] at h
      have := Option.some.inj h
      exact ⟨this ▸ h2, by omega, this.symm⟩
    · rw [if_neg h2] at h; simp at h
theorem qmf {F : Nat} {a g : Int} {b : Bool} (ha : Nd a) (hg : U64 g) : match st b a g with
    | none => ∃ x y, zC F a b g = some (false, x, y)
    | some n => zC F a b g = some (true, n, true) := by
  have h1 := ha.1; have h2 := ha.2; have h3 := hg.1; have h4 := hg.2
  by_cases h : 2097152 < g
  · have e : st b a g = none := by unfold st; rw [if_pos h]
    rw [e]
    unfold zC
    rw [if_pos (by simpa using h)]
    exact ⟨_, _, rfl⟩
  · have hu : -1048577 ≤ zp g ∧ zp g ≤ 1048577 := by unfold zp; split <;> omega
    have hM : zC F a b g = some (decide (Nd (if b then a + g + 1 else a + zp g)), (if b then a + g + 1 else a + zp g), true) := by
      unfold zC
      rw [if_neg (by simpa using h)]
      cases b with
      | true =>
        have e : iconv .i64 g = g := kS (by omega) (by omega)
        rw [if_pos rfl, e, qE (a := g) (by omega) (by omega), qE (by omega) (by omega)]
        unfold zX
        rw [qfU, show a + (g + 1) = a + g + 1 from by omega]
        rfl
      | false =>
        rw [if_neg (by simp), qfn F h3 h4]
        simp only [Option.bind_some]
        rw [qE (by omega) (by omega)]
        unfold zX
        rw [qfU]
        rfl
    rw [hM]
    unfold st
    rw [if_neg h]
    by_cases h5 : Nd (if b then a + g + 1 else a + zp g)
    · rw [if_pos h5]
      simp only
      rw [decide_eq_true h5]
    · rw [if_neg h5, decide_eq_false h5]
      exact ⟨_, _, rfl⟩
def bk : Bool → Int → List Int → Option (List Int)
  | _, _, [] => some []
  | b, a, g :: l => (st b a g).bind fun n => (bk true n l).map (n :: ·)
def zes (k : Nat) (g : List Int) : List Int := g.flatMap fun x => ze x.toNat k
theorem qc3 (k : Nat) (x : Int) (g : List Int) : zes k (x :: g) = ze x.toNat k ++ zes k g := rfl
theorem qiZ (k : Nat) (g : List Int) : Bit (zes k g) := by
  induction g with
  | nil => intro x hx; simp [zes] at hx
  | cons x g ih => rw [qc3]; exact ym (qh9 _ _) ih
def L40 (g : List Int) : Prop := ∀ x ∈ g, 0 ≤ x ∧ x ≤ 1099511627776
theorem qmP {F k : Nat} (hF : 20000 ≤ F) (h1 : 1 ≤ k) (h2 : k ≤ 16) {g : List Int} (hg : L40 g) (hgm : g.length ≤ 10000) : ∀ (j i : Nat) (l : List Int), g.length < j + i → i ≤ g.length → Bit l → l.length ≤ 8192 →
    vg F g (k : Int) j ((i : Int), (l.length : Int), pk l) = some (if (l ++ zes k (g.drop i)).length ≤ 8192 then (((l ++ zes k (g.drop i)).length : Int), pk (l ++ zes k (g.drop i)), true) else (0, [], false))
  | 0, _, _, _, _, _, _ => by omega
  | j + 1, i, l, h, hi, hl, hlm => by
    show jY F g (k : Int) (vg F g (k : Int) j) (i : Int) (l.length : Int) (pk l) = _
    unfold jY
    by_cases hlt : i < g.length
    · have hx := hg _ (List.getElem_mem hlt)
      obtain ⟨x, hxe⟩ := Int.eq_ofNat_of_zero_le hx.1
      rw [if_pos (by simp; omega), qQ, List.getElem?_eq_getElem hlt, List.drop_eq_getElem_cons hlt, qc3, hxe, Int.toNat_natCast]
      simp only [Option.bind_some]
      have hk : Zk (k : Int) := ⟨by omega, by omega⟩
      rw [qmI hF ⟨by omega, by omega⟩, qiq hk (by omega)]
      simp only [Option.bind_some, ok3]
      have hz := qnE (n := x) (k := k) (by omega) h2
      rw [vZ (by omega)]
      by_cases h3 : l.length + (ze x k).length ≤ 8192
      · rw [if_neg (by simp; omega), qic hF hl (qh9 _ _) hlm (by omega)]
        simp only [Option.bind_some]
        rw [qG (by omega), qmP hF h1 h2 hg hgm j (i + 1) (l ++ ze x k) (by omega) (by omega) (ym hl (qh9 _ _)) (by rw [List.length_append]; omega)]
        rw [List.append_assoc]
      · rw [if_pos (by simp; omega), if_neg (by simp only [List.length_append]; omega)]
    · rw [if_neg (by simp; omega), List.drop_eq_nil_of_le (by omega)]
      have : zes k [] = [] := rfl
      rw [this, List.append_nil, if_pos hlm]
      rfl
theorem qlK {F k : Nat} (hF : 20000 ≤ F) (h1 : 1 ≤ k) (h2 : k ≤ 16) {g l : List Int} (hg : L40 g) (hgm : g.length ≤ 10000) (hl : Bit l) (hlm : l.length ≤ 8192) :
    jr F (l.length : Int) (pk l) g (k : Int) = some (if (l ++ zes k g).length ≤ 8192 then (((l ++ zes k g).length : Int), pk (l ++ zes k g), true) else (0, [], false)) := by
  unfold jr
  have := qmP hF h1 h2 hg hgm F 0 l (by omega) (by omega) hl hlm
  rw [List.drop_zero] at this
  exact this
theorem qj8 : ∀ {b : Bool} {a q : Int} {l : List Int}, Nd a → Ris q l → (b = true → Ris a l) → ∀ x ∈ gp b a l, 0 ≤ x ∧ x ≤ 2097153
  | _, _, _, [], _, _, _ => by intro x hx; simp [gp] at hx
  | b, a, q, n :: l, ha, hr, hb => by
    intro x hx
    rw [gp] at hx
    have h1 := ha.1; have h2 := ha.2; have h3 := hr.1.1; have h4 := hr.1.2
    rcases List.mem_cons.1 hx with rfl | hx
    · cases b with
      | true => have := (hb rfl).2.1; simp only [if_true]; omega
      | false => simp only [Bool.false_eq_true, if_false]; unfold foldOf; split <;> omega
    · exact qj8 hr.1 hr.2.2 (fun _ => hr.2.2) x hx
def gfr (l : List Int) (k : Nat) : Nat → Bool → Int → Nat → Int ⊕ (List Int × Nat)
  | 0, _, _, p => .inr ([], p)
  | m + 1, b, a, p => if (zq k l p).2.2 ≠ 0 then .inl (zq k l p).2.2 else match st b a (zq k l p).1 with
    | none => .inl 3
    | some n => match gfr l k m true n (zq k l p).2.1.toNat with
      | .inl e => .inl e
      | .inr r => .inr (n :: r.1, r.2)
def gfI (o : List Int) (r : Int ⊕ (List Int × Nat)) : List Int × Int × Int := match r with | .inl e => ([], 0, e) | .inr r => (o ++ r.1, (r.2 : Int), 0)
theorem qmW {k : Nat} {l : List Int} (hl : Bit l) {p : Nat} (h1 : 1 ≤ k) : (zq k l p).2.2 ≠ 0 ∨ ∃ g q : Nat, zq k l p = ((g : Int), (q : Int), 0) ∧ g ≤ 1099511627776 ∧ q ≤ l.length := by
  unfold zq
  cases hz : fz (l.drop p) with
  | none => left; simp
  | some h =>
    simp only
    by_cases h3 : 41 ≤ h * k
    · left; rw [if_pos h3]; simp
    · rw [if_neg h3]
      have p3 := qiB (a := h * k) h1
      have p0 : 0 < 2 ^ (h * k) := Nat.pow_pos (by decide)
      cases hf : flOf l (p + h + 1) (2 ^ (h * k + k) - 2 ^ (h * k)) with
      | none => left; simp [en]
      | some r =>
        have := qmL hl (n := r.1) (q := r.2) (by omega) hf
        simp only [Option.map_some, en]
        by_cases h4 : 1099511627776 < 2 ^ (h * k) + r.1 - 1
        · left; rw [if_pos h4]; simp
        · right; rw [if_neg h4]; exact ⟨_, _, rfl, by omega, this.2⟩
theorem qio {F k many : Nat} {l : List Int} (hF : 20000 ≤ F) (hl : Bit l) (hlm : l.length ≤ 8192) (h1 : 1 ≤ k) (h2 : k ≤ 16) (hm : many ≤ 300) : ∀ (j i p : Nat) (a : Int) (b : Bool) (o : List Int), many < j + i → i ≤ many → p ≤ l.length → Nd a → o.length + (many - i) ≤ 1000 →
    yz F (l.length : Int) (pk l) (k : Int) (many : Int) j ((p : Int), o, (i : Int), a, b) = some (gfI o (gfr l k (many - i) b a p))
  | 0, _, _, _, _, _, _, _, _, _, _ => by omega
  | j + 1, i, p, a, b, o, h, hi, hp, ha, ho => by
    show jy F (l.length : Int) (pk l) (k : Int) (many : Int) (yz F (l.length : Int) (pk l) (k : Int) (many : Int) j) (p : Int) o (i : Int) a b = _
    unfold jy
    by_cases hlt : i < many
    · rw [if_pos (by simp; omega), qgI hF hl hlm hp h1 h2, show many - i = (many - (i + 1)) + 1 from by omega]
      simp only [Option.bind_some]
      unfold gfr
      rcases qmW hl (k := k) (p := p) h1 with hz | ⟨g, q, hz, hg, hq⟩
      · rw [if_pos hz, if_pos (by simpa using hz)]
        rfl
      · rw [hz]
        simp only [ne_eq, not_true_eq_false, if_false, bne_self_eq_false, Bool.false_eq_true, Int.toNat_natCast]
        have hs := qmf (F := F) (b := b) ha (g := (g : Int)) ⟨by omega, by omega⟩
        cases hst : st b a (g : Int) with
        | none =>
          rw [hst] at hs
          obtain ⟨x, y, e⟩ := hs
          rw [e]; rfl
        | some n =>
          rw [hst] at hs
          simp only at hs
          rw [hs]
          simp only [Option.bind_some, Bool.not_true, Bool.false_eq_true, if_false]
          rw [kY (by simp; omega), qG (by omega)]
          simp only [Option.bind_some]
          rw [qio hF hl hlm h1 h2 hm j (i + 1) q n true _ (by omega) (by omega) hq (qnN hst).1 (by simp; omega)]
          cases gfr l k (many - (i + 1)) true n q with
          | inl e => rfl
          | inr r => simp [gfI]
    · rw [if_neg (by simp; omega), show many - i = 0 from by omega]
      simp [qaw, gfr, gfI]
theorem qj5 {F k many p : Nat} {l : List Int} {a : Int} (hF : 20000 ≤ F) (hl : Bit l) (hlm : l.length ≤ 8192) (h1 : 1 ≤ k) (h2 : k ≤ 16) (hm : many ≤ 300) (hp : p ≤ l.length) (ha : Nd a) :
    qaM F (l.length : Int) (pk l) (p : Int) a (k : Int) (many : Int) = some (gfI [] (gfr l k many false a p)) := by
  unfold qaM
  exact qio hF hl hlm h1 h2 hm F 0 p a false [] (by omega) (by omega) hp ha (by simp; omega)
theorem qix {a : Int} : ((decide (a < 0)) || (decide (1048576 < a))) = !decide (Nd a) := by
  by_cases h : Nd a
  · rw [decide_eq_true h]; have := h.1; have := h.2; simp; omega
  · rw [decide_eq_false h]
    unfold Nd at h
    simp; omega
theorem qim {l : List Int} {k : Nat} : ∀ {m : Nat} {b : Bool} {a : Int} {p : Nat} {r : List Int × Nat}, gfr l k m b a p = .inr r → r.1.length = m
  | 0, _, _, _, r, h => by simp [gfr] at h; subst h; rfl
  | m + 1, b, a, p, r, h => by
    unfold gfr at h
    split at h
    · simp at h
    · split at h
      · simp at h
      · split at h
        · simp at h
        · rename_i r' hr
          simp only [Sum.inr.injEq] at h
          rw [← h]
          simp [qim hr]
theorem qnr {b : Bool} {a n : Int} (ha : Nd a) (hn : Nd n) (hb : b = true → a < n) : st b a (if b then n - a - 1 else foldOf (n - a)) = some n := by
  have h1 := ha.1; have h2 := ha.2; have h3 := hn.1; have h4 := hn.2
  unfold st
  cases b with
  | true =>
    have := hb rfl
    simp only [if_true]
    rw [if_neg (by omega), show a + (n - a - 1) + 1 = n from by omega, if_pos hn]
  | false =>
    simp only [Bool.false_eq_true, if_false]
    rw [qdw, show a + (n - a) = n from by omega, if_pos hn, if_neg]
    unfold foldOf; split <;> omega
theorem qmK : ∀ {b : Bool} {a q : Int} {l : List Int}, Nd a → Ris q l → (b = true → Ris a l) → bk b a (gp b a l) = some l
  | _, _, _, [], _, _, _ => rfl
  | b, a, q, n :: l, ha, hr, hb => by
    rw [gp, bk, qnr ha hr.1 (fun h => (hb h).2.1)]
    simp only [Option.bind_some]
    rw [qmK hr.1 hr.2.2 (fun _ => hr.2.2)]
    rfl
theorem qdh : ∀ {q : Int} {l : List Int}, Ris q l → ∀ x ∈ l, Nd x
  | _, [], _ => by intro x hx; simp at hx
  | _, n :: l, h => by
    intro x hx
    rcases List.mem_cons.1 hx with rfl | hx
    · exact h.1
    · exact qdh h.2.2 x hx
theorem qnP {n k : Nat} (hk : 1 ≤ k) (hk2 : k ≤ 16) (hn : n ≤ 1099511627776) (p r : List Int) : zq k (p ++ ze n k ++ r) p.length = ((n : Int), ((p.length + (ze n k).length : Nat) : Int), 0) := by
  unfold zq
  have a1 := qmV n k
  have a2 := qmX (n := n) hk
  have h40 := (qi1 hn hk2).1
  have hd : (p ++ ze n k ++ r).drop p.length = un (zh n k) ++ (le (n + 1 - zf n k) (zt n k - zf n k) ++ r) := by
    rw [List.append_assoc, List.drop_left]; unfold ze; rw [List.append_assoc]
  rw [hd, qmN]
  simp only
  rw [if_neg (by omega)]
  have := qnI (n := n + 1 - zf n k) (m := zt n k - zf n k) (by omega) (p ++ un (zh n k)) r
  rw [List.length_append, qcs] at this
  have e : p ++ ze n k ++ r = p ++ un (zh n k) ++ le (n + 1 - zf n k) (zt n k - zf n k) ++ r := by unfold ze; simp [List.append_assoc]
  have e2 : 2 ^ (zh n k * k + k) - 2 ^ (zh n k * k) = zt n k - zf n k := rfl
  rw [e, e2, Nat.add_assoc, this]
  have hdm : 2 ^ (zh n k * k) + (n + 1 - zf n k) - 1 = n := by
    have : 2 ^ (zh n k * k) = zf n k := rfl
    omega
  simp only [Option.map_some, en, hdm]
  rw [if_neg (by omega)]
  unfold ze
  rw [List.length_append, qcs, Nat.add_assoc]
theorem qin {k : Nat} (hk : 1 ≤ k) (hk2 : k ≤ 16) : ∀ {g rs : List Int} {b : Bool} {a : Int} (p r : List Int), L40 g → bk b a g = some rs → gfr (p ++ zes k g ++ r) k g.length b a p.length = .inr (rs, p.length + (zes k g).length)
  | [], rs, b, a, p, r, _, h => by simp [bk] at h; subst h; simp [gfr, zes]
  | x :: g, rs, b, a, p, r, hg, h => by
    have hx := hg x List.mem_cons_self
    obtain ⟨n, hn⟩ := Int.eq_ofNat_of_zero_le hx.1
    unfold bk at h
    cases hs : st b a x with
    | none => rw [hs] at h; simp at h
    | some y =>
      rw [hs] at h
      simp only [Option.bind_some] at h
      cases hb : bk true y g with
      | none => rw [hb] at h; simp at h
      | some rs' =>
        rw [hb] at h
        simp only [Option.map_some, Option.some.injEq] at h
        have hz := qnP hk hk2 (n := n) (by omega) p (zes k g ++ r)
        have e : p ++ zes k (x :: g) ++ r = p ++ ze n k ++ (zes k g ++ r) := by rw [qc3, hn, Int.toNat_natCast]; simp [List.append_assoc]
        have ih := qin hk hk2 (p ++ ze n k) r (fun y hy => hg y (List.mem_cons_of_mem _ hy)) hb
        have e2 : p ++ ze n k ++ zes k g ++ r = p ++ ze n k ++ (zes k g ++ r) := by simp [List.append_assoc]
        rw [e2, List.length_append] at ih
        rw [e, List.length_cons, gfr, hz]
        simp only [ne_eq, not_true_eq_false, if_false, Int.toNat_natCast]
        rw [← hn, hs]
        simp only
        rw [ih, ← h, qc3, hn, Int.toNat_natCast, List.length_append, Nat.add_assoc]
theorem qem (l : List Int) : (srt l).Perm l := List.mergeSort_perm l _
theorem qhN (l : List Int) : (srt l).Pairwise (· ≤ ·) := by
  have h := List.pairwise_mergeSort (le := fun x y : Int => decide (x ≤ y)) (fun a b c h1 h2 => by simp only [decide_eq_true_eq] at *; omega) (fun a b => by simp only [Bool.or_eq_true, decide_eq_true_eq]; omega) l
  exact h.imp (fun h => by simpa using h)
theorem qf3 {l m : List Int} (hp : l.Perm m) (hm : m.Pairwise (· ≤ ·)) : srt l = m :=
  List.Perm.eq_of_pairwise (le := fun x y : Int => x ≤ y) (fun a b _ _ h1 h2 => by omega) (qhN l) hm ((qem l).trans hp)
theorem qiD {l : List Int} (h : l.Pairwise (· < ·)) : l.Pairwise (· ≤ ·) := h.imp (fun h => by omega)
theorem qeb {l : List Int} (h : l.Pairwise (· < ·)) : l.Nodup := h.imp (fun h => by omega)
theorem qgX {l : List Int} (h : l.Pairwise (· ≤ ·)) (hn : l.Nodup) : l.Pairwise (· < ·) := by
  have := List.Pairwise.and h hn
  exact this.imp (fun h => by have h1 := h.1; have h2 := h.2; omega)
theorem qdp (xs : List Int) : (Go.Lib.compact xs).length ≤ xs.length := by
  unfold Go.Lib.compact Go.Lib.compactUpTo
  rw [List.length_map]
  exact Nat.le_trans (List.length_filter_le _ _) (by simp)
theorem qe0 {xs : List Int} {j : Nat} (h0 : 0 < j) (hj : j < xs.length) : Go.Lib.keeps xs.toArray j = decide (xs[j] ≠ xs[j - 1]) := by
  unfold Go.Lib.keeps
  have e1 : xs.toArray[j]! = xs[j] := by rw [getElem!_pos xs.toArray j (by simpa using hj)]; simp
  have e2 : xs.toArray[j - 1]! = xs[j - 1] := by rw [getElem!_pos xs.toArray (j - 1) (by simp; omega)]; simp
  rw [e1, e2]
  have : j ≠ 0 := by omega
  simp [this]
theorem qdT {xs : List Int} (h : xs.Pairwise (· < ·)) : Go.Lib.compact xs = xs := by
  refine Go.Lib.compact_all _ fun j hj => ?_
  by_cases h0 : j = 0
  · subst h0; simp [Go.Lib.keeps]
  · rw [qe0 (by omega) hj]
    have := List.pairwise_iff_getElem.1 h (j - 1) j (by omega) hj (by omega)
    simp; omega
theorem qfJ {xs : List Int} (h : xs.Pairwise (· ≤ ·)) (he : (Go.Lib.compact xs).length = xs.length) : xs.Pairwise (· < ·) := by
  unfold Go.Lib.compact Go.Lib.compactUpTo at he
  rw [List.length_map] at he
  have he' : ((List.range xs.length).filter (Go.Lib.keeps xs.toArray)).length = (List.range xs.length).length := by rw [he]; simp
  have hk := List.length_filter_eq_length_iff.1 he'
  rw [List.pairwise_iff_getElem]
  intro i j hi hj hij
  have h1 := hk j (by simpa using hj)
  rw [qe0 (by omega) hj] at h1
  have h2 : xs[j] ≠ xs[j - 1] := by simpa using h1
  have h3 := List.pairwise_iff_getElem.1 h (j - 1) j (by omega) hj (by omega)
  have h4 : xs[i] ≤ xs[j - 1] := by
    by_cases e : i = j - 1
    · subst e; omega
    · exact List.pairwise_iff_getElem.1 h i (j - 1) hi (by omega) (by omega)
  omega
theorem yV : ∀ {q : Int} {l : List Int}, Ris q l → l.Pairwise (· < ·) ∧ ∀ z ∈ l, q < z
  | _, [], _ => by simp
  | q, x :: l, h => by
    obtain ⟨h1, h2⟩ := yV h.2.2
    have h3 := h.2.1
    refine ⟨List.pairwise_cons.2 ⟨h2, h1⟩, fun z hz => ?_⟩
    rcases List.mem_cons.1 hz with rfl | hz
    · exact h3
    · have := h2 z hz; omega
theorem qf0 : ∀ {q : Int} {l : List Int}, l.Pairwise (· < ·) → (∀ z ∈ l, q < z) → (∀ z ∈ l, Nd z) → Ris q l
  | _, [], _, _, _ => trivial
  | q, x :: l, h, hq, hn => ⟨hn x (by simp), hq x (by simp), qf0 (List.pairwise_cons.1 h).2 (List.pairwise_cons.1 h).1 fun z hz => hn z (by simp [hz])⟩
def cmn (l r : List Int) : Bool := l.any fun x => r.contains x
theorem qih {l r : List Int} : cmn l r = false ↔ ∀ x ∈ l, x ∉ r := by simp [cmn]
def mrg (l r : List Int) : List Int × Int := if cmn l r then ([], 6) else if 300 < l.length + r.length then ([], 2) else (srt (l ++ r), 0)
theorem qip {F n : Nat} (h : n ≤ 1000000) : kU F ([] : List Int) 0 (n : Int) = some [] := by
  unfold kU lett
  rw [if_neg (by simp)]
  have e1 : isub .i64 ((0 : Nat) : Int) (([] : List Int).length : Int) = 0 := by decide
  rw [e1, q6 (by omega) (by omega), Int.sub_zero]
  by_cases h0 : n = 0
  · subst h0; rfl
  · simp only
    rw [if_pos (by simp; omega)]
    have e2 : sub ([] : List Int) 0 ((0 : Nat) : Int) = some [] := by decide
    have e3 : appz 8796093022208 ([] : List Int) 0 (n : Int) = some (List.replicate n 0) := by
      unfold appz
      rw [if_pos (by simp; omega)]
      simp
    rw [e2]
    simp only [Option.bind_some]
    rw [e3]
    simp only [Option.bind_some]
    have e4 : sub (List.replicate n (0 : Int)) 0 ((([] : List Int).length : Nat) : Int) = some [] := by
      have := qiU (l := List.replicate n (0 : Int)) (i := 0) (j := 0) (by omega) (by omega)
      simpa using this
    rw [e4]
    rfl
theorem qi5 {F : Nat} (hF : 20000 ≤ F) {a b : List Int} (h : a.length + b.length ≤ 1000000) : q4 F [a, b] = some (a ++ b) := by
  obtain ⟨k, rfl⟩ : ∃ k, F = k + 3 := ⟨F - 3, by omega⟩
  have i0 : idx [a, b] (0 : Int) = some a := rfl
  have i1 : idx [a, b] (1 : Int) = some b := rfl
  have e0 : iadd .i64 0 (a.length : Int) = (a.length : Int) := by rw [qE (by omega) (by omega)]; omega
  have e1 : iadd .i64 (a.length : Int) (b.length : Int) = ((a.length + b.length : Nat) : Int) := vZ (by omega)
  have o1 : iadd .i64 0 1 = 1 := by decide
  have o2 : iadd .i64 1 1 = 2 := by decide
  have hs : zo (k + 3) [a, b] ((a.length + b.length : Nat) : Int) = some (a ++ b) := by
    unfold zo
    rw [qip h]
    simp only [Option.bind_some]
    show qk (k + 3) [a, b] (qp (k + 3) [a, b] (k + 2)) [] 0 = _
    unfold qk
    rw [if_pos (by simp), i0]
    simp only [Option.bind_some]
    rw [kY (by simp; omega), o1]
    simp only [Option.bind_some, List.nil_append]
    show qk (k + 3) [a, b] (qp (k + 3) [a, b] (k + 1)) a 1 = _
    unfold qk
    rw [if_pos (by simp), i1]
    simp only [Option.bind_some]
    rw [kY (by omega), o2]
    simp only [Option.bind_some]
    show qk (k + 3) [a, b] (qp (k + 3) [a, b] k) (a ++ b) 2 = _
    unfold qk
    rw [if_neg (by simp)]
    rfl
  unfold q4
  show ql (k + 3) [a, b] (qq (k + 3) [a, b] (k + 2)) 0 0 = _
  unfold ql
  rw [if_pos (by simp), i0]
  simp only [Option.bind_some]
  rw [e0, if_neg (by simp), o1]
  show ql (k + 3) [a, b] (qq (k + 3) [a, b] (k + 1)) (a.length : Int) 1 = _
  unfold ql
  rw [if_pos (by simp), i1]
  simp only [Option.bind_some]
  rw [e1, if_neg (by simp; omega), o2]
  show ql (k + 3) [a, b] (qq (k + 3) [a, b] k) ((a.length + b.length : Nat) : Int) 2 = _
  unfold ql
  rw [if_neg (by simp)]
  exact hs
theorem qiT {l r : List Int} (hl : l.Pairwise (· < ·)) (hr : r.Pairwise (· < ·)) : (srt (l ++ r)).Pairwise (· < ·) ↔ cmn l r = false := by
  rw [qih]
  constructor
  · intro h x hx hx'
    have hn : (l ++ r).Nodup := (qem _).nodup_iff.1 (qeb h)
    exact (List.nodup_append.1 hn).2.2 x hx x hx' rfl
  · intro h
    refine qgX (qhN _) ((qem _).nodup_iff.2 (List.nodup_append.2 ⟨qeb hl, qeb hr, fun a ha b hb e => ?_⟩))
    subst e
    exact h a ha hb
theorem qja {F : Nat} (hF : 20000 ≤ F) {l r : List Int} (hl : l.Pairwise (· < ·)) (hr : r.Pairwise (· < ·)) (hm : l.length + r.length ≤ 1000000) :
    ((q4 F ([l, r] : List (List Int))).bind fun x16 => ((qX F x16).bind fun x19 => (chk (decide (x19.length = x16.length)) (((kG F x19).bind fun x29 => ((zy F x29).bind fun x32 => (if (decide ((x32.length : Int) < (x19.length : Int))) then some (([] : List Int), (6 : Int)) else (if (decide (300 < (x19.length : Int))) then some (([] : List Int), 2) else some (x19, 0))))))))) = some (mrg l r) := by
  rw [qi5 hF hm]
  simp only [Option.bind_some]
  have hsl : (srt (l ++ r)).length = l.length + r.length := by rw [qcT, List.length_append]
  unfold qX
  rw [if_pos (by rw [List.length_append]; omega)]
  simp only [Option.bind_some]
  unfold chk
  rw [if_pos (by rw [qcT]; simp)]
  unfold kG
  rw [kY (by rw [hsl]; simp; omega)]
  simp only [Option.bind_some, List.nil_append]
  unfold zy
  rw [if_pos (qdp _)]
  simp only [Option.bind_some]
  unfold mrg
  have hc := qdp (srt (l ++ r))
  cases h : cmn l r
  · have hp := (qiT hl hr).2 h
    rw [qdT hp, if_neg (by simp), hsl, if_neg (show ¬ (false = true) by simp)]
    by_cases h3 : 300 < l.length + r.length
    · rw [if_pos (by simp; omega), if_pos h3]
    · rw [if_neg (by simp; omega), if_neg h3]
  · have hne : (Go.Lib.compact (srt (l ++ r))).length ≠ (srt (l ++ r)).length := by
      intro he
      have := (qiT hl hr).1 (qfJ (qhN _) he)
      rw [h] at this
      simp at this
    rw [if_pos (by simp only [decide_eq_true_eq]; omega), if_pos rfl]
def cr : Int → List Int → Nat
  | _, [] => 0
  | v, y :: t => if y = v then 1 + cr (v + 1) t else 0
def rs : List Int → List (Int × Int)
  | [] => []
  | x :: t => match rs t with
    | (y, n) :: r => if y = x + 1 then (x, n + 1) :: r else (x, 1) :: (y, n) :: r
    | [] => [(x, 1)]
def rng : Int → Nat → List Int
  | _, 0 => []
  | a, n + 1 => a :: rng (a + 1) n
def flat (R : List (Int × Int)) : List Int := R.flatMap fun r => rng r.1 r.2.toNat
theorem qlF (v y : Int) (t : List Int) : cr v (y :: t) = if y = v then 1 + cr (v + 1) t else 0 := rfl
theorem ql6 (x : Int) (t : List Int) : rs (x :: t) = match rs t with
    | (y, n) :: r => if y = x + 1 then (x, n + 1) :: r else (x, 1) :: (y, n) :: r
    | [] => [(x, 1)] := rfl
theorem qjW : ∀ (v : Int) (t : List Int), cr v t ≤ t.length
  | _, [] => Nat.le_refl _
  | v, y :: t => by
    unfold cr
    have := qjW (v + 1) t
    split
    · rw [List.length_cons]; omega
    · omega
theorem qjV : ∀ (v : Int) (t : List Int) {j : Nat}, j < cr v t → t[j]? = some (v + j)
  | _, [], _, h => by simp [cr] at h
  | v, y :: t, j, h => by
    unfold cr at h
    split at h
    · rename_i he
      cases j with
      | zero => simp [he]
      | succ j =>
        rw [List.getElem?_cons_succ, qjV (v + 1) t (by omega)]
        congr 1; omega
    · omega
theorem qjU : ∀ (v : Int) (t : List Int) {y : Int}, t[cr v t]? = some y → y ≠ v + cr v t
  | _, [], _, h => by simp [cr] at h
  | v, x :: t, y, h => by
    unfold cr at h ⊢
    split at h
    · rename_i he
      rw [if_pos he]
      rw [Nat.add_comm 1, List.getElem?_cons_succ] at h
      have := qjU (v + 1) t h
      omega
    · rename_i he
      rw [if_neg he]
      simp at h
      omega
theorem qiO : ∀ (x : Int) (t : List Int), rs (x :: t) = (x, 1 + (cr (x + 1) t : Int)) :: rs (t.drop (cr (x + 1) t))
  | x, [] => rfl
  | x, y :: t => by
    have ih := qiO y t
    rw [ql6, ih, qlF]
    simp only
    by_cases h : y = x + 1
    · subst h
      rw [if_pos rfl, if_pos rfl, Nat.add_comm 1, List.drop_succ_cons]
      congr 2
    · rw [if_neg h, if_neg h, List.drop_zero, ih]
      simp
theorem qar : ∀ (a : Int) (n : Nat), (rng a n).length = n
  | _, 0 => rfl
  | a, n + 1 => by rw [rng, List.length_cons, qar]
theorem qee : ∀ (a : Int) (n : Nat), rng a (n + 1) = rng a n ++ [a + n]
  | a, 0 => by simp [rng]
  | a, n + 1 => by
    rw [rng, qee (a + 1) n, rng, List.cons_append, show a + 1 + (n : Int) = a + ((n + 1 : Nat) : Int) from by omega]
theorem jH : ∀ {a z : Int} {n : Nat}, z ∈ rng a n ↔ a ≤ z ∧ z < a + n
  | a, z, 0 => by simp [rng]
  | a, z, n + 1 => by
    rw [rng, List.mem_cons, jH]
    omega
theorem zE (r : Int × Int) (R : List (Int × Int)) : flat (r :: R) = rng r.1 r.2.toNat ++ flat R := rfl
theorem qdW (A B : List (Int × Int)) : flat (A ++ B) = flat A ++ flat B := by unfold flat; rw [List.flatMap_append]
theorem qdX {R : List (Int × Int)} {z : Int} : z ∈ flat R ↔ ∃ r ∈ R, r.1 ≤ z ∧ z < r.1 + r.2.toNat := by
  unfold flat
  rw [List.mem_flatMap]
  constructor
  · rintro ⟨r, h1, h2⟩; exact ⟨r, h1, jH.1 h2⟩
  · rintro ⟨r, h1, h2⟩; exact ⟨r, h1, jH.2 h2⟩
def Sep : Int → List (Int × Int) → Prop
  | _, [] => True
  | e, r :: R => e < r.1 ∧ 1 ≤ r.2 ∧ Sep (r.1 + r.2) R
theorem qkP {e e' : Int} {R : List (Int × Int)} (h : Sep e R) (he : e' ≤ e) : Sep e' R := by
  cases R with
  | nil => trivial
  | cons r R => exact ⟨by have := h.1; omega, h.2⟩
theorem qas : ∀ (l : List Int), flat (rs l) = l
  | [] => rfl
  | x :: t => by
    have ih := qas t
    unfold rs
    cases h : rs t with
    | nil =>
      rw [h] at ih
      simp only [zE]
      rw [ih]
      simp [rng]
    | cons p r =>
      obtain ⟨y, n⟩ := p
      rw [h] at ih
      simp only
      by_cases he : y = x + 1
      · rw [if_pos he]
        subst he
        rw [zE] at ih ⊢
        simp only at ih ⊢
        by_cases hn : 0 ≤ n
        · rw [show (n + 1).toNat = n.toNat + 1 from by omega, rng, List.cons_append, ih]
        · exfalso
          have : ∀ (l : List Int), ∀ r ∈ rs l, 1 ≤ r.2 := by
            intro l
            induction l with
            | nil => intro r hr; simp [rs] at hr
            | cons x t ih =>
              intro r hr
              unfold rs at hr
              cases h : rs t with
              | nil => rw [h] at hr; simp at hr; rw [hr]; simp
              | cons p q =>
                obtain ⟨y, n⟩ := p
                rw [h] at hr ih
                have hn := ih (y, n) (by simp)
                simp only at hr hn
                split at hr
                · rcases List.mem_cons.1 hr with rfl | hr
                  · simp only; omega
                  · exact ih r (by simp [hr])
                · rcases List.mem_cons.1 hr with rfl | hr
                  · simp
                  · exact ih r hr
          have := this t (x + 1, n) (by rw [h]; simp)
          simp only at this
          omega
      · rw [if_neg he, zE, ih]
        simp [rng]
theorem qdi : ∀ {q : Int} {l : List Int}, l.Pairwise (· < ·) → (∀ z ∈ l, q < z) → Sep q (rs l)
  | _, [], _, _ => trivial
  | q, x :: t, h, hq => by
    have h' := List.pairwise_cons.1 h
    have ih : Sep x (rs t) := qdi h'.2 h'.1
    have hx := hq x (by simp)
    unfold rs
    cases hr : rs t with
    | nil => exact ⟨hx, by simp, trivial⟩
    | cons p r =>
      obtain ⟨y, n⟩ := p
      rw [hr] at ih
      obtain ⟨i1, i2, i3⟩ := ih
      simp only at i1 i2 i3 ⊢
      by_cases he : y = x + 1
      · rw [if_pos he]
        subst he
        refine ⟨hx, by simp only; omega, ?_⟩
        simp only
        rw [show x + (n + 1) = x + 1 + n from by omega]
        exact i3
      · rw [if_neg he]
        exact ⟨hx, by simp, by simp only; omega, i2, i3⟩
theorem qhJ : ∀ {e : Int} {R : List (Int × Int)}, Sep e R → ∀ z ∈ flat R, e < z
  | _, [], _ => by simp [flat]
  | e, r :: R, h => by
    intro z hz
    rw [zE] at hz
    rcases List.mem_append.1 hz with hz | hz
    · have := jH.1 hz; have := h.1; omega
    · have := qhJ h.2.2 z hz; have := h.1; have := h.2.1; omega
theorem qkG : ∀ (a : Int) (n : Nat), (rng a n).Pairwise (· < ·)
  | _, 0 => List.Pairwise.nil
  | a, n + 1 => List.pairwise_cons.2 ⟨fun z hz => by have := jH.1 hz; omega, qkG (a + 1) n⟩
theorem qhK : ∀ {e : Int} {R : List (Int × Int)}, Sep e R → (flat R).Pairwise (· < ·)
  | _, [], _ => by simp [flat]
  | e, r :: R, h => by
    rw [zE, List.pairwise_append]
    refine ⟨qkG _ _, qhK h.2.2, fun x hx y hy => ?_⟩
    have h1 := jH.1 hx
    have h2 := qhJ h.2.2 y hy
    have := h.2.1
    omega
theorem qaF : ∀ {e : Int} {R : List (Int × Int)} (p : Int × Int → Bool), Sep e R → Sep e (R.filter p)
  | _, [], _, _ => trivial
  | e, r :: R, p, h => by
    have ih := qaF p h.2.2
    rw [List.filter_cons]
    split
    · exact ⟨h.1, h.2.1, ih⟩
    · exact qkP ih (by have := h.1; have := h.2.1; omega)
theorem qdt (F : Nat) {xs : List Int} (hm : xs.length ≤ 1000000) : ∀ (k i : Nat), xs.length < k + i → i ≤ xs.length → kZ F xs xs k (i : Int) = some true
  | 0, _, _, _ => by omega
  | k + 1, i, h, hi => by
    show jf F xs xs (kZ F xs xs k) (i : Int) = _
    unfold jf
    by_cases hlt : i < xs.length
    · rw [if_pos (by simp; omega), qQ, List.getElem?_eq_getElem hlt]
      simp only [Option.bind_some]
      rw [if_neg (by simp), qG (by omega)]
      exact qdt F hm k (i + 1) (by omega) (by omega)
    · rw [if_neg (by simp; omega)]; rfl
theorem qhI {F : Nat} {xs : List Int} (hF : xs.length < F) (hm : xs.length ≤ 1000000) : qah F xs xs = some true := by
  unfold qah
  rw [if_neg (by simp)]
  exact qdt F hm F 0 (by omega) (by omega)
def qbW {σ τ : Type} (yy : σ → (Int × Int) → Option (σ ⊕ τ)) : List (Int × Int) → σ → Option (σ ⊕ τ)
  | [], s => some (.inl s)
  | r :: R, s => (yy s r).bind (Sum.elim (fun s' => qbW yy R s') (fun t => some (.inr t)))
def Mid (l : List Int) : Prop := ∀ x ∈ l, -4611686018427387904 ≤ x ∧ x ≤ 4611686018427387904
theorem qkM {σ τ : Type} {F : Nat} {yy : σ → (Int × Int) → Option (σ ⊕ τ)} {rec31 : (Int × σ) → Option (σ ⊕ τ)} {l : List Int} {i : Nat} {x : Int} {s : σ} (hl : l.length ≤ 1000000) (hm : Mid l) (hx : l[i]? = some x) :
    ∀ (k j : Nat), cr (x + 1) (l.drop (i + 1)) < k + j → j ≤ cr (x + 1) (l.drop (i + 1)) →
      zL F yy rec31 l (i : Int) s k ((1 + j : Nat) : Int) = vy F yy rec31 l (i : Int) s ((1 + cr (x + 1) (l.drop (i + 1)) : Nat) : Int)
  | 0, _, _, _ => by omega
  | k + 1, j, h, hj => by
    have hi := (List.getElem?_eq_some_iff.1 hx).1
    have hcl := qjW (x + 1) (l.drop (i + 1))
    rw [List.length_drop] at hcl
    have hxm := hm x (List.mem_of_getElem? hx)
    show vx F yy rec31 l (i : Int) s (zL F yy rec31 l (i : Int) s k) ((1 + j : Nat) : Int) = _
    unfold vx
    rw [vZ (by omega)]
    by_cases hlt : i + (1 + j) < l.length
    · have hg : l[i + (1 + j)]? = some l[i + (1 + j)] := List.getElem?_eq_getElem hlt
      have hd : (l.drop (i + 1))[j]? = some l[i + (1 + j)] := by rw [List.getElem?_drop, show i + 1 + j = i + (1 + j) from by omega]; exact hg
      rw [if_pos (by simp; omega), qQ, qQ, hx, hg]
      simp only [Option.bind_some]
      rw [qE (by omega) (by omega)]
      unfold vz
      by_cases hjc : j < cr (x + 1) (l.drop (i + 1))
      · have := qjV (x + 1) (l.drop (i + 1)) hjc
        rw [hd, Option.some.injEq] at this
        rw [if_pos (by rw [this]; simp; omega), qG (by omega), show 1 + j + 1 = 1 + (j + 1) from by omega]
        exact qkM hl hm hx k (j + 1) (by omega) (by omega)
      · obtain rfl : j = cr (x + 1) (l.drop (i + 1)) := by omega
        have := qjU (x + 1) (l.drop (i + 1)) hd
        rw [if_neg (by simp; omega)]
    · obtain rfl : j = cr (x + 1) (l.drop (i + 1)) := by omega
      rw [if_neg (by simp; omega)]
      rfl
theorem qkN {σ τ : Type} {F : Nat} {yy : σ → (Int × Int) → Option (σ ⊕ τ)} {l : List Int} (hl : l.length ≤ 1000000) (hF : l.length + 1 < F) (hm : Mid l) :
    ∀ (k i : Nat) (s : σ), l.length < k + i → i ≤ l.length → qA F yy l k ((i : Int), s) = qbW yy (rs (l.drop i)) s
  | 0, _, _, _, _ => by omega
  | k + 1, i, s, h, hi => by
    show vw F yy l (qA F yy l k) (i : Int) s = _
    unfold vw
    by_cases hlt : i < l.length
    · have hcl := qjW (l[i] + 1) (l.drop (i + 1))
      rw [List.length_drop] at hcl
      have h1 := qkM (F := F) (yy := yy) (rec31 := qA F yy l k) (s := s) hl hm (List.getElem?_eq_getElem hlt) F 0 (by omega) (by omega)
      rw [show ((1 + 0 : Nat) : Int) = 1 from rfl] at h1
      rw [if_pos (by simp; omega), h1, List.drop_eq_getElem_cons hlt, qiO]
      unfold vy qbW
      rw [qQ, List.getElem?_eq_getElem hlt]
      simp only [Option.bind_some]
      rw [vZ (by omega), show ((1 + cr (l[i] + 1) (l.drop (i + 1)) : Nat) : Int) = 1 + (cr (l[i] + 1) (l.drop (i + 1)) : Int) from by omega]
      congr 2
      funext s'
      rw [qkN hl hF hm k _ s' (by omega) (by omega), List.drop_drop]
      congr 3
      omega
    · rw [if_neg (by simp; omega), List.drop_eq_nil_of_le (by omega)]
      rfl
theorem ql8 {σ τ : Type} {F : Nat} {yy : σ → (Int × Int) → Option (σ ⊕ τ)} {l : List Int} {s : σ} (hl : l.length ≤ 1000000) (hF : l.length + 1 < F) (hm : Mid l) : jb F yy l s = qbW yy (rs l) s := by
  unfold jb
  exact qkN hl hF hm F 0 s (by omega) (by omega)
def spO (least : Int) (R : List (Int × Int)) : List (Int × Int) := R.filter fun r => decide (least ≤ r.2)
def spS (least : Int) (R : List (Int × Int)) : List (Int × Int) := R.filter fun r => decide (r.2 < least)
theorem qmS {least : Int} {r : Int × Int} {R : List (Int × Int)} (h : least ≤ r.2) : spO least (r :: R) = r :: spO least R := by unfold spO; rw [List.filter_cons, if_pos (by simpa using h)]
theorem qmR {least : Int} {r : Int × Int} {R : List (Int × Int)} (h : ¬ least ≤ r.2) : spO least (r :: R) = spO least R := by unfold spO; rw [List.filter_cons, if_neg (by simpa using h)]
theorem qmU {least : Int} {r : Int × Int} {R : List (Int × Int)} (h : ¬ least ≤ r.2) : spS least (r :: R) = r :: spS least R := by unfold spS; rw [List.filter_cons, if_pos (by simpa using h)]
theorem qmT {least : Int} {r : Int × Int} {R : List (Int × Int)} (h : least ≤ r.2) : spS least (r :: R) = spS least R := by unfold spS; rw [List.filter_cons, if_neg (by simpa using h)]
theorem qfb {F : Nat} {o : List (Int × Int)} {a n : Int} (ha : -4611686018427387904 ≤ a ∧ a ≤ 4611686018427387904) (hn : 0 ≤ n ∧ n ≤ 1000000) {rest : List Int} (hr : rest.length ≤ 1000000) : ∀ (k j : Nat), n.toNat < k + j → j ≤ n.toNat →
    vi F o a n k ((j : Int), rest ++ rng a j) = some (.inl (rest ++ rng a n.toNat, o))
  | 0, _, _, _ => by omega
  | k + 1, j, h, hj => by
    show j6 F o a n (vi F o a n k) (j : Int) (rest ++ rng a j) = _
    unfold j6
    by_cases hlt : j < n.toNat
    · rw [if_pos (by simp; omega), kY (by simp [qar]; omega), qE (by omega) (by omega), qG (by omega)]
      simp only [Option.bind_some]
      rw [List.append_assoc, ← qee]
      exact qfb ha hn hr k (j + 1) (by omega) (by omega)
    · rw [if_neg (by simp; omega)]
      obtain rfl : j = n.toNat := by omega
      rfl
def Small (R : List (Int × Int)) : Prop := ∀ r ∈ R, (-4611686018427387904 ≤ r.1 ∧ r.1 ≤ 4611686018427387904) ∧ 0 ≤ r.2 ∧ r.2 ≤ 1000000
def rawY (F : Nat) (least : Int) (s : List Int × List (Int × Int)) (r : Int × Int) : Option ((List Int × List (Int × Int)) ⊕ Empty) := ja F least s.1 s.2 r.1 r.2
theorem qdj {F : Nat} {least : Int} (hF : 1000001 < F) : ∀ (R : List (Int × Int)) (rest : List Int) (o : List (Int × Int)), Small R → rest.length + (flat R).length ≤ 1000000 → o.length + R.length ≤ 1000000 →
    qbW (rawY F least) R (rest, o) = some (.inl (rest ++ flat (spS least R), o ++ spO least R))
  | [], rest, o, _, _, _ => by simp [qbW, spS, spO, flat]
  | (a, n) :: R, rest, o, hs, h1, h2 => by
    have hr := hs (a, n) (by simp)
    have hs' : Small R := fun r hr => hs r (by simp [hr])
    rw [zE, List.length_append, qar] at h1
    rw [List.length_cons] at h2
    simp only at hr h1
    show ((ja F least rest o a n).bind _) = _
    unfold ja
    by_cases h : least ≤ n
    · rw [if_pos (by simpa using h), kY (by simp; omega)]
      simp only [Option.bind_some, Sum.elim_inl]
      rw [qdj hF R _ _ hs' (by omega) (by simp; omega)]
      rw [qmS (by exact h), qmT (by exact h), List.append_assoc]
      rfl
    · rw [if_neg (by simpa using h)]
      have hl := qfb (F := F) (o := o) hr.1 hr.2 (rest := rest) (by omega) F 0 (by omega) (by omega)
      rw [rng, List.append_nil] at hl
      rw [show ((0 : Nat) : Int) = 0 from rfl] at hl
      rw [hl]
      simp only [Option.bind_some, Sum.elim_inl]
      rw [qdj hF R _ _ hs' (by rw [List.length_append, qar]; omega) (by omega)]
      rw [qmR (by exact h), qmU (by exact h), zE, List.append_assoc]
theorem qkK : ∀ {q : Int} {R : List (Int × Int)}, Sep q R → ∀ r ∈ R, 1 ≤ r.2
  | _, [], _ => by simp
  | q, r :: R, h => by
    intro r' hr
    rcases List.mem_cons.1 hr with rfl | hr
    · exact h.2.1
    · exact qkK h.2.2 r' hr
theorem qc9 {R : List (Int × Int)} {r : Int × Int} (hr : r ∈ R) : r.2.toNat ≤ (flat R).length := by
  obtain ⟨A, B, rfl⟩ := List.append_of_mem hr
  rw [qdW, zE, List.length_append, List.length_append, qar]
  omega
theorem qc8 {q : Int} {R : List (Int × Int)} (h : Sep q R) : R.length ≤ (flat R).length := by
  induction R generalizing q with
  | nil => simp
  | cons r R ih =>
    have := ih h.2.2
    have := h.2.1
    rw [zE, List.length_append, qar, List.length_cons]
    omega
theorem qiH {q : Int} {l : List Int} (h : Ris q l) : Mid l := fun x hx => by have := qdh h x hx; unfold Nd at this; omega
theorem qkL {q : Int} {l : List Int} (hl : l.length ≤ 1000000) (h : Ris q l) : Small (rs l) := by
  intro r hr
  have hs := qdi (yV h).1 (yV h).2
  have h1 := qkK hs r hr
  have h2 := qc9 hr
  have hf : r.1 ∈ flat (rs l) := qdX.2 ⟨r, hr, by omega, by omega⟩
  rw [qas] at h2 hf
  have h3 := qiH h _ hf
  exact ⟨h3, by omega, by omega⟩
theorem qhH {F : Nat} (hF : 2000000 ≤ F) {q : Int} {l : List Int} {least : Int} (hl : l.length ≤ 300) (h : Ris q l) : qbi F l least = some (spO least (rs l), flat (spS least (rs l))) := by
  unfold qbi qbH
  simp only [Option.bind_some]
  have hs := qdi (yV h).1 (yV h).2
  have hlong := qc8 hs
  rw [qas] at hlong
  have hf := qdj (F := F) (least := least) (by omega) (rs l) [] [] (qkL (by omega) h) (by rw [qas]; simp; omega) (by simp; omega)
  have he := ql8 (yy := rawY F least) (s := (([] : List Int), ([] : List (Int × Int)))) (by omega) (by omega : l.length + 1 < F) (qiH h)
  rw [hf] at he
  show ((jb F (rawY F least) l ([], [])).bind _) = _
  rw [he]
  simp
theorem qkz : ∀ {A B : List Int}, A.Pairwise (· < ·) → B.Pairwise (· < ·) → (∀ z, z ∈ A ↔ z ∈ B) → A = B
  | [], [], _, _, _ => rfl
  | [], s :: B, _, _, h => by have := (h s).2 (by simp); simp at this
  | r :: A, [], _, _, h => by have := (h r).1 (by simp); simp at this
  | r :: A, s :: B, hA, hB, h => by
    obtain ⟨fA, pA⟩ := List.pairwise_cons.1 hA
    obtain ⟨fB, pB⟩ := List.pairwise_cons.1 hB
    have hrs : r = s := by
      rcases List.mem_cons.1 ((h r).1 (by simp)) with h1 | h1
      · exact h1
      · rcases List.mem_cons.1 ((h s).2 (by simp)) with h2 | h2
        · exact h2.symm
        · have := fA s h2; have := fB r h1; omega
    subst hrs
    congr 1
    refine qkz pA pB fun x => ⟨fun hx => ?_, fun hx => ?_⟩
    · rcases List.mem_cons.1 ((h x).1 (by simp [hx])) with h1 | h1
      · subst h1; have := fA x hx; omega
      · exact h1
    · rcases List.mem_cons.1 ((h x).2 (by simp [hx])) with h1 | h1
      · subst h1; have := fB x hx; omega
      · exact h1
theorem qlS {F : Nat} {x y : Int} : jx F x y = some (decide (x < y)) := by
  unfold jx jg
  simp [vl]
theorem qlM {i j : Nat} (h : i + j < 1000000000) : iconv .i64 (ishr .u64 (iconv .u64 (iadd .i64 (i : Int) (j : Int))) 1) = (((i + j) / 2 : Nat) : Int) := by
  rw [vZ (by omega)]
  have e1 : iconv .u64 ((i + j : Nat) : Int) = ((i + j : Nat) : Int) := kD (by omega) (by omega)
  have e2 := qcK (k := .u64) (a := ((i + j : Nat) : Int)) (m := 1) (by decide)
  rw [show ((1 : Nat) : Int) = 1 from rfl, show (2 : Int) ^ 1 = 2 from rfl] at e2
  rw [e1, e2]
  have e3 : ((i + j : Nat) : Int) / 2 = (((i + j) / 2 : Nat) : Int) := by omega
  rw [e3]
  exact kS (by omega) (by omega)
theorem qej {F : Nat} {l : List Int} {v : Int} (hl : l.Pairwise (· < ·)) (hm : l.length ≤ 100000) : ∀ (k i j : Nat), j < k + i → i ≤ j → j ≤ l.length → (∀ z ∈ l.take i, z < v) → (∀ z ∈ l.drop j, v ≤ z) →
    ∃ p, qw F l v k ((i : Int), (j : Int)) = some (p, decide (v ∈ l))
  | 0, _, _, _, _, _, _, _ => by omega
  | k + 1, i, j, h, hij, hj, h1, h2 => by
    show ∃ p, q9 F l v (qw F l v k) (i : Int) (j : Int) = _
    unfold q9
    by_cases hlt : i < j
    · have hh : (i + j) / 2 < l.length := by omega
      rw [if_pos (by simp; omega)]
      unfold lett
      rw [qlM (by omega)]
      simp only
      rw [qQ, List.getElem?_eq_getElem hh]
      simp only [Option.bind_some]
      rw [qlS]
      simp only [Option.bind_some]
      by_cases hc : l[(i + j) / 2] < v
      · rw [decide_eq_true hc, if_pos rfl, qG (by omega)]
        refine qej hl hm k ((i + j) / 2 + 1) j (by omega) (by omega) hj (fun z hz => ?_) h2
        obtain ⟨q, hq⟩ := List.getElem?_of_mem hz
        have hq1 := (List.getElem?_eq_some_iff.1 hq).1
        rw [List.length_take] at hq1
        rw [List.getElem?_take_of_lt (by omega), List.getElem?_eq_getElem (by omega)] at hq
        simp only [Option.some.injEq] at hq
        subst hq
        by_cases e : q = (i + j) / 2
        · subst e; exact hc
        · have := List.pairwise_iff_getElem.1 hl q ((i + j) / 2) (by omega) hh (by omega)
          omega
      · rw [decide_eq_false hc, if_neg (by simp)]
        refine qej hl hm k i ((i + j) / 2) (by omega) (by omega) (by omega) h1 (fun z hz => ?_)
        obtain ⟨q, hq⟩ := List.getElem?_of_mem hz
        rw [List.getElem?_drop] at hq
        have hq1 := (List.getElem?_eq_some_iff.1 hq).1
        rw [List.getElem?_eq_getElem hq1] at hq
        simp only [Option.some.injEq] at hq
        subst hq
        by_cases e : q = 0
        · subst e; simp only [Nat.add_zero]; omega
        · have := List.pairwise_iff_getElem.1 hl ((i + j) / 2) ((i + j) / 2 + q) hh (by omega) (by omega)
          omega
    · obtain rfl : i = j := by omega
      rw [if_neg (by simp)]
      unfold zN
      by_cases hi : i < l.length
      · have hd : l.drop i = l[i] :: l.drop (i + 1) := List.drop_eq_getElem_cons hi
        have hmem : v ∈ l ↔ l[i] = v := by
          constructor
          · intro hv
            rw [← List.take_append_drop i l] at hv
            rcases List.mem_append.1 hv with hv | hv
            · have := h1 v hv; omega
            · rw [hd] at hv
              rcases List.mem_cons.1 hv with hv | hv
              · exact hv.symm
              · have hp := hl.sublist (List.drop_sublist i l)
                rw [hd] at hp
                have := (List.pairwise_cons.1 hp).1 v hv
                have := h2 l[i] (by rw [hd]; exact List.mem_cons_self ..)
                omega
          · intro hv; rw [← hv]; exact List.getElem_mem hi
        rw [if_pos (by simp; omega), qQ, List.getElem?_eq_getElem hi]
        simp only [Option.bind_some]
        by_cases he : l[i] = v
        · rw [if_pos (by simpa using he), decide_eq_true (hmem.2 he)]
          exact ⟨_, rfl⟩
        · rw [if_neg (by simpa using he), decide_eq_false (fun h => he (hmem.1 h))]
          unfold yQ
          simp only [Option.bind_some, bne_self_eq_false, Bool.false_eq_true, if_false]
          exact ⟨_, rfl⟩
      · rw [if_neg (by simp; omega)]
        have hn : v ∉ l := by
          intro hv
          rw [List.take_of_length_le (by omega)] at h1
          have := h1 v hv
          omega
        rw [decide_eq_false hn]
        exact ⟨_, rfl⟩
theorem qfc {F : Nat} (hF : 200000 ≤ F) {l : List Int} {v : Int} (hl : l.Pairwise (· < ·)) (hm : l.length ≤ 100000) : ∃ p, q5 F l v = some (p, decide (v ∈ l)) := by
  unfold q5
  exact qej hl hm F 0 l.length (by omega) (by omega) (Nat.le_refl _) (by simp) (by simp)
def tb : Bool → Int → List Bool → List Int
  | _, _, [] => []
  | c, m, b :: bs => if b != c then m :: tb b 1 bs else tb c (m + 1) bs
theorem qb1 (c : Bool) (m : Int) (bs : List Bool) : tb c m (c :: bs) = tb c (m + 1) bs := by
  show (if c != c then _ else _) = _
  rw [if_neg (by simp)]
theorem qc1 {c b : Bool} (h : b ≠ c) (m : Int) (bs : List Bool) : tb c m (b :: bs) = m :: tb b 1 bs := by
  show (if b != c then _ else _) = _
  rw [if_pos (by simpa using h)]
theorem qh2 : ∀ (c : Bool) (m : Int) (bs : List Bool), (tb c m bs).length ≤ bs.length
  | _, _, [] => Nat.le_refl _
  | c, m, b :: bs => by
    by_cases h : b = c
    · subst h
      rw [qb1]
      have := qh2 b (m + 1) bs
      rw [List.length_cons]; omega
    · rw [qc1 h, List.length_cons, List.length_cons]
      have := qh2 b 1 bs
      omega
def hasB (l : List Int) (x : Int) : Bool := decide (x ∈ l)
def tbs (fr0 l : List Int) : List Int := tb true 0 (fr0.map (hasB l))
def rst (fr0 l : List Int) : List Int := l.filter fun x => !hasB fr0 x
theorem qnp {F : Nat} {o : List Int} {c b : Bool} {m : Int} (ho : o.length ≤ 1000000) (hm : 0 ≤ m ∧ m ≤ 1000000) : yP F o c m b = some (if b != c then (o ++ [m], b, 1) else (o, c, m + 1)) := by
  unfold yP
  by_cases h : b = c
  · subst h
    rw [if_neg (by simp), if_neg (by simp)]
    unfold kT
    rw [qE (by omega) (by omega)]
  · rw [if_pos (by simpa using h), if_pos (by simpa using h), kY (by simp; omega)]
    rfl
theorem qdf {F : Nat} (hF : 200000 ≤ F) {fr0 l o : List Int} (hf : fr0.Pairwise (· < ·)) (hfm : fr0.length ≤ 300) (hm : l.length ≤ 300) : ∀ (k i : Nat) (r : List Int), l.length < k + i → i ≤ l.length → r.length ≤ i →
    kC F fr0 l o k (r, (i : Int)) = some (o, r ++ rst fr0 (l.drop i))
  | 0, _, _, _, _, _ => by omega
  | k + 1, i, r, h, hi, hr => by
    show jm F fr0 l o (kC F fr0 l o k) r (i : Int) = _
    unfold jm
    by_cases hlt : i < l.length
    · obtain ⟨p, hp⟩ := qfc hF (v := l[i]) hf (by omega)
      rw [if_pos (by simp; omega), qQ, List.getElem?_eq_getElem hlt, List.drop_eq_getElem_cons hlt]
      simp only [Option.bind_some]
      rw [hp]
      simp only [Option.bind_some]
      unfold jo rst
      rw [List.filter_cons, qG (by omega)]
      by_cases hc : l[i] ∈ fr0
      · rw [if_neg (by simp [hc]), if_neg (by simp [hasB, hc])]
        exact qdf hF hf hfm hm k (i + 1) r (by omega) (by omega) (by omega)
      · rw [if_pos (by simp [hc]), if_pos (by simp [hasB, hc]), kY (by simp; omega)]
        simp only [Option.bind_some]
        rw [qdf hF hf hfm hm k (i + 1) _ (by omega) (by omega) (by simp; omega), List.append_assoc]
        rfl
    · rw [if_neg (by simp; omega), List.drop_eq_nil_of_le (by omega)]
      simp [qaA, rst]
theorem qhF {F : Nat} (hF : 200000 ≤ F) {fr0 l : List Int} (hf : fr0.Pairwise (· < ·)) (hl : l.Pairwise (· < ·)) (hfm : fr0.length ≤ 300) (hm : l.length ≤ 300) : ∀ (k i : Nat) (o : List Int) (c : Bool) (m : Int), fr0.length < k + i → i ≤ fr0.length → o.length ≤ i → 0 ≤ m ∧ m ≤ i →
    k7 F fr0 l k ((i : Int), o, c, m) = some (o ++ tb c m ((fr0.drop i).map (hasB l)), rst fr0 l)
  | 0, _, _, _, _, _, _, _, _ => by omega
  | k + 1, i, o, c, m, h, hi, ho, hmm => by
    show jn F fr0 l (k7 F fr0 l k) (i : Int) o c m = _
    unfold jn
    by_cases hlt : i < fr0.length
    · obtain ⟨p, hp⟩ := qfc hF (v := fr0[i]) hl (by omega)
      rw [if_pos (by simp; omega), qQ, List.getElem?_eq_getElem hlt, List.drop_eq_getElem_cons hlt, List.map_cons]
      simp only [Option.bind_some]
      rw [hp]
      simp only [Option.bind_some]
      rw [qnp (by omega) (by omega)]
      simp only [Option.bind_some]
      rw [qG (by omega)]
      have hb : hasB l fr0[i] = decide (fr0[i] ∈ l) := rfl
      rw [← hb]
      by_cases hc : hasB l fr0[i] = c
      · rw [if_neg (by simp [hc])]
        simp only
        rw [qhF hF hf hl hfm hm k (i + 1) o c (m + 1) (by omega) (by omega) (by omega) (by omega), hc, qb1]
      · rw [if_pos (by simpa using hc)]
        simp only
        rw [qhF hF hf hl hfm hm k (i + 1) _ _ 1 (by omega) (by omega) (by simp; omega) (by omega), qc1 hc, List.append_assoc]
        rfl
    · rw [if_neg (by simp; omega), List.drop_eq_nil_of_le (by omega)]
      unfold qaz
      have := qdf hF (o := o) hf hfm hm F 0 [] (by omega) (by omega) (by simp)
      rw [List.drop_zero, List.nil_append] at this
      rw [show ((0 : Nat) : Int) = 0 from rfl] at this
      rw [this]
      simp [tb]
def okB : Bool → List Int → Bool
  | _, [] => true
  | f, n :: bs => decide (0 ≤ n) && (f || decide (1 ≤ n)) && okB false bs
def bsum : List Int → Int
  | [] => 0
  | n :: bs => n + bsum bs
theorem qbL (f : Bool) (n : Int) (bs : List Int) : okB f (n :: bs) = (decide (0 ≤ n) && (f || decide (1 ≤ n)) && okB false bs) := rfl
theorem qfV : ∀ {f : Bool} {bs : List Int}, okB f bs = true → (∀ n ∈ bs, 0 ≤ n) ∧ 0 ≤ bsum bs
  | _, [], _ => by simp [bsum]
  | f, n :: bs, h => by
    unfold okB at h
    simp only [Bool.and_eq_true, decide_eq_true_eq] at h
    obtain ⟨h1, h2⟩ := qfV h.2
    refine ⟨fun m hm => ?_, ?_⟩
    · rcases List.mem_cons.1 hm with rfl | hm
      · exact h.1.1
      · exact h1 m hm
    · unfold bsum; have := h.1.1; omega
def ccE (L : Int) (f : Bool) (t : Int) (bs : List Int) : Int := if okB f bs then (if L < t + bsum bs then 8 else 0) else 3
theorem qlA (L : Int) (f : Bool) (t : Int) : ccE L f t [] = if L < t then 8 else 0 := by simp [ccE, okB, bsum]
theorem qif {L : Int} {f : Bool} {t n : Int} {bs : List Int} (h : n < 0 ∨ (n < 1 ∧ f = false)) : ccE L f t (n :: bs) = 3 := by
  unfold ccE okB
  rw [if_neg]
  simp only [Bool.and_eq_true, Bool.or_eq_true, decide_eq_true_eq]
  rcases h with h | ⟨h, rfl⟩
  · omega
  · simp; omega
theorem qm2 {L : Int} {f : Bool} {t n : Int} {bs : List Int} (h : ¬ (n < 0 ∨ (n < 1 ∧ f = false))) : ccE L f t (n :: bs) = ccE L false (t + n) bs := by
  have e : okB f (n :: bs) = okB false bs := by
    rw [qbL]
    cases f
    · have h1 : 0 ≤ n := by omega
      have h2 : 1 ≤ n := by
        rcases Int.lt_or_le n 1 with h3 | h3
        · exact absurd (.inr ⟨h3, rfl⟩) h
        · exact h3
      simp [h1, h2]
    · have h1 : 0 ≤ n := by omega
      simp [h1]
  unfold ccE
  rw [e]
  have : t + bsum (n :: bs) = t + n + bsum bs := by show t + (n + bsum bs) = _; omega
  rw [this]
theorem qfH {L : Int} {f : Bool} {t t' : Int} {bs : List Int} (h : L < t) (h' : L < t') : ccE L f t bs = ccE L f t' bs := by
  unfold ccE
  by_cases ho : okB f bs = true
  · have := (qfV ho).2
    rw [if_pos ho, if_pos ho, if_pos (by omega), if_pos (by omega)]
  · rw [if_neg ho, if_neg ho]
theorem qgP {F : Nat} {bs : List Int} {L : Nat} (hL : L ≤ 300) (hb : bs.length ≤ 301) : ∀ (k i : Nat) (s : Int), bs.length < k + i → i ≤ bs.length → 0 ≤ s ∧ s ≤ L + 1 →
    zK F bs (L : Int) k (s, (i : Int)) = some (ccE L (decide (i = 0)) s (bs.drop i))
  | 0, _, _, _, _, _ => by omega
  | k + 1, i, s, h, hi, hs => by
    show vt F bs (L : Int) (zK F bs (L : Int) k) s (i : Int) = _
    unfold vt
    by_cases hlt : i < bs.length
    · rw [if_pos (by simp; omega), qQ, List.getElem?_eq_getElem hlt, List.drop_eq_getElem_cons hlt]
      simp only [Option.bind_some]
      have hrec := fun s hs => qgP (F := F) hL hb k (i + 1) s (by omega) (by omega) hs
      rw [decide_eq_false (show ¬ i + 1 = 0 by omega)] at hrec
      generalize bs[i] = n at hrec ⊢
      generalize bs.drop (i + 1) = R at hrec ⊢
      unfold vu
      by_cases h1 : n < 0
      · rw [if_pos (by simpa using h1), if_pos rfl, qif (.inl h1)]
      · rw [if_neg (by simpa using h1)]
        by_cases h2 : n < 1 ∧ 0 < i
        · rw [if_pos (by simp; omega), qif (.inr ⟨h2.1, decide_eq_false (by omega)⟩)]
        · have h3 : ¬ (n < 0 ∨ (n < 1 ∧ decide (i = 0) = false)) := by
            rintro (h | ⟨h, hd⟩)
            · exact h1 h
            · have := of_decide_eq_false hd; omega
          rw [if_neg (by simp; omega), qm2 h3]
          unfold lett
          have em : imin n (iadd .i64 (L : Int) 1) = if n ≤ L then n else (L : Int) + 1 := by
            rw [qE (by omega) (by omega)]
            unfold imin
            by_cases hn : n ≤ L
            · rw [if_pos hn, if_neg (by omega)]
            · rw [if_neg hn]
              by_cases hn2 : (L : Int) + 1 < n
              · rw [if_pos hn2]
              · rw [if_neg hn2]; omega
          rw [em, qG (by omega)]
          by_cases hn : n ≤ L
          · rw [if_pos hn, qE (a := s) (by omega) (by omega), qE (by omega) (by omega)]
            unfold imin
            by_cases hc : (L : Int) + 1 < s + n
            · rw [if_pos hc]
              simp only
              rw [hrec _ (by omega), qfH (t' := s + n) (by omega) (by omega)]
            · rw [if_neg hc]
              simp only
              rw [hrec _ (by omega)]
          · rw [if_neg hn, qE (a := s) (by omega) (by omega), qE (by omega) (by omega)]
            unfold imin
            by_cases hc : (L : Int) + 1 < s + (L + 1)
            · rw [if_pos hc]
              simp only
              rw [hrec _ (by omega), qfH (t' := s + n) (by omega) (by omega)]
            · rw [if_neg hc]
              simp only
              rw [hrec _ (by omega), qfH (t' := s + n) (by omega) (by omega)]
    · rw [if_neg (by simp; omega), List.drop_eq_nil_of_le (by omega), qlA]
      unfold jD
      by_cases h8 : (L : Int) < s
      · rw [if_pos (by simpa using h8), if_pos h8]
      · rw [if_neg (by simpa using h8), if_neg h8]
def bkE (L : Nat) (bs : List Int) : Int := if L + 1 < bs.length then 2 else ccE L true 0 bs
theorem qjd {F : Nat} (hF : 200000 ≤ F) {bs : List Int} {L : Nat} (hL : L ≤ 300) : j5 F bs (L : Int) = some (bkE L bs) := by
  unfold j5 bkE
  rw [qG (by omega)]
  by_cases h : L + 1 < bs.length
  · rw [if_pos (by simp; omega), if_pos h]
  · rw [if_neg (by simp; omega), if_neg h]
    exact qgP hL (by omega) F 0 0 (by omega) (by omega) (by omega)
theorem qmZ {L : Nat} {bs : List Int} : bkE L bs = 0 ↔ bs.length ≤ L + 1 ∧ okB true bs = true ∧ bsum bs ≤ L := by
  unfold bkE ccE
  by_cases h : L + 1 < bs.length
  · rw [if_pos h]; simp; omega
  · rw [if_neg h]
    by_cases h2 : okB true bs = true
    · rw [if_pos h2]
      by_cases h3 : (L : Int) < 0 + bsum bs
      · rw [if_pos h3]; simp; omega
      · rw [if_neg h3]; simp [h2]; omega
    · rw [if_neg h2]; simp [h2]
def cp : List Int → List Int → Bool → List Int
  | l, [], c => if c then l else []
  | l, n :: bs, c => (if c then l.take n.toNat else []) ++ cp (l.drop n.toNat) bs (!c)
theorem qgE {F : Nat} {bs : List Int} (hbm : bs.length ≤ 1000) : ∀ (k i : Nat) (l o : List Int) (c : Bool), bs.length < k + i → i ≤ bs.length → l.length ≤ 300 → o.length ≤ 300 * i → (∀ n ∈ bs.drop i, 0 ≤ n) → bsum (bs.drop i) ≤ l.length →
    zD F bs k (l, o, c, (i : Int)) = some (o ++ cp l (bs.drop i) c)
  | 0, _, _, _, _, _, _, _, _, _, _ => by omega
  | k + 1, i, l, o, c, h, hi, hl, ho, hn, hs => by
    show yN F bs (zD F bs k) l o c (i : Int) = _
    unfold yN
    by_cases hlt : i < bs.length
    · rw [List.drop_eq_getElem_cons hlt] at hn hs ⊢
      have hrec := fun l o c h1 h2 h3 => qgE (F := F) hbm k (i + 1) l o c (by omega) (by omega) h1 h2 (fun n hn' => hn n (List.mem_cons_of_mem _ hn')) h3
      have hg : idx bs (i : Int) = some bs[i] := by rw [qQ, List.getElem?_eq_getElem hlt]
      rw [if_pos (by simp; omega), hg]
      have h0 := hn bs[i] (List.mem_cons_self ..)
      have hsum : 0 ≤ bsum (bs.drop (i + 1)) := by
        have : ∀ (R : List Int), (∀ n ∈ R, 0 ≤ n) → 0 ≤ bsum R := by
          intro R
          induction R with
          | nil => intro _; simp [bsum]
          | cons x R ih => intro h; unfold bsum; have := h x (by simp); have := ih (fun n hn => h n (by simp [hn])); omega
        exact this _ fun n hn' => hn n (List.mem_cons_of_mem _ hn')
      unfold bsum at hs
      generalize bs[i] = n at hrec h0 hs ⊢
      obtain ⟨m, rfl⟩ := Int.eq_ofNat_of_zero_le h0
      have hml : m ≤ l.length := by omega
      have s1 := qiU (l := l) (i := 0) (j := m) (by omega) hml
      have s2 := qiU (l := l) (i := m) (j := l.length) hml (Nat.le_refl _)
      rw [List.take_length] at s2
      rw [show ((0 : Nat) : Int) = 0 from rfl, List.drop_zero] at s1
      simp only [Option.bind_some]
      unfold yO cp
      simp only [Int.toNat_natCast]
      cases c
      · rw [if_neg (by simp), if_neg (by simp), s2, qG (by omega)]
        simp only [Option.bind_some, List.nil_append]
        exact hrec _ _ _ (by simp; omega) (by omega) (by rw [List.length_drop]; omega)
      · rw [if_pos rfl, if_pos rfl, s1]
        simp only [Option.bind_some]
        rw [kY (by simp; omega), s2, qG (by omega)]
        simp only [Option.bind_some]
        rw [hrec _ _ _ (by simp; omega) (by simp; omega) (by rw [List.length_drop]; omega), List.append_assoc]
    · rw [if_neg (by simp; omega), List.drop_eq_nil_of_le (by omega)]
      unfold jE vv cp
      cases c
      · simp
      · rw [if_pos rfl, kY (by omega)]; simp
def cpE (l bs : List Int) : Int := if gkc l ≠ 0 then gkc l else bkE l.length bs
def cpy (l bs : List Int) : List Int × Int := if cpE l bs ≠ 0 then ([], cpE l bs) else (cp l bs true, 0)
theorem qjR {l bs : List Int} : cpE l bs = 0 ↔ (l.length ≤ 300 ∧ Ris (-1) l) ∧ bs.length ≤ l.length + 1 ∧ okB true bs = true ∧ bsum bs ≤ l.length := by
  unfold cpE
  rw [← ky, ← qmZ]
  by_cases h : gkc l = 0
  · rw [if_neg (by simp [h])]; simp [h]
  · rw [if_pos h]; simp [h]
theorem qjT {l bs : List Int} (h : cpE l bs = 0) : cpy l bs = (cp l bs true, 0) := by unfold cpy; rw [if_neg (by simp [h])]
theorem qlD {l bs : List Int} (h : cpE l bs ≠ 0) : cpy l bs = ([], cpE l bs) := by unfold cpy; rw [if_pos h]
theorem qlJ {l : List Int} (h : gkc l = 0) : l.length ≤ 300 := (ky.1 h).1
theorem qlB {F : Nat} (hF : 200000 ≤ F) {l bs : List Int} : qal F l bs = some (cpy l bs) := by
  unfold qal
  rw [qa7 (by omega)]
  simp only [Option.bind_some]
  have hj : yZ F l bs (cpE l bs) = some (cpy l bs) := by
    unfold yZ
    by_cases h : cpE l bs = 0
    · obtain ⟨⟨h1, h2⟩, h3, h4, h5⟩ := qjR.1 h
      have := qgE (F := F) (bs := bs) (by omega) F 0 l [] true (by omega) (by omega) h1 (by simp) (by rw [List.drop_zero]; exact (qfV h4).1) (by rw [List.drop_zero]; exact h5)
      rw [List.drop_zero, List.nil_append, show ((0 : Nat) : Int) = 0 from rfl] at this
      rw [if_neg (by simp [h]), qjT h]
      unfold qaB
      rw [this]; rfl
    · rw [if_pos (by simpa using h), qlD h]
  by_cases h : gkc l = 0
  · have e : cpE l bs = bkE l.length bs := by unfold cpE; rw [if_neg (by simp [h])]
    rw [if_pos (by simpa using h), qjd hF (qlJ h)]
    simp only [Option.bind_some]
    rw [← e]; exact hj
  · have e : cpE l bs = gkc l := by unfold cpE; rw [if_pos h]
    rw [if_neg (by simpa using h)]
    rw [e] at hj; exact hj
theorem qiQ : ∀ {e : Int} {R : List (Int × Int)}, Sep e R → ∀ r ∈ R, e < r.1
  | _, [], _ => by simp
  | e, r :: R, h => by
    intro r' hr
    rcases List.mem_cons.1 hr with rfl | hr
    · exact h.1
    · have := qiQ h.2.2 r' hr; have := h.1; have := h.2.1; omega
def Mx (l : List Int) (r : Int × Int) : Prop := 1 ≤ r.2 ∧ r.1 - 1 ∉ l ∧ r.1 + r.2 ∉ l ∧ ∀ z, r.1 ≤ z → z < r.1 + r.2 → z ∈ l
theorem qkO : ∀ {e : Int} {R : List (Int × Int)}, Sep e R → ∀ r ∈ R, Mx (flat R) r
  | _, [], _ => by simp
  | e, r :: R, h => by
    intro r' hr
    have h1 := h.2.1
    have hlt := qhJ h.2.2
    rcases List.mem_cons.1 hr with rfl | hr
    · refine ⟨h1, fun hm => ?_, fun hm => ?_, fun z h2 h3 => ?_⟩
      · rw [zE] at hm
        rcases List.mem_append.1 hm with hm | hm
        · have := jH.1 hm; omega
        · have := hlt _ hm; omega
      · rw [zE] at hm
        rcases List.mem_append.1 hm with hm | hm
        · have := jH.1 hm; omega
        · have := hlt _ hm; omega
      · rw [zE]
        exact List.mem_append.2 (.inl (jH.2 (by omega)))
    · obtain ⟨i1, i2, i3, i4⟩ := qkO h.2.2 r' hr
      have hf := qiQ h.2.2 r' hr
      refine ⟨i1, fun hm => ?_, fun hm => ?_, fun z h2 h3 => ?_⟩
      · rw [zE] at hm
        rcases List.mem_append.1 hm with hm | hm
        · have := jH.1 hm; omega
        · exact i2 hm
      · rw [zE] at hm
        rcases List.mem_append.1 hm with hm | hm
        · have := jH.1 hm; omega
        · exact i3 hm
      · rw [zE]
        exact List.mem_append.2 (.inr (i4 z h2 h3))
theorem qfp {F : Nat} {x a b : Int} : jc F x a b = some (decide (a ≤ x ∧ x ≤ b)) := by
  unfold jc
  congr 1
  by_cases h : a ≤ x <;> by_cases h2 : x ≤ b <;> simp [h, h2]
def RunOk (r : Int × Int) : Prop := (0 ≤ r.1 ∧ r.1 ≤ 1048576) ∧ (1 ≤ r.2 ∧ r.2 ≤ 300) ∧ r.1 + r.2 - 1 ≤ 1048576
instance runOkDec (r : Int × Int) : Decidable (RunOk r) := inferInstanceAs (Decidable (_ ∧ _ ∧ _))
def sk : Int → List (Int × Int) → Int
  | _, [] => 0
  | e, r :: R => if RunOk r then (if r.1 < e + 2 then 4 else sk (r.1 + r.2 - 1) R) else 3
theorem qkS : ∀ {e : Int} {R : List (Int × Int)}, sk e R = 0 ↔ (∀ r ∈ R, RunOk r) ∧ Sep (e + 1) R
  | _, [] => by simp [sk, Sep]
  | e, r :: R => by
    unfold sk Sep
    by_cases h : RunOk r
    · rw [if_pos h]
      by_cases h2 : r.1 < e + 2
      · rw [if_pos h2]; simp; omega
      · rw [if_neg h2, qkS]
        rw [show r.1 + r.2 - 1 + 1 = r.1 + r.2 from by omega]
        have h3 : 1 ≤ r.2 := h.2.1.1
        constructor
        · rintro ⟨h4, h5⟩
          exact ⟨fun r' hr => by rcases List.mem_cons.1 hr with rfl | hr; exact h; exact h4 r' hr, by omega, h3, h5⟩
        · rintro ⟨h4, _, _, h5⟩
          exact ⟨fun r' hr => h4 r' (by simp [hr]), h5⟩
    · rw [if_neg h]
      constructor
      · intro h3; simp at h3
      · rintro ⟨h4, _⟩; exact absurd (h4 r (by simp)) h
theorem qda : ∀ {R : List (Int × Int)}, (∀ r ∈ R, RunOk r) → (flat R).length ≤ 300 * R.length
  | [], _ => by simp [flat]
  | r :: R, h => by
    have h1 := qda (R := R) fun r hr => h r (by simp [hr])
    have h2 := h r (by simp)
    unfold RunOk at h2
    rw [zE, List.length_append, qar, List.length_cons]
    omega
theorem qfd {F : Nat} {rec32 : (List Int × Int) → Option (List Int × Int)} {i : Int} {r : Int × Int} {acc : List Int} (hr : RunOk r) (ha : acc.length ≤ 1000000) : ∀ (k j : Nat), r.2.toNat < k + j → j ≤ r.2.toNat →
    ku F rec32 i r k (acc ++ rng r.1 j, (j : Int)) = vE F rec32 i (acc ++ rng r.1 r.2.toNat)
  | 0, _, _, _ => by omega
  | k + 1, j, h, hj => by
    unfold RunOk at hr
    show vB F rec32 i r (ku F rec32 i r k) (acc ++ rng r.1 j) (j : Int) = _
    unfold vB
    by_cases hlt : j < r.2.toNat
    · rw [if_pos (by simp; omega), qE (by omega) (by omega), kY (by simp [qar]; omega), qG (by omega)]
      simp only [Option.bind_some]
      rw [List.append_assoc, ← qee]
      exact qfd hr ha k (j + 1) (by omega) (by omega)
    · rw [if_neg (by simp; omega)]
      obtain rfl : j = r.2.toNat := by omega
      rfl
theorem qi8 {R : List (Int × Int)} {i : Nat} (h : i < R.length) : flat (R.take (i + 1)) = flat (R.take i) ++ rng R[i].1 R[i].2.toNat := by
  rw [List.take_add_one, List.getElem?_eq_getElem h, qdW]
  simp [flat]
theorem qel {F : Nat} (hF : 1000 < F) {R : List (Int × Int)} (hR : ∀ r ∈ R, RunOk r) (hl : R.length ≤ 300) : ∀ (k i : Nat), R.length < k + i → i ≤ R.length →
    qO F R k (flat (R.take i), (i : Int)) = some (flat R, 0)
  | 0, _, _, _ => by omega
  | k + 1, i, h, hi => by
    show vA F R (qO F R k) (flat (R.take i)) (i : Int) = _
    unfold vA
    by_cases hlt : i < R.length
    · have hok := hR _ (List.getElem_mem hlt)
      have hsz := qda (R := R.take i) fun r hr => hR r (List.mem_of_mem_take hr)
      rw [List.length_take] at hsz
      have hsp := qfd (F := F) (rec32 := qO F R k) (i := (i : Int)) (acc := flat (R.take i)) hok (by omega) F 0 (by unfold RunOk at hok; omega) (by omega)
      rw [rng, List.append_nil, show ((0 : Nat) : Int) = 0 from rfl] at hsp
      rw [if_pos (by simp; omega), qQ, List.getElem?_eq_getElem hlt]
      simp only [Option.bind_some]
      rw [hsp, ← qi8 hlt]
      unfold vE
      rw [qG (by omega)]
      exact qel hF hR hl k (i + 1) (by omega) (by omega)
    · rw [if_neg (by simp; omega)]
      obtain rfl : i = R.length := by omega
      rw [List.take_length]; rfl
theorem qd2 {a b : Int} (h1 : -1000000000 ≤ a ∧ a ≤ 1000000000) (h2 : -1000000000 ≤ b ∧ b ≤ 1000000000) : isub .i64 (iadd .i64 a b) 1 = a + b - 1 := by
  rw [qE (by omega) (by omega), q6 (by omega) (by omega)]
theorem qek {F : Nat} {R : List (Int × Int)} (hl : R.length ≤ 300) : ∀ (k i : Nat) (e : Int), R.length < k + i → i ≤ R.length → -2 ≤ e ∧ e ≤ 1048576 →
    zM F R k (e, (i : Int)) = if sk e (R.drop i) ≠ 0 then some ([], sk e (R.drop i)) else vD F R
  | 0, _, _, _, _, _ => by omega
  | k + 1, i, e, h, hi, he => by
    show vC F R (zM F R k) e (i : Int) = _
    unfold vC
    by_cases hlt : i < R.length
    · rw [if_pos (by simp; omega), qQ, List.getElem?_eq_getElem hlt, List.drop_eq_getElem_cons hlt, sk]
      generalize R[i] = r
      simp only [Option.bind_some]
      rw [qfp, qfp]
      simp only [Option.bind_some]
      by_cases h1 : 0 ≤ r.1 ∧ r.1 ≤ 1048576
      · rw [decide_eq_true h1, if_neg (by simp)]
        by_cases h2 : 1 ≤ r.2 ∧ r.2 ≤ 300
        · rw [decide_eq_true h2, if_neg (by simp), qd2 (by omega) (by omega)]
          unfold yj
          by_cases h3 : r.1 + r.2 - 1 ≤ 1048576
          · have hok : RunOk r := ⟨h1, h2, h3⟩
            rw [if_neg (by simp; omega), if_pos hok, qE (by omega) (by omega)]
            by_cases h4 : r.1 < e + 2
            · rw [if_pos (by simpa using h4), if_pos h4, if_pos (by decide)]
            · rw [if_neg (by simpa using h4), if_neg h4, qd2 (by omega) (by omega), qG (by omega)]
              exact qek hl k (i + 1) _ (by omega) (by omega) (by omega)
          · have hok : ¬ RunOk r := fun h => h3 h.2.2
            rw [if_pos (by simp; omega), if_neg hok, if_pos (by decide)]
        · have hok : ¬ RunOk r := fun h => h2 h.2.1
          rw [decide_eq_false h2, if_pos (by simp), if_neg hok, if_pos (by decide)]
          rfl
      · have hok : ¬ RunOk r := fun h => h1 h.1
        rw [decide_eq_false h1, if_pos (by simp), if_neg hok, if_pos (by decide)]
        rfl
    · rw [if_neg (by simp; omega), List.drop_eq_nil_of_le (by omega), sk, if_neg (by simp)]
def skc (R : List (Int × Int)) : Int := if 300 < R.length then 2 else sk (-2) R
def spd (R : List (Int × Int)) : List Int × Int := if skc R ≠ 0 then ([], skc R) else (flat R, 0)
theorem qhL {R : List (Int × Int)} : skc R = 0 ↔ R.length ≤ 300 ∧ (∀ r ∈ R, RunOk r) ∧ Sep (-1) R := by
  unfold skc
  by_cases h : 300 < R.length
  · rw [if_pos h]; simp; omega
  · rw [if_neg h, qkS]
    simp
    omega
theorem qjm {F : Nat} (hF : 20000 ≤ F) {R : List (Int × Int)} : j7 F R = some (spd R) := by
  unfold j7 spd
  by_cases h : 300 < R.length
  · have e : skc R = 2 := by unfold skc; rw [if_pos h]
    rw [if_pos (by simp; omega), e, if_pos (by decide)]
  · have e : skc R = sk (-2) R := by unfold skc; rw [if_neg h]
    have hc := qek (F := F) (R := R) (by omega) F 0 (-2) (by omega) (by omega) (by omega)
    rw [List.drop_zero] at hc
    rw [if_neg (by simp; omega), e]
    refine hc.trans ?_
    by_cases h2 : sk (-2) R = 0
    · rw [if_neg (by simp [h2]), if_neg (by simp [h2])]
      unfold vD
      have hok := qhL.1 (e.trans h2)
      exact qel (by omega) hok.2.1 hok.1 F 0 (by omega) (by omega)
    · rw [if_pos h2, if_pos h2]
def rm (R : List (Int × Int)) (rest : List Int) : List Int × Int := if skc R ≠ 0 then ([], skc R) else if gkc rest ≠ 0 then ([], gkc rest) else mrg (flat R) rest
theorem qnT {R : List (Int × Int)} {rest : List Int} (h : skc R ≠ 0) : rm R rest = ([], skc R) := by unfold rm; rw [if_pos h]
theorem qnU {R : List (Int × Int)} {rest : List Int} (h : skc R = 0) (h2 : gkc rest ≠ 0) : rm R rest = ([], gkc rest) := by unfold rm; rw [if_neg (by simp [h]), if_pos h2]
theorem qnL {R : List (Int × Int)} {rest : List Int} (h : skc R = 0) (h2 : gkc rest = 0) : rm R rest = mrg (flat R) rest := by unfold rm; rw [if_neg (by simp [h]), if_neg (by simp [h2])]
theorem qnq {R : List (Int × Int)} (h : skc R = 0) : spd R = (flat R, 0) := by unfold spd; rw [if_neg (by simp [h])]
theorem qmb {R : List (Int × Int)} (h : skc R ≠ 0) : spd R = ([], skc R) := by unfold spd; rw [if_pos h]
theorem qki {F : Nat} (hF : 20000 ≤ F) {R : List (Int × Int)} {rest : List Int} : qam F R rest = some (rm R rest) := by
  unfold qam
  rw [qjm hF, qa7 hF]
  simp only [Option.bind_some]
  by_cases h : skc R = 0
  · rw [qnq h, if_pos (by simp)]
    unfold y8
    by_cases h2 : gkc rest = 0
    · rw [qnL h h2, if_neg (by simp [h2])]
      obtain ⟨k1, k2, k3⟩ := qhL.1 h
      have k4 := ky.1 h2
      have k5 := qda k2
      exact qja hF (qhK k3) (yV k4.2).1 (by show (flat R).length + rest.length ≤ _; omega)
    · rw [qnU h h2, if_pos (by simpa using h2)]
  · rw [qmb h, qnT h, if_neg (by simpa using h)]
    unfold y8
    rw [if_pos (by simpa using h)]
theorem qjh {R : List (Int × Int)} {rest w : List Int} (h1 : skc R = 0) (h2 : gkc rest = 0) (h3 : cmn (flat R) rest = false) (h4 : (flat R ++ rest).Perm w) (h5 : w.Pairwise (· ≤ ·)) (h6 : w.length ≤ 300) : rm R rest = (w, 0) := by
  have hl := h4.length_eq
  rw [List.length_append] at hl
  rw [qnL h1 h2]
  unfold mrg
  rw [h3, if_neg (by simp), if_neg (by omega), qf3 h4 h5]
theorem qlT {l r : List Int} : (mrg l r).1.length ≤ 300 := by
  unfold mrg
  split
  · simp
  · split
    · simp
    · simp; omega
theorem qnm {R : List (Int × Int)} {rest : List Int} : (rm R rest).1.length ≤ 300 := by
  unfold rm
  split
  · simp
  · split
    · simp
    · exact qlT
theorem qdV {R : List (Int × Int)} (p : Int × Int → Bool) : (R.filter p).length ≤ R.length := List.length_filter_le _ _
theorem qje {A B : List (Int × Int)} (h : A.Perm B) : (flat A).Perm (flat B) := h.flatMap_right _
theorem qco (least : Int) : ∀ (R : List (Int × Int)), (spO least R ++ spS least R).Perm R
  | [] => List.Perm.refl _
  | r :: R => by
    by_cases h : least ≤ r.2
    · rw [qmS h, qmT h]; exact (qco least R).cons r
    · rw [qmR h, qmU h]; exact List.perm_middle.trans ((qco least R).cons r)
theorem qg4 (least : Int) (l : List Int) : (flat (spO least (rs l)) ++ flat (spS least (rs l))).Perm l := by
  rw [← qdW]
  have := qje (qco least (rs l))
  rwa [qas] at this
theorem qmc {q : Int} {least : Int} {l : List Int} (hl : l.length ≤ 300) (h : Ris q l) : (spO least (rs l)).length ≤ 300 ∧ (flat (spS least (rs l))).length ≤ 300 := by
  have h1 := qc8 (qdi (yV h).1 (yV h).2)
  rw [qas] at h1
  have h2 := (qg4 least l).length_eq
  rw [List.length_append] at h2
  have h3 : (spO least (rs l)).length ≤ (rs l).length := qdV _
  omega
theorem qkJ {l : List Int} (hl : l.length ≤ 300) (h : Ris (-1) l) : Sep (-1) (rs l) ∧ ∀ r ∈ rs l, RunOk r := by
  have hs := qdi (yV h).1 (yV h).2
  refine ⟨hs, fun r hr => ?_⟩
  have hm := qkO hs r hr
  have h2 := qc9 hr
  rw [qas] at hm h2
  have h1 := hm.1
  have a1 := qdh h _ (hm.2.2.2 r.1 (by omega) (by omega))
  have a2 := qdh h _ (hm.2.2.2 (r.1 + r.2 - 1) (by omega) (by omega))
  unfold Nd at a1 a2
  exact ⟨by omega, by omega, by omega⟩
theorem qmh {l : List Int} (hl : l.length ≤ 300) (h : Ris (-1) l) (p : Int × Int → Bool) : skc ((rs l).filter p) = 0 := by
  obtain ⟨h1, h2⟩ := qkJ hl h
  have h3 := qc8 h1
  rw [qas] at h3
  exact qhL.2 ⟨Nat.le_trans (qdV p) (by omega), fun r hr => h2 r (List.mem_filter.1 hr).1, qaF p h1⟩
theorem qjZ {R : List (Int × Int)} (p : Int × Int → Bool) : ∀ z ∈ flat (R.filter p), z ∈ flat R := by
  intro z hz
  obtain ⟨r, h1, h2⟩ := qdX.1 hz
  exact qdX.2 ⟨r, (List.mem_filter.1 h1).1, h2⟩
theorem qf4 {l : List Int} (h : Ris (-1) l) (p : Int × Int → Bool) : Ris (-1) (flat ((rs l).filter p)) := by
  have hs := qdi (yV h).1 (yV h).2
  have hsub : ∀ z ∈ flat ((rs l).filter p), z ∈ l := fun z hz => by have := qjZ p z hz; rwa [qas] at this
  exact qf0 (qhK (qaF p hs)) (fun z hz => (yV h).2 z (hsub z hz)) (fun z hz => qdh h z (hsub z hz))
theorem qjS (f : Int → Bool) : ∀ (l pre : List Int) (c : Bool), cp (pre ++ l) (tb c pre.length (l.map f)) c = (if c then pre else []) ++ l.filter f
  | [], pre, c => by
    show cp (pre ++ []) [] c = _
    unfold cp
    simp
  | x :: l, pre, c => by
    rw [List.map_cons, List.filter_cons]
    by_cases h : f x = c
    · have ih := qjS f l (pre ++ [x]) c
      rw [List.append_assoc, List.length_append, show ((pre.length + [x].length : Nat) : Int) = (pre.length : Int) + 1 from by simp] at ih
      rw [h, qb1]
      refine ih.trans ?_
      cases c
      · simp
      · simp
    · have ih := qjS f l [x] (f x)
      rw [qc1 h]
      unfold cp
      have hc : (!c) = f x := by cases c <;> cases hx : f x <;> simp_all
      rw [hc, show ((1 : Int)) = (([x] : List Int).length : Int) from rfl, Int.toNat_natCast, List.take_left, List.drop_left]
      have ih' : cp (x :: l) (tb (f x) (([x] : List Int).length : Int) (l.map f)) (f x) = (if f x then [x] else []) ++ l.filter f := ih
      rw [ih']
      cases f x <;> simp
theorem qm4 (l m : List Int) : cp l (tbs l m) true = l.filter (hasB m) := by
  have := qjS (hasB m) l [] true
  simpa [tbs] using this
theorem qd6 : ∀ (bs : List Bool) (f c : Bool) (m : Int), 0 ≤ m → (f = true ∨ 1 ≤ m) → okB f (tb c m bs) = true
  | [], _, _, _, _, _ => rfl
  | b :: bs, f, c, m, h, hf => by
    by_cases hb : b = c
    · subst hb
      rw [qb1]
      exact qd6 bs f b (m + 1) (by omega) (.inr (by omega))
    · rw [qc1 hb, qbL, qd6 bs false b 1 (by omega) (.inr (by omega))]
      rcases hf with hf | hf
      · simp [h, hf]
      · simp [h, hf]
theorem qcB : ∀ (bs : List Bool) (c : Bool) (m : Int), 0 ≤ m → bsum (tb c m bs) ≤ m + bs.length
  | [], _, _, h => by show (0 : Int) ≤ _; simp; omega
  | b :: bs, c, m, h => by
    by_cases hb : b = c
    · subst hb
      rw [qb1]
      have := qcB bs b (m + 1) (by omega)
      rw [List.length_cons]; omega
    · rw [qc1 hb]
      have := qcB bs b 1 (by omega)
      show m + bsum _ ≤ _
      rw [List.length_cons]; omega
theorem qgd (l m : List Int) : (tbs l m).length ≤ l.length := by
  have := qh2 true 0 (l.map (hasB m))
  rwa [List.length_map] at this
theorem qlC {l m : List Int} (h : gkc l = 0) : cpE l (tbs l m) = 0 := by
  refine qjR.2 ⟨ky.1 h, ?_, qd6 _ _ _ _ (by omega) (.inl rfl), ?_⟩
  · have := qgd l m; omega
  · have := qcB (l.map (hasB m)) true 0 (by omega)
    rw [List.length_map] at this
    unfold tbs; omega
theorem qlE {l m : List Int} (h : gkc l = 0) : cpy l (tbs l m) = (l.filter (hasB m), 0) := by
  rw [qjT (qlC h), qm4]
theorem qmg {l m : List Int} (h : gkc l = 0) (hs : m.Sublist l) : gkc m = 0 := by
  obtain ⟨h1, h2⟩ := ky.1 h
  have := hs.length_le
  exact ky.2 ⟨by omega, qf0 ((yV h2).1.sublist hs) (fun z hz => (yV h2).2 z (hs.subset hz)) (fun z hz => qdh h2 z (hs.subset hz))⟩
theorem qdZ {l : List Int} (h : gkc l = 0) : l.Pairwise (· < ·) := (yV (ky.1 h).2).1
theorem qgK {l : List Int} {x : Int} : hasB l x = true ↔ x ∈ l := by unfold hasB; simp
theorem qkp {a b : List Int} (ha : gkc a = 0) (hb : gkc b = 0) : a.filter (hasB b) = b.filter (hasB a) := by
  refine qkz ((qdZ ha).sublist (List.filter_sublist ..)) ((qdZ hb).sublist (List.filter_sublist ..)) fun z => ?_
  rw [List.mem_filter, List.mem_filter, qgK, qgK]
  exact And.comm
theorem qi7 (p : Int → Bool) (l : List Int) : (l.filter p ++ l.filter fun x => !p x).Perm l := by
  induction l with
  | nil => exact List.Perm.refl _
  | cons x l ih =>
    rw [List.filter_cons, List.filter_cons]
    cases p x
    · simp only [Bool.false_eq_true, if_false, Bool.not_false, if_true]
      exact List.perm_middle.trans (ih.cons x)
    · simp only [if_true, Bool.not_true, Bool.false_eq_true, if_false]
      exact ih.cons x
theorem qlo (c : Bool) (R : List Bool) : ∀ (k : Nat) (m : Int), tb c m (List.replicate k c ++ R) = tb c (m + k) R
  | 0, m => by simp
  | k + 1, m => by
    rw [List.replicate_succ, List.cons_append, qb1, qlo c R k (m + 1)]
    congr 1
    omega
theorem qlp (l : List Int) : tbs l l = [] := by
  unfold tbs
  have e : l.map (hasB l) = List.replicate l.length true := by
    rw [List.eq_replicate_iff]
    refine ⟨by simp, fun b hb => ?_⟩
    obtain ⟨x, hx, rfl⟩ := List.mem_map.1 hb
    simp [hasB, hx]
  rw [e]
  have := qlo true [] l.length 0
  rw [List.append_nil] at this
  rw [this]; rfl
structure Rep (l : List Int) (f : Bool) (S : List Int) : Prop where
  bit : Bit l
  len : l.length ≤ 8192
  ok : f = false → l = S
  full : f = true → 8192 < S.length
def Wr (m : Option (Int × List Int × Bool)) (S : List Int) : Prop := ∃ l f, m = some ((l.length : Int), pk l, f) ∧ Rep l f S
theorem ql2 : Rep [] false [] := ⟨by intro x hx; simp at hx, by simp, fun _ => rfl, by simp⟩
theorem qkE {l S : List Int} {f : Bool} (h : Rep l f S) {k : List Int} (hk : 8192 < (S ++ k).length) : Rep l true (S ++ k) := ⟨h.bit, h.len, by simp, fun _ => hk⟩
theorem qgg {F : Nat} (hF : 20000 ≤ F) {l k S : List Int} {f : Bool} (h : Rep l f S) (hk : Bit k) (hkm : k.length ≤ 8192) : Wr (kw F (l.length : Int) (pk l) f (k.length : Int) (pk k)) (S ++ k) := by
  have hl := h.len
  unfold kw
  cases f with
  | true =>
    have := h.full rfl
    refine ⟨l, true, by simp [ko], h.bit, h.len, by simp, fun _ => by simp; omega⟩
  | false =>
    obtain rfl := h.ok rfl
    rw [if_neg (by simp), vZ (by omega)]
    unfold ko
    by_cases hb : 8192 < l.length + k.length
    · rw [if_neg (by simp; omega)]
      refine ⟨l, true, by simp; omega, h.bit, h.len, by simp, fun _ => by simp; omega⟩
    · rw [if_pos (by simp; omega), qic hF h.bit hk h.len hkm]
      refine ⟨l ++ k, false, by simp; omega, ym h.bit hk, by simp; omega, fun _ => rfl, by simp⟩
theorem jT {F : Nat} (hF : 20000 ≤ F) {l S : List Int} {f : Bool} (h : Rep l f S) {n : Int} (h0 : 0 ≤ n) (hn : n ≤ 1099511627776) : Wr (qD F (l.length : Int) (pk l) f n) (S ++ ga n.toNat) := by
  obtain ⟨m, rfl⟩ := Int.eq_ofNat_of_zero_le h0
  unfold qD
  rw [kJ (by omega), qds hF (by omega)]
  simp only [Option.bind_some, Int.toNat_natCast]
  obtain ⟨l', f', e, h'⟩ := qgg hF h (qbk m) (by have := qil (n := m) (by omega); omega)
  rw [e]
  exact ⟨l', f', rfl, h'⟩
theorem qdn {m : Option (Int × List Int × Bool)} {S T : List Int} (h : Wr m S) (e : S = T) : Wr m T := e ▸ h
def encBs : Bool → List Int → List Int
  | _, [] => []
  | b, n :: bs => ga (n - if b then 1 else 0).toNat ++ encBs true bs
def encB (bs : List Int) : List Int := ga bs.length ++ encBs false bs
theorem qka (i : Nat) : imin (i : Int) 1 = if 0 < i then 1 else 0 := by
  unfold imin
  by_cases h : 0 < i
  · rw [if_pos h]
    by_cases h2 : i = 1
    · subst h2; simp
    · rw [if_pos (by omega)]
  · rw [if_neg h, if_neg (by omega)]; omega
theorem qfo {F : Nat} (hF : 20000 ≤ F) {bs : List Int} (hm : bs.length ≤ 1000) : ∀ (k i : Nat) (l : List Int) (f : Bool) (S : List Int), bs.length < k + i → i ≤ bs.length → Rep l f S → okB (!decide (0 < i)) (bs.drop i) = true → (∀ n ∈ bs, n ≤ 1000000) →
    Wr (zl F bs k ((i : Int), (l.length : Int), pk l, f)) (S ++ encBs (decide (0 < i)) (bs.drop i))
  | 0, _, _, _, _, _, _, _, _, _ => by omega
  | k + 1, i, l, f, S, h, hi, hr, hok, hb => by
    show Wr (kx F bs (zl F bs k) (i : Int) (l.length : Int) (pk l) f) _
    unfold kx
    by_cases hlt : i < bs.length
    · rw [List.drop_eq_getElem_cons hlt, qbL] at hok
      simp only [Bool.and_eq_true, Bool.or_eq_true, decide_eq_true_eq, Bool.not_eq_true', decide_eq_false_iff_not] at hok
      have hn := hb bs[i] (List.getElem_mem hlt)
      rw [if_pos (by simp; omega), qQ, List.getElem?_eq_getElem hlt, List.drop_eq_getElem_cons hlt, qka]
      simp only [Option.bind_some]
      have e1 : isub .i64 bs[i] (if 0 < i then 1 else 0) = bs[i] - (if decide (0 < i) = true then 1 else 0) := by
        by_cases h0 : 0 < i
        · rw [if_pos h0, if_pos (by simpa using h0), q6 (by omega) (by omega)]
        · rw [if_neg h0, if_neg (by simpa using h0), q6 (by omega) (by omega)]
      rw [e1]
      obtain ⟨l', f', e, h'⟩ := jT hF hr (n := bs[i] - (if decide (0 < i) = true then 1 else 0)) (by split <;> rename_i h0 <;> simp at h0 <;> omega) (by split <;> omega)
      rw [e]
      simp only [Option.bind_some]
      rw [qG (by omega)]
      refine qdn (qfo hF hm k (i + 1) l' f' _ (by omega) (by omega) h' (by simpa using hok.2) hb) ?_
      rw [List.append_assoc]
      simp [encBs]
    · rw [if_neg (by simp; omega), List.drop_eq_nil_of_le (by omega)]
      exact ⟨l, f, rfl, by simpa [encBs] using hr⟩
theorem qh4 {F : Nat} (hF : 20000 ≤ F) {bs l S : List Int} {f : Bool} (hm : bs.length ≤ 1000) (hr : Rep l f S) (hok : okB true bs = true) (hb : ∀ n ∈ bs, n ≤ 1000000) : Wr (yl F (l.length : Int) (pk l) f bs) (S ++ encB bs) := by
  unfold yl
  obtain ⟨l', f', e, h'⟩ := jT hF hr (n := (bs.length : Int)) (by omega) (by omega)
  rw [e]
  simp only [Option.bind_some]
  refine qdn (qfo hF hm F 0 l' f' _ (by omega) (by omega) h' (by simpa using hok) hb) ?_
  simp [encB]
def encRs (least : Int) : Bool → Int → List (Int × Int) → List Int
  | _, _, [] => []
  | b, a, r :: R => ga (if b then r.1 - a - 2 else foldOf (r.1 - a)).toNat ++ (ga (r.2 - least).toNat ++ encRs least true (r.1 + r.2 - 1) R)
def encR (least node : Int) (R : List (Int × Int)) : List Int := ga R.length ++ encRs least false node R
theorem qdY {x : Int} (h : -2000000 ≤ x ∧ x ≤ 2000000) : 0 ≤ foldOf x ∧ foldOf x ≤ 4000001 := by unfold foldOf; split <;> omega
theorem qiX {F : Nat} (hF : 20000 ≤ F) {R : List (Int × Int)} {least : Int} (hm : R.length ≤ 300) (hR : ∀ r ∈ R, RunOk r ∧ least ≤ r.2) (hle : 0 ≤ least) : ∀ (k i : Nat) (a : Int) (l : List Int) (f : Bool) (S : List Int), R.length < k + i → i ≤ R.length → Rep l f S → Nd a → (∃ q, Sep q (R.drop i) ∧ (0 < i → a + 1 ≤ q)) →
    Wr (qZ F least R k (a, (i : Int), (l.length : Int), pk l, f)) (S ++ encRs least (decide (0 < i)) a (R.drop i))
  | 0, _, _, _, _, _, _, _, _, _, _ => by omega
  | k + 1, i, a, l, f, S, h, hi, hr, ha, hs => by
    show Wr (kX F least R (qZ F least R k) a (i : Int) (l.length : Int) (pk l) f) _
    unfold kX
    by_cases hlt : i < R.length
    · obtain ⟨hro, hrl⟩ := hR R[i] (List.getElem_mem hlt)
      unfold RunOk at hro
      unfold Nd at ha
      rw [if_pos (by simp; omega), qQ, List.getElem?_eq_getElem hlt, List.drop_eq_getElem_cons hlt]
      simp only [Option.bind_some]
      have hj : ∀ {l' : List Int} {f' : Bool} {S' : List Int}, Rep l' f' S' → S' = S ++ ga (if decide (0 < i) = true then R[i].1 - a - 2 else foldOf (R[i].1 - a)).toNat → Sep (R[i].1 + R[i].2) (R.drop (i + 1)) →
          Wr (ke F (qZ F least R k) least (i : Int) R[i] (l'.length : Int) (pk l') f') (S ++ encRs least (decide (0 < i)) a (R[i] :: R.drop (i + 1))) := by
        intro l' f' S' hr' hS hsep
        unfold ke
        rw [q6 (by omega) (by omega)]
        obtain ⟨l2, f2, e, h2⟩ := jT hF hr' (n := R[i].2 - least) (by omega) (by omega)
        rw [e]
        simp only [Option.bind_some]
        rw [qd2 (by omega) (by omega), qG (by omega)]
        refine qdn (qiX hF hm hR hle k (i + 1) (R[i].1 + R[i].2 - 1) l2 f2 _ (by omega) (by omega) h2 (by unfold Nd; omega) ⟨_, hsep, fun _ => by omega⟩) ?_
        rw [hS]; simp [encRs, List.append_assoc]
      obtain ⟨q, hsp, hq⟩ := hs
      rw [List.drop_eq_getElem_cons hlt] at hsp
      obtain ⟨h1, h2, h3⟩ := hsp
      by_cases h0 : 0 < i
      · have hq' := hq h0
        have e3 : isub .i64 R[i].1 a = R[i].1 - a := q6 (by omega) (by omega)
        rw [if_neg (by simp; omega), e3, q6 (by omega) (by omega)]
        obtain ⟨l', f', e, h'⟩ := jT hF hr (n := R[i].1 - a - 2) (by omega) (by omega)
        rw [e]
        simp only [Option.bind_some]
        exact hj h' (by rw [if_pos (by simpa using h0)]) h3
      · obtain rfl : i = 0 := by omega
        have hf := qdY (x := R[0].1 - a) (by omega)
        rw [if_pos (by simp), q6 (by omega) (by omega), qij F (by omega) (by omega)]
        simp only [Option.bind_some]
        rw [show iconv .i64 (foldOf (R[0].1 - a)) = foldOf (R[0].1 - a) from kS (by omega) (by omega)]
        obtain ⟨l', f', e, h'⟩ := jT hF hr (n := foldOf (R[0].1 - a)) (by omega) (by omega)
        rw [e]
        simp only [Option.bind_some]
        exact hj h' (by rw [if_neg (by simp)]) h3
    · rw [if_neg (by simp; omega), List.drop_eq_nil_of_le (by omega)]
      exact ⟨l, f, rfl, by simpa [encRs] using hr⟩
theorem qlr {F : Nat} (hF : 20000 ≤ F) {R : List (Int × Int)} {least node q : Int} {l S : List Int} {f : Bool} (hm : R.length ≤ 300) (hR : ∀ r ∈ R, RunOk r ∧ least ≤ r.2) (hle : 0 ≤ least) (hr : Rep l f S) (hn : Nd node) (hs : Sep q R) :
    Wr (yS F (l.length : Int) (pk l) f node least R) (S ++ encR least node R) := by
  unfold yS
  obtain ⟨l', f', e, h'⟩ := jT hF hr (n := (R.length : Int)) (by omega) (by omega)
  rw [e]
  simp only [Option.bind_some]
  refine qdn (qiX hF hm hR hle F 0 node l' f' _ (by omega) (by omega) h' hn ⟨q, by simpa using hs, by omega⟩) ?_
  simp [encR]
theorem qfS : ∀ {bs : List Int} {f : Bool}, okB f bs = true → ∀ n ∈ bs, n ≤ bsum bs
  | [], _, _, n, h => by simp at h
  | x :: bs, f, h, n, hn => by
    rw [qbL] at h
    simp only [Bool.and_eq_true] at h
    have h0 := qfV h.2
    have hx : 0 ≤ x := by simpa using h.1.1
    have hb : bsum (x :: bs) = x + bsum bs := rfl
    rcases List.mem_cons.1 hn with rfl | hn
    · omega
    · have := qfS h.2 n hn; omega
def encO (rest : List Int) (least : Int) : List (Int × Int) := if 0 < least then spO least (rs rest) else []
def encS (rest : List Int) (least : Int) : List Int := if 0 < least then flat (spS least (rs rest)) else rest
def encL (node : Int) (rest : List Int) (least : Int) (k : Nat) : List Int :=
  if rest = [] then [] else (if 0 < least then encR least node (encO rest least) else []) ++ zes k (gp false node (encS rest least))
def rstO (l fr : List Int) (back : Int) : List Int := if 0 < back then rst fr l else l
def enc (node : Int) (l fr : List Int) (back least : Int) (k : Nat) : List Int :=
  ga l.length ++ if l = [] then [] else (if 0 < back then encB (tbs fr l) else []) ++ encL node (rstO l fr back) least k
theorem qlZ {F : Nat} (hF : 200000 ≤ F) {a l : List Int} (ha : gkc a = 0) (hl : gkc l = 0) : qaP F a l = some (tbs a l, rst a l) := by
  obtain ⟨h1, h2⟩ := ky.1 ha
  obtain ⟨h3, h4⟩ := ky.1 hl
  have := qhF hF (yV h2).1 (yV h4).1 h1 h3 F 0 [] true 0 (by omega) (by omega) (by simp) (by omega)
  rw [List.drop_zero, List.nil_append] at this
  unfold qaP
  rw [show ((0 : Nat) : Int) = 0 from rfl] at this
  rw [this]
  rfl
theorem qhd {F k : Nat} (hF : 20000 ≤ F) (h1 : 1 ≤ k) (h2 : k ≤ 16) {l S rest : List Int} {f : Bool} {node q : Int} (hr : Rep l f S) (hn : Nd node) (hm : rest.length ≤ 300) (hs : Ris q rest) :
    Wr (kb F node (k : Int) rest (l.length : Int) (pk l) f) (S ++ zes k (gp false node rest)) := by
  unfold kb
  have h40 : L40 (gp false node rest) := fun x hx => by have := qj8 hn hs (by simp) x hx; omega
  have hp := qlK (F := F) (l := []) hF h1 h2 h40 (by rw [qhr]; omega) (by intro x hx; simp at hx) (by simp)
  simp only [List.nil_append, List.length_nil] at hp
  rw [qlL hF hm hn hs]
  simp only [Option.bind_some]
  rw [show jr F 0 ([] : List Int) (gp false node rest) (k : Int) = _ from hp]
  simp only [Option.bind_some]
  unfold kd
  by_cases hb : (zes k (gp false node rest)).length ≤ 8192
  · rw [if_pos hb]
    simp only [Bool.not_true, Bool.or_false]
    obtain ⟨l', f', e, h'⟩ := qgg hF hr (qiZ k _) hb
    rw [e]
    exact ⟨l', f', rfl, h'⟩
  · rw [if_neg hb]
    simp only [Bool.not_false, Bool.or_true]
    have hr' := qkE hr (k := zes k (gp false node rest)) (by simp; omega)
    obtain ⟨l', f', e, h'⟩ := qgg hF hr' (k := []) (by intro x hx; simp at hx) (by simp)
    have e' : kw F (l.length : Int) (pk l) true 0 [] = some ((l'.length : Int), pk l', f') := e
    rw [e']
    exact ⟨l', f', rfl, by simpa using h'⟩
theorem qfq {F k : Nat} (hF : 2000000 ≤ F) (h1 : 1 ≤ k) (h2 : k ≤ 16) {l S rest : List Int} {f : Bool} {node least : Int} (hr : Rep l f S) (hn : Nd node) (hg : gkc rest = 0) (_hle : least = 0 ∨ 2 ≤ least ∧ least ≤ 300) :
    Wr (ka F node least (k : Int) rest (l.length : Int) (pk l) f) (S ++ encL node rest least k) := by
  obtain ⟨hm, hs⟩ := ky.1 hg
  unfold ka encL encO encS
  by_cases h0 : rest = []
  · subst h0
    exact ⟨l, f, rfl, by simpa using hr⟩
  · have hlen : rest.length ≠ 0 := by simpa using h0
    rw [if_neg (by simp; exact h0), if_neg h0]
    by_cases hl : 0 < least
    · rw [if_pos (by simpa using hl), if_pos hl, if_pos hl, if_pos hl, qhH hF hm hs]
      simp only [Option.bind_some]
      obtain ⟨s1, s2⟩ := qmc (least := least) hm hs
      obtain ⟨r1, r2⟩ := qkJ hm hs
      obtain ⟨l', f', e, h'⟩ := qlr (F := F) (R := spO least (rs rest)) (least := least) (node := node) (q := -1) (by omega) s1 (fun r hr => ⟨r2 r (List.mem_filter.1 hr).1, by simpa using (List.mem_filter.1 hr).2⟩) (by omega) hr hn (qaF _ r1)
      rw [e]
      simp only [Option.bind_some]
      refine qdn (qhd (by omega) h1 h2 h' hn s2 (qf4 hs _)) ?_
      rw [List.append_assoc]
    · rw [if_neg (by simpa using hl), if_neg hl, if_neg hl, List.nil_append]
      exact qhd (by omega) h1 h2 hr hn hm hs
theorem qiP {a l : List Int} (h : gkc l = 0) : gkc (rst a l) = 0 := qmg h List.filter_sublist
theorem qhe {F k : Nat} (hF : 2000000 ≤ F) (h1 : 1 ≤ k) (h2 : k ≤ 16) {x fr : List Int} {node back least : Int} (hn : Nd node) (hg : gkc x = 0) (hfr : 0 < back → gkc fr = 0) (hle : least = 0 ∨ 2 ≤ least ∧ least ≤ 300) :
    Wr (kR F 0 [] false node x fr back least (k : Int)) (enc node x fr back least k) := by
  obtain ⟨hm, hs⟩ := ky.1 hg
  unfold kR enc rstO
  obtain ⟨l, f, e, hr⟩ := jT (F := F) (by omega) ql2 (n := (x.length : Int)) (by omega) (by omega)
  rw [show qD F 0 ([] : List Int) false (x.length : Int) = _ from e]
  simp only [Option.bind_some, List.nil_append, Int.toNat_natCast] at hr ⊢
  by_cases h0 : x = []
  · subst h0
    rw [if_pos (by simp), if_pos rfl]
    exact ⟨l, f, rfl, by simpa using hr⟩
  · rw [if_neg (by simpa using h0), if_neg h0]
    by_cases hb : 0 < back
    · have hfg := hfr hb
      have hfl := (ky.1 hfg).1
      rw [if_pos (by simpa using hb), if_pos hb, if_pos hb, qlZ (by omega) hfg hg]
      simp only [Option.bind_some]
      have htl := qgd fr x
      have hok : okB true (tbs fr x) = true := qd6 _ _ _ _ (by omega) (Or.inl rfl)
      have hsum : bsum (tbs fr x) ≤ 0 + (fr.map (hasB x)).length := qcB _ _ _ (by omega)
      rw [List.length_map] at hsum
      have hbd : ∀ n ∈ tbs fr x, n ≤ 1000000 := fun n hnm => by
        have := qfS hok n hnm
        omega
      obtain ⟨l', f', e', h'⟩ := qh4 (F := F) (bs := tbs fr x) (by omega) (by omega) hr hok hbd
      rw [e']
      simp only [Option.bind_some]
      refine qdn (qfq hF h1 h2 h' hn (qiP hg) hle) ?_
      rw [List.append_assoc]
    · rw [if_neg (by simpa using hb), if_neg hb, if_neg hb, List.nil_append]
      exact qfq hF h1 h2 hr hn hg hle
def rgam (l : List Int) (p : Nat) (most : Int) : Option (Int × Nat) := if (fg l p).2.2 = 0 ∧ (fg l p).1 ≤ most then some ((fg l p).1, (fg l p).2.1.toNat) else none
def Rd {α : Type} (l : List Int) (m : Option ((α × Int × Int) ⊕ (Int × Int))) (o : Option (α × Nat)) : Prop :=
  match o with
  | none => ∃ z, m = some (.inr z)
  | some x => m = some (.inl (x.1, (l.length : Int), (x.2 : Int)))
theorem yU {l : List Int} {p : Nat} {most : Int} {x : Int × Nat} (h : rgam l p most = some x) : 0 ≤ x.1 ∧ x.1 ≤ most ∧ x.1 ≤ 1099511627776 ∧ x.2 ≤ l.length := by
  unfold rgam at h
  split at h
  · rename_i hc
    rcases qjY (l := l) (a := p) with h1 | ⟨n, q, h1, h2, h3⟩
    · exact absurd hc.1 h1
    · simp only [Option.some.injEq] at h
      subst h
      rw [h1] at hc ⊢
      simp only at hc ⊢
      omega
  · simp at h
theorem qnc {F : Nat} : zV F true = some (.inl ()) := rfl
theorem qkj {F : Nat} : zV F false = some (.inr ()) := rfl
theorem qbU {F : Nat} (hF : 20000 ≤ F) {l : List Int} (hl : Bit l) (hm : l.length ≤ 8192) {p : Nat} (hp : p ≤ l.length) {most : Int} (h0 : 0 ≤ most) (h1 : most ≤ 1000000000) : Rd l (q3 F (l.length : Int) (pk l) (p : Int) most) (rgam l p most) := by
  obtain ⟨mo, rfl⟩ := Int.eq_ofNat_of_zero_le h0
  unfold q3 rgam
  rw [qcE hF hl hm hp]
  simp only [Option.bind_some]
  rw [kJ (by omega)]
  rcases qjY (l := l) (a := p) with h2 | ⟨n, q, h2, h3, h4⟩
  · rw [if_neg (fun h => h2 h.1), show ((fg l p).2.2 == 0 && decide ((fg l p).1 ≤ (mo : Int))) = false from by simp [h2], qkj]
    exact ⟨_, rfl⟩
  · rw [h2]
    simp only [true_and, beq_self_eq_true, Bool.true_and]
    by_cases hc : (n : Int) ≤ mo
    · rw [if_pos hc, decide_eq_true hc, qnc]
      show _ = _
      simp only [lbnd, Option.bind_some, Int.toNat_natCast]
      rw [qad (by omega)]
    · rw [if_neg hc, decide_eq_false hc, qkj]
      exact ⟨_, rfl⟩
theorem qaS {α β : Type} {l : List Int} {m : Option ((α × Int × Int) ⊕ (Int × Int))} {o : Option (α × Nat)} {k : α × Int × Int → Option ((β × Int × Int) ⊕ (Int × Int))} {kl : Int × Int → Option ((β × Int × Int) ⊕ (Int × Int))} {g : α × Nat → Option (β × Nat)}
    (h : Rd l m o) (hk : ∀ x, o = some x → Rd l (k (x.1, (l.length : Int), (x.2 : Int))) (g x)) (hkl : ∀ z, ∃ z', kl z = some (.inr z')) : Rd l (lbnd m k kl) (o.bind g) := by
  cases o with
  | none =>
    obtain ⟨z, h⟩ := h
    rw [h]
    exact hkl z
  | some x =>
    have h' : m = some (.inl (x.1, (l.length : Int), (x.2 : Int))) := h
    rw [h']
    exact hk x rfl
def rbl (l : List Int) (many : Int) : Nat → Bool → Nat → Option (List Int × Nat)
  | 0, _, p => some ([], p)
  | k + 1, b, p => (rgam l p many).bind fun g => (rbl l many k true g.2).bind fun r => some ((g.1 + if b then 1 else 0) :: r.1, r.2)
def rblk (l : List Int) (p : Nat) (many : Int) : Option (List Int × Nat) := (rgam l p (many + 1)).bind fun g => rbl l many g.1.toNat false g.2
theorem qiF {l : List Int} {many : Int} : ∀ {k : Nat} {b : Bool} {p : Nat} {r : List Int × Nat}, p ≤ l.length → rbl l many k b p = some r → r.1.length = k ∧ r.2 ≤ l.length
  | 0, _, p, r, hp, h => by simp only [rbl, Option.some.injEq] at h; subst h; exact ⟨rfl, hp⟩
  | k + 1, b, p, r, hp, h => by
    simp only [rbl, Option.bind_eq_some_iff, Option.some.injEq] at h
    obtain ⟨g, h1, r', h2, rfl⟩ := h
    have h3 := qiF (yU h1).2.2.2 h2
    simp [h3.1, h3.2]
theorem qiv {α : Type} {lim n : Nat} {y : α} (h : n ≤ lim) : mk lim y (n : Int) = some (List.replicate n y) := by
  unfold mk
  rw [if_pos ⟨by omega, by omega⟩, Int.toNat_natCast]
theorem qkQ {α : Type} {o r : List α} {x y : α} : (o ++ x :: r).set o.length y = o ++ y :: r := by
  rw [List.set_append_right _ _ (Nat.le_refl _)]; simp
theorem qfQ {α : Type} {o r : List α} {x : α} : idx (o ++ x :: r) (o.length : Int) = some x := by
  rw [qQ]; simp
theorem qe8 {F : Nat} (hF : 20000 ≤ F) {l : List Int} (hl : Bit l) (hm : l.length ≤ 8192) {many : Int} (h0 : 0 ≤ many) (h1 : many ≤ 1000000) {w : List Int} (hw : w.length ≤ 1000000) : ∀ (k : Nat) (o : List Int) (p : Nat), w.length < k + o.length → o.length ≤ w.length → p ≤ l.length →
    Rd l (zk F (pk l) many w k (o ++ List.replicate (w.length - o.length) 0, (o.length : Int), (l.length : Int), (p : Int)))
      ((rbl l many (w.length - o.length) (decide (0 < o.length)) p).map fun r => (o ++ r.1, r.2))
  | 0, _, _, _, _, _ => by omega
  | k + 1, o, p, h, ho, hp => by
    show Rd l (kv F (pk l) many w (zk F (pk l) many w k) (o ++ List.replicate (w.length - o.length) 0) (o.length : Int) (l.length : Int) (p : Int)) _
    unfold kv
    by_cases hlt : o.length < w.length
    · rw [if_pos (by simpa using hlt)]
      obtain ⟨d, hd⟩ : ∃ d, w.length - o.length = d + 1 := ⟨w.length - o.length - 1, by omega⟩
      rw [hd]
      unfold rbl
      rw [List.replicate_succ, Option.map_bind]
      refine qaS (qbU hF hl hm hp h0 (by omega)) (fun g hg => ?_) (fun z => ⟨_, rfl⟩)
      have hok := yU hg
      rw [qfQ, Int.toNat_natCast, qkQ]
      simp only [Option.bind_some, lett, Function.comp]
      rw [qka, qE (by split <;> omega) (by split <;> omega), qG (by omega)]
      have e : w.length - (o ++ [g.1 + if 0 < o.length then 1 else 0]).length = d := by simp; omega
      have := qe8 hF hl hm h0 h1 hw k (o ++ [g.1 + if 0 < o.length then 1 else 0]) g.2 (by simp; omega) (by simp; omega) hok.2.2.2
      rw [e] at this
      simp only [List.append_assoc, List.singleton_append, List.length_append, List.length_singleton] at this
      rw [show decide (0 < o.length + 1) = true from by simp] at this
      have h9 : ((rbl l many d true g.2).bind fun r => some ((g.1 + if decide (0 < o.length) = true then 1 else 0) :: r.1, r.2)).map (fun r => (o ++ r.1, r.2)) = (rbl l many d true g.2).map fun r => (o ++ (g.1 + if 0 < o.length then 1 else 0) :: r.1, r.2) := by
        cases rbl l many d true g.2 <;> simp
      rw [h9]
      exact this
    · rw [if_neg (by simp; omega), show w.length - o.length = 0 from by omega]
      show _ = _
      simp [yB]
theorem qgY {F : Nat} (hF : 20000 ≤ F) {l : List Int} (hl : Bit l) (hm : l.length ≤ 8192) {many : Int} (h0 : 0 ≤ many) (h1 : many ≤ 1000) {p : Nat} (hp : p ≤ l.length) : Rd l (yk F (l.length : Int) (pk l) (p : Int) many) (rblk l p many) := by
  unfold yk rblk
  rw [qE (by omega) (by omega)]
  refine qaS (qbU hF hl hm hp (by omega) (by omega)) (fun g hg => ?_) (fun z => ⟨_, rfl⟩)
  have hok := yU hg
  obtain ⟨n, hn⟩ := Int.eq_ofNat_of_zero_le hok.1
  rw [hn, qiv (by omega)]
  simp only [Option.bind_some, Int.toNat_natCast]
  have := qe8 hF hl hm h0 (by omega) (w := List.replicate n 0) (by simp; omega) F [] g.2 (by simp; omega) (by simp) hok.2.2.2
  simp only [List.length_replicate, List.length_nil, Nat.sub_zero, List.nil_append] at this
  rw [show decide (0 < 0) = false from rfl] at this
  have h9 : (rbl l many n false g.2).map (fun r => (r.1, r.2)) = rbl l many n false g.2 := by cases rbl l many n false g.2 <;> rfl
  rw [h9] at this
  exact this
theorem qb6 {x : List Int} {xs : List (List Int)} {i : Nat} (h : xs[i]? = some x) : (xs.drop i).flatten = x ++ (xs.drop (i + 1)).flatten := by
  have hlt := (List.getElem?_eq_some_iff.1 h).1
  rw [List.drop_eq_getElem_cons hlt, List.flatten_cons]
  rw [List.getElem?_eq_getElem hlt] at h
  simp only [Option.some.injEq] at h
  rw [h]
theorem qeW {F : Nat} {xs : List (List Int)} (hm : xs.length ≤ 1000) : ∀ (k i : Nat) (o : List Int), xs.length < k + i → i ≤ xs.length → o.length + (xs.drop i).flatten.length ≤ 1000000 →
    qp F xs k (o, (i : Int)) = some (o ++ (xs.drop i).flatten)
  | 0, _, _, _, _, _ => by omega
  | k + 1, i, o, h, hi, ho => by
    show qk F xs (qp F xs k) o (i : Int) = _
    unfold qk
    by_cases hlt : i < xs.length
    · have hg := List.getElem?_eq_getElem hlt
      have hf := qb6 hg
      rw [hf, List.length_append] at ho
      rw [if_pos (by simpa using hlt), qQ, hg, hf]
      simp only [Option.bind_some]
      rw [kY (by omega), qG (by omega)]
      simp only [Option.bind_some]
      rw [qeW hm k (i + 1) _ (by omega) (by omega) (by rw [List.length_append]; omega), List.append_assoc]
    · rw [if_neg (by simp; omega), List.drop_eq_nil_of_le (by omega)]
      simp [kO]
theorem qeX {F : Nat} (hF : 20000 ≤ F) {xs : List (List Int)} (hm : xs.length ≤ 1000) (ht : xs.flatten.length ≤ 1000000) : ∀ (k i n : Nat), xs.length < k + i → i ≤ xs.length → n + (xs.drop i).flatten.length = xs.flatten.length →
    qq F xs k ((n : Int), (i : Int)) = some xs.flatten
  | 0, _, _, _, _, _ => by omega
  | k + 1, i, n, h, hi, hn => by
    show ql F xs (qq F xs k) (n : Int) (i : Int) = _
    unfold ql
    by_cases hlt : i < xs.length
    · have hg := List.getElem?_eq_getElem hlt
      have hf := qb6 hg
      rw [hf, List.length_append] at hn
      rw [if_pos (by simpa using hlt), qQ, hg]
      simp only [Option.bind_some]
      rw [vZ (by omega), if_neg (by simp; omega), qG (by omega)]
      exact qeX hF hm ht k (i + 1) _ (by omega) (by omega) (by omega)
    · rw [if_neg (by simp; omega)]
      rw [List.drop_eq_nil_of_le (by omega)] at hn
      simp only [List.flatten_nil, List.length_nil] at hn
      unfold zo
      rw [qip (by omega)]
      simp only [Option.bind_some]
      have := qeW (F := F) hm F 0 [] (by omega) (by omega) (by simpa using ht)
      simpa using this
theorem qho {F : Nat} (hF : 20000 ≤ F) {a b c : List Int} (h : a.length + (b.length + c.length) ≤ 1000000) : q4 F [a, b, c] = some (a ++ (b ++ c)) := by
  have := qeX (F := F) hF (xs := [a, b, c]) (by simp) (by simpa using h) F 0 0 (by simp; omega) (by simp) (by simp)
  simp only [List.flatten_cons, List.flatten_nil, List.append_nil] at this
  exact this
theorem ql9 {F : Nat} {a : List Int} (h : a.length ≤ 1000000) : qX F a = some (srt a) := by
  unfold qX
  rw [if_pos (by omega)]
def rrn (l : List Int) (least many : Int) : Nat → Bool → Int → Nat → Option (List (Int × Int) × Nat)
  | 0, _, _, p => some ([], p)
  | k + 1, b, a, p => (rgam l p 2097152).bind fun g => (rgam l g.2 many).bind fun x =>
      (rrn l least many k true (a + (if b then g.1 + 2 else zp g.1) + (x.1 + least) - 1) x.2).bind fun r => some ((a + (if b then g.1 + 2 else zp g.1), x.1 + least) :: r.1, r.2)
def rrns (l : List Int) (p : Nat) (node least many : Int) : Option (List (Int × Int) × Nat) := (rgam l p (many / least)).bind fun g => rrn l least many g.1.toNat false node g.2
theorem qf2 {l : List Int} {least many : Int} : ∀ {k : Nat} {b : Bool} {a : Int} {p : Nat} {r : List (Int × Int) × Nat}, p ≤ l.length → rrn l least many k b a p = some r → r.1.length = k ∧ r.2 ≤ l.length
  | 0, _, _, p, r, hp, h => by simp only [rrn, Option.some.injEq] at h; subst h; exact ⟨rfl, hp⟩
  | k + 1, b, a, p, r, hp, h => by
    simp only [rrn, Option.bind_eq_some_iff, Option.some.injEq] at h
    obtain ⟨g, h1, x, h2, r', h3, rfl⟩ := h
    have h4 := qf2 (yU h2).2.2.2 h3
    simp [h4.1, h4.2]
theorem qgf {g : Int} (h0 : 0 ≤ g) (h : g ≤ 2097152) : -1048577 ≤ zp g ∧ zp g ≤ 1048576 := by unfold zp; split <;> omega
theorem qiN {F : Nat} (hF : 20000 ≤ F) {l : List Int} (hl : Bit l) (hm : l.length ≤ 8192) {least many : Int} (h0 : 0 ≤ many) (h1 : many ≤ 300) (h2 : 2 ≤ least) (h3 : least ≤ 300) {w : List (Int × Int)} (hw : w.length ≤ 1000) : ∀ (k : Nat) (o : List (Int × Int)) (a : Int) (p : Nat), w.length < k + o.length → o.length ≤ w.length → p ≤ l.length → (-3000000 * ((o.length : Int) + 1) ≤ a ∧ a ≤ 3000000 * ((o.length : Int) + 1)) →
    Rd l (qP F (pk l) least many w k (o ++ List.replicate (w.length - o.length) (0, 0), a, (o.length : Int), (l.length : Int), (p : Int)))
      ((rrn l least many (w.length - o.length) (decide (0 < o.length)) a p).map fun r => (o ++ r.1, r.2))
  | 0, _, _, _, _, _, _, _ => by omega
  | k + 1, o, a, p, h, ho, hp, ha => by
    show Rd l (kH F (pk l) least many w (qP F (pk l) least many w k) (o ++ List.replicate (w.length - o.length) (0, 0)) a (o.length : Int) (l.length : Int) (p : Int)) _
    unfold kH
    by_cases hlt : o.length < w.length
    · rw [if_pos (by simpa using hlt)]
      obtain ⟨d, hd⟩ : ∃ d, w.length - o.length = d + 1 := ⟨w.length - o.length - 1, by omega⟩
      rw [hd]
      unfold rrn
      rw [List.replicate_succ, Option.map_bind]
      refine qaS (qbU hF hl hm hp (by omega) (by omega)) (fun g hg => ?_) (fun z => ⟨_, rfl⟩)
      have hok := yU hg
      have hun := qgf hok.1 hok.2.1
      have hj : ∀ (s : Int), s = a + (if decide (0 < o.length) = true then g.1 + 2 else zp g.1) →
          Rd l (zR F (qP F (pk l) least many w k) (pk l) least many (o ++ (0, 0) :: List.replicate d (0, 0)) (o.length : Int) (g.1, (l.length : Int), (g.2 : Int)) s)
            (Option.map (fun r => (o ++ r.1, r.2)) ((rgam l g.2 many).bind fun x => (rrn l least many d true (a + (if decide (0 < o.length) = true then g.1 + 2 else zp g.1) + (x.1 + least) - 1) x.2).bind fun r => some ((a + (if decide (0 < o.length) = true then g.1 + 2 else zp g.1), x.1 + least) :: r.1, r.2))) := by
        intro s hs
        rw [← hs]
        have hsb : -3000000 * ((o.length : Int) + 1) - 1048577 ≤ s ∧ s ≤ 3000000 * ((o.length : Int) + 1) + 2097154 := by rw [hs]; split <;> omega
        unfold zR
        rw [Option.map_bind]
        refine qaS (qbU hF hl hm hok.2.2.2 h0 (by omega)) (fun x hx => ?_) (fun z => ⟨_, rfl⟩)
        have hox := yU hx
        rw [qfQ, Int.toNat_natCast, qkQ]
        simp only [Option.bind_some, lett, Function.comp]
        rw [qfQ, qE (by omega) (by omega)]
        simp only [Option.bind_some]
        have e1 : isub .i64 (x.1 + least) 1 = x.1 + least - 1 := q6 (by omega) (by omega)
        rw [e1, qE (by omega) (by omega), qG (by omega)]
        have e : w.length - (o ++ [(s, x.1 + least)]).length = d := by simp; omega
        have := qiN hF hl hm h0 h1 h2 h3 hw k (o ++ [(s, x.1 + least)]) (s + (x.1 + least) - 1) x.2 (by simp; omega) (by simp; omega) hox.2.2.2 (by simp; omega)
        rw [e] at this
        simp only [List.append_assoc, List.singleton_append, List.length_append, List.length_singleton] at this
        rw [show decide (0 < o.length + 1) = true from by simp] at this
        have h9 : ((rrn l least many d true (s + (x.1 + least) - 1) x.2).bind fun r => some ((s, x.1 + least) :: r.1, r.2)).map (fun r => (o ++ r.1, r.2)) = (rrn l least many d true (s + (x.1 + least) - 1) x.2).map fun r => (o ++ (s, x.1 + least) :: r.1, r.2) := by
          cases rrn l least many d true (s + (x.1 + least) - 1) x.2 <;> simp
        rw [h9, show s + (x.1 + least - 1) = s + (x.1 + least) - 1 from by omega]
        exact this
      simp only [Function.comp]
      by_cases hz : 0 < o.length
      · rw [if_neg (by simp; intro hh; subst hh; simp at hz)]
        have e1 : iadd .i64 g.1 2 = g.1 + 2 := qE (by omega) (by omega)
        rw [e1, qE (by omega) (by omega)]
        exact hj _ (by rw [if_pos (by simpa using hz)])
      · have hz0 : o.length = 0 := by omega
        rw [if_pos (by simp [hz0])]
        obtain ⟨gn, hgn⟩ := Int.eq_ofNat_of_zero_le hok.1
        rw [show iconv .u64 g.1 = g.1 from by rw [hgn]; exact kJ (by omega), qfn F hok.1 (by omega)]
        simp only [Option.bind_some]
        rw [qE (by omega) (by omega)]
        exact hj _ (by rw [if_neg (by simp [hz0])])
    · rw [if_neg (by simp; omega), show w.length - o.length = 0 from by omega]
      show _ = _
      simp [vk]
theorem qjj {F : Nat} (hF : 20000 ≤ F) {l : List Int} (hl : Bit l) (hm : l.length ≤ 8192) {node least many : Int} (h0 : 0 ≤ many) (h1 : many ≤ 300) (h2 : 2 ≤ least) (h3 : least ≤ 300) (hn : Nd node) {p : Nat} (hp : p ≤ l.length) :
    Rd l (yR F (l.length : Int) (pk l) (p : Int) node least many) (rrns l p node least many) := by
  unfold yR rrns
  unfold Nd at hn
  have hq : iquo .i64 many least = many / least := by
    obtain ⟨m, rfl⟩ := Int.eq_ofNat_of_zero_le h0
    obtain ⟨c, rfl⟩ := Int.eq_ofNat_of_zero_le (show 0 ≤ least by omega)
    unfold iquo
    rw [Int.tdiv_eq_ediv_of_nonneg (by omega)]
    have h5 : (m : Int) / (c : Int) ≤ m := Int.ediv_le_self _ (by omega)
    have h6 : 0 ≤ (m : Int) / (c : Int) := Int.ediv_nonneg (by omega) (by omega)
    exact kS (by omega) (by omega)
  have hd0 : 0 ≤ many / least := Int.ediv_nonneg h0 (by omega)
  have hd1 : many / least ≤ many := Int.ediv_le_self _ h0
  have hc : ∀ {ρ : Type} (m : Option ρ), chk (least != 0) m = m := fun m => by unfold chk; rw [if_pos (by simp; omega)]
  rw [hq, hc]
  refine qaS (qbU hF hl hm hp hd0 (by omega)) (fun g hg => ?_) (fun z => ⟨_, rfl⟩)
  have hok := yU hg
  obtain ⟨n, hn'⟩ := Int.eq_ofNat_of_zero_le hok.1
  rw [hn', qiv (by omega)]
  simp only [Option.bind_some, Int.toNat_natCast]
  have := qiN hF hl hm h0 h1 h2 h3 (w := List.replicate n (0, 0)) (by simp; omega) F [] node g.2 (by simp; omega) (by simp) hok.2.2.2 (by simp; omega)
  simp only [List.length_replicate, List.length_nil, Nat.sub_zero, List.nil_append] at this
  rw [show decide (0 < 0) = false from rfl] at this
  have h9 : (rrn l least many n false node g.2).map (fun r => (r.1, r.2)) = rrn l least many n false node g.2 := by cases rrn l least many n false node g.2 <;> rfl
  rw [h9] at this
  exact this
def rls2 (l : List Int) (node : Int) (k : Nat) (many : Int) (out : List Int) (R : List (Int × Int)) (p : Nat) : Option (List Int × Nat) :=
  if (rm R []).2 = 0 ∧ ((rm R []).1.length : Int) ≤ many - out.length then
    match gfr l k (many - out.length - (rm R []).1.length).toNat false node p with
    | .inl _ => none
    | .inr g => some (srt (out ++ ((rm R []).1 ++ g.1)), g.2)
  else none
def rls1 (l : List Int) (node least : Int) (k : Nat) (many : Int) (out : List Int) (p : Nat) : Option (List Int × Nat) :=
  if many - out.length = 0 then some (out, p) else
  if 0 < least then (rrns l p node least (many - out.length)).bind fun r => rls2 l node k many out r.1 r.2 else rls2 l node k many out [] p
def rls (l : List Int) (p : Nat) (node : Int) (fr : List Int) (back least : Int) (k : Nat) : Option (List Int × Nat) :=
  (rgam l p 300).bind fun m => if m.1 = 0 then some ([], m.2) else
    if 0 < back then (rblk l m.2 fr.length).bind fun b => if (cpy fr b.1).2 = 0 ∧ ((cpy fr b.1).1.length : Int) ≤ m.1 then rls1 l node least k m.1 (cpy fr b.1).1 b.2 else none
    else rls1 l node least k m.1 [] m.2
theorem qkd {α σ ρ : Type} (y : α) (k : α → Option ρ) (kl : σ → Option ρ) : lbnd (some (.inl y)) k kl = k y := rfl
theorem qbp {F : Nat} {c : Bool} {ρ : Type} (k kl : Unit → Option ρ) : lbnd (zV F c) k kl = if c then k () else kl () := by cases c <;> rfl
theorem qj4 {l : List Int} {k : Nat} : ∀ {m : Nat} {b : Bool} {a : Int} {p : Nat} {e : Int}, gfr l k m b a p = .inl e → e ≠ 0
  | 0, _, _, _, _, h => by simp [gfr] at h
  | m + 1, b, a, p, e, h => by
    unfold gfr at h
    split at h
    · rename_i h1; simp only [Sum.inl.injEq] at h; rw [← h]; exact h1
    · split at h
      · simp only [Sum.inl.injEq] at h; rw [← h]; decide
      · split at h
        · rename_i e' he; simp only [Sum.inl.injEq] at h; rw [← h]; exact qj4 he
        · simp at h
theorem qj3 {l : List Int} {k : Nat} (hl : Bit l) (hk : 1 ≤ k) : ∀ {m : Nat} {b : Bool} {a : Int} {p : Nat} {r : List Int × Nat}, p ≤ l.length → gfr l k m b a p = .inr r → r.2 ≤ l.length
  | 0, _, _, p, r, hp, h => by simp only [gfr, Sum.inr.injEq] at h; subst h; exact hp
  | m + 1, b, a, p, r, hp, h => by
    unfold gfr at h
    split at h
    · simp at h
    · rename_i h1
      split at h
      · simp at h
      · split at h
        · simp at h
        · rename_i r' hr
          simp only [Sum.inr.injEq] at h
          rcases qmW hl (k := k) (p := p) hk with h2 | ⟨g, q, h2, h3, h4⟩
          · exact absurd h2 h1
          · rw [h2] at hr
            rw [← h]
            exact qj3 (r := r') hl hk h4 hr
theorem qiJ {F k : Nat} (hF : 2000000 ≤ F) (h1 : 1 ≤ k) (h2 : k ≤ 16) {l : List Int} (hl : Bit l) (hm : l.length ≤ 8192) {node many : Int} (hn : Nd node) {out : List Int} (ho : (out.length : Int) ≤ many) (hmm : many ≤ 300) {R : List (Int × Int)} {p : Nat} (hp : p ≤ l.length) {x : Int × Int × Int} (hx : x.1 = many) :
    Rd l (zZ F (pk l) node (k : Int) x out R (l.length : Int) (p : Int)) (rls2 l node k many out R p) := by
  unfold zZ rls2
  rw [qki (by omega), hx]
  simp only [Option.bind_some]
  have hlen := qnm (R := R) (rest := [])
  have e1 : isub .i64 many (out.length : Int) = many - out.length := q6 (by omega) (by omega)
  rw [qbp, e1]
  by_cases hc : (rm R []).2 = 0 ∧ ((rm R []).1.length : Int) ≤ many - out.length
  · have e2 : isub .i64 (many - (out.length : Int)) ((rm R []).1.length : Int) = ((many - out.length - (rm R []).1.length).toNat : Int) := by rw [q6 (by omega) (by omega)]; omega
    rw [if_pos (by simpa using hc), if_pos hc, e2, qj5 (by omega) hl hm h1 h2 (by omega) hp hn]
    simp only [Option.bind_some]
    rw [qbp]
    cases hg : gfr l k (many - out.length - (rm R []).1.length).toNat false node p with
    | inl e =>
      have := qj4 hg
      rw [if_neg (show ¬ ((gfI [] (Sum.inl e : Int ⊕ (List Int × Nat))).2.2 == 0) = true by simpa [gfI] using this)]
      exact ⟨_, rfl⟩
    | inr g =>
      have hgl := qim hg
      rw [if_pos (show ((gfI [] (Sum.inr g : Int ⊕ (List Int × Nat))).2.2 == 0) = true by simp [gfI]), show (gfI [] (Sum.inr g : Int ⊕ (List Int × Nat))).1 = g.1 from by simp [gfI], qho (by omega) (by omega)]
      simp only [Option.bind_some]
      rw [ql9 (by simp; omega)]
      simp only [Option.bind_some]
      have hch : ∀ {ρ : Type} (q : Option ρ), chk (decide ((srt (out ++ ((rm R []).1 ++ g.1))).length = (out ++ ((rm R []).1 ++ g.1)).length)) q = q := fun q => by unfold chk; rw [if_pos (decide_eq_true (qcT _))]
      rw [hch]
      rfl
  · rw [if_neg (by simpa using hc), if_neg hc]
    exact ⟨_, rfl⟩
theorem qiI {F k : Nat} (hF : 2000000 ≤ F) (h1 : 1 ≤ k) (h2 : k ≤ 16) {l : List Int} (hl : Bit l) (hm : l.length ≤ 8192) {node many least : Int} (hn : Nd node) {out : List Int} (ho : (out.length : Int) ≤ many) (hmm : many ≤ 300) {p : Nat} (hp : p ≤ l.length) {x : Int × Int × Int} (hx : x.1 = many) (hle : least = 0 ∨ 2 ≤ least ∧ least ≤ 300) :
    Rd l (zY F (pk l) node least (k : Int) x out (l.length : Int) (p : Int)) (rls1 l node least k many out p) := by
  unfold zY rls1
  have e1 : isub .i64 x.1 (out.length : Int) = many - out.length := by rw [hx]; exact q6 (by omega) (by omega)
  rw [e1]
  by_cases h0 : many - out.length = 0
  · rw [if_pos (by simpa using h0), if_pos h0]
    rfl
  · rw [if_neg (by simpa using h0), if_neg h0]
    by_cases hs : 0 < least
    · rw [if_pos (by simpa using hs), if_pos hs]
      refine qaS (qjj (by omega) hl hm (by omega) (by omega) (by omega) (by omega) hn hp) (fun r hr => ?_) (fun z => ⟨_, rfl⟩)
      have hq : r.2 ≤ l.length := by
        unfold rrns at hr
        rw [Option.bind_eq_some_iff] at hr
        obtain ⟨g, hg, hr⟩ := hr
        exact (qf2 (yU hg).2.2.2 hr).2
      exact qiJ hF h1 h2 hl hm hn ho hmm hq hx
    · rw [if_neg (by simpa using hs), if_neg hs]
      exact qiJ hF h1 h2 hl hm hn ho hmm hp hx
theorem qiG {l : List Int} {p : Nat} {many : Int} {b : List Int × Nat} (h : rblk l p many = some b) : b.2 ≤ l.length := by
  unfold rblk at h
  rw [Option.bind_eq_some_iff] at h
  obtain ⟨g, hg, h⟩ := h
  exact (qiF (yU hg).2.2.2 h).2
theorem qnl {F k : Nat} (hF : 2000000 ≤ F) (h1 : 1 ≤ k) (h2 : k ≤ 16) {l : List Int} (hl : Bit l) (hm : l.length ≤ 8192) {node back least : Int} {fr : List Int} (hn : Nd node) {p : Nat} (hp : p ≤ l.length) (hfr : 0 < back → gkc fr = 0) (hle : least = 0 ∨ 2 ≤ least ∧ least ≤ 300) :
    Rd l (kP F (l.length : Int) (pk l) (p : Int) node fr back least (k : Int)) (rls l p node fr back least k) := by
  unfold kP rls
  refine qaS (qbU (by omega) hl hm hp (by omega) (by omega)) (fun m hg => ?_) (fun z => ⟨_, rfl⟩)
  have hok := yU hg
  by_cases h0 : m.1 = 0
  · rw [if_pos (by simpa using h0), if_pos h0]
    rfl
  · rw [if_neg (by simpa using h0), if_neg h0]
    by_cases hb : 0 < back
    · have hfl := (ky.1 (hfr hb)).1
      rw [if_pos (by simpa using hb), if_pos hb]
      refine qaS (qgY (by omega) hl hm (by omega) (by omega) hok.2.2.2) (fun b hbk => ?_) (fun z => ⟨_, rfl⟩)
      rw [qlB (by omega)]
      simp only [Option.bind_some]
      rw [qbp]
      by_cases hc : (cpy fr b.1).2 = 0 ∧ ((cpy fr b.1).1.length : Int) ≤ m.1
      · rw [if_pos (by simpa using hc), if_pos hc]
        exact qiI hF h1 h2 hl hm hn hc.2 (by omega) (qiG hbk) rfl hle
      · rw [if_neg (by simpa using hc), if_neg hc]
        exact ⟨_, rfl⟩
    · rw [if_neg (by simpa using hb), if_neg hb]
      exact qiI hF h1 h2 hl hm hn (by simp; omega) (by omega) hok.2.2.2 rfl hle
theorem qkF {k : Nat} {l : List Int} {node back least : Int} {fr : List Int} {p : Nat} {r : List Int × Nat} (hl : Bit l) (h1 : 1 ≤ k) (h : rls l p node fr back least k = some r) : r.2 ≤ l.length := by
  have h2 : ∀ {many : Int} {out : List Int} {R : List (Int × Int)} {q : Nat}, q ≤ l.length → rls2 l node k many out R q = some r → r.2 ≤ l.length := by
    intro many out R q hq hr
    unfold rls2 at hr
    split at hr
    · split at hr
      · simp at hr
      · rename_i g hg
        simp only [Option.some.injEq] at hr
        rw [← hr]
        exact qj3 (r := g) hl h1 hq hg
    · simp at hr
  have h3 : ∀ {many : Int} {out : List Int} {q : Nat}, q ≤ l.length → rls1 l node least k many out q = some r → r.2 ≤ l.length := by
    intro many out q hq hr
    unfold rls1 at hr
    split at hr
    · simp only [Option.some.injEq] at hr; rw [← hr]; exact hq
    · split at hr
      · rw [Option.bind_eq_some_iff] at hr
        obtain ⟨r', hr1, hr2⟩ := hr
        refine h2 ?_ hr2
        unfold rrns at hr1
        rw [Option.bind_eq_some_iff] at hr1
        obtain ⟨g, hg, hr1⟩ := hr1
        exact (qf2 (yU hg).2.2.2 hr1).2
      · exact h2 hq hr
  unfold rls at h
  rw [Option.bind_eq_some_iff] at h
  obtain ⟨m, hm, h⟩ := h
  split at h
  · simp only [Option.some.injEq] at h; rw [← h]; exact (yU hm).2.2.2
  · split at h
    · rw [Option.bind_eq_some_iff] at h
      obtain ⟨b, hb, h⟩ := h
      split at h
      · exact h3 (qiG hb) h
      · simp at h
    · exact h3 (yU hm).2.2.2 h
def rdl (l : List Int) (p : Nat) (node : Int) (fr : List Int) (back least : Int) (k : Nat) : Option (List Int × Nat) :=
  (rls l p node fr back least k).bind fun r => if gkc r.1 = 0 ∧ (enc node r.1 fr back least k).length ≤ 8192 ∧ p + (enc node r.1 fr back least k).length = r.2 ∧ (l.drop p).take (enc node r.1 fr back least k).length = enc node r.1 fr back least k then some r else none
theorem qiS {F : Nat} {l e : List Int} (hl : Bit l) (hm : l.length ≤ 8192) (he : Bit e) (hem : e.length ≤ 8192) {p : Nat} {x17 : List Int × Int × Int} (h17 : x17.2.1 = (l.length : Int)) (hpe : p + e.length ≤ l.length) : ∀ (k i : Nat), e.length < k + i → i ≤ e.length →
    (if (l.drop (p + i)).take (e.length - i) = e.drop i then qY F (pk l) (p : Int) x17 ((e.length : Int), pk e, false) k (i : Int) = some (x17.1, true, x17.2.1, x17.2.2)
      else ∃ a b, qY F (pk l) (p : Int) x17 ((e.length : Int), pk e, false) k (i : Int) = some ([], false, a, b))
  | 0, _, _, _ => by omega
  | k + 1, i, h, hi => by
    have hd : qY F (pk l) (p : Int) x17 ((e.length : Int), pk e, false) (k + 1) (i : Int) = kV F (pk l) (p : Int) x17 ((e.length : Int), pk e, false) (qY F (pk l) (p : Int) x17 ((e.length : Int), pk e, false) k) (i : Int) := rfl
    rw [hd]
    unfold kV
    by_cases hlt : i < e.length
    · rw [if_pos (show decide ((i : Int) < (((e.length : Int), pk e, false) : Int × List Int × Bool).1) = true by simpa using hlt)]
      simp only
      rw [qjH he (by omega) hlt, h17, vZ (by omega), qjH hl (by omega) (show p + i < l.length by omega)]
      simp only [Option.bind_some]
      rw [qbp]
      have ih := qiS (F := F) hl hm he hem h17 hpe k (i + 1) (by omega) (by omega)
      have hstep : ((l.drop (p + i)).take (e.length - i) = e.drop i) ↔ (e[i] = l[p + i] ∧ (l.drop (p + (i + 1))).take (e.length - (i + 1)) = e.drop (i + 1)) := by
        rw [List.drop_eq_getElem_cons (show p + i < l.length by omega), List.drop_eq_getElem_cons hlt, show e.length - i = (e.length - (i + 1)) + 1 from by omega, List.take_succ_cons, List.cons.injEq, show p + i + 1 = p + (i + 1) from by omega]
        constructor
        · rintro ⟨a, b⟩; exact ⟨a.symm, b⟩
        · rintro ⟨a, b⟩; exact ⟨a.symm, b⟩
      rw [qG (by omega)]
      by_cases hq : e[i] = l[p + i]
      · rw [if_pos (show (e[i] == l[p + i]) = true by simpa using hq)]
        by_cases hr : (l.drop (p + (i + 1))).take (e.length - (i + 1)) = e.drop (i + 1)
        · rw [if_pos (hstep.2 ⟨hq, hr⟩)]
          rw [if_pos hr] at ih
          rw [h17] at ih
          exact ih
        · rw [if_neg (fun hh => hr (hstep.1 hh).2)]
          rw [if_neg hr] at ih
          exact ih
      · rw [if_neg (show ¬ (e[i] == l[p + i]) = true by simpa using hq), if_neg (fun hh => hq (hstep.1 hh).1)]
        exact ⟨_, _, rfl⟩
    · obtain rfl : i = e.length := by omega
      rw [if_neg (show ¬ decide (((e.length : Nat) : Int) < (((e.length : Int), pk e, false) : Int × List Int × Bool).1) = true by simp)]
      rw [if_pos (by simp)]
      rfl
theorem qlG {node : Int} {x fr : List Int} {back least : Int} {k : Nat} : 1 ≤ (enc node x fr back least k).length := by
  unfold enc
  rw [List.length_append, qhq]; omega
theorem qkH {F k : Nat} (hF : 2000000 ≤ F) (h1 : 1 ≤ k) (h2 : k ≤ 16) {l : List Int} (hl : Bit l) (hm : l.length ≤ 8192) {node back least : Int} {fr : List Int} (hn : Nd node) {p : Nat} (hp : p ≤ l.length) (hfr : 0 < back → gkc fr = 0) (hle : least = 0 ∨ 2 ≤ least ∧ least ≤ 300) :
    match rdl l p node fr back least k with
    | none => ∃ a b, kQ F (l.length : Int) (pk l) (p : Int) node fr back least (k : Int) = some ([], false, a, b)
    | some r => kQ F (l.length : Int) (pk l) (p : Int) node fr back least (k : Int) = some (r.1, true, (l.length : Int), (r.2 : Int)) := by
  have hL := qnl hF h1 h2 hl hm hn hp hfr hle
  unfold kQ rdl
  cases hr : rls l p node fr back least k with
  | none =>
    rw [hr] at hL
    obtain ⟨z, hz⟩ := hL
    rw [hz]
    exact ⟨_, _, rfl⟩
  | some r =>
    rw [hr] at hL
    have hL' : kP F (l.length : Int) (pk l) (p : Int) node fr back least (k : Int) = some (.inl (r.1, (l.length : Int), (r.2 : Int))) := hL
    have hat := qkF hl h1 hr
    rw [hL', qkd, qa7 (by omega)]
    simp only [Option.bind_some]
    rw [qbp]
    by_cases hg : gkc r.1 = 0
    · obtain ⟨e, f, he, hrep⟩ := qhe hF h1 h2 (x := r.1) hn hg hfr hle
      have hen := qlG (node := node) (x := r.1) (fr := fr) (back := back) (least := least) (k := k)
      rw [if_pos (show (gkc r.1 == 0) = true by simpa using hg), he]
      simp only [Option.bind_some]
      cases f with
      | true =>
        have hfl := hrep.full rfl
        rw [qbp]
        rw [if_neg (fun hh => by omega)]
        exact ⟨_, _, rfl⟩
      | false =>
        have hel := hrep.ok rfl
        have heb := hrep.bit
        have hem := hrep.len
        rw [hel] at heb hem ⊢
        simp only [Bool.not_false, if_true]
        rw [q6 (by omega) (by omega), qbp]
        by_cases hq : p + (enc node r.1 fr back least k).length = r.2
        · rw [if_pos (show (((enc node r.1 fr back least k).length : Int) == (r.2 : Int) - p) = true by simp; omega)]
          unfold kW
          have := qiS (F := F) hl hm heb hem (p := p) (x17 := (r.1, (l.length : Int), (r.2 : Int))) rfl (by omega) F 0 (by omega) (by omega)
          simp only [Nat.add_zero, Nat.sub_zero, List.drop_zero] at this
          by_cases hb : (l.drop p).take (enc node r.1 fr back least k).length = enc node r.1 fr back least k
          · rw [if_pos ⟨hg, hem, hq, hb⟩]
            rw [if_pos hb] at this
            exact this
          · rw [if_neg (fun hh => hb hh.2.2.2)]
            rw [if_neg hb] at this
            exact this
        · rw [if_neg (show ¬ (((enc node r.1 fr back least k).length : Int) == (r.2 : Int) - p) = true by simp; omega), if_neg (fun hh => hq hh.2.2.1)]
          exact ⟨_, _, rfl⟩
    · rw [if_neg (show ¬ (gkc r.1 == 0) = true by simpa using hg), if_neg (fun hh => hg hh.1)]
      exact ⟨_, _, rfl⟩
theorem qcR {n : Nat} {most : Int} (hn : n ≤ 1099511627776) (hm : (n : Int) ≤ most) (P R : List Int) : rgam (P ++ (ga n ++ R)) P.length most = some ((n : Int), P.length + (ga n).length) := by
  unfold rgam
  rw [← List.append_assoc, qnH hn]
  simp only [true_and]
  rw [if_pos hm, Int.toNat_natCast]
theorem qf1 {n : Int} {most : Int} (h0 : 0 ≤ n) (hn : n ≤ 1099511627776) (hm : n ≤ most) (P R : List Int) : rgam (P ++ (ga n.toNat ++ R)) P.length most = some (n, P.length + (ga n.toNat).length) := by
  rw [qcR (by omega) (by omega)]
  congr 2
  omega
theorem qiE {many : Int} (hmany : many ≤ 1000000) : ∀ (bs : List Int) (b : Bool) (P R : List Int), okB (!b) bs = true → (∀ n ∈ bs, n ≤ many) → rbl (P ++ (encBs b bs ++ R)) many bs.length b P.length = some (bs, P.length + (encBs b bs).length)
  | [], b, P, R, _, _ => by simp [rbl, encBs]
  | n :: bs, b, P, R, h, hb => by
    rw [qbL] at h
    simp only [Bool.and_eq_true, Bool.or_eq_true, decide_eq_true_eq, Bool.not_eq_true'] at h
    have hn := hb n (by simp)
    have hv : 0 ≤ n - (if b = true then 1 else 0) := by
      cases b with
      | false => simp; exact h.1.1
      | true => rcases h.1.2 with h2 | h2; · simp at h2
                · simp; omega
    unfold encBs
    simp only [List.length_cons, rbl, List.append_assoc]
    rw [qf1 hv (by split <;> omega) (by split <;> omega)]
    simp only [Option.bind_some]
    have := qiE hmany bs true (P ++ ga (n - if b = true then 1 else 0).toNat) R (by simpa using h.2) (fun z hz => hb z (by simp [hz]))
    simp only [List.append_assoc, List.length_append] at this
    rw [this]
    simp only [Option.bind_some, List.length_append]
    congr 2
    · congr 1; split <;> omega
    · omega
theorem qkB {many : Int} (hmany : many ≤ 1000000) {bs : List Int} (P R : List Int) (h : okB true bs = true) (hb : ∀ n ∈ bs, n ≤ many) (hl : (bs.length : Int) ≤ many + 1) : rblk (P ++ (encB bs ++ R)) P.length many = some (bs, P.length + (encB bs).length) := by
  unfold rblk encB
  rw [List.append_assoc, qcR (by omega) (by omega)]
  simp only [Option.bind_some, Int.toNat_natCast]
  have := qiE hmany bs false (P ++ ga bs.length) R (by simpa using h) hb
  simp only [List.append_assoc, List.length_append] at this
  rw [this]
  congr 2
  rw [List.length_append]; omega
theorem qiM {least many : Int} (hle : 0 ≤ least) : ∀ (R : List (Int × Int)) (b : Bool) (a q : Int) (P T : List Int), (∀ r ∈ R, RunOk r ∧ least ≤ r.2 ∧ r.2 - least ≤ many) → Nd a → Sep q R → (b = true → a + 1 ≤ q) →
    rrn (P ++ (encRs least b a R ++ T)) least many R.length b a P.length = some (R, P.length + (encRs least b a R).length)
  | [], _, _, _, P, T, _, _, _, _ => by simp [rrn, encRs]
  | r :: R, b, a, q, P, T, hR, ha, hs, hb => by
    obtain ⟨hro, hrl, hrm⟩ := hR r (by simp)
    obtain ⟨s1, s2, s3⟩ := hs
    unfold RunOk at hro
    unfold Nd at ha
    have hf := qdY (x := r.1 - a) (by omega)
    have hf2 : foldOf (r.1 - a) ≤ 2097152 := by unfold foldOf; split <;> omega
    have hv : 0 ≤ (if b = true then r.1 - a - 2 else foldOf (r.1 - a)) ∧ (if b = true then r.1 - a - 2 else foldOf (r.1 - a)) ≤ 2097152 := by
      cases b with
      | false => simp; omega
      | true => have := hb rfl; simp; omega
    unfold encRs
    simp only [List.length_cons, rrn, List.append_assoc]
    rw [qf1 hv.1 (by omega) hv.2]
    simp only [Option.bind_some]
    have e1 := qf1 (n := r.2 - least) (most := many) (by omega) (by omega) hrm (P ++ ga (if b = true then r.1 - a - 2 else foldOf (r.1 - a)).toNat) (encRs least true (r.1 + r.2 - 1) R ++ T)
    simp only [List.append_assoc, List.length_append] at e1
    rw [e1]
    simp only [Option.bind_some]
    have e2 : a + (if b = true then (if b = true then r.1 - a - 2 else foldOf (r.1 - a)) + 2 else zp (if b = true then r.1 - a - 2 else foldOf (r.1 - a))) = r.1 := by
      cases b with
      | false => simp only [Bool.false_eq_true, if_false]; rw [qdw]; omega
      | true => simp only [if_true]; omega
    rw [e2, show r.2 - least + least = r.2 from by omega]
    have := qiM hle R true (r.1 + r.2 - 1) (r.1 + r.2) ((P ++ ga (if b = true then r.1 - a - 2 else foldOf (r.1 - a)).toNat) ++ ga (r.2 - least).toNat) T (fun z hz => hR z (by simp [hz])) (by unfold Nd; omega) s3 (fun _ => by omega)
    simp only [List.append_assoc, List.length_append] at this
    rw [show P.length + (ga (if b = true then r.1 - a - 2 else foldOf (r.1 - a)).toNat).length + (ga (r.2 - least).toNat).length = P.length + ((ga (if b = true then r.1 - a - 2 else foldOf (r.1 - a)).toNat).length + (ga (r.2 - least).toNat).length) from by omega, this]
    simp only [Option.bind_some, List.length_append]
    congr 2
    omega
theorem qe2 {least q : Int} (hle : 2 ≤ least) : ∀ {R : List (Int × Int)}, Sep q R → (∀ r ∈ R, least ≤ r.2) → least * (R.length : Int) ≤ ((flat R).length : Int)
  | [], _, _ => by simp [flat]
  | r :: R, hs, hR => by
    have h1 := hR r (by simp)
    have := qe2 hle hs.2.2 (fun z hz => hR z (by simp [hz]))
    rw [zE, List.length_append, qar, List.length_cons]
    rw [show ((R.length + 1 : Nat) : Int) = (R.length : Int) + 1 from by omega, Int.mul_add]
    omega
theorem qkI {least many node q : Int} (hle : 2 ≤ least) {R : List (Int × Int)} (P T : List Int) (hR : ∀ r ∈ R, RunOk r ∧ least ≤ r.2) (hn : Nd node) (hs : Sep q R) (hm : ((flat R).length : Int) ≤ many) (hmm : many ≤ 300) :
    rrns (P ++ (encR least node R ++ T)) P.length node least many = some (R, P.length + (encR least node R).length) := by
  unfold rrns encR
  have h1 := qe2 hle hs (fun r hr => (hR r hr).2)
  have h2 : (R.length : Int) ≤ many / least := by
    rw [Int.le_ediv_iff_mul_le (by omega)]
    rw [Int.mul_comm] at h1
    omega
  have h3 : many / least ≤ many := Int.ediv_le_self _ (by omega)
  rw [List.append_assoc, qcR (by omega) h2]
  simp only [Option.bind_some, Int.toNat_natCast]
  have := qiM (least := least) (many := many) (by omega) R false node q (P ++ ga R.length) T (fun r hr => ⟨(hR r hr).1, (hR r hr).2, by have := qc9 hr; omega⟩) hn hs (by simp)
  simp only [List.append_assoc, List.length_append] at this
  rw [this]
  congr 2
  rw [List.length_append]; omega
theorem qii {rest : List Int} {least : Int} (h : gkc rest = 0) : skc (encO rest least) = 0 ∧ Ris (-1) (encS rest least) ∧ (flat (encO rest least) ++ encS rest least).Perm rest ∧ (flat (encO rest least)).Pairwise (· ≤ ·) := by
  obtain ⟨hm, hs⟩ := ky.1 h
  unfold encO encS
  by_cases hl : 0 < least
  · rw [if_pos hl, if_pos hl]
    exact ⟨qmh hm hs _, qf4 hs _, qg4 _ _, qiD (yV (qf4 hs _)).1⟩
  · rw [if_neg hl, if_neg hl]
    exact ⟨by decide, hs, by simp [flat], by simp [flat]⟩
theorem qg0 {k : Nat} (h1 : 1 ≤ k) (h2 : k ≤ 16) {node least : Int} (hn : Nd node) {rest out x : List Int} (hr : gkc rest = 0) (hx : gkc x = 0) (hp : (out ++ rest).Perm x) (P T : List Int) :
    rls2 (P ++ (zes k (gp false node (encS rest least)) ++ T)) node k x.length out (encO rest least) P.length = some (x, P.length + (zes k (gp false node (encS rest least))).length) := by
  obtain ⟨e1, e2, e3, e4⟩ := qii (least := least) hr
  have hrm := (ky.1 hr).1
  have hlen := e3.length_eq
  have hlen2 := hp.length_eq
  rw [List.length_append] at hlen hlen2
  have hrmm : rm (encO rest least) [] = (flat (encO rest least), 0) := qjh e1 (by decide) (by rw [qih]; simp) (by simp) e4 (by omega)
  unfold rls2
  rw [hrmm]
  simp only [true_and]
  rw [if_pos (by omega), show ((x.length : Int) - out.length - (flat (encO rest least)).length).toNat = (gp false node (encS rest least)).length from by rw [qhr]; omega]
  have h40 : L40 (gp false node (encS rest least)) := fun z hz => by have := qj8 hn e2 (by simp) z hz; omega
  have := qin h1 h2 P T h40 (qmK (b := false) hn e2 (by simp))
  rw [List.append_assoc] at this
  rw [this]
  simp only
  have hpx : (out ++ (flat (encO rest least) ++ encS rest least)).Perm x := (List.Perm.append_left out e3).trans hp
  rw [qf3 hpx (qiD (qdZ hx))]
theorem qgZ {k : Nat} (h1 : 1 ≤ k) (h2 : k ≤ 16) {node least : Int} (hn : Nd node) (hle : least = 0 ∨ 2 ≤ least ∧ least ≤ 300) {rest out x : List Int} (hr : gkc rest = 0) (hx : gkc x = 0) (ho : out.Pairwise (· ≤ ·)) (hp : (out ++ rest).Perm x) (P T : List Int) :
    rls1 (P ++ (encL node rest least k ++ T)) node least k x.length out P.length = some (x, P.length + (encL node rest least k).length) := by
  have hlen2 := hp.length_eq
  have hxm := (ky.1 hx).1
  obtain ⟨hrm, hrs⟩ := ky.1 hr
  rw [List.length_append] at hlen2
  unfold rls1 encL
  by_cases h0 : rest = []
  · subst h0
    simp only [List.length_nil, Nat.add_zero] at hlen2
    rw [if_pos (by omega), if_pos rfl]
    rw [List.append_nil] at hp
    have e1 := qf3 hp (qiD (qdZ hx))
    have e2 := qf3 (List.Perm.refl out) ho
    rw [e2] at e1
    rw [e1]; simp
  · have hl0 : rest.length ≠ 0 := by simpa using h0
    rw [if_neg (by omega), if_neg h0]
    by_cases hl : 0 < least
    · obtain ⟨e1, e2, e3, e4⟩ := qii (least := least) hr
      have hlen := e3.length_eq
      rw [List.length_append] at hlen
      obtain ⟨r1, r2⟩ := qkJ hrm hrs
      have hO : encO rest least = spO least (rs rest) := by unfold encO; rw [if_pos hl]
      rw [if_pos hl, if_pos hl, List.append_assoc, qkI (q := -1) (by omega) _ _ (fun r hrr => by rw [hO] at hrr; exact ⟨r2 r (List.mem_filter.1 hrr).1, by simpa using (List.mem_filter.1 hrr).2⟩) hn (by rw [hO]; exact qaF _ r1) (by omega) (by omega)]
      simp only [Option.bind_some]
      have := qg0 (least := least) h1 h2 hn hr hx hp (P ++ encR least node (encO rest least)) T
      simp only [List.append_assoc, List.length_append] at this
      rw [this, List.length_append]
      congr 2
      omega
    · rw [if_neg hl, if_neg hl, List.nil_append]
      have hO : encO rest least = [] := by unfold encO; rw [if_neg hl]
      have := qg0 (least := least) h1 h2 hn hr hx hp P T
      rw [hO] at this
      exact this
theorem ql5 {k : Nat} (h1 : 1 ≤ k) (h2 : k ≤ 16) {node back least : Int} {x fr : List Int} (hn : Nd node) (hle : least = 0 ∨ 2 ≤ least ∧ least ≤ 300) (hx : gkc x = 0) (hfr : 0 < back → gkc fr = 0) (P T : List Int) :
    rls (P ++ (enc node x fr back least k ++ T)) P.length node fr back least k = some (x, P.length + (enc node x fr back least k).length) := by
  have hxm := (ky.1 hx).1
  unfold rls enc rstO
  rw [List.append_assoc, qcR (by omega) (by omega)]
  simp only [Option.bind_some]
  by_cases h0 : x = []
  · subst h0
    rw [if_pos (by simp), if_pos rfl]
    simp
  · have hx0 : x.length ≠ 0 := by simpa using h0
    rw [if_neg (by omega), if_neg h0]
    by_cases hb : 0 < back
    · have hfg := hfr hb
      have hfl := (ky.1 hfg).1
      rw [if_pos hb, if_pos hb, if_pos hb]
      have htl := qgd fr x
      have hok : okB true (tbs fr x) = true := qd6 _ _ _ _ (by omega) (Or.inl rfl)
      have hsum : bsum (tbs fr x) ≤ 0 + (fr.map (hasB x)).length := qcB _ _ _ (by omega)
      rw [List.length_map] at hsum
      have e1 := qkB (many := (fr.length : Int)) (by omega) (bs := tbs fr x) (P ++ ga x.length) (encL node (rst fr x) least k ++ T) hok (fun n hnm => by have := qfS hok n hnm; omega) (by omega)
      simp only [List.append_assoc, List.length_append] at e1
      rw [List.append_assoc, e1]
      simp only [Option.bind_some]
      rw [qlE hfg]
      have hbe := qkp hfg hx
      have hfx : (fr.filter (hasB x)).length ≤ x.length := by rw [hbe]; exact List.length_filter_le _ _
      rw [if_pos ⟨rfl, by simp only; omega⟩]
      have hperm : (fr.filter (hasB x) ++ rst fr x).Perm x := by rw [hbe]; exact qi7 _ _
      have := qgZ h1 h2 hn hle (qiP hx) hx (qiD ((qdZ hfg).sublist List.filter_sublist)) hperm ((P ++ ga x.length) ++ encB (tbs fr x)) T
      simp only [List.append_assoc, List.length_append] at this
      simp only
      rw [show P.length + (ga x.length).length + (encB (tbs fr x)).length = P.length + ((ga x.length).length + (encB (tbs fr x)).length) from by omega, this]
      congr 2
      simp only [List.length_append]; omega
    · rw [if_neg hb, if_neg hb, if_neg hb, List.nil_append]
      have := qgZ h1 h2 hn hle hx hx (out := []) (by simp) (by simp) (P ++ ga x.length) T
      simp only [List.append_assoc, List.length_append] at this
      rw [this, List.length_append]
      congr 2
      omega
def hcB (back least k : Int) : Prop := back < 0 ∨ 7 < back ∨ least < 0 ∨ least = 1 ∨ 300 < least ∨ k < 1 ∨ 16 < k
instance hcDec (back least k : Int) : Decidable (hcB back least k) := inferInstanceAs (Decidable (_ ∨ _))
def hcE (back least k : Int) : Int := if hcB back least k then 3 else 0
def scE (node : Int) (fr : List Int) (back : Int) : Int := if Nd node then (if 0 < back then gkc fr else 0) else 3
theorem qdb {F : Nat} {back least k : Int} : vT F back least k = some (hcE back least k) := by
  unfold vT hcE
  by_cases h : hcB back least k
  · rw [if_pos (by unfold hcB at h; simp only [Bool.or_eq_true, decide_eq_true_eq, beq_iff_eq]; omega), if_pos h]
  · rw [if_neg (by unfold hcB at h; simp only [Bool.or_eq_true, decide_eq_true_eq, beq_iff_eq]; omega), if_neg h]
theorem qjl {F : Nat} (hF : 20000 ≤ F) {node back least k : Int} {fr : List Int} : qao F node fr back least k = some (scE node fr back) := by
  unfold qao scE
  rw [qix]
  by_cases h : Nd node
  · rw [if_neg (by simp [h]), if_pos h]
    by_cases hb : 0 < back
    · rw [if_pos (by simpa using hb), if_pos hb, qa7 hF]; rfl
    · rw [if_neg (by simpa using hb), if_neg hb]
  · rw [if_pos (by simp [h]), if_neg h]
theorem qbm {back least k : Int} (h : hcE back least k = 0) : (0 ≤ back ∧ back ≤ 7) ∧ (least = 0 ∨ 2 ≤ least ∧ least ≤ 300) ∧ ∃ k' : Nat, k = (k' : Int) ∧ 1 ≤ k' ∧ k' ≤ 16 := by
  unfold hcE at h
  split at h
  · simp at h
  · rename_i h1
    unfold hcB at h1
    exact ⟨by omega, by omega, k.toNat, by omega, by omega, by omega⟩
theorem qno {node back : Int} {fr : List Int} (h : scE node fr back = 0) : Nd node ∧ (0 < back → gkc fr = 0) := by
  unfold scE at h
  split at h
  · rename_i hn
    refine ⟨hn, fun hb => ?_⟩
    rw [if_pos hb] at h; exact h
  · simp at h
theorem qnn {node back : Int} {fr : List Int} (h : Nd node) (h2 : 0 < back → gkc fr = 0) : scE node fr back = 0 := by
  unfold scE
  rw [if_pos h]
  split
  · rename_i hb; exact h2 hb
  · rfl
theorem qkR {F k : Nat} (hF : 2000000 ≤ F) (h1 : 1 ≤ k) (h2 : k ≤ 16) {l : List Int} (hl : Bit l) (hm : l.length ≤ 8192) {node back least : Int} {fr : List Int} (hn : Nd node) {p : Nat} (hp : p ≤ l.length) (hfr : 0 < back → gkc fr = 0) (hle : least = 0 ∨ 2 ≤ least ∧ least ≤ 300) :
    ju F (l.length : Int) (pk l) (p : Int) node fr back least (k : Int) = some (match rdl l p node fr back least k with | none => ([], 0, 1) | some r => (r.1, (r.2 : Int), 0)) := by
  have := qkH hF h1 h2 hl hm hn hp hfr hle
  unfold ju
  cases h : rdl l p node fr back least k with
  | none =>
    rw [h] at this
    obtain ⟨a, b, e⟩ := this
    rw [e]; rfl
  | some r =>
    rw [h] at this
    simp only at this
    rw [this]; rfl
def swE (node : Int) (x fr : List Int) (back least k : Int) : Int := if hcE back least k ≠ 0 then hcE back least k else if ¬ Nd node then 3 else if gkc x ≠ 0 then gkc x else scE node fr back
def sw (node : Int) (x fr : List Int) (back least k : Int) : Int × List Int × Int :=
  if swE node x fr back least k ≠ 0 then (0, [], swE node x fr back least k) else
  if 8192 < (enc node x fr back least k.toNat).length then (0, [], 8) else (((enc node x fr back least k.toNat).length : Int), pk (enc node x fr back least k.toNat), 0)
theorem qnt {node back least k : Int} {x fr : List Int} (h : swE node x fr back least k = 0) : hcE back least k = 0 ∧ Nd node ∧ gkc x = 0 ∧ (0 < back → gkc fr = 0) := by
  unfold swE at h
  by_cases h1 : hcE back least k = 0
  · rw [if_neg (by simp [h1])] at h
    by_cases h2 : Nd node
    · rw [if_neg (by simpa using h2)] at h
      by_cases h3 : gkc x = 0
      · rw [if_neg (by simp [h3])] at h
        exact ⟨h1, h2, h3, (qno h).2⟩
      · rw [if_pos h3] at h; exact absurd h h3
    · rw [if_pos h2] at h; simp at h
  · rw [if_pos h1] at h; exact absurd h h1
theorem qns {node back least k : Int} {x fr : List Int} (h1 : hcE back least k = 0) (h2 : Nd node) (h3 : gkc x = 0) (h4 : 0 < back → gkc fr = 0) : swE node x fr back least k = 0 := by
  unfold swE
  rw [if_neg (by simp [h1]), if_neg (by simpa using h2), if_neg (by simp [h3])]
  exact qnn h2 h4
theorem qjo {F : Nat} (hF : 2000000 ≤ F) {node back least k : Int} {x fr : List Int} : qan F node x fr back least k = some (sw node x fr back least k) := by
  have hj : y9 F node x fr back least k (swE node x fr back least k) = some (sw node x fr back least k) := by
    unfold y9 sw
    by_cases h : swE node x fr back least k = 0
    · rw [if_neg (by simp [h]), if_neg (by simp [h])]
      obtain ⟨h1, h2, h3, h4⟩ := qnt h
      obtain ⟨k1, k2, k', rfl, k3, k4⟩ := qbm h1
      obtain ⟨l, f, e, hr⟩ := qhe hF k3 k4 h2 h3 h4 k2
      rw [e]
      simp only [Option.bind_some, Int.toNat_natCast]
      cases f with
      | true => have := hr.full rfl; rw [if_pos rfl, if_pos this]
      | false =>
        have e1 := hr.ok rfl
        have e2 := hr.len
        rw [e1] at e2 ⊢
        rw [if_neg (by simp), if_neg (by omega)]
    · rw [if_pos (by simpa using h), if_pos h]
  unfold qan
  rw [qdb]
  simp only [Option.bind_some]
  by_cases h1 : hcE back least k = 0
  · rw [if_pos (by simpa using h1), qix]
    unfold va
    by_cases h2 : Nd node
    · rw [if_neg (by simp [h2])]
      unfold k8
      rw [if_pos (by simpa using h1), qa7 (by omega)]
      simp only [Option.bind_some]
      unfold k9
      by_cases h3 : gkc x = 0
      · have e : swE node x fr back least k = scE node fr back := by unfold swE; rw [if_neg (by simp [h1]), if_neg (by simpa using h2), if_neg (by simp [h3])]
        rw [if_pos (by simpa using h3), qjl (by omega), ← e]
        exact hj
      · have e : swE node x fr back least k = gkc x := by unfold swE; rw [if_neg (by simp [h1]), if_neg (by simpa using h2), if_pos h3]
        rw [if_neg (by simpa using h3), ← e]
        exact hj
    · have e : swE node x fr back least k = 3 := by unfold swE; rw [if_neg (by simp [h1]), if_pos h2]
      rw [if_pos (by simp [h2])]
      unfold k8
      rw [if_neg (by decide)]
      unfold k9
      rw [if_neg (by decide), ← e]
      exact hj
  · have e : swE node x fr back least k = hcE back least k := by unfold swE; rw [if_pos h1]
    rw [if_neg (by simpa using h1)]
    unfold va
    rw [if_neg (by simp)]
    unfold k8
    rw [if_neg (by simpa using h1)]
    unfold k9
    rw [if_neg (by simpa using h1), ← e]
    exact hj
theorem ql0 {k : Nat} (h1 : 1 ≤ k) (h2 : k ≤ 16) {node back least : Int} {x fr : List Int} (hn : Nd node) (hle : least = 0 ∨ 2 ≤ least ∧ least ≤ 300) (hx : gkc x = 0) (hfr : 0 < back → gkc fr = 0) (P T : List Int) (hL : (enc node x fr back least k).length ≤ 8192) :
    rdl (P ++ (enc node x fr back least k ++ T)) P.length node fr back least k = some (x, P.length + (enc node x fr back least k).length) := by
  unfold rdl
  rw [ql5 h1 h2 hn hle hx hfr]
  simp only [Option.bind_some]
  rw [if_pos (by refine ⟨hx, hL, ?_, ?_⟩ <;> simp)]
theorem qkC {k : Nat} {l : List Int} {p : Nat} {node back least : Int} {fr : List Int} {r : List Int × Nat} (hl : Bit l) (h1 : 1 ≤ k) (h : rdl l p node fr back least k = some r) :
    gkc r.1 = 0 ∧ (enc node r.1 fr back least k).length ≤ 8192 ∧ p + (enc node r.1 fr back least k).length = r.2 ∧ (l.drop p).take (enc node r.1 fr back least k).length = enc node r.1 fr back least k ∧ r.2 ≤ l.length := by
  unfold rdl at h
  rw [Option.bind_eq_some_iff] at h
  obtain ⟨r', h2, h⟩ := h
  split at h
  · rename_i hc
    simp only [Option.some.injEq] at h
    subst h
    exact ⟨hc.1, hc.2.1, hc.2.2.1, hc.2.2.2, qkF hl h1 h2⟩
  · simp at h
theorem qfK {node back least : Int} {x fr : List Int} {k : Nat} : Bit (enc node x fr back least k) := by
  have hn : Bit ([] : List Int) := by intro z hz; simp at hz
  have h1 : ∀ (bs : List Int) (b : Bool), Bit (encBs b bs) := by
    intro bs
    induction bs with
    | nil => intro b; exact hn
    | cons n bs ih => intro b; exact ym (qbk _) (ih true)
  have h2 : ∀ (R : List (Int × Int)) (b : Bool) (a : Int), Bit (encRs least b a R) := by
    intro R
    induction R with
    | nil => intro b a; exact hn
    | cons r R ih => intro b a; exact ym (qbk _) (ym (qbk _) (ih true _))
  unfold enc encL encB encR
  refine ym (qbk _) ?_
  split
  · exact hn
  · refine ym ?_ ?_
    · split
      · exact ym (qbk _) (h1 _ _)
      · exact hn
    · split
      · exact hn
      · refine ym ?_ (qiZ _ _)
        split
        · exact ym (qbk _) (h2 _ _ _)
        · exact hn
theorem qnO {node back least k : Int} {x fr : List Int} (h : swE node x fr back least k = 0) (h2 : (enc node x fr back least k.toNat).length ≤ 8192) : sw node x fr back least k = (((enc node x fr back least k.toNat).length : Int), pk (enc node x fr back least k.toNat), 0) := by
  unfold sw; rw [if_neg (by simp [h]), if_neg (by omega)]
def rowE (n : Int) : Int → List Int → Int
  | _, [] => 0
  | last, x :: l => if x < 0 ∨ n ≤ x then 3 else if x ≤ last then 4 else rowE n x l
def gE (n : Int) : List (List Int) → Int
  | [] => 0
  | l :: g => if rowE n (-1) l ≠ 0 then rowE n (-1) l else gE n g
def gtot : List (List Int) → Nat
  | [] => 0
  | l :: g => l.length + gtot g
def gchk (g : List (List Int)) : Int := if 100 < g.length then 2 else if gE g.length g ≠ 0 then gE g.length g else if 600 < gtot g then 2 else 0
theorem qdC : ∀ {n last : Int} {l : List Int}, rowE n last l = 0 ↔ (l.Pairwise (· < ·) ∧ ∀ x ∈ l, last < x) ∧ ∀ x ∈ l, 0 ≤ x ∧ x < n
  | n, last, [] => by simp [rowE]
  | n, last, x :: l => by
    unfold rowE
    by_cases h1 : x < 0 ∨ n ≤ x
    · rw [if_pos h1]
      constructor
      · intro h; simp at h
      · rintro ⟨_, h⟩; have := h x (by simp); omega
    · rw [if_neg h1]
      by_cases h2 : x ≤ last
      · rw [if_pos h2]
        constructor
        · intro h; simp at h
        · rintro ⟨⟨_, h⟩, _⟩; have := h x (by simp); omega
      · rw [if_neg h2, qdC, List.pairwise_cons]
        constructor
        · rintro ⟨⟨a1, a2⟩, a3⟩
          refine ⟨⟨⟨a2, a1⟩, fun y hy => ?_⟩, fun y hy => ?_⟩
          · rcases List.mem_cons.1 hy with rfl | hy
            · omega
            · have := a2 y hy; omega
          · rcases List.mem_cons.1 hy with rfl | hy
            · omega
            · exact a3 y hy
        · rintro ⟨⟨⟨a1, a2⟩, a3⟩, a4⟩
          exact ⟨⟨a2, a1⟩, fun y hy => a4 y (by simp [hy])⟩
theorem qdD {n last : Int} : ∀ {l : List Int}, -1 ≤ last → last < n → rowE n last l = 0 → last + 1 + l.length ≤ n
  | [], h1, h2, _ => by simp; omega
  | x :: l, h1, h2, h => by
    unfold rowE at h
    split at h
    · simp at h
    · split at h
      · simp at h
      · have := qdD (l := l) (by omega) (by omega) h
        rw [List.length_cons]; omega
theorem qj2 {n : Int} : ∀ {g : List (List Int)}, gE n g = 0 ↔ ∀ l ∈ g, rowE n (-1) l = 0
  | [] => by simp [gE]
  | l :: g => by
    unfold gE
    by_cases h : rowE n (-1) l = 0
    · rw [if_neg (by simp [h]), qj2]; simp [h]
    · rw [if_pos h]; simp [h]
def Gr (g : List (List Int)) : Prop := g.length ≤ 100 ∧ (∀ l ∈ g, l.Pairwise (· < ·) ∧ ∀ x ∈ l, 0 ≤ x ∧ x < g.length) ∧ gtot g ≤ 600
theorem qcG {g : List (List Int)} : gchk g = 0 ↔ Gr g := by
  unfold gchk Gr
  by_cases h1 : 100 < g.length
  · rw [if_pos h1]; simp; omega
  · rw [if_neg h1]
    by_cases h2 : gE g.length g = 0
    · rw [if_neg (by simp [h2])]
      have h3 := qj2.1 h2
      have h4 : ∀ l ∈ g, l.Pairwise (· < ·) ∧ ∀ x ∈ l, 0 ≤ x ∧ x < (g.length : Int) := fun l hl => by
        have := qdC.1 (h3 l hl)
        exact ⟨this.1.1, this.2⟩
      by_cases h5 : 600 < gtot g
      · rw [if_pos h5]; simp; omega
      · rw [if_neg h5]
        exact ⟨fun _ => ⟨by omega, h4, by omega⟩, fun _ => rfl⟩
    · rw [if_pos h2]
      refine ⟨fun h => absurd h h2, fun h => absurd (qj2.2 fun l hl => qdC.2 ⟨⟨(h.2.1 l hl).1, fun x hx => ?_⟩, (h.2.1 l hl).2⟩) h2⟩
      have := (h.2.1 l hl).2 x hx; omega
theorem qhs {g : List (List Int)} (h : Gr g) {l : List Int} (hl : l ∈ g) : l.length ≤ 100 := by
  have h1 := (h.2.1 l hl).2
  have h2 : rowE g.length (-1) l = 0 := qdC.2 ⟨⟨(h.2.1 l hl).1, fun x hx => by have := h1 x hx; omega⟩, h1⟩
  have := qdD (by omega) (by omega) h2
  have := h.1
  omega
theorem qgC {F : Nat} {rec38 : (Int × Int) → Option Int} {g : List (List Int)} {m i : Int} {l : List Int} (hg : g.length ≤ 100) : ∀ (k j : Nat) (last : Int), 102 < k + j → (j : Int) ≤ last + 1 → last < g.length → -1 ≤ last →
    kq F rec38 g m i l k (last, (j : Int)) = if rowE g.length last (l.drop j) ≠ 0 then some (rowE g.length last (l.drop j)) else vr F rec38 m i l
  | 0, j, last, h, h1, h2, h3 => by omega
  | k + 1, j, last, h, h1, h2, h3 => by
    show vq F rec38 g m i l (kq F rec38 g m i l k) last (j : Int) = _
    unfold vq
    by_cases hlt : j < l.length
    · rw [if_pos (by simp; omega), qQ, List.getElem?_eq_getElem hlt, List.drop_eq_getElem_cons hlt]
      simp only [Option.bind_some]
      unfold rowE
      by_cases c1 : l[j] < 0 ∨ (g.length : Int) ≤ l[j]
      · rw [if_pos (by simpa using c1), if_pos c1, if_pos (by decide)]
      · rw [if_neg (by simpa using c1), if_neg c1]
        by_cases c2 : l[j] ≤ last
        · rw [if_pos (by simpa using c2), if_pos c2, if_pos (by decide)]
        · rw [if_neg (by simpa using c2), if_neg c2, qG (by omega)]
          exact qgC hg k (j + 1) l[j] (by omega) (by omega) (by omega) (by omega)
    · rw [if_neg (by simp; omega), List.drop_eq_nil_of_le (by omega)]
      rw [if_neg (by simp [rowE])]
theorem qeV {F : Nat} (hF : 1000 ≤ F) {g : List (List Int)} (hg : g.length ≤ 100) : ∀ (k i : Nat) (m : Nat), g.length < k + i → i ≤ g.length → m ≤ 100 * i →
    qL F g k ((m : Int), (i : Int)) = if gE g.length (g.drop i) ≠ 0 then some (gE g.length (g.drop i)) else if 600 < m + gtot (g.drop i) then some 2 else some 0
  | 0, _, _, _, _, _ => by omega
  | k + 1, i, m, h, hi, hm => by
    show vp F g (qL F g k) (m : Int) (i : Int) = _
    unfold vp
    by_cases hlt : i < g.length
    · rw [if_pos (by simp; omega), qQ, List.getElem?_eq_getElem hlt, List.drop_eq_getElem_cons hlt]
      simp only [Option.bind_some]
      have hin := qgC (F := F) (rec38 := qL F g k) (m := (m : Int)) (i := (i : Int)) (l := g[i]) hg F 0 (-1) (by omega) (by omega) (by omega) (by omega)
      rw [List.drop_zero, show ((0 : Nat) : Int) = 0 from rfl] at hin
      rw [hin]
      unfold gE gtot
      by_cases hr : rowE g.length (-1) g[i] = 0
      · have hlen := qdD (by omega) (by omega) hr
        have e : (if rowE (g.length : Int) (-1) g[i] ≠ 0 then rowE (g.length : Int) (-1) g[i] else gE (g.length : Int) (g.drop (i + 1))) = gE (g.length : Int) (g.drop (i + 1)) := if_neg (by simp [hr])
        rw [if_neg (show ¬ rowE (g.length : Int) (-1) g[i] ≠ 0 by simp [hr]), e]
        unfold vr jB
        rw [vZ (by omega), qG (by omega), qeV hF hg k (i + 1) (m + g[i].length) (by omega) (by omega) (by omega), Nat.add_assoc]
      · rw [if_pos (by simpa using hr)]
        have e : (if rowE (g.length : Int) (-1) g[i] ≠ 0 then rowE (g.length : Int) (-1) g[i] else gE (g.length : Int) (g.drop (i + 1))) = rowE (g.length : Int) (-1) g[i] := if_pos hr
        rw [e, if_pos hr]
    · rw [if_neg (by simp; omega), List.drop_eq_nil_of_le (by omega)]
      unfold jA
      rw [if_neg (show ¬ gE (g.length : Int) [] ≠ 0 by simp [gE])]
      by_cases h6 : 600 < m
      · rw [if_pos (by simp; omega), if_pos (by simpa [gtot] using h6)]
      · rw [if_neg (by simp; omega), if_neg (by simpa [gtot] using h6)]
theorem qeM {F : Nat} (hF : 1000 ≤ F) {g : List (List Int)} : j3 F g = some (gchk g) := by
  unfold j3 gchk
  by_cases h : 100 < g.length
  · rw [if_pos (by simp; omega), if_pos h]
  · have := qeV hF (g := g) (by omega) F 0 0 (by omega) (by omega) (by omega)
    rw [List.drop_zero, Nat.zero_add, show ((0 : Nat) : Int) = 0 from rfl] at this
    rw [if_neg (by simp; omega), if_neg h, this]
    split
    · rfl
    · split <;> rfl
theorem qe9 {F : Nat} {rec138 : (Int × Int) → Option Int} {g : List (List Int)} {i m : Nat} {l : List Int} (hg : g.length ≤ 100) (hl : g[i]? = some l) (hm : m ≤ 100000) : ∀ (k j : Nat), 102 < k + j → j ≤ l.length → ((j : Int) ≤ (if 0 < j then l.getD (j - 1) 0 else -1) + 1) → ((if 0 < j then l.getD (j - 1) 0 else -1) < (g.length : Int)) →
    qM F rec138 g (i : Int) k (((m + j : Nat) : Int), (j : Int)) = if rowE g.length (if 0 < j then l.getD (j - 1) 0 else -1) (l.drop j) ≠ 0 then some (rowE g.length (if 0 < j then l.getD (j - 1) 0 else -1) (l.drop j)) else zv F rec138 (i : Int) ((m + l.length : Nat) : Int)
  | 0, j, h, hj, h1, h2 => by omega
  | k + 1, j, h, hj, h1, h2 => by
    have hg0 : 0 < g.length := by have := (List.getElem?_eq_some_iff.1 hl).1; omega
    show yr F rec138 g (i : Int) (qM F rec138 g (i : Int) k) ((m + j : Nat) : Int) (j : Int) = _
    unfold yr
    rw [qQ, hl]
    simp only [Option.bind_some]
    by_cases hlt : j < l.length
    · have hrec := qe9 (F := F) (rec138 := rec138) hg hl hm k (j + 1) (by omega) (by omega)
      have hgd : l.getD (j + 1 - 1) 0 = l[j] := by simp [List.getD, List.getElem?_eq_getElem hlt]
      rw [if_pos (show 0 < j + 1 by omega), hgd] at hrec
      rw [if_pos (by simp; omega), qQ, List.getElem?_eq_getElem hlt, List.drop_eq_getElem_cons hlt]
      simp only [Option.bind_some]
      unfold qbG rowE
      rw [qap (by omega) (by omega)]
      simp only [Option.bind_some]
      by_cases c1 : l[j] < 0 ∨ (g.length : Int) ≤ l[j]
      · rw [if_pos (by simp; omega), if_pos c1, if_pos (by decide)]
      · rw [if_neg (by simp; omega), if_neg c1]
        have hgo : zw F (qM F rec138 g (i : Int) k) ((m + j : Nat) : Int) (j : Int) false = (if rowE (g.length : Int) l[j] (l.drop (j + 1)) ≠ 0 then some (rowE (g.length : Int) l[j] (l.drop (j + 1))) else zv F rec138 (i : Int) ((m + l.length : Nat) : Int)) → (l[j] ≤ (if 0 < j then l.getD (j - 1) 0 else -1)) = False →
            zw F (qM F rec138 g (i : Int) k) ((m + j : Nat) : Int) (j : Int) false = if (if l[j] ≤ (if 0 < j then l.getD (j - 1) 0 else -1) then 4 else rowE (g.length : Int) l[j] (l.drop (j + 1))) ≠ 0 then some (if l[j] ≤ (if 0 < j then l.getD (j - 1) 0 else -1) then 4 else rowE (g.length : Int) l[j] (l.drop (j + 1))) else zv F rec138 (i : Int) ((m + l.length : Nat) : Int) := by
          intro h3 h4
          simp only [h4, if_false]
          exact h3
        have hnext : (¬ l[j] ≤ (if 0 < j then l.getD (j - 1) 0 else -1)) → zw F (qM F rec138 g (i : Int) k) ((m + j : Nat) : Int) (j : Int) false = if rowE (g.length : Int) l[j] (l.drop (j + 1)) ≠ 0 then some (rowE (g.length : Int) l[j] (l.drop (j + 1))) else zv F rec138 (i : Int) ((m + l.length : Nat) : Int) := by
          intro hn
          unfold zw
          rw [if_neg (by simp), qG (by omega), qG (by omega)]
          exact hrec (by omega) (by omega)
        by_cases hj0 : 0 < j
        · have hlt2 : j - 1 < l.length := by omega
          have hgd2 : l.getD (j - 1) 0 = l[j - 1] := by simp [List.getD, List.getElem?_eq_getElem hlt2]
          rw [if_pos (by simp; omega), qap (by omega) (by omega), qQ, List.getElem?_eq_getElem hlt2]
          simp only [Option.bind_some]
          by_cases c2 : l[j] ≤ l[j - 1]
          · rw [decide_eq_true c2, if_pos hj0, hgd2, if_pos c2, if_pos (by decide)]
            rfl
          · rw [decide_eq_false c2]
            exact hgo (hnext (by rw [if_pos hj0, hgd2]; exact c2)) (by rw [if_pos hj0, hgd2]; exact eq_false c2)
        · have : j = 0 := by omega
          subst this
          rw [if_neg (by simp)]
          exact hgo (hnext (by simp; omega)) (by simp; omega)
    · rw [if_neg (by simp; omega), List.drop_eq_nil_of_le (by omega), show m + j = m + l.length from by omega, if_neg (by simp [rowE])]
theorem qec {F : Nat} (hF : 1000 ≤ F) {g : List (List Int)} (hg : g.length ≤ 100) : ∀ (k i : Nat) (m : Nat), g.length < k + i → i ≤ g.length → m ≤ 100 * i →
    qu F g k ((m : Int), (i : Int)) = if gE g.length (g.drop i) ≠ 0 then some (gE g.length (g.drop i)) else if 600 < m + gtot (g.drop i) then some 2 else some 0
  | 0, _, _, _, _, _ => by omega
  | k + 1, i, m, h, hi, hm => by
    show yq F g (qu F g k) (m : Int) (i : Int) = _
    unfold yq
    by_cases hlt : i < g.length
    · rw [if_pos (by simp; omega), List.drop_eq_getElem_cons hlt]
      have hin := qe9 (F := F) (rec138 := qu F g k) (m := m) (i := i) (l := g[i]) hg (List.getElem?_eq_getElem hlt) (by omega) F 0 (by omega) (by omega) (by simp) (by simp; omega)
      rw [List.drop_zero, show ((0 : Nat) : Int) = 0 from rfl, Nat.add_zero, if_neg (show ¬ 0 < 0 by omega)] at hin
      rw [hin]
      unfold gE gtot
      by_cases hr : rowE g.length (-1) g[i] = 0
      · have hlen := qdD (by omega) (by omega) hr
        have e : (if rowE (g.length : Int) (-1) g[i] ≠ 0 then rowE (g.length : Int) (-1) g[i] else gE (g.length : Int) (g.drop (i + 1))) = gE (g.length : Int) (g.drop (i + 1)) := if_neg (by simp [hr])
        rw [if_neg (show ¬ rowE (g.length : Int) (-1) g[i] ≠ 0 by simp [hr]), e]
        unfold zv
        rw [qG (by omega), qec hF hg k (i + 1) (m + g[i].length) (by omega) (by omega) (by omega), Nat.add_assoc]
      · have e : (if rowE (g.length : Int) (-1) g[i] ≠ 0 then rowE (g.length : Int) (-1) g[i] else gE (g.length : Int) (g.drop (i + 1))) = rowE (g.length : Int) (-1) g[i] := if_pos hr
        rw [if_pos (by simpa using hr), e, if_pos hr]
    · rw [if_neg (by simp; omega), List.drop_eq_nil_of_le (by omega)]
      unfold jq
      rw [if_neg (show ¬ gE (g.length : Int) [] ≠ 0 by simp [gE])]
      by_cases h6 : 600 < m
      · rw [if_pos (by simp; omega), if_pos (by simpa [gtot] using h6)]
      · rw [if_neg (by simp; omega), if_neg (by simpa [gtot] using h6)]
theorem qed {F : Nat} (hF : 1000 ≤ F) {g : List (List Int)} : jv F g = some (gchk g) := by
  unfold jv gchk
  by_cases h : 100 < g.length
  · rw [if_pos (by simp; omega), if_pos h]
  · have := qec hF (g := g) (by omega) F 0 0 (by omega) (by omega) (by omega)
    rw [List.drop_zero, Nat.zero_add, show ((0 : Nat) : Int) = 0 from rfl] at this
    rw [if_neg (by simp; omega), if_neg h, this]
    split
    · rfl
    · split <;> rfl
def pkH (B : Int) (r : Nat) : List Int := if 0 < B then ga r else []
def pkF (g : List (List Int)) (i r : Nat) : List Int := if 0 < r then g.getD (i - r) [] else []
def pkW (g : List (List Int)) (B least : Int) (k i r : Nat) : List Int := pkH B r ++ enc (i : Int) (g.getD i []) (pkF g i r) (r : Int) least k
def bwy (f : Nat → List Int) : Nat → Nat × List Int
  | 0 => (0, f 0)
  | n + 1 => if (f (n + 1)).length < (bwy f n).2.length then (n + 1, f (n + 1)) else bwy f n
theorem qjM (f : Nat → List Int) : ∀ n : Nat, (bwy f n).1 ≤ n ∧ (bwy f n).2 = f (bwy f n).1
  | 0 => ⟨Nat.le_refl _, rfl⟩
  | n + 1 => by
    have := qjM f n
    unfold bwy
    split
    · exact ⟨Nat.le_refl _, rfl⟩
    · exact ⟨by omega, this.2⟩
theorem qid (f : Nat → List Int) : ∀ {n r : Nat}, r ≤ n → (bwy f n).2.length ≤ (f r).length
  | 0, r, h => by
    have : r = 0 := by omega
    subst this; exact Nat.le_refl _
  | n + 1, r, h => by
    unfold bwy
    by_cases hr : r = n + 1
    · subst hr
      split
      · exact Nat.le_refl _
      · omega
    · have := qid f (n := n) (r := r) (by omega)
      split
      · simp only; omega
      · exact this
def pkN (g : List (List Int)) (B least : Int) (k i : Nat) : Nat × List Int := bwy (pkW g B least k i) (min B.toNat i)
def pkA (g : List (List Int)) (B least : Int) (k : Nat) : Nat → List Int × List Int × List Int
  | 0 => ([], [], [])
  | n + 1 => ((pkA g B least k n).1 ++ (pkN g B least k n).2, (pkA g B least k n).2.1 ++ [((pkN g B least k n).1 : Int)], (pkA g B least k n).2.2 ++ [((pkA g B least k n).1.length : Int)])
def pkE (g : List (List Int)) (B least k : Int) : Int := if gchk g ≠ 0 then gchk g else if hcE B least k ≠ 0 then hcE B least k else if 8192 < (pkA g B least k.toNat g.length).1.length then 8 else 0
end Go.Proofs.YtnlodcokfndnmaaGreat
