/- Plain facts of what the functions of this seat compute. -/
import Derived.Test.YtmoikolponkmpaaGreatModels
import Derived.KernelRfl
import Derived.Lib.SlicesCompact
namespace Go.Proofs.YtmoikolponkmpaaGreat
open Go SX
variable {F : Nat} {rec68 : (List (Int × Int) × List Int × Int) → Option (List (Int × Int) × List Int)} {l : List Int} {least : Int} {o : List (Int × Int)} {rest : List Int} {i : Int}
variable {F : Nat} {x1 : Int} {x2 : List Int} {x5 : Int} {x6 x10 x13 : List Int} {x157 x161 : Int} {x156 x160 x164 x175 : List Int × List Int}
def byt (l : List Int) (k : Nat) : Int :=
  l.getD (8 * k) 0 * 128 + l.getD (8 * k + 1) 0 * 64 + l.getD (8 * k + 2) 0 * 32 + l.getD (8 * k + 3) 0 * 16 + l.getD (8 * k + 4) 0 * 8 + l.getD (8 * k + 5) 0 * 4 + l.getD (8 * k + 6) 0 * 2 + l.getD (8 * k + 7) 0
def pk (l : List Int) : List Int := (List.range ((l.length + 7) / 8)).map (byt l)
def Bit (l : List Int) : Prop := ∀ x ∈ l, x = 0 ∨ x = 1
theorem Bit.getD {l : List Int} (h : Bit l) (i : Nat) : l.getD i 0 = 0 ∨ l.getD i 0 = 1 := by
  by_cases hi : i < l.length
  · have := h l[i] (List.getElem_mem hi)
    simpa [List.getD, hi] using this
  · left
    simp [List.getD, List.getElem?_eq_none (Nat.le_of_not_lt hi)]
theorem jg {l : List Int} {i : Nat} (h : l.length ≤ i) : l.getD i 0 = 0 := by simp [List.getD, List.getElem?_eq_none h]
theorem qhZ (l : List Int) (x : Int) (i : Nat) : (l ++ [x]).getD i 0 = if i = l.length then x else l.getD i 0 := by
  by_cases h : i = l.length
  · subst h; simp [List.getD]
  · rw [if_neg h]
    by_cases h2 : i < l.length
    · simp [List.getD, List.getElem?_append_left h2]
    · rw [jg (by simp; omega), jg (by omega)]
theorem qfJ {l : List Int} (h : Bit l) (k : Nat) : 0 ≤ byt l k ∧ byt l k < 256 := by
  have h0 := h.getD (8 * k); have h1 := h.getD (8 * k + 1); have h2 := h.getD (8 * k + 2); have h3 := h.getD (8 * k + 3)
  have h4 := h.getD (8 * k + 4); have h5 := h.getD (8 * k + 5); have h6 := h.getD (8 * k + 6); have h7 := h.getD (8 * k + 7)
  unfold byt
  omega
theorem qgL {l : List Int} {x : Int} {k : Nat} (h : k ≠ l.length / 8) : byt (l ++ [x]) k = byt l k := by
  unfold byt
  simp only [qhZ]
  rw [if_neg (by omega), if_neg (by omega), if_neg (by omega), if_neg (by omega), if_neg (by omega), if_neg (by omega), if_neg (by omega), if_neg (by omega)]
theorem qjy {l : List Int} {x : Int} : byt (l ++ [x]) (l.length / 8) = byt l (l.length / 8) + x * 2 ^ (7 - l.length % 8) := by
  obtain ⟨k, hk⟩ : ∃ k, k = l.length / 8 := ⟨_, rfl⟩
  obtain ⟨r, hr⟩ : ∃ r, r = l.length % 8 := ⟨_, rfl⟩
  have hl : l.length = 8 * k + r := by omega
  have hr8 : r < 8 := by omega
  rw [← hk, ← hr]
  unfold byt
  simp only [qhZ, hl]
  have hg : ∀ j, r ≤ j → l.getD (8 * k + j) 0 = 0 := fun j hj => jg (by omega)
  have g0 := hg 0; have g1 := hg 1; have g2 := hg 2; have g3 := hg 3; have g4 := hg 4; have g5 := hg 5; have g6 := hg 6; have g7 := hg 7
  rw [Nat.add_zero] at g0
  rcases (by omega : r = 0 ∨ r = 1 ∨ r = 2 ∨ r = 3 ∨ r = 4 ∨ r = 5 ∨ r = 6 ∨ r = 7) with rfl | rfl | rfl | rfl | rfl | rfl | rfl | rfl
  · rw [show (2 : Int) ^ (7 - 0) = 128 from by decide]
    rw [if_pos (by omega), if_neg (by omega), if_neg (by omega), if_neg (by omega), if_neg (by omega), if_neg (by omega), if_neg (by omega), if_neg (by omega)]
    have e0 := g0 (by omega)
    have e1 := g1 (by omega)
    have e2 := g2 (by omega)
    have e3 := g3 (by omega)
    have e4 := g4 (by omega)
    have e5 := g5 (by omega)
    have e6 := g6 (by omega)
    have e7 := g7 (by omega)
    omega
  · rw [show (2 : Int) ^ (7 - 1) = 64 from by decide]
    rw [if_neg (by omega), if_pos (by omega), if_neg (by omega), if_neg (by omega), if_neg (by omega), if_neg (by omega), if_neg (by omega), if_neg (by omega)]
    have e1 := g1 (by omega)
    have e2 := g2 (by omega)
    have e3 := g3 (by omega)
    have e4 := g4 (by omega)
    have e5 := g5 (by omega)
    have e6 := g6 (by omega)
    have e7 := g7 (by omega)
    omega
  · rw [show (2 : Int) ^ (7 - 2) = 32 from by decide]
    rw [if_neg (by omega), if_neg (by omega), if_pos (by omega), if_neg (by omega), if_neg (by omega), if_neg (by omega), if_neg (by omega), if_neg (by omega)]
    have e2 := g2 (by omega)
    have e3 := g3 (by omega)
    have e4 := g4 (by omega)
    have e5 := g5 (by omega)
    have e6 := g6 (by omega)
    have e7 := g7 (by omega)
    omega
  · rw [show (2 : Int) ^ (7 - 3) = 16 from by decide]
    rw [if_neg (by omega), if_neg (by omega), if_neg (by omega), if_pos (by omega), if_neg (by omega), if_neg (by omega), if_neg (by omega), if_neg (by omega)]
    have e3 := g3 (by omega)
    have e4 := g4 (by omega)
    have e5 := g5 (by omega)
    have e6 := g6 (by omega)
    have e7 := g7 (by omega)
    omega
  · rw [show (2 : Int) ^ (7 - 4) = 8 from by decide]
    rw [if_neg (by omega), if_neg (by omega), if_neg (by omega), if_neg (by omega), if_pos (by omega), if_neg (by omega), if_neg (by omega), if_neg (by omega)]
    have e4 := g4 (by omega)
    have e5 := g5 (by omega)
    have e6 := g6 (by omega)
    have e7 := g7 (by omega)
    omega
  · rw [show (2 : Int) ^ (7 - 5) = 4 from by decide]
    rw [if_neg (by omega), if_neg (by omega), if_neg (by omega), if_neg (by omega), if_neg (by omega), if_pos (by omega), if_neg (by omega), if_neg (by omega)]
    have e5 := g5 (by omega)
    have e6 := g6 (by omega)
    have e7 := g7 (by omega)
    omega
  · rw [show (2 : Int) ^ (7 - 6) = 2 from by decide]
    rw [if_neg (by omega), if_neg (by omega), if_neg (by omega), if_neg (by omega), if_neg (by omega), if_neg (by omega), if_pos (by omega), if_neg (by omega)]
    have e6 := g6 (by omega)
    have e7 := g7 (by omega)
    omega
  · rw [show (2 : Int) ^ (7 - 7) = 1 from by decide]
    rw [if_neg (by omega), if_neg (by omega), if_neg (by omega), if_neg (by omega), if_neg (by omega), if_neg (by omega), if_neg (by omega), if_pos (by omega)]
    have e7 := g7 (by omega)
    omega
theorem irem8 (n : Nat) : irem (n : Int) 8 = ((n % 8 : Nat) : Int) := by
  unfold irem; rw [Int.tmod_eq_emod_of_nonneg (by omega)]; omega
theorem iquo8 {n : Nat} (h : n ≤ 9223372036854775807) : iquo .i64 (n : Int) 8 = ((n / 8 : Nat) : Int) := by
  unfold iquo; rw [Int.tdiv_eq_ediv_of_nonneg (by omega), wrap_i64 (by omega) (by omega)]; omega
theorem qlq {l : List Int} : byt l (l.length / 8) % 2 ^ (8 - l.length % 8) = 0 := by
  obtain ⟨k, hk⟩ : ∃ k, k = l.length / 8 := ⟨_, rfl⟩
  obtain ⟨r, hr⟩ : ∃ r, r = l.length % 8 := ⟨_, rfl⟩
  have hl : l.length = 8 * k + r := by omega
  have hr8 : r < 8 := by omega
  rw [← hk, ← hr]
  unfold byt
  have hg : ∀ j, r ≤ j → l.getD (8 * k + j) 0 = 0 := fun j hj => jg (by omega)
  have g0 := hg 0; have g1 := hg 1; have g2 := hg 2; have g3 := hg 3; have g4 := hg 4; have g5 := hg 5; have g6 := hg 6; have g7 := hg 7
  rw [Nat.add_zero] at g0
  rcases (by omega : r = 0 ∨ r = 1 ∨ r = 2 ∨ r = 3 ∨ r = 4 ∨ r = 5 ∨ r = 6 ∨ r = 7) with rfl | rfl | rfl | rfl | rfl | rfl | rfl | rfl
  · have e0 := g0 (by omega); have e1 := g1 (by omega); have e2 := g2 (by omega); have e3 := g3 (by omega); have e4 := g4 (by omega); have e5 := g5 (by omega); have e6 := g6 (by omega); have e7 := g7 (by omega)
    rw [show (2 : Int) ^ (8 - 0) = 256 from by decide]; omega
  · have e1 := g1 (by omega); have e2 := g2 (by omega); have e3 := g3 (by omega); have e4 := g4 (by omega); have e5 := g5 (by omega); have e6 := g6 (by omega); have e7 := g7 (by omega)
    rw [show (2 : Int) ^ (8 - 1) = 128 from by decide]; omega
  · have e2 := g2 (by omega); have e3 := g3 (by omega); have e4 := g4 (by omega); have e5 := g5 (by omega); have e6 := g6 (by omega); have e7 := g7 (by omega)
    rw [show (2 : Int) ^ (8 - 2) = 64 from by decide]; omega
  · have e3 := g3 (by omega); have e4 := g4 (by omega); have e5 := g5 (by omega); have e6 := g6 (by omega); have e7 := g7 (by omega)
    rw [show (2 : Int) ^ (8 - 3) = 32 from by decide]; omega
  · have e4 := g4 (by omega); have e5 := g5 (by omega); have e6 := g6 (by omega); have e7 := g7 (by omega)
    rw [show (2 : Int) ^ (8 - 4) = 16 from by decide]; omega
  · have e5 := g5 (by omega); have e6 := g6 (by omega); have e7 := g7 (by omega)
    rw [show (2 : Int) ^ (8 - 5) = 8 from by decide]; omega
  · have e6 := g6 (by omega); have e7 := g7 (by omega)
    rw [show (2 : Int) ^ (8 - 6) = 4 from by decide]; omega
  · have e7 := g7 (by omega)
    rw [show (2 : Int) ^ (8 - 7) = 2 from by decide]; omega
theorem qoT {l : List Int} (h : l.length % 8 = 0) : byt l (l.length / 8) = 0 := by
  unfold byt
  rw [jg (by omega), jg (by omega), jg (by omega), jg (by omega), jg (by omega), jg (by omega), jg (by omega), jg (by omega)]
  rfl
theorem qnw (k : IntKind) (a b : Int) : ior k a b = ior k b a := by unfold ior; rw [BitVec.or_comm]
def room (l : List Int) : List Int := (List.range (l.length / 8 + 1)).map (byt l)
theorem qlP {F : Nat} {l : List Int} (hl : Bit l) {x : Int} (hx : x = 0 ∨ x = 1) (hn : l.length ≤ 1000000) : kD F (l.length : Int) x (room l) = some (((l.length + 1 : Nat) : Int), pk (l ++ [x])) := by
  unfold kD
  rw [iquo8 (by omega), irem8]
  have hg : (room l)[l.length / 8]? = some (byt l (l.length / 8)) := by simp [room]
  rw [qM, hg]
  simp only [Option.bind_some]
  have hc : decide ((0 : Int) ≤ ((l.length % 8 : Nat) : Int)) = true := decide_eq_true (by omega)
  rw [hc]
  simp only [chk, if_true, lett, Int.toNat_natCast]
  have hb := qfJ hl (l.length / 8)
  have hr8 : l.length % 8 < 8 := Nat.mod_lt _ (by decide)
  have e1 : ishl .u64 x 7 = x * 128 := by
    have := qgS (a := x) (m := 7) (by decide)
    rw [show ((7 : Nat) : Int) = 7 from rfl] at this
    rw [this]
    rcases hx with rfl | rfl <;> decide
  have e2 : iconv .u8 (x * 128) = x * 128 := ql5 (by omega) (by omega)
  have e3 : ishr .u8 (x * 128) ((l.length % 8 : Nat) : Int) = x * 2 ^ (7 - l.length % 8) := by
    rw [qiZ (by simp only [IntKind.bits]; omega)]
    have key : ∀ r : Fin 8, ((0 : Int) * 128 / 2 ^ r.val = 0 * 2 ^ (7 - r.val)) ∧ ((1 : Int) * 128 / 2 ^ r.val = 1 * 2 ^ (7 - r.val)) := by decide
    have := key ⟨l.length % 8, hr8⟩
    rcases hx with rfl | rfl
    · exact this.1
    · exact this.2
  have key2 : ∀ r : Fin 8, (1 : Int) ≤ 2 ^ (7 - r.val) ∧ (2 : Int) ^ (8 - r.val) = 2 * 2 ^ (7 - r.val) ∧ (2 : Int) ^ (7 - r.val) ≤ 128 ∧ (256 : Int) % 2 ^ (8 - r.val) = 0 ∧ (2 : Int) ^ (8 - r.val) ≤ 256 := by decide
  have hk2 := key2 ⟨l.length % 8, hr8⟩
  simp only at hk2
  have hat := qjy (l := l) (x := x)
  have hb2 : Bit (l ++ [x]) := by
    intro y hy
    rcases List.mem_append.1 hy with h | h
    · exact hl y h
    · simp at h; subst h; exact hx
  have hbb := qfJ hb2 (l.length / 8)
  have e4 : ior .u8 (byt l (l.length / 8)) (x * 2 ^ (7 - l.length % 8)) = byt (l ++ [x]) (l.length / 8) := by
    rw [qnw, qiY (m := 8 - l.length % 8) ?_ ?_ hb.1 qlq rfl ?_]
    · rw [hat]; omega
    · rcases hx with rfl | rfl <;> omega
    · rcases hx with rfl | rfl <;> omega
    · simp only [IntKind.bits]
      rw [show (2 : Int) ^ 8 = 256 from by decide]
      omega
  rw [e1, e2, e3, e4, qW (by omega) (by omega)]
  congr 2
  unfold room pk
  have hlen : ((l ++ [x]).length + 7) / 8 = l.length / 8 + 1 := by simp; omega
  rw [hlen]
  apply List.ext_getElem?
  intro k
  rw [List.getElem?_set]
  by_cases hk : l.length / 8 = k
  · subst hk; simp
  · rw [if_neg hk]
    simp only [List.getElem?_map]
    by_cases h3 : k < l.length / 8 + 1
    · rw [List.getElem?_range h3]
      simp only [Option.map_some]
      rw [qgL (fun e => hk e.symm)]
    · rw [List.getElem?_eq_none (by simpa using h3)]
      rfl
theorem qkD {F : Nat} {l : List Int} (hl : Bit l) {x : Int} (hx : x = 0 ∨ x = 1) (hn : l.length ≤ 1000000) : kJ F (l.length : Int) (pk l) x = some (((l.length + 1 : Nat) : Int), pk (l ++ [x])) := by
  unfold kJ
  rw [irem8]
  by_cases h : l.length % 8 = 0
  · have h1 : ((((l.length % 8 : Nat) : Int) : Int) == 0) = true := by simp [h]
    simp only [h1, if_true]
    rw [vQ (by simp [pk]; omega)]
    simp only [Option.bind_some]
    have : pk l ++ [0] = room l := by
      unfold pk room
      rw [show (l.length + 7) / 8 = l.length / 8 from by omega, List.range_succ, List.map_append]
      simp [qoT h]
    rw [this]
    exact qlP hl hx hn
  · have h1 : ((((l.length % 8 : Nat) : Int) : Int) == 0) = false := by simp; omega
    simp only [h1, Bool.false_eq_true, if_false]
    have : pk l = room l := by
      unfold pk room
      rw [show (l.length + 7) / 8 = l.length / 8 + 1 from by omega]
    rw [this]
    exact qlP hl hx hn
def bitAt (b : List Int) (i : Nat) : Int := b.getD (i / 8) 0 / 2 ^ (7 - i % 8) % 2
def bl (b : List Int) (n : Nat) : List Int := (List.range n).map (bitAt b)
theorem qhT (b : List Int) (i : Nat) : bitAt b i = 0 ∨ bitAt b i = 1 := by unfold bitAt; omega
theorem qfH (b : List Int) (n : Nat) : Bit (bl b n) := by
  intro x hx
  obtain ⟨i, _, rfl⟩ := List.mem_map.1 hx
  exact qhT b i
theorem yN (b : List Int) (n : Nat) : (bl b n).length = n := by simp [bl]
def U8s (l : List Int) : Prop := ∀ n ∈ l, 0 ≤ n ∧ n < 256
theorem qpX {F : Nat} {n : Int} {b : List Int} (hb : U8s b) {i : Nat} (hi : i / 8 < b.length) (hm : i ≤ 1000000) : vH F n b (i : Int) = some (bitAt b i) := by
  unfold vH
  rw [iquo8 (by omega), irem8, qM]
  have hg : b[i / 8]? = some b[i / 8] := by simp [hi]
  rw [hg]
  simp only [Option.bind_some]
  have e1 : isub .i64 7 ((i % 8 : Nat) : Int) = ((7 - i % 8 : Nat) : Int) := by rw [jw (by omega) (by omega)]; omega
  rw [e1]
  have hc : decide ((0 : Int) ≤ ((7 - i % 8 : Nat) : Int)) = true := decide_eq_true (by omega)
  rw [hc]
  simp only [chk, if_true, lett]
  have hx := hb b[i / 8] (List.getElem_mem hi)
  rw [qiZ (by simp only [IntKind.bits]; omega)]
  have hp : (1 : Int) ≤ 2 ^ (7 - i % 8) := by
    have key : ∀ r : Fin 8, (1 : Int) ≤ 2 ^ (7 - r.val) := by decide
    exact key ⟨i % 8, Nat.mod_lt _ (by decide)⟩
  have h1 : 0 ≤ b[i / 8] / 2 ^ (7 - i % 8) := Int.ediv_nonneg hx.1 (by omega)
  have h2 : b[i / 8] / 2 ^ (7 - i % 8) ≤ b[i / 8] := Int.ediv_le_self _ hx.1
  have e2 : iconv .u64 (b[i / 8] / 2 ^ (7 - i % 8)) = b[i / 8] / 2 ^ (7 - i % 8) := kI h1 (by omega)
  rw [e2]
  have e3 := qev (k := .u64) (a := b[i / 8] / 2 ^ (7 - i % 8)) (m := 1) h1 (by simp only [IntKind.bits]; rw [show (2 : Int) ^ 64 = 18446744073709551616 from by decide]; omega) (by decide) rfl
  rw [show ((2 ^ 1 - 1 : Nat) : Int) = 1 from rfl, show (2 : Int) ^ 1 = 2 from rfl] at e3
  rw [e3]
  unfold bitAt
  simp [List.getD, hg]
theorem qgZ {F : Nat} {n : Int} {b : List Int} (hb : U8s b) {yy : (Int × List Int) → Int → Option ((Int × List Int) ⊕ Empty)} (hy : ∀ (l : List Int) x, Bit l → (x = 0 ∨ x = 1) → l.length ≤ 100000 → yy ((l.length : Int), pk l) x = some (.inl (((l.length + 1 : Nat) : Int), pk (l ++ [x])))) {to : Nat} (ht : to ≤ 8 * b.length) (hm : to ≤ 10000) :
    ∀ (k i : Nat) (l : List Int), to < k + i → i ≤ to → Bit l → l.length + (to - i) ≤ 100000 →
      zu F yy (to : Int) n b k ((i : Int), ((l.length : Int), pk l)) = some (.inl (((l.length + (to - i) : Nat) : Int), pk (l ++ (bl b to).drop i)))
  | 0, i, l, h, hi, _, _ => by omega
  | k + 1, i, l, h, hi, hl, hc => by
    have hstep : zu F yy (to : Int) n b (k + 1) ((i : Int), ((l.length : Int), pk l)) = vh F yy (to : Int) n b (zu F yy (to : Int) n b k) (i : Int) ((l.length : Int), pk l) := rfl
    rw [hstep]
    unfold vh
    by_cases hlt : i < to
    · have h1 : (i : Int) < (to : Int) := by omega
      simp only [h1, decide_true, if_true]
      rw [qpX hb (by omega) (by omega)]
      simp only [Option.bind_some]
      have hx := qhT b i
      rw [hy l _ hl hx (by omega)]
      simp only [Option.bind_some, Sum.elim_inl]
      rw [qW (by omega) (by omega), show (i : Int) + 1 = ((i + 1 : Nat) : Int) from by omega]
      have hl2 : Bit (l ++ [bitAt b i]) := by
        intro y hy2
        rcases List.mem_append.1 hy2 with h | h
        · exact hl y h
        · simp at h; subst h; exact hx
      have := qgZ (F := F) (n := n) hb hy ht hm k (i + 1) (l ++ [bitAt b i]) (by omega) (by omega) hl2 (by simp; omega)
      rw [show (l ++ [bitAt b i]).length = l.length + 1 from by simp] at this
      rw [this]
      have hd : (bl b to).drop i = bitAt b i :: (bl b to).drop (i + 1) := by
        rw [List.drop_eq_getElem_cons (by rw [yN]; exact hlt)]
        congr 1
        simp [bl]
      rw [hd, List.append_assoc, show l.length + 1 + (to - (i + 1)) = l.length + (to - i) from by omega]
      rfl
    · have h1 : ¬ (i : Int) < (to : Int) := by omega
      simp only [h1, decide_false, Bool.false_eq_true, if_false]
      rw [List.drop_eq_nil_of_le (by rw [yN]; omega), List.append_nil, show l.length + (to - i) = l.length from by omega]
structure Ok (n : Nat) (b : List Int) : Prop where
  max : n ≤ 8192
  len : b.length = (n + 7) / 8
  low : n % 8 ≠ 0 → b.getD (n / 8) 0 % 2 ^ (8 - n % 8) = 0
theorem qoS {b : List Int} {n i : Nat} : (bl b n).getD i 0 = if i < n then bitAt b i else 0 := by
  by_cases h : i < n
  · rw [if_pos h]; simp [bl, List.getD, h]
  · rw [if_neg h]; exact jg (by rw [yN]; omega)
theorem bits8 {x : Int} (h0 : 0 ≤ x) (h1 : x < 256) : x / 128 % 2 * 128 + x / 64 % 2 * 64 + x / 32 % 2 * 32 + x / 16 % 2 * 16 + x / 8 % 2 * 8 + x / 4 % 2 * 4 + x / 2 % 2 * 2 + x / 1 % 2 = x := by omega
theorem qll (b : List Int) (k : Nat) : bitAt b (8 * k) = b.getD k 0 / 128 % 2 ∧ bitAt b (8 * k + 1) = b.getD k 0 / 64 % 2 ∧ bitAt b (8 * k + 2) = b.getD k 0 / 32 % 2 ∧ bitAt b (8 * k + 3) = b.getD k 0 / 16 % 2 ∧
    bitAt b (8 * k + 4) = b.getD k 0 / 8 % 2 ∧ bitAt b (8 * k + 5) = b.getD k 0 / 4 % 2 ∧ bitAt b (8 * k + 6) = b.getD k 0 / 2 % 2 ∧ bitAt b (8 * k + 7) = b.getD k 0 / 1 % 2 := by
  unfold bitAt
  rw [show 8 * k / 8 = k from by omega, show (8 * k + 1) / 8 = k from by omega, show (8 * k + 2) / 8 = k from by omega, show (8 * k + 3) / 8 = k from by omega, show (8 * k + 4) / 8 = k from by omega, show (8 * k + 5) / 8 = k from by omega, show (8 * k + 6) / 8 = k from by omega, show (8 * k + 7) / 8 = k from by omega,
    show 8 * k % 8 = 0 from by omega, show (8 * k + 1) % 8 = 1 from by omega, show (8 * k + 2) % 8 = 2 from by omega, show (8 * k + 3) % 8 = 3 from by omega, show (8 * k + 4) % 8 = 4 from by omega, show (8 * k + 5) % 8 = 5 from by omega, show (8 * k + 6) % 8 = 6 from by omega, show (8 * k + 7) % 8 = 7 from by omega]
  exact ⟨rfl, rfl, rfl, rfl, rfl, rfl, rfl, rfl⟩
theorem qqc {n : Nat} {b : List Int} (hb : U8s b) (h : Ok n b) {k : Nat} (hk : k < (n + 7) / 8) : byt (bl b n) k = b.getD k 0 := by
  have hx : 0 ≤ b.getD k 0 ∧ b.getD k 0 < 256 := by
    have hlt : k < b.length := by rw [h.len]; exact hk
    have := hb b[k] (List.getElem_mem hlt)
    simpa [List.getD, hlt] using this
  obtain ⟨c0, c1, c2, c3, c4, c5, c6, c7⟩ := qll b k
  unfold byt
  simp only [qoS]
  rw [c0, c1, c2, c3, c4, c5, c6, c7]
  by_cases hf : 8 * k + 8 ≤ n
  · rw [if_pos (by omega), if_pos (by omega), if_pos (by omega), if_pos (by omega), if_pos (by omega), if_pos (by omega), if_pos (by omega), if_pos (by omega)]
    exact bits8 hx.1 hx.2
  · have hkn : n / 8 = k := by omega
    obtain ⟨r, hr⟩ : ∃ r, r = n % 8 := ⟨_, rfl⟩
    have hn : n = 8 * k + r := by omega
    have hlow := h.low (by omega)
    rw [hkn, ← hr] at hlow
    generalize b.getD k 0 = x at hx hlow
    rcases (by omega : r = 1 ∨ r = 2 ∨ r = 3 ∨ r = 4 ∨ r = 5 ∨ r = 6 ∨ r = 7) with rfl | rfl | rfl | rfl | rfl | rfl | rfl
    · rw [if_pos (by omega), if_neg (by omega), if_neg (by omega), if_neg (by omega), if_neg (by omega), if_neg (by omega), if_neg (by omega), if_neg (by omega)]
      rw [show (2 : Int) ^ (8 - 1) = 128 from by decide] at hlow
      omega
    · rw [if_pos (by omega), if_pos (by omega), if_neg (by omega), if_neg (by omega), if_neg (by omega), if_neg (by omega), if_neg (by omega), if_neg (by omega)]
      rw [show (2 : Int) ^ (8 - 2) = 64 from by decide] at hlow
      omega
    · rw [if_pos (by omega), if_pos (by omega), if_pos (by omega), if_neg (by omega), if_neg (by omega), if_neg (by omega), if_neg (by omega), if_neg (by omega)]
      rw [show (2 : Int) ^ (8 - 3) = 32 from by decide] at hlow
      omega
    · rw [if_pos (by omega), if_pos (by omega), if_pos (by omega), if_pos (by omega), if_neg (by omega), if_neg (by omega), if_neg (by omega), if_neg (by omega)]
      rw [show (2 : Int) ^ (8 - 4) = 16 from by decide] at hlow
      omega
    · rw [if_pos (by omega), if_pos (by omega), if_pos (by omega), if_pos (by omega), if_pos (by omega), if_neg (by omega), if_neg (by omega), if_neg (by omega)]
      rw [show (2 : Int) ^ (8 - 5) = 8 from by decide] at hlow
      omega
    · rw [if_pos (by omega), if_pos (by omega), if_pos (by omega), if_pos (by omega), if_pos (by omega), if_pos (by omega), if_neg (by omega), if_neg (by omega)]
      rw [show (2 : Int) ^ (8 - 6) = 4 from by decide] at hlow
      omega
    · rw [if_pos (by omega), if_pos (by omega), if_pos (by omega), if_pos (by omega), if_pos (by omega), if_pos (by omega), if_pos (by omega), if_neg (by omega)]
      rw [show (2 : Int) ^ (8 - 7) = 2 from by decide] at hlow
      omega
theorem qib {n : Nat} {b : List Int} (hb : U8s b) (h : Ok n b) : pk (bl b n) = b := by
  unfold pk
  rw [yN]
  apply List.ext_getElem?
  intro k
  by_cases hk : k < (n + 7) / 8
  · rw [List.getElem?_map, List.getElem?_range hk]
    simp only [Option.map_some]
    rw [qqc hb h hk]
    have hlt : k < b.length := by rw [h.len]; exact hk
    simp [List.getD, hlt]
  · rw [List.getElem?_eq_none (by simpa using hk), List.getElem?_eq_none (by rw [h.len]; omega)]
def chkOf (n : Int) (b : List Int) : Int :=
  if n < 0 ∨ 8192 < n then 3 else if (b.length : Int) ≠ (n + 7) / 8 then 1 else if n % 8 ≠ 0 ∧ b.getD (n.toNat / 8) 0 % 2 ^ (8 - n.toNat % 8) ≠ 0 then 1 else 0
theorem vG {n : Int} {b : List Int} (h : chkOf n b = 0) : ∃ m : Nat, n = m ∧ Ok m b := by
  unfold chkOf at h
  split at h
  · simp at h
  · rename_i h1
    split at h
    · simp at h
    · rename_i h2
      split at h
      · simp at h
      · rename_i h3
        obtain ⟨m, rfl⟩ := Int.eq_ofNat_of_zero_le (show 0 ≤ n by omega)
        refine ⟨m, rfl, by omega, by omega, fun hm => ?_⟩
        simp only [Int.toNat_natCast] at h3
        by_cases hz : b.getD (m / 8) 0 % 2 ^ (8 - m % 8) = 0
        · exact hz
        · exact absurd ⟨by omega, hz⟩ h3
theorem qb5 {F : Nat} {n : Int} {b : List Int} (hb : U8s b) (h1 : -9223372036854775808 ≤ n) (h2 : n < 9223372036854775808) (hm : b.length ≤ 9223372036854775807) : zE F n b = some (chkOf n b) := by
  unfold zE chkOf
  by_cases c1 : n < 0 ∨ 8192 < n
  · have : (decide (n < 0) || decide (8192 < n)) = true := by simpa using c1
    rw [if_pos this, if_pos c1]
  · have : (decide (n < 0) || decide (8192 < n)) = false := by simpa using c1
    rw [this, if_neg c1]
    simp only [Bool.false_eq_true, if_false]
    obtain ⟨m, rfl⟩ := Int.eq_ofNat_of_zero_le (show 0 ≤ n by omega)
    have e1 : iquo .i64 (iadd .i64 (m : Int) 7) 8 = ((m : Int) + 7) / 8 := by
      rw [qW (by omega) (by omega), show (m : Int) + 7 = ((m + 7 : Nat) : Int) from by omega, iquo8 (by omega)]
      omega
    rw [e1, irem8]
    by_cases c2 : (b.length : Int) ≠ ((m : Int) + 7) / 8
    · have : ((b.length : Int) != ((m : Int) + 7) / 8) = true := by simpa using c2
      rw [if_pos this, if_pos c2]
    · have : ((b.length : Int) != ((m : Int) + 7) / 8) = false := by simpa using c2
      rw [this, if_neg c2]
      simp only [Bool.false_eq_true, if_false]
      by_cases c3 : m % 8 = 0
      · have : ((((m % 8 : Nat) : Int)) != 0) = false := by simp [c3]
        have hn : ¬ ((m : Int) % 8 ≠ 0 ∧ b.getD ((m : Int).toNat / 8) 0 % 2 ^ (8 - (m : Int).toNat % 8) ≠ 0) := fun h => h.1 (by omega)
        rw [this, if_neg hn]
        simp [vB]
      · have : ((((m % 8 : Nat) : Int)) != 0) = true := by simp; omega
        rw [this]
        simp only [if_true]
        have hlen : b.length = m / 8 + 1 := by omega
        have e2 : isub .i64 (b.length : Int) 1 = ((m / 8 : Nat) : Int) := by rw [jw (by omega) (by omega)]; omega
        have hg : b[m / 8]? = some b[m / 8] := by simp [hlen]
        rw [e2, qM, hg]
        simp only [Option.bind_some]
        have hc : decide ((0 : Int) ≤ ((m % 8 : Nat) : Int)) = true := decide_eq_true (by omega)
        rw [hc]
        simp only [chk, if_true]
        have hx := hb b[m / 8] (List.getElem_mem (by omega))
        have hgd : b.getD (m / 8) 0 = b[m / 8] := by simp [List.getD, hg]
        rw [Int.toNat_natCast, hgd]
        generalize b[m / 8] = x at hx
        have e3 : (ishl .u8 x ((m % 8 : Nat) : Int) != 0) = decide (x % 2 ^ (8 - m % 8) ≠ 0) := by
          have key : ishl .u8 x ((m % 8 : Nat) : Int) = (x * 2 ^ (m % 8)) % 256 := by
            unfold ishl
            have h : min (((m % 8 : Nat) : Int).toNat) (IntKind.bits .u8) = m % 8 := by simp [IntKind.bits]; omega
            rw [h, qgc]
          rw [key]
          rcases (by omega : m % 8 = 1 ∨ m % 8 = 2 ∨ m % 8 = 3 ∨ m % 8 = 4 ∨ m % 8 = 5 ∨ m % 8 = 6 ∨ m % 8 = 7) with h | h | h | h | h | h | h <;> rw [h]
          · rw [show (2 : Int) ^ 1 = 2 from rfl, show (2 : Int) ^ (8 - 1) = 128 from by decide]; by_cases hz : x % 128 = 0 <;> simp [hz] <;> omega
          · rw [show (2 : Int) ^ 2 = 4 from rfl, show (2 : Int) ^ (8 - 2) = 64 from by decide]; by_cases hz : x % 64 = 0 <;> simp [hz] <;> omega
          · rw [show (2 : Int) ^ 3 = 8 from rfl, show (2 : Int) ^ (8 - 3) = 32 from by decide]; by_cases hz : x % 32 = 0 <;> simp [hz] <;> omega
          · rw [show (2 : Int) ^ 4 = 16 from by decide]; try rw [show (2 : Int) ^ (8 - 4) = 16 from by decide]
            by_cases hz : x % 16 = 0 <;> simp [hz] <;> omega
          · rw [show (2 : Int) ^ 5 = 32 from by decide, show (2 : Int) ^ (8 - 5) = 8 from by decide]; by_cases hz : x % 8 = 0 <;> simp [hz] <;> omega
          · rw [show (2 : Int) ^ 6 = 64 from by decide, show (2 : Int) ^ (8 - 6) = 4 from by decide]; by_cases hz : x % 4 = 0 <;> simp [hz] <;> omega
          · rw [show (2 : Int) ^ 7 = 128 from by decide, show (2 : Int) ^ (8 - 7) = 2 from by decide]; by_cases hz : x % 2 = 0 <;> simp [hz] <;> omega
        rw [e3]
        unfold vB
        by_cases hz : x % 2 ^ (8 - m % 8) = 0
        · rw [if_neg (by simp [hz]), if_neg (by simp [hz])]
        · rw [if_pos (by simp [hz]), if_pos ⟨by omega, hz⟩]
theorem qkB (n : Nat) : qbU (n + 200) = some true := by kernel_rfl
theorem qm8 {F : Nat} {x : List Int} (h : x.length ≤ 1000000) : kB F x = some x := by
  unfold kB
  rw [vQ (by simp; omega)]
  rfl
theorem qnI {F : Nat} {n : Int} {b : List Int} (h : b.length ≤ 1000000) : qcK F n b = some (n, b) := by
  unfold qcK
  rw [qm8 h]
  rfl
theorem qlo {F : Nat} (hF : 20000 ≤ F) {n m : Nat} {a b : List Int} (ha : U8s a) (hb : U8s b) (oa : Ok n a) (ob : Ok m b) : jl F n a m b = some (((n + m : Nat) : Int), pk (bl a n ++ bl b m)) := by
  unfold jl
  have hal : a.length ≤ 1000000 := by rw [oa.len]; have := oa.max; omega
  rw [qnI hal]
  simp only [Option.bind_some, qan, vC]
  have hm := ob.max
  have hn := oa.max
  have := qgZ (F := F) (n := (m : Int)) hb (yy := fun (p : Int × List Int) (x53 : Int) => jm F p.1 p.2 x53) (fun l x hl hx hlen => by
    simp only [jm]
    rw [qkD hl hx (by omega)]
    rfl) (to := m) (by rw [ob.len]; omega) (by omega) F 0 (bl a n) (by omega) (by omega) (qfH a n) (by rw [yN]; omega)
  rw [yN, qib ha oa, List.drop_zero, Nat.sub_zero] at this
  rw [show ((0 : Nat) : Int) = 0 from rfl] at this
  have h2 : zu F (fun (x : Int × List Int) (x53 : Int) => match x with | (x45, x48) => jm F x45 x48 x53) (m : Int) (m : Int) b F (0, ((n : Int), a)) = some (.inl (((n + m : Nat) : Int), pk (bl a n ++ bl b m))) := this
  rw [h2]
  rfl
def joinOf (n : Int) (a : List Int) (m : Int) (b : List Int) : Int :=
  if chkOf n a ≠ 0 then chkOf n a else if chkOf m b ≠ 0 then chkOf m b else if 8192 < n + m then 8 else 0
def jn (n : Int) (a : List Int) (m : Int) (b : List Int) : Int × List Int × Int :=
  if joinOf n a m b ≠ 0 then (0, [], joinOf n a m b) else (n + m, pk (bl a n.toNat ++ bl b m.toNat), 0)
def I64 (n : Int) : Prop := -9223372036854775808 ≤ n ∧ n < 9223372036854775808
theorem qpb {F : Nat} (hF : 20000 ≤ F) {n m : Int} {a b : List Int} (ha : U8s a) (hb : U8s b) (hn : I64 n) (hm : I64 m) (la : a.length ≤ 9223372036854775807) (lb : b.length ≤ 9223372036854775807) : qbZ F n a m b = some (jn n a m b) := by
  unfold qbZ jn joinOf
  rw [qb5 ha hn.1 hn.2 la]
  simp only [Option.bind_some]
  by_cases h1 : chkOf n a = 0
  · obtain ⟨n', rfl, oa⟩ := vG h1
    have hb1 : (chkOf (n' : Int) a == 0) = true := by simp [h1]
    rw [if_pos hb1, qb5 hb hm.1 hm.2 lb]
    simp only [Option.bind_some]
    unfold jo
    by_cases h2 : chkOf m b = 0
    · obtain ⟨m', rfl, ob⟩ := vG h2
      have e1 : iadd .i64 (n' : Int) (m' : Int) = (n' : Int) + (m' : Int) := by
        have := oa.max; have := ob.max
        exact qW (by omega) (by omega)
      rw [e1, h1, h2]
      by_cases h3 : (8192 : Int) < (n' : Int) + (m' : Int)
      · simp [h3, yh]
      · simp only [h3, beq_self_eq_true, decide_false, Bool.and_false, Bool.false_eq_true, if_false, ne_eq, not_true_eq_false, yh, bne_self_eq_false]
        rw [qlo hF ha hb oa ob]
        simp
    · have hb2 : (chkOf m b == 0) = false := by simpa using h2
      have hb3 : (chkOf m b != 0) = true := by simpa using h2
      rw [hb2]
      simp only [Bool.false_and, Bool.false_eq_true, if_false, yh, hb3, if_true, h1, ne_eq, not_true_eq_false, h2, not_false_eq_true]
  · have hb1 : (chkOf n a == 0) = false := by simpa using h1
    have hb3 : (chkOf n a != 0) = true := by simpa using h1
    rw [hb1]
    simp only [Bool.false_eq_true, if_false, jo, hb1, Bool.false_and, yh, hb3, if_true, ne_eq, h1, not_false_eq_true]
def cutOf (n : Int) (b : List Int) (i j : Int) : Int := if chkOf n b ≠ 0 then chkOf n b else if i < 0 ∨ n < i ∨ j < i ∨ n < j then 3 else 0
def ct (n : Int) (b : List Int) (i j : Int) : Int × List Int × Int :=
  if cutOf n b i j ≠ 0 then (0, [], cutOf n b i j) else (j - i, pk ((bl b j.toNat).drop i.toNat), 0)
theorem qqe {F : Nat} (hF : 20000 ≤ F) {n i j : Int} {b : List Int} (hb : U8s b) (hn : I64 n) (lb : b.length ≤ 9223372036854775807) : qcJ F n b i j = some (ct n b i j) := by
  unfold qcJ ct cutOf
  rw [qb5 hb hn.1 hn.2 lb]
  simp only [Option.bind_some]
  by_cases h1 : chkOf n b = 0
  · obtain ⟨n', rfl, ob⟩ := vG h1
    have hb1 : (chkOf (n' : Int) b == 0) = true := by simp [h1]
    rw [if_pos hb1]
    by_cases h2 : i < 0 ∨ (n' : Int) < i ∨ j < i ∨ (n' : Int) < j
    · have : ((((decide (i < 0)) || (decide ((n' : Int) < i))) || (decide (j < i))) || (decide ((n' : Int) < j))) = true := by
        simp only [Bool.or_eq_true, decide_eq_true_eq]; omega
      rw [this, if_pos h2]
      simp [vJ, vI, h1]
    · have : ((((decide (i < 0)) || (decide ((n' : Int) < i))) || (decide (j < i))) || (decide ((n' : Int) < j))) = false := by
        rw [Bool.eq_false_iff]; intro h; apply h2; simp only [Bool.or_eq_true, decide_eq_true_eq] at h; omega
      rw [this, if_neg h2, h1]
      obtain ⟨i', rfl⟩ := Int.eq_ofNat_of_zero_le (show 0 ≤ i by omega)
      obtain ⟨j', rfl⟩ := Int.eq_ofNat_of_zero_le (show 0 ≤ j by omega)
      have hmx := ob.max
      have := qgZ (F := F) (n := (n' : Int)) hb (yy := fun (p : Int × List Int) (x53 : Int) => qal F p.1 p.2 x53) (fun l x hl hx hlen => by
        simp only [qal]
        rw [qkD hl hx (by omega)]
        rfl) (to := j') (by rw [ob.len]; omega) (by omega) F i' [] (by omega) (by omega) (by intro x hx; simp at hx) (by simp; omega)
      have h3 : zu F (fun (x : Int × List Int) (x59 : Int) => match x with | (x51, x54) => qal F x51 x54 x59) (j' : Int) (n' : Int) b F ((i' : Int), (0, ([] : List Int))) = some (.inl (((([] : List Int).length + (j' - i') : Nat) : Int), pk ([] ++ (bl b j').drop i'))) := this
      simp only [vJ, vI, Bool.false_eq_true, if_false, bne_self_eq_false, qan, Option.bind_some, vC, ne_eq, not_true_eq_false, Int.toNat_natCast]
      rw [h3]
      simp only [Option.bind_some, Sum.elim_inl, List.nil_append, List.length_nil, Nat.zero_add]
      congr 2
      omega
  · have hb1 : (chkOf n b == 0) = false := by simpa using h1
    have hb3 : (chkOf n b != 0) = true := by simpa using h1
    rw [hb1]
    simp only [Bool.false_eq_true, if_false, vJ, vI, hb3, if_true, ne_eq, h1, not_false_eq_true]
theorem qlK {l : List Int} {k : Nat} (hk : k < (l.length + 7) / 8) : (pk l).getD k 0 = byt l k := by
  unfold pk
  simp [List.getD, hk]
theorem qlL {l : List Int} (h : Bit l) : U8s (pk l) := by
  intro x hx
  obtain ⟨k, _, rfl⟩ := List.mem_map.1 hx
  exact qfJ h k
theorem qcT (l : List Int) : (pk l).length = (l.length + 7) / 8 := by simp [pk]
theorem qj4 {l : List Int} (hm : l.length ≤ 8192) : Ok l.length (pk l) where
  max := hm
  len := qcT l
  low := fun h => by
    rw [qlK (by omega)]
    exact qlq
theorem qjx {l : List Int} (h : Bit l) {i : Nat} (hi : i < l.length) : bitAt (pk l) i = l.getD i 0 := by
  obtain ⟨k, hk⟩ : ∃ k, k = i / 8 := ⟨_, rfl⟩
  obtain ⟨r, hr⟩ : ∃ r, r = i % 8 := ⟨_, rfl⟩
  have hl : i = 8 * k + r := by omega
  have hr8 : r < 8 := by omega
  obtain ⟨c0, c1, c2, c3, c4, c5, c6, c7⟩ := qll (pk l) k
  have hb : (pk l).getD k 0 = byt l k := qlK (by omega)
  rw [hb] at c0 c1 c2 c3 c4 c5 c6 c7
  have hbd : ∀ q, 0 ≤ l.getD q 0 ∧ l.getD q 0 ≤ 1 := fun q => by have := h.getD q; omega
  have h0 := hbd (8 * k); have h1 := hbd (8 * k + 1); have h2 := hbd (8 * k + 2); have h3 := hbd (8 * k + 3)
  have h4 := hbd (8 * k + 4); have h5 := hbd (8 * k + 5); have h6 := hbd (8 * k + 6); have h7 := hbd (8 * k + 7)
  clear hbd hb
  unfold byt at c0 c1 c2 c3 c4 c5 c6 c7
  rcases (by omega : r = 0 ∨ r = 1 ∨ r = 2 ∨ r = 3 ∨ r = 4 ∨ r = 5 ∨ r = 6 ∨ r = 7) with rfl | rfl | rfl | rfl | rfl | rfl | rfl | rfl
  · rw [hl, Nat.add_zero, c0]; clear c0 c1 c2 c3 c4 c5 c6 c7; generalize l.getD (8 * k) 0 = y0 at *; generalize l.getD (8 * k + 1) 0 = y1 at *; generalize l.getD (8 * k + 2) 0 = y2 at *; generalize l.getD (8 * k + 3) 0 = y3 at *; generalize l.getD (8 * k + 4) 0 = y4 at *; generalize l.getD (8 * k + 5) 0 = y5 at *; generalize l.getD (8 * k + 6) 0 = y6 at *; generalize l.getD (8 * k + 7) 0 = y7 at *; clear h hi hl hr hk hr8; omega
  · rw [hl, c1]; clear c0 c1 c2 c3 c4 c5 c6 c7; generalize l.getD (8 * k) 0 = y0 at *; generalize l.getD (8 * k + 1) 0 = y1 at *; generalize l.getD (8 * k + 2) 0 = y2 at *; generalize l.getD (8 * k + 3) 0 = y3 at *; generalize l.getD (8 * k + 4) 0 = y4 at *; generalize l.getD (8 * k + 5) 0 = y5 at *; generalize l.getD (8 * k + 6) 0 = y6 at *; generalize l.getD (8 * k + 7) 0 = y7 at *; clear h hi hl hr hk hr8; omega
  · rw [hl, c2]; clear c0 c1 c2 c3 c4 c5 c6 c7; generalize l.getD (8 * k) 0 = y0 at *; generalize l.getD (8 * k + 1) 0 = y1 at *; generalize l.getD (8 * k + 2) 0 = y2 at *; generalize l.getD (8 * k + 3) 0 = y3 at *; generalize l.getD (8 * k + 4) 0 = y4 at *; generalize l.getD (8 * k + 5) 0 = y5 at *; generalize l.getD (8 * k + 6) 0 = y6 at *; generalize l.getD (8 * k + 7) 0 = y7 at *; clear h hi hl hr hk hr8; omega
  · rw [hl, c3]; clear c0 c1 c2 c3 c4 c5 c6 c7; generalize l.getD (8 * k) 0 = y0 at *; generalize l.getD (8 * k + 1) 0 = y1 at *; generalize l.getD (8 * k + 2) 0 = y2 at *; generalize l.getD (8 * k + 3) 0 = y3 at *; generalize l.getD (8 * k + 4) 0 = y4 at *; generalize l.getD (8 * k + 5) 0 = y5 at *; generalize l.getD (8 * k + 6) 0 = y6 at *; generalize l.getD (8 * k + 7) 0 = y7 at *; clear h hi hl hr hk hr8; omega
  · rw [hl, c4]; clear c0 c1 c2 c3 c4 c5 c6 c7; generalize l.getD (8 * k) 0 = y0 at *; generalize l.getD (8 * k + 1) 0 = y1 at *; generalize l.getD (8 * k + 2) 0 = y2 at *; generalize l.getD (8 * k + 3) 0 = y3 at *; generalize l.getD (8 * k + 4) 0 = y4 at *; generalize l.getD (8 * k + 5) 0 = y5 at *; generalize l.getD (8 * k + 6) 0 = y6 at *; generalize l.getD (8 * k + 7) 0 = y7 at *; clear h hi hl hr hk hr8; omega
  · rw [hl, c5]; clear c0 c1 c2 c3 c4 c5 c6 c7; generalize l.getD (8 * k) 0 = y0 at *; generalize l.getD (8 * k + 1) 0 = y1 at *; generalize l.getD (8 * k + 2) 0 = y2 at *; generalize l.getD (8 * k + 3) 0 = y3 at *; generalize l.getD (8 * k + 4) 0 = y4 at *; generalize l.getD (8 * k + 5) 0 = y5 at *; generalize l.getD (8 * k + 6) 0 = y6 at *; generalize l.getD (8 * k + 7) 0 = y7 at *; clear h hi hl hr hk hr8; omega
  · rw [hl, c6]; clear c0 c1 c2 c3 c4 c5 c6 c7; generalize l.getD (8 * k) 0 = y0 at *; generalize l.getD (8 * k + 1) 0 = y1 at *; generalize l.getD (8 * k + 2) 0 = y2 at *; generalize l.getD (8 * k + 3) 0 = y3 at *; generalize l.getD (8 * k + 4) 0 = y4 at *; generalize l.getD (8 * k + 5) 0 = y5 at *; generalize l.getD (8 * k + 6) 0 = y6 at *; generalize l.getD (8 * k + 7) 0 = y7 at *; clear h hi hl hr hk hr8; omega
  · rw [hl, c7]; clear c0 c1 c2 c3 c4 c5 c6 c7; generalize l.getD (8 * k) 0 = y0 at *; generalize l.getD (8 * k + 1) 0 = y1 at *; generalize l.getD (8 * k + 2) 0 = y2 at *; generalize l.getD (8 * k + 3) 0 = y3 at *; generalize l.getD (8 * k + 4) 0 = y4 at *; generalize l.getD (8 * k + 5) 0 = y5 at *; generalize l.getD (8 * k + 6) 0 = y6 at *; generalize l.getD (8 * k + 7) 0 = y7 at *; clear h hi hl hr hk hr8; omega
theorem qln {l : List Int} (h : Bit l) : bl (pk l) l.length = l := by
  apply List.ext_getElem?
  intro i
  by_cases hi : i < l.length
  · have h1 : (bl (pk l) l.length)[i]? = some (bitAt (pk l) i) := by simp [bl, hi]
    rw [h1, qjx h hi]
    simp [List.getD, hi]
  · rw [List.getElem?_eq_none (by rw [yN]; omega), List.getElem?_eq_none (by omega)]
theorem qnT (F : Nat) {xs ys : List Int} (hl : xs.length = ys.length) (hm : xs.length ≤ 9223372036854775807) : ∀ (k i : Nat), xs.length < k + i → i ≤ xs.length →
    zA F xs ys k (i : Int) = some (decide (xs.drop i = ys.drop i))
  | 0, i, h, _ => by omega
  | k + 1, i, h, hi => by
    show yd F xs ys (zA F xs ys k) i = _
    unfold yd
    by_cases hlt : i < xs.length
    · have hlt' : (i : Int) < (xs.length : Int) := by omega
      have hlt2 : i < ys.length := by omega
      have hg : xs[i]? = some xs[i] := by simp [hlt]
      have hg2 : ys[i]? = some ys[i] := by simp [hlt2]
      simp only [hlt', decide_true, if_true, qM, hg, hg2, Option.bind_some]
      have e : (xs.drop i = ys.drop i) ↔ (xs[i] = ys[i] ∧ xs.drop (i + 1) = ys.drop (i + 1)) := by
        rw [List.drop_eq_getElem_cons hlt, List.drop_eq_getElem_cons hlt2, List.cons.injEq]
      simp only [e]
      by_cases he : xs[i] = ys[i]
      · simp only [he, bne_self_eq_false, Bool.false_eq_true, if_false, true_and]
        rw [qW (by omega) (by omega), show (i : Int) + 1 = ((i + 1 : Nat) : Int) from by omega, qnT F hl hm k (i + 1) (by omega) (by omega)]
      · have : (xs[i] != ys[i]) = true := by simpa using he
        simp only [this, if_true, he, false_and, decide_false]
    · have hlt' : ¬ (i : Int) < (xs.length : Int) := by omega
      simp only [hlt', decide_false, Bool.false_eq_true, if_false]
      rw [List.drop_eq_nil_of_le (by omega), List.drop_eq_nil_of_le (by omega)]
      rfl
theorem qdO {F : Nat} {xs ys : List Int} (hF : xs.length < F) (hm : xs.length ≤ 9223372036854775807) : z7 F xs ys = some (decide (xs = ys)) := by
  unfold z7
  by_cases hl : xs.length = ys.length
  · have : (((xs.length : Int) : Int) != (ys.length : Int)) = false := by simp [hl]
    simp only [this, Bool.false_eq_true, if_false]
    have := qnT F hl hm F 0 (by omega) (by omega)
    simpa using this
  · have : (((xs.length : Int) : Int) != (ys.length : Int)) = true := by simp; omega
    simp only [this, if_true]
    have : xs ≠ ys := fun e => hl (by rw [e])
    simp [this]
theorem qej {F : Nat} {n m : Int} {xs ys : List Int} (hF : xs.length < F) (hm : xs.length ≤ 9223372036854775807) : qX F n xs m ys = some (decide (n = m ∧ xs = ys)) := by
  unfold qX
  by_cases h : n = m
  · have hb : (n == m) = true := by simp [h]
    rw [if_pos hb, qdO hF hm]
    simp [vz, h]
  · have hb : (n == m) = false := by simpa using h
    rw [hb]
    simp [vz, h]
theorem qjz {n : Nat} {b : List Int} (h : Ok n b) : chkOf (n : Int) b = 0 := by
  unfold chkOf
  have := h.max
  have := h.len
  rw [if_neg (by omega), if_neg (by omega), if_neg]
  rintro ⟨h1, h2⟩
  rw [Int.toNat_natCast] at h2
  exact h2 (h.low (by omega))
theorem qiO {l k : List Int} (h : Bit l) (h2 : Bit k) : Bit (l ++ k) := by
  intro x hx
  rcases List.mem_append.1 hx with h3 | h3
  · exact h x h3
  · exact h2 x h3
theorem qju {F : Nat} (hF : 20000 ≤ F) : qbU F = some true := by
  obtain ⟨n, rfl⟩ : ∃ n, F = n + 200 := ⟨F - 200, by omega⟩
  exact qkB n
theorem two64 : (2 : Nat) ^ 64 = 18446744073709551616 := by decide
theorem qfM {n k : Nat} (hn : n < 18446744073709551616) : ishr .u64 (n : Int) (k : Int) = ((n / 2 ^ k : Nat) : Int) := by
  unfold ishr
  rw [Int.fdiv_eq_ediv_of_nonneg _ (by exact_mod_cast Nat.zero_le _), Int.toNat_natCast]
  simp only [IntKind.bits]
  by_cases h : k ≤ 64
  · rw [Nat.min_eq_left h]; norm_cast
  · rw [Nat.min_eq_right (by omega)]
    have h1 : n / 2 ^ 64 = 0 := Nat.div_eq_of_lt (by omega)
    have h2 : n / 2 ^ k = 0 := Nat.div_eq_of_lt (Nat.lt_of_lt_of_le hn (by rw [← two64]; exact Nat.pow_le_pow_right (by decide) (by omega)))
    rw [h2]
    have : ((n : Int) / 2 ^ 64) = ((n / 2 ^ 64 : Nat) : Int) := by norm_cast
    rw [this, h1]
theorem qpa {n : Nat} (hn : n < 18446744073709551616) : iand .u64 (n : Int) 1 = ((n % 2 : Nat) : Int) := by
  have e := qev (k := .u64) (a := (n : Int)) (m := 1) (by omega) (by simp only [IntKind.bits]; rw [show (2 : Int) ^ 64 = 18446744073709551616 from by decide]; omega) (by decide) rfl
  rw [show ((2 ^ 1 - 1 : Nat) : Int) = 1 from rfl, show (2 : Int) ^ 1 = 2 from rfl] at e
  rw [e]; omega
theorem qny {n k : Nat} (hk : k ≤ 64) : ishl .u64 (n : Int) (k : Int) = ((n * 2 ^ k % 18446744073709551616 : Nat) : Int) := by
  rw [qgS hk, Int.natCast_emod, Int.natCast_mul, Int.natCast_pow]; rfl
theorem qeT {a b : Nat} (h : a + b < 9223372036854775808) : iadd .i64 (a : Int) (b : Int) = ((a + b : Nat) : Int) := by rw [qW (by omega) (by omega)]; omega
theorem zz {a : Nat} (h : a + 1 < 9223372036854775808) : iadd .i64 (a : Int) 1 = ((a + 1 : Nat) : Int) := by rw [qW (by omega) (by omega)]; omega
theorem qgT {a b : Nat} (h : b ≤ a) (h2 : a < 9223372036854775808) : isub .i64 (a : Int) (b : Int) = ((a - b : Nat) : Int) := by rw [jw (by omega) (by omega)]; omega
theorem qfq {a : Nat} (h : 1 ≤ a) (h2 : a < 9223372036854775808) : isub .i64 (a : Int) 1 = ((a - 1 : Nat) : Int) := by rw [jw (by omega) (by omega)]; omega
def nb (n : Nat) : Nat → List Int
  | 0 => []
  | w + 1 => ((n / 2 ^ w % 2 : Nat) : Int) :: nb n w
theorem qfP (n : Nat) : ∀ w, (nb n w).length = w
  | 0 => rfl
  | w + 1 => by simp [nb, qfP n w]
theorem qkR (n : Nat) : ∀ w, Bit (nb n w)
  | 0 => by intro x hx; simp [nb] at hx
  | w + 1 => by
    intro x hx
    rcases List.mem_cons.1 hx with rfl | h
    · omega
    · exact qkR n w x h
theorem qj3 {F : Nat} {n : Nat} (hn : n < 18446744073709551616) : ∀ (w k : Nat) (l : List Int), w < k → Bit l → l.length + w ≤ 100000 →
    zH F (n : Int) k ((w : Int) - 1, (l.length : Int), pk l) = some (((l.length + w : Nat) : Int), pk (l ++ nb n w))
  | _, 0, _, h, _, _ => by omega
  | 0, k + 1, l, _, _, _ => by
    show zG F (n : Int) _ (((0 : Nat) : Int) - 1) (l.length : Int) (pk l) = _
    unfold zG
    rw [if_neg (by simp)]
    simp [nb]
  | w + 1, k + 1, l, h, hl, hm => by
    show zG F (n : Int) (zH F (n : Int) k) (((w + 1 : Nat) : Int) - 1) (l.length : Int) (pk l) = _
    unfold zG
    rw [show ((w + 1 : Nat) : Int) - 1 = (w : Int) from by omega, if_pos (by simp)]
    have hc : decide ((0 : Int) ≤ (w : Int)) = true := decide_eq_true (by omega)
    rw [hc]
    simp only [chk, if_true]
    rw [qfM hn, qpa (by have := Nat.div_le_self n (2 ^ w); omega)]
    have hx : ((n / 2 ^ w % 2 : Nat) : Int) = 0 ∨ ((n / 2 ^ w % 2 : Nat) : Int) = 1 := by omega
    rw [qkD hl hx (by omega)]
    simp only [Option.bind_some]
    rw [jw (by omega) (by omega)]
    have := qj3 (F := F) hn w k (l ++ [((n / 2 ^ w % 2 : Nat) : Int)]) (by omega) (qiO hl (by intro y hy; simp only [List.mem_singleton] at hy; rw [hy]; exact hx)) (by simp; omega)
    rw [show (l ++ [((n / 2 ^ w % 2 : Nat) : Int)]).length = l.length + 1 from by simp] at this
    rw [this, List.append_assoc, show l.length + 1 + w = l.length + (w + 1) from by omega]
    rfl
theorem qmr {F : Nat} {n w : Nat} {l : List Int} (hn : n < 18446744073709551616) (hF : w < F) (hl : Bit l) (hm : l.length + w ≤ 100000) :
    yB F (l.length : Int) (pk l) (n : Int) (w : Int) = some (((l.length + w : Nat) : Int), pk (l ++ nb n w)) := by
  unfold yB
  rw [jw (by omega) (by omega)]
  exact qj3 hn w F l hF hl hm
theorem qkz {F : Nat} {n w m : Nat} {b : List Int} (hn : n < 18446744073709551616) (hF : w < F) (hb : U8s b) (ob : Ok m b) (hw : w ≤ 10000) :
    kb F (m : Int) b (n : Int) (w : Int) = some (((m + w : Nat) : Int), pk (bl b m ++ nb n w)) := by
  unfold kb
  have := ob.max
  rw [qnI (by rw [ob.len]; omega)]
  simp only [Option.bind_some]
  have h := qmr (F := F) (l := bl b m) hn hF (qfH _ _) (by rw [yN]; omega)
  rw [yN, qib hb ob] at h
  rw [h]; rfl
def putOf (m : Int) (b : List Int) (n w : Int) : Int :=
  if chkOf m b ≠ 0 then chkOf m b else if w < 0 ∨ 64 < w ∨ 2 ^ w.toNat ≤ n then 3 else if 8192 < m + w then 8 else 0
def pt (m : Int) (b : List Int) (n w : Int) : Int × List Int × Int :=
  if putOf m b n w ≠ 0 then (0, [], putOf m b n w) else (m + w, pk (bl b m.toNat ++ nb n.toNat w.toNat), 0)
def U64 (n : Int) : Prop := 0 ≤ n ∧ n < 18446744073709551616
theorem qi5 {m : Int} {b : List Int} {n w e : Int} (h : putOf m b n w = e) (he : e ≠ 0) : pt m b n w = (0, [], e) := by
  unfold pt; rw [h, if_pos he]
theorem qq5 {m : Int} {b : List Int} {n w : Int} (h : putOf m b n w = 0) : pt m b n w = (m + w, pk (bl b m.toNat ++ nb n.toNat w.toNat), 0) := by
  unfold pt; rw [h]; rfl
theorem qqB {F : Nat} (hF : 20000 ≤ F) {m n w : Int} {b : List Int} (hb : U8s b) (hm : I64 m) (hn : U64 n) (lb : b.length ≤ 9223372036854775807) : qbM F m b n w = some (pt m b n w) := by
  unfold qbM
  rw [qb5 hb hm.1 hm.2 lb]
  simp only [Option.bind_some]
  by_cases h1 : chkOf m b = 0
  · obtain ⟨m, rfl, ob⟩ := vG h1
    obtain ⟨n, rfl⟩ := Int.eq_ofNat_of_zero_le hn.1
    have hn2 : n < 18446744073709551616 := by have := hn.2; omega
    have hmx := ob.max
    simp only [h1, bne_self_eq_false, Bool.false_eq_true, if_false]
    by_cases h2 : w < 0 ∨ 64 < w
    · rw [if_pos (by simpa using h2), qi5 (e := 3) (by unfold putOf; rw [if_neg (by simp [h1]), if_pos (by omega)]) (by decide)]
      rfl
    · rw [if_neg (by simpa using h2)]
      obtain ⟨w, rfl⟩ := Int.eq_ofNat_of_zero_le (show 0 ≤ w by omega)
      have hlt : n / 2 ^ w = 0 ↔ ¬ (2 : Int) ^ (w : Int).toNat ≤ (n : Int) := by
        rw [Int.toNat_natCast, show (2 : Int) ^ w = ((2 ^ w : Nat) : Int) from by norm_cast, Nat.div_eq_zero_iff]
        have : 0 < 2 ^ w := Nat.pow_pos (by decide)
        omega
      have hj6 : n / 2 ^ w = 0 → qam F (m : Int) b (n : Int) (w : Int) 0 false = some (pt m b n w) := by
        intro h0
        unfold qam
        simp only [Bool.false_eq_true, if_false]
        rw [qW (by omega) (by omega)]
        by_cases h3 : 8192 < (m : Int) + w
        · rw [if_pos (by simpa using h3), qi5 (e := 8) (by unfold putOf; rw [if_neg (by simp [h1]), if_neg (by omega), if_pos h3]) (by decide)]; rfl
        · rw [if_neg (by simpa using h3), qq5 (by unfold putOf; rw [if_neg (by simp [h1]), if_neg (by omega), if_neg h3])]
          unfold yJ
          simp only [bne_self_eq_false, Bool.false_eq_true, if_false]
          rw [qkz hn2 (by omega) hb ob (by omega)]
          simp
      by_cases h4 : w = 64
      · subst h4
        rw [if_neg (by simp)]
        exact hj6 (Nat.div_eq_of_lt (by omega))
      · rw [if_pos (by simp; omega)]
        have hc : decide ((0 : Int) ≤ (w : Int)) = true := decide_eq_true (by omega)
        rw [hc]
        simp only [chk, if_true]
        rw [qfM hn2]
        by_cases h5 : n / 2 ^ w = 0
        · rw [h5]
          exact hj6 h5
        · have : ((((n / 2 ^ w : Nat) : Int)) != 0) = true := by rw [bne_iff_ne]; omega
          rw [this, qi5 (e := 3) (by unfold putOf; rw [if_neg (by simp [h1]), if_pos (by omega)]) (by decide)]
          rfl
  · have hb3 : (chkOf m b != 0) = true := by simpa using h1
    rw [if_pos hb3, qi5 (e := chkOf m b) (by unfold putOf; rw [if_pos h1]) h1]
    simp only [yJ, hb3, if_true]
theorem qjU {n : Nat} (h : n < 9223372036854775808) : iconv .i64 (n : Int) = (n : Int) := wrap_i64 (by omega) (by omega)
theorem qf6 {n : Nat} (h : n < 18446744073709551616) : iconv .u64 (n : Int) = (n : Int) := kI (by omega) (by omega)
theorem qp8 {α : Type} {l : List α} {i j : Nat} (h1 : i ≤ j) (h2 : j ≤ l.length) : sub l (i : Int) (j : Int) = some ((l.take j).drop i) := by
  unfold sub
  rw [if_pos ⟨by omega, by omega, by omega⟩, Int.toNat_natCast, Int.toNat_natCast]
theorem qm7 {n : Int} {b : List Int} (hb : U8s b) : chkOf n b ≠ 0 ∨ ∃ l : List Int, Bit l ∧ l.length ≤ 8192 ∧ n = (l.length : Int) ∧ b = pk l := by
  by_cases h : chkOf n b = 0
  · obtain ⟨m, rfl, ob⟩ := vG h
    exact .inr ⟨bl b m, qfH _ _, by rw [yN]; exact ob.max, by rw [yN], (qib hb ob).symm⟩
  · exact .inl h
theorem qkE {l : List Int} (hm : l.length ≤ 8192) : chkOf (l.length : Int) (pk l) = 0 := qjz (qj4 hm)
theorem qqx : pk [] = [] := rfl
theorem qfS {F : Nat} {n : Int} {xs : List Int} (hF : xs.length < F) (hm : xs.length ≤ 1000000) : qX F n xs n xs = some true := by
  rw [qej hF (by omega)]; simp
theorem qg7 (F : Nat) (xs ys : List Int) : ∀ k, yq F xs ys k = zA F xs ys k
  | 0 => rfl
  | k + 1 => by
    funext i
    show qce F xs ys (yq F xs ys k) i = yd F xs ys (zA F xs ys k) i
    rw [qg7 F xs ys k]; rfl
theorem qhO (F : Nat) (xs ys : List Int) : jX F xs ys = z7 F xs ys := by
  unfold jX z7; rw [qg7]
theorem qg6 (F : Nat) (xs ys : List Int) : ∀ k, ko F xs ys k = zA F xs ys k
  | 0 => rfl
  | k + 1 => by
    funext i
    show vA F xs ys (ko F xs ys k) i = yd F xs ys (zA F xs ys k) i
    rw [qg6 F xs ys k]; rfl
theorem qhN (F : Nat) (xs ys : List Int) : ka F xs ys = z7 F xs ys := by
  unfold ka z7; rw [qg6]
def un (n : Nat) : List Int := List.replicate n 0 ++ [1]
theorem qfX (n : Nat) : (un n).length = n + 1 := by simp [un]
theorem qlm (n : Nat) : Bit (List.replicate n 0) := by intro x hx; left; exact (List.mem_replicate.1 hx).2
theorem qoR : Bit [1] := by intro x hx; right; simpa using hx
theorem qjd (n : Nat) : Bit (un n) := qiO (qlm n) qoR
theorem qqy (n : Nat) : pk (List.replicate n 0) = List.replicate ((n + 7) / 8) 0 := by
  unfold pk
  rw [List.length_replicate]
  apply List.ext_getElem?
  intro k
  by_cases hk : k < (n + 7) / 8
  · have hz : ∀ i, (List.replicate n (0 : Int)).getD i 0 = 0 := by
      intro i
      by_cases h : i < n
      · simp [List.getD, h]
      · exact jg (by simp; omega)
    rw [List.getElem?_map, List.getElem?_range hk, List.getElem?_replicate, if_pos hk]
    simp only [Option.map_some, byt, hz]
    rfl
  · rw [List.getElem?_eq_none (by simpa using hk), List.getElem?_eq_none (by simpa using hk)]
theorem qeQ {F : Nat} {n w : Nat} {l : List Int} (hn : n < 18446744073709551616) (hF : w < F) (hl : Bit l) (hm : l.length ≤ 8192) (hw : w ≤ 10000) :
    kb F (l.length : Int) (pk l) (n : Int) (w : Int) = some (((l ++ nb n w).length : Int), pk (l ++ nb n w)) := by
  rw [qkz hn hF (qlL hl) (qj4 hm) hw, qln hl, List.length_append, qfP]
theorem qkW {F n : Nat} (hF : 20000 ≤ F) (hn : n < 8192) : va F (n : Int) = some (((un n).length : Int), pk (un n)) := by
  unfold va
  have e : iquo .u64 (iadd .u64 (n : Int) 7) 8 = (((n + 7) / 8 : Nat) : Int) := by
    unfold iquo iadd
    rw [kI (n := (n : Int) + 7) (by omega) (by omega), Int.tdiv_eq_ediv_of_nonneg (by omega), kI (by omega) (by omega)]
    omega
  rw [e]
  have hmk : mk 140737488355328 (0 : Int) (((n + 7) / 8 : Nat) : Int) = some (pk (List.replicate n 0)) := by
    unfold mk
    rw [if_pos (by omega), Int.toNat_natCast, qqy]
  rw [hmk]
  simp only [Option.bind_some]
  rw [qjU (by omega)]
  have h := qeQ (F := F) (n := 1) (w := 1) (l := List.replicate n 0) (by decide) (by omega) (qlm n) (by simp; omega) (by decide)
  rw [List.length_replicate] at h
  rw [show ((1 : Nat) : Int) = 1 from rfl] at h
  rw [h]
  rfl
def fz : List Int → Option Nat
  | [] => none
  | x :: l => if x = 1 then some 0 else (fz l).map (· + 1)
theorem qpY {l : List Int} {n : Nat} (h : fz l = some n) : n < l.length := by
  induction l generalizing n with
  | nil => simp [fz] at h
  | cons x l ih =>
    unfold fz at h
    split at h
    · simp at h; subst h; simp
    · cases hf : fz l with
      | none => rw [hf] at h; simp at h
      | some m => rw [hf] at h; simp at h; subst h; have := ih hf; simp; omega
theorem qm2 {F : Nat} {m : Int} {l : List Int} (hl : Bit l) (hm : l.length ≤ 90000) {i : Nat} (hi : i < l.length) : vH F m (pk l) (i : Int) = some l[i] := by
  rw [qpX (qlL hl) (by rw [qcT]; omega) (by omega), qjx hl hi]
  simp [List.getD, hi]
theorem qnj {F : Nat} {l : List Int} (hl : Bit l) (hm : l.length ≤ 8192) (a : Nat) : ∀ (k i : Nat), l.length < k + i → i ≤ l.length → a ≤ i →
    yu F (l.length : Int) (pk l) (a : Int) k (i : Int) = some (match fz (l.drop i) with | none => (0, 0, false) | some n => (((i - a + n : Nat) : Int), ((i + n + 1 : Nat) : Int), true))
  | 0, _, _, _, _ => by omega
  | k + 1, i, h, hi, ha => by
    show qaJ F (l.length : Int) (pk l) (a : Int) (yu F (l.length : Int) (pk l) (a : Int) k) (i : Int) = _
    unfold qaJ
    by_cases hlt : i < l.length
    · rw [if_pos (by simp; omega), qm2 hl (by omega) hlt, List.drop_eq_getElem_cons hlt, fz]
      simp only [Option.bind_some]
      by_cases h1 : l[i] = 1
      · rw [if_pos (by simpa using h1), if_pos h1, qgT ha (by omega), qf6 (by omega), zz (by omega)]
        rfl
      · rw [if_neg (by simpa using h1), if_neg h1, zz (by omega), qnj hl hm a k (i + 1) (by omega) (by omega) (by omega)]
        cases fz (l.drop (i + 1)) with
        | none => rfl
        | some n =>
          simp only [Option.map_some]
          rw [show i + 1 - a + n = i - a + (n + 1) from by omega, show i + 1 + n + 1 = i + (n + 1) + 1 from by omega]
    · rw [if_neg (by simp; omega), List.drop_eq_nil_of_le (by omega)]
      rfl
theorem qo1 {F : Nat} (hF : 20000 ≤ F) {l : List Int} (hl : Bit l) (hm : l.length ≤ 8192) {a : Nat} (ha : a ≤ l.length) :
    yD F (l.length : Int) (pk l) (a : Int) = some (match fz (l.drop a) with | none => (0, 0, false) | some n => ((n : Int), ((a + n + 1 : Nat) : Int), true)) := by
  unfold yD
  have := qnj (F := F) hl hm a F a (by omega) ha (by omega)
  rw [this]
  cases fz (l.drop a) with
  | none => rfl
  | some n => simp only; rw [Nat.sub_self, Nat.zero_add]
def raOf (m : Int) (b : List Int) (a : Int) : Int := if chkOf m b ≠ 0 then chkOf m b else if a < 0 ∨ m < a then 3 else 0
def uns (l : List Int) : List Int := l.flatMap fun x => un x.toNat
def tot (l : List Int) : Nat := (uns l).length
def big (l : List Int) : Bool := l.any fun x => decide (8192 ≤ x)
theorem qhi (x : Int) (l : List Int) : uns (x :: l) = un x.toNat ++ uns l := rfl
theorem ql0 (l k : List Int) : uns (l ++ k) = uns l ++ uns k := by unfold uns; rw [List.flatMap_append]
theorem qpM (l : List Int) : Bit (uns l) := by
  induction l with
  | nil => intro x hx; simp [uns] at hx
  | cons x l ih => rw [qhi]; exact qiO (qjd _) ih
theorem qhh (x : Int) (l : List Int) : tot (x :: l) = x.toNat + 1 + tot l := by unfold tot; rw [qhi, List.length_append, qfX]
theorem qlY (l k : List Int) : tot (l ++ k) = tot l + tot k := by unfold tot; rw [ql0, List.length_append]
theorem qpI (l : List Int) : l.length ≤ tot l := by
  induction l with
  | nil => simp
  | cons x l ih => rw [qhh]; simp; omega
theorem qlp {F : Nat} (hF : 20000 ≤ F) {l k : List Int} (hl : Bit l) (hk : Bit k) (h1 : l.length ≤ 8192) (h2 : k.length ≤ 8192) :
    jl F (l.length : Int) (pk l) (k.length : Int) (pk k) = some (((l ++ k).length : Int), pk (l ++ k)) := by
  rw [qlo hF (qlL hl) (qlL hk) (qj4 h1) (qj4 h2), qln hl, qln hk, List.length_append]
def um (l : List Int) : Int × List Int × Int := if big l then (0, [], 3) else if 8192 < tot l then (0, [], 8) else (((uns l).length : Int), pk (uns l), 0)
def N64 (l : List Int) : Prop := ∀ x ∈ l, 0 ≤ x ∧ x < 18446744073709551616
theorem qoP {l : List Int} (h : big l = false) {x : Int} (hx : x ∈ l) : x < 8192 := by
  unfold big at h
  rw [List.any_eq_false] at h
  have := h x hx
  simpa using this
theorem qm3 (x : Int) (l : List Int) : big (x :: l) = (decide (8192 ≤ x) || big l) := rfl
theorem qlH {F : Nat} (hF : 20000 ≤ F) {l : List Int} (hn : N64 l) (hb : big l = false) (ht : tot l ≤ 8192) (hlen : l.length ≤ 100000) : ∀ (k i : Nat), l.length < k + i → i ≤ l.length →
    yv F l k ((i : Int), ((uns (l.take i)).length : Int), pk (uns (l.take i))) = some (((uns l).length : Int), pk (uns l), 0)
  | 0, _, _, _ => by omega
  | k + 1, i, h, hi => by
    show qaK F l (yv F l k) (i : Int) ((uns (l.take i)).length : Int) (pk (uns (l.take i))) = _
    unfold qaK
    by_cases hlt : i < l.length
    · rw [if_pos (by simp; omega), qM, List.getElem?_eq_getElem hlt]
      simp only [Option.bind_some]
      have hx := hn _ (List.getElem_mem hlt)
      have hx2 := qoP hb (List.getElem_mem hlt)
      have htk : l.take (i + 1) = l.take i ++ [l[i]] := by rw [List.take_add_one, List.getElem?_eq_getElem hlt]; rfl
      have hT : tot l = tot (l.take (i + 1)) + tot (l.drop (i + 1)) := by rw [← qlY, List.take_append_drop]
      have hT2 : tot (l.take (i + 1)) = tot (l.take i) + (l[i].toNat + 1) := by rw [htk, qlY, qhh]; simp [tot, uns]
      have hT3 : (uns (l.take i)).length = tot (l.take i) := rfl
      obtain ⟨x, hxe⟩ := Int.eq_ofNat_of_zero_le hx.1
      have hun : uns (l.take (i + 1)) = uns (l.take i) ++ un x := by rw [htk, ql0, qhi, hxe]; simp [uns]
      rw [hxe, Int.toNat_natCast] at hT2
      rw [hxe, qkW hF (by omega)]
      simp only [Option.bind_some]
      rw [qlp hF (qpM _) (qjd _) (by omega) (by rw [qfX]; omega), ← hun]
      simp only [Option.bind_some]
      rw [zz (by omega)]
      exact qlH hF hn hb ht hlen k (i + 1) (by omega) (by omega)
    · rw [if_neg (by simp; omega)]
      obtain rfl : i = l.length := by omega
      rw [List.take_length]; rfl
theorem qlG {F : Nat} (hF : 20000 ≤ F) {l : List Int} (hn : N64 l) (hm : l.length ≤ 9223372036854775807) : ∀ (k i a : Nat), l.length < k + i → i ≤ l.length → a ≤ 8193 →
    yw F l k ((a : Int), (i : Int)) = if big (l.drop i) then some (0, [], 3) else qaM F l ((min (a + tot (l.drop i)) 8193 : Nat) : Int)
  | 0, _, _, _, _, _ => by omega
  | k + 1, i, a, h, hi, ha => by
    show qaL F l (yw F l k) (a : Int) (i : Int) = _
    unfold qaL
    by_cases hlt : i < l.length
    · rw [if_pos (by simp; omega), qM, List.getElem?_eq_getElem hlt, List.drop_eq_getElem_cons hlt, qm3, qhh]
      simp only [Option.bind_some]
      by_cases hb : 8192 ≤ l[i]
      · rw [if_pos (by simpa using hb), if_pos (by simp [hb])]
      · have hx := hn _ (List.getElem_mem hlt)
        obtain ⟨x, hxe⟩ := Int.eq_ofNat_of_zero_le hx.1
        rw [if_neg (by simpa using hb), decide_eq_false hb, Bool.false_or]
        simp only [lett]
        have e : imin (iadd .u64 (iadd .u64 (a : Int) l[i]) 1) 8193 = ((min (a + (x + 1)) 8193 : Nat) : Int) := by
          unfold imin iadd
          rw [hxe, kI (n := (a : Int) + (x : Int)) (by omega) (by omega), kI (by omega) (by omega)]
          split <;> omega
        rw [e, zz (by omega), qlG hF hn hm k (i + 1) _ (by omega) (by omega) (by omega)]
        rw [hxe, Int.toNat_natCast]
        rw [show min (min (a + (x + 1)) 8193 + tot (l.drop (i + 1))) 8193 = min (a + (x + 1 + tot (l.drop (i + 1)))) 8193 from by omega]
    · rw [if_neg (by simp; omega), List.drop_eq_nil_of_le (by omega)]
      rw [if_neg (by simp [big])]
      simp only [tot, uns, List.flatMap_nil, List.length_nil, Nat.add_zero]
      rw [Nat.min_eq_left ha]
theorem qpf {F : Nat} {l : List Int} (hF : 20000 ≤ F) (hFl : l.length < F) (hn : N64 l) (hm : l.length ≤ 9223372036854775807) : qbx F l = some (um l) := by
  unfold qbx
  have := qlG hF hn hm F 0 0 (by omega) (by omega) (by omega)
  rw [List.drop_zero, Nat.zero_add] at this
  rw [show (((0 : Nat) : Int), ((0 : Nat) : Int)) = ((0 : Int), (0 : Int)) from rfl] at this
  rw [this]
  unfold um
  by_cases hb : big l = true
  · rw [if_pos hb, if_pos hb]
  · rw [if_neg hb, if_neg hb]
    unfold qaM
    by_cases h : 8192 < tot l
    · rw [if_pos (by simp; omega), if_pos h]
    · have := qpI l
      rw [if_neg (by simp; omega), if_neg h]
      have := qlH hF hn (by simpa using hb) (by omega) (by omega) F 0 (by omega) (by omega)
      rw [List.take_zero] at this
      exact this
def ra : Nat → List Int → Option (List Int × List Int)
  | 0, l => some ([], l)
  | k + 1, l => (fz l).bind fun n => (ra k (l.drop (n + 1))).map fun p => ((n : Int) :: p.1, p.2)
theorem qnM : ∀ (k : Nat) (l : List Int) {ns r : List Int}, ra k l = some (ns, r) → ns.length = k ∧ r.length ≤ l.length ∧ r = l.drop (l.length - r.length)
  | 0, l, ns, r, h => by simp [ra] at h; obtain ⟨rfl, rfl⟩ := h; simp
  | k + 1, l, ns, r, h => by
    unfold ra at h
    cases hf : fz l with
    | none => rw [hf] at h; simp at h
    | some n =>
      rw [hf] at h
      simp only [Option.bind_some] at h
      cases hr : ra k (l.drop (n + 1)) with
      | none => rw [hr] at h; simp at h
      | some p =>
        rw [hr] at h
        simp only [Option.map_some, Option.some.injEq, Prod.mk.injEq] at h
        obtain ⟨h1, h2, h3⟩ := qnM k (l.drop (n + 1)) (ns := p.1) (r := p.2) hr
        have := qpY hf
        rw [List.length_drop] at h2 h3
        rw [← h.1, ← h.2]
        refine ⟨by simp [h1], by omega, ?_⟩
        conv => lhs; rw [h3]
        rw [List.drop_drop]
        congr 1
        omega
def uaOf (m : Int) (b : List Int) (k : Int) : Int := if chkOf m b ≠ 0 then chkOf m b else if k < 0 ∨ 8192 < k then 3 else 0
def uaR (l : List Int) (k : Nat) : List Int × Int × Int := match ra k l with | none => ([], 0, 7) | some p => (p.1, ((l.length - p.2.length : Nat) : Int), 0)
def ua (m : Int) (b : List Int) (k : Int) : List Int × Int × Int := if uaOf m b k ≠ 0 then ([], 0, uaOf m b k) else uaR (bl b m.toNat) k.toNat
theorem qoC {m k : Int} {b : List Int} (h : chkOf m b ≠ 0) : uaOf m b k = chkOf m b := by unfold uaOf; rw [if_pos h]
theorem qlf {l : List Int} {k : Int} (h1 : l.length ≤ 8192) (h : ¬ (0 ≤ k ∧ k ≤ 8192)) : uaOf (l.length : Int) (pk l) k = 3 := by
  unfold uaOf; rw [if_neg (by simp [qkE h1]), if_pos (by omega)]
theorem qmO {l : List Int} {k : Nat} (h1 : l.length ≤ 8192) (h : k ≤ 8192) : uaOf (l.length : Int) (pk l) (k : Int) = 0 := by
  unfold uaOf; rw [if_neg (by simp [qkE h1]), if_neg (by omega)]
theorem qpJ {l : List Int} (hl : Bit l) {k : Nat} (h1 : l.length ≤ 8192) (h : k ≤ 8192) : ua (l.length : Int) (pk l) (k : Int) = uaR l k := by
  unfold ua; rw [qmO h1 h, if_neg (by simp), Int.toNat_natCast, Int.toNat_natCast, qln hl]
theorem qoD {m k : Int} {b : List Int} (h : uaOf m b k ≠ 0) : ua m b k = ([], 0, uaOf m b k) := by unfold ua; rw [if_pos h]
theorem qpW {F : Nat} (hF : 20000 ≤ F) {l : List Int} (hl : Bit l) (hlm : l.length ≤ 8192) : ∀ (k m a : Nat) (out : List Int), m + 1 < k → a ≤ l.length → out.length + m ≤ 10000 →
    kZ F (l.length : Int) (pk l) k ((m : Int), out, (a : Int), 0) = some (match ra m (l.drop a) with | none => ([], 0, 7) | some p => (out ++ p.1, ((l.length - p.2.length : Nat) : Int), 0))
  | 0, _, _, _, _, _, _ => by omega
  | k + 1, 0, a, out, h, ha, _ => by
    show zO F (l.length : Int) (pk l) _ ((0 : Nat) : Int) out (a : Int) 0 = _
    unfold zO
    rw [if_neg (by simp)]
    simp only [ra, List.append_nil, List.length_drop]
    rw [show l.length - (l.length - a) = a from by omega]
    rfl
  | k + 1, m + 1, a, out, h, ha, ho => by
    show zO F (l.length : Int) (pk l) (kZ F (l.length : Int) (pk l) k) ((m + 1 : Nat) : Int) out (a : Int) 0 = _
    unfold zO
    rw [if_pos (by simp), qo1 hF hl hlm ha]
    simp only [Option.bind_some]
    unfold ra
    cases hf : fz (l.drop a) with
    | none =>
      simp only [Bool.not_false, if_true, Option.bind_none, vF]
      rw [vQ (by simp; omega)]
      simp only [Option.bind_some]
      obtain ⟨k, rfl⟩ : ∃ k', k = k' + 1 := ⟨k - 1, by omega⟩
      show zO F (l.length : Int) (pk l) _ _ _ 0 7 = _
      unfold zO
      rw [if_neg (by simp)]
      rfl
    | some n =>
      have hn := qpY hf
      rw [List.length_drop] at hn
      simp only [Bool.not_true, Bool.false_eq_true, if_false, Option.bind_some, vF]
      rw [vQ (by simp; omega)]
      simp only [Option.bind_some]
      rw [qfq (by omega) (by omega), Nat.add_sub_cancel, qpW hF hl hlm k m (a + n + 1) (out ++ [(n : Int)]) (by omega) (by omega) (by simp; omega)]
      rw [List.drop_drop, show a + (n + 1) = a + n + 1 from by omega]
      cases ra m (l.drop (a + n + 1)) with
      | none => rfl
      | some p => simp
theorem qpL {F : Nat} (hF : 20000 ≤ F) {m k : Int} {b : List Int} (hb : U8s b) (hm : I64 m) (lb : b.length ≤ 9223372036854775807) : qb4 F m b k = some (ua m b k) := by
  unfold qb4
  rw [qb5 hb hm.1 hm.2 lb]
  simp only [Option.bind_some]
  have hE : ∀ e : Int, ∀ x : Int, e ≠ 0 → yW F m b x e = some ([], 0, e) := by
    intro e x he
    unfold yW
    obtain ⟨G, rfl⟩ : ∃ G, F = G + 1 := ⟨F - 1, by omega⟩
    show zO (G + 1) m b _ x [] 0 e = _
    unfold zO
    have h1 : (e == 0) = false := by simpa using he
    rw [h1]
    simp only [Bool.false_and, Bool.false_eq_true, if_false, qch]
    rw [if_pos (by simpa using he)]
  rcases qm7 hb (n := m) with h1 | ⟨l, hl, hlm, rfl, rfl⟩
  · have e := qoC (k := k) h1
    rw [if_neg (by simpa using h1), qoD (by rw [e]; exact h1), e]
    simp only [yr, Bool.false_eq_true, if_false]
    exact hE _ _ h1
  · rw [qkE hlm, if_pos (by rfl)]
    by_cases h : 0 ≤ k ∧ k ≤ 8192
    · obtain ⟨k, rfl⟩ := Int.eq_ofNat_of_zero_le h.1
      rw [qpJ hl hlm (by omega)]
      rw [show (decide ((k : Int) < 0) || decide (8192 < (k : Int))) = false from by simp; omega]
      simp only [yr, Bool.false_eq_true, if_false, yW]
      have := qpW hF hl hlm F k 0 [] (by omega) (by omega) (by simp; omega)
      rw [List.drop_zero] at this
      rw [show ((0 : Nat) : Int) = 0 from rfl] at this
      rw [this]
      unfold uaR
      cases ra k l with
      | none => rfl
      | some p => simp
    · have e := qlf hlm h
      rw [qoD (by rw [e]; decide), e]
      rw [show (decide (k < 0) || decide (8192 < k)) = true from by simp; omega]
      simp only [yr, if_true]
      exact hE _ _ (by decide)
theorem qjw (n : Nat) : qa8 (n + 200) = some true := by kernel_rfl
theorem qiN {F : Nat} (hF : 20000 ≤ F) : qa8 F = some true := by
  obtain ⟨n, rfl⟩ : ∃ n, F = n + 200 := ⟨F - 200, by omega⟩
  exact qjw n
def len (x : Nat) : Nat := if x = 0 then 0 else x.log2 + 1
theorem qee {x k : Nat} : len x ≤ k ↔ x < 2 ^ k := by
  unfold len
  by_cases h : x = 0
  · rw [if_pos h, h]; simp [Nat.pow_pos]
  · rw [if_neg h]; exact Nat.log2_lt h
theorem qkQ {x k : Nat} (h1 : x < 2 ^ k) (h2 : k = 0 ∨ 2 ^ (k - 1) ≤ x) : len x = k := by
  have h3 := qee.2 h1
  rcases h2 with rfl | h2
  · omega
  · by_cases h4 : len x ≤ k - 1
    · have := qee.1 h4; omega
    · omega
theorem qnD {x : Nat} : x < 2 ^ len x := qee.1 (Nat.le_refl _)
theorem qnC {x : Nat} (h : x ≠ 0) : 2 ^ (len x - 1) ≤ x := by
  have h1 : 1 ≤ len x := by unfold len; rw [if_neg h]; omega
  apply Nat.le_of_not_lt
  intro h2
  have := qee.2 h2
  omega
theorem qi2 {x : Nat} (h : x ≠ 0) : 1 ≤ len x := by unfold len; rw [if_neg h]; omega
theorem qfO {x k : Nat} (h : 2 ^ k ≤ x) : len (x / 2 ^ k) + k = len x := by
  have hp : 0 < 2 ^ k := Nat.pow_pos (by decide)
  have hx : x ≠ 0 := by omega
  have hd : x / 2 ^ k ≠ 0 := by
    intro h0
    rw [Nat.div_eq_zero_iff] at h0
    omega
  symm
  apply qkQ
  · rw [Nat.pow_add]
    have := qnD (x := x / 2 ^ k)
    exact (Nat.div_lt_iff_lt_mul hp).1 this
  · right
    have h1 := qi2 hd
    have := qnC hd
    rw [show len (x / 2 ^ k) + k - 1 = len (x / 2 ^ k) - 1 + k from by omega, Nat.pow_add]
    exact (Nat.le_div_iff_mul_le hp).1 this
theorem qpe : ∀ x : Fin 256, ∀ k : Fin 8, kG 0 ((x.val : Nat) : Int) ((8 * k.val : Nat) : Int) = some ((len x.val + 8 * k.val : Nat) : Int) := by decide +kernel
theorem qlF {F x k : Nat} (hx : x < 256) (hk : k ≤ 56) (h8 : k % 8 = 0) : kG F (x : Int) (k : Int) = some ((len x + k : Nat) : Int) := by
  have h := qpe ⟨x, hx⟩ ⟨k / 8, by omega⟩
  simp only at h
  rw [show 8 * (k / 8) = k from by omega] at h
  exact h
theorem qlE {F x k : Nat} (hx : x < 65536) (hk : k ≤ 48) (h8 : k % 8 = 0) : kF F (x : Int) (k : Int) = some ((len x + k : Nat) : Int) := by
  unfold kF
  by_cases h : 256 ≤ x
  · have e := qfM (n := x) (k := 8) (by omega)
    rw [show ((8 : Nat) : Int) = 8 from rfl] at e
    have e2 : iadd .i64 (k : Int) 8 = ((k + 8 : Nat) : Int) := by rw [qW (by omega) (by omega)]; omega
    rw [if_pos (by simp; omega), e, e2, qlF (by omega) (by omega) (by omega), ← qfO (x := x) (k := 8) (by omega)]
    congr 2; omega
  · rw [if_neg (by simp; omega), qlF (by omega) (by omega) (by omega)]
theorem qlD {F x k : Nat} (hx : x < 4294967296) (hk : k ≤ 32) (h8 : k % 8 = 0) : kE F (x : Int) (k : Int) = some ((len x + k : Nat) : Int) := by
  unfold kE
  by_cases h : 65536 ≤ x
  · have e := qfM (n := x) (k := 16) (by omega)
    rw [show ((16 : Nat) : Int) = 16 from rfl] at e
    have e2 : iadd .i64 (k : Int) 16 = ((k + 16 : Nat) : Int) := by rw [qW (by omega) (by omega)]; omega
    rw [if_pos (by simp; omega), e, e2, qlE (by omega) (by omega) (by omega), ← qfO (x := x) (k := 16) (by omega)]
    congr 2; omega
  · rw [if_neg (by simp; omega), qlE (by omega) (by omega) (by omega)]
theorem qjY {F x : Nat} (hx : x < 18446744073709551616) : kP F (x : Int) = some ((len x : Nat) : Int) := by
  unfold kP
  by_cases h : 4294967296 ≤ x
  · have e := qfM (n := x) (k := 32) (by omega)
    rw [show ((32 : Nat) : Int) = 32 from rfl] at e
    have := qlD (F := F) (x := x / 2 ^ 32) (k := 32) (by omega) (by omega) (by omega)
    rw [show ((32 : Nat) : Int) = 32 from rfl] at this
    rw [if_pos (by simp; omega), e, this, qfO (x := x) (k := 32) (by omega)]
  · have := qlD (F := F) (x := x) (k := 0) (by omega) (by omega) (by omega)
    rw [show ((0 : Nat) : Int) = 0 from rfl] at this
    rw [if_neg (by simp; omega), this, Nat.add_zero]
def lg (n : Nat) : Nat := len (n + 1) - 1
theorem qnE {n : Nat} (h : n ≤ 1099511627776) : lg n ≤ 40 := by
  have : len (n + 1) ≤ 41 := qee.2 (by omega)
  unfold lg; omega
theorem qq1 {n : Nat} (h : n + 1 < 18446744073709551616) : lg n ≤ 63 := by
  have : len (n + 1) ≤ 64 := qee.2 (by rw [two64]; exact h)
  unfold lg; omega
theorem qpk {F n : Nat} (h : n + 1 < 18446744073709551616) : vi F (n : Int) = some ((lg n : Nat) : Int) := by
  unfold vi
  have e : iadd .u64 (n : Int) 1 = ((n + 1 : Nat) : Int) := by unfold iadd; rw [kI (by omega) (by omega)]; omega
  rw [e, qjY (by omega)]
  simp only [Option.bind_some]
  have h1 := qi2 (x := n + 1) (by omega)
  have h2 : len (n + 1) ≤ 64 := qee.2 (by rw [two64]; omega)
  rw [qfq h1 (by omega)]
  rfl
theorem pow64 {k : Nat} (h : k ≤ 63) : 2 ^ k ≤ 9223372036854775808 := by
  have := Nat.pow_le_pow_right (show 0 < 2 by decide) h
  rwa [show (2 : Nat) ^ 63 = 9223372036854775808 from by decide] at this
theorem qnY {k : Nat} (h : k ≤ 63) : ishl .u64 1 (k : Int) = ((2 ^ k : Nat) : Int) := by
  have := qny (n := 1) (k := k) (by omega)
  rw [show ((1 : Nat) : Int) = 1 from rfl] at this
  have hp := pow64 h
  rw [this, Nat.one_mul, Nat.mod_eq_of_lt (by omega)]
theorem qqR {a b : Nat} (h : b ≤ a) (h2 : a < 18446744073709551616) : isub .u64 (a : Int) (b : Int) = ((a - b : Nat) : Int) := by
  unfold isub; rw [kI (by omega) (by omega)]; omega
theorem ql2 {a : Nat} (h : 1 ≤ a) (h2 : a < 18446744073709551616) : isub .u64 (a : Int) 1 = ((a - 1 : Nat) : Int) := by
  unfold isub; rw [kI (by omega) (by omega)]; omega
theorem qqO {a b : Nat} (h2 : a + b < 18446744073709551616) : iadd .u64 (a : Int) (b : Int) = ((a + b : Nat) : Int) := by
  unfold iadd; rw [kI (by omega) (by omega)]; omega
theorem qpK {a : Nat} (h2 : a + 1 < 18446744073709551616) : iadd .u64 (a : Int) 1 = ((a + 1 : Nat) : Int) := by
  unfold iadd; rw [kI (by omega) (by omega)]; omega
theorem qqt {F n k : Nat} (hn : n < 18446744073709551616) (hk : k ≤ 63) : qb0 F (n : Int) (k : Int) = some ((n % 2 ^ k : Nat) : Int) := by
  unfold qb0
  have hp := pow64 hk
  have hp0 : 0 < 2 ^ k := Nat.pow_pos (by decide)
  have hc : decide ((0 : Int) ≤ (k : Int)) = true := decide_eq_true (by omega)
  rw [hc]
  simp only [chk, if_true, lett]
  rw [qnY hk, ql2 (by omega) (by omega)]
  have e := qev (k := .u64) (a := (n : Int)) (m := k) (by omega) (by simp only [IntKind.bits]; rw [show (2 : Int) ^ 64 = 18446744073709551616 from by decide]; omega) (by simp only [IntKind.bits]; omega) rfl
  rw [e]
  norm_cast
theorem qqv {n k w : Nat} (h : w ≤ k) : nb (n % 2 ^ k) w = nb n w := by
  induction w with
  | zero => rfl
  | succ w ih =>
    rw [nb, nb, ih (by omega)]
    congr 2
    have hp : 2 ^ k = 2 ^ w * 2 ^ (k - w) := by rw [← Nat.pow_add]; congr 1; omega
    rw [hp, Nat.mod_mul_right_div_self]
    have hp2 : 2 ^ (k - w) = 2 * 2 ^ (k - w - 1) := by rw [← Nat.pow_succ']; congr 1; omega
    rw [hp2, Nat.mod_mul_right_mod]
def ga (n : Nat) : List Int := un (lg n) ++ nb (n + 1) (lg n)
def de (n : Nat) : List Int := ga (lg n) ++ nb (n + 1) (lg n)
theorem qqj (n : Nat) : (ga n).length = 2 * lg n + 1 := by unfold ga; rw [List.length_append, qfX, qfP]; omega
theorem qka {F n : Nat} (hF : 20000 ≤ F) (hn : n + 1 < 18446744073709551616) : yR F (n : Int) = some (((ga n).length : Int), pk (ga n)) := by
  unfold yR
  have h63 := qq1 hn
  rw [qpk hn]
  simp only [Option.bind_some]
  rw [qf6 (by omega), qkW hF (by omega)]
  simp only [Option.bind_some]
  rw [qpK hn, qqt hn h63]
  simp only [Option.bind_some]
  have hlt : (n + 1) % 2 ^ lg n < 18446744073709551616 := by have := Nat.mod_le (n + 1) (2 ^ lg n); omega
  rw [qeQ hlt (by omega) (qjd _) (by rw [qfX]; omega) (by omega), qqv (Nat.le_refl _)]
  rfl
def ec (code : Nat → List Int) (n : Int) : Int × List Int × Int := if 1099511627776 < n then (0, [], 3) else (((code n.toNat).length : Int), pk (code n.toNat), 0)
theorem qqf {code : Nat → List Int} {n : Int} (h : 1099511627776 < n) : ec code n = (0, [], 3) := by unfold ec; rw [if_pos h]
theorem qoW {code : Nat → List Int} {n : Nat} (h : n ≤ 1099511627776) : ec code (n : Int) = (((code n).length : Int), pk (code n), 0) := by unfold ec; rw [if_neg (by omega), Int.toNat_natCast]
theorem qnl {F : Nat} (hF : 20000 ≤ F) {n : Int} (hn : U64 n) : vK F n = some (ec ga n) := by
  unfold vK k7
  by_cases h : 1099511627776 < n
  · rw [if_pos (by simpa using h), qqf h]; rfl
  · obtain ⟨n, rfl⟩ := Int.eq_ofNat_of_zero_le hn.1
    rw [if_neg (by simpa using h), qka hF (by omega), qoW (by omega)]; rfl
def lo (n : Int) : Int × Int × Int := if 1099511627776 < n then (0, 0, 3) else (((ga n.toNat).length : Int), ((de n.toNat).length : Int), 0)
theorem qme {F : Nat} {m a : Int} {b : List Int} (hb : U8s b) (hm : I64 m) (lb : b.length ≤ 9223372036854775807) : k8 F m b a = some (raOf m b a) := by
  unfold k8 raOf
  rw [qb5 hb hm.1 hm.2 lb]
  simp only [Option.bind_some]
  by_cases h1 : chkOf m b = 0
  · rw [if_pos (by simpa using h1), if_neg (by simp [h1])]
    simp only [jZ, jY]
    by_cases h : a < 0 ∨ m < a
    · rw [if_pos h, if_pos (by simp; omega)]
    · rw [if_neg h, if_neg (by simp; omega), h1]
  · rw [if_neg (by simpa using h1), if_pos h1]
    rfl
def sh (m : Nat) : Nat := len (m - 1)
def dd (m : Nat) : Nat := 2 ^ sh m - m
theorem qp6 {m : Nat} (h : 1 ≤ m) : m ≤ 2 ^ sh m := by have := qnD (x := m - 1); unfold sh; omega
theorem qnW {m : Nat} (h : m ≤ 9223372036854775808) : sh m ≤ 63 := qee.2 (by rw [show (2 : Nat) ^ 63 = 9223372036854775808 from by decide]; omega)
theorem qrb {m : Nat} (h : 2 ≤ m) : 1 ≤ sh m ∧ 2 ^ (sh m - 1) < m := by
  have h1 := qi2 (x := m - 1) (by omega)
  have h2 := qnC (x := m - 1) (by omega)
  unfold sh; omega
theorem qrj : sh 1 = 0 := rfl
theorem qna {m : Nat} (h : 1 ≤ m) : m + dd m = 2 ^ sh m := by have := qp6 h; unfold dd; omega
theorem qqZ {m : Nat} (h : 1 ≤ m) (hd : 0 < dd m) : 1 ≤ sh m ∧ dd m < 2 ^ (sh m - 1) := by
  by_cases h2 : 2 ≤ m
  · obtain ⟨h3, h4⟩ := qrb h2
    have h5 := qna h
    have h6 : 2 ^ sh m = 2 * 2 ^ (sh m - 1) := by rw [← Nat.pow_succ']; congr 1; omega
    omega
  · obtain rfl : m = 1 := by omega
    simp [dd, qrj] at hd
theorem qnX {F m : Nat} (h : 1 ≤ m) (h2 : m ≤ 9223372036854775808) : jq F (m : Int) = some ((sh m : Int), (dd m : Int)) := by
  unfold jq
  have h63 := qnW h2
  have hl := qp6 h
  rw [ql2 h (by omega), qjY (by omega)]
  simp only [Option.bind_some]
  have hc : decide ((0 : Int) ≤ ((len (m - 1) : Nat) : Int)) = true := decide_eq_true (by omega)
  rw [hc]
  simp only [chk, if_true]
  have hp := pow64 h63
  have e := qnY h63
  unfold sh at e hl hp
  rw [e, qqR hl (by omega)]
  rfl
def le (n m : Nat) : List Int := if n < dd m then nb n (sh m - 1) else nb (n + dd m) (sh m)
theorem qqs (n m : Nat) : (le n m).length = if n < dd m then sh m - 1 else sh m := by unfold le; split <;> exact qfP _ _
theorem qjq {F n m : Nat} {l : List Int} (hF : 20000 ≤ F) (hl : Bit l) (hlm : l.length ≤ 8192) (hm : m ≤ 9223372036854775808) (hn : n < m) :
    kL F (l.length : Int) (pk l) (n : Int) (m : Int) = some (((l ++ le n m).length : Int), pk (l ++ le n m)) := by
  unfold kL le
  have h63 := qnW hm
  have ha := qna (m := m) (by omega)
  have hp := pow64 h63
  rw [qnX (by omega) hm]
  simp only [Option.bind_some]
  by_cases h : n < dd m
  · obtain ⟨h1, h2⟩ := qqZ (m := m) (by omega) (by omega)
    rw [if_pos (by simp; omega), if_pos h, qfq h1 (by omega), qeQ (by omega) (by omega) hl hlm (by omega)]
    rfl
  · rw [if_neg (by simp; omega), if_neg h, qqO (by omega), qeQ (by omega) (by omega) hl hlm (by omega)]
    rfl
def Rt (m : Int) : Prop := 1 ≤ m ∧ m ≤ 1099511627776
instance rtDec (m : Int) : Decidable (Rt m) := inferInstanceAs (Decidable (_ ∧ _))
theorem qnP {F : Nat} {m : Int} : yj F m = some (decide (Rt m)) := by
  unfold yj Rt
  by_cases h1 : 1 ≤ m <;> by_cases h2 : m ≤ 1099511627776 <;> simp [h1, h2]
def ok3 (l : List Int) : Int × List Int × Int := ((l.length : Int), pk l, 0)
theorem qqF {m : Int} (h : Rt m) : ∃ k : Nat, m = k ∧ 1 ≤ k ∧ k ≤ 1099511627776 := by
  obtain ⟨k, rfl⟩ := Int.eq_ofNat_of_zero_le (show 0 ≤ m by have := h.1; omega)
  exact ⟨k, rfl, by have := h.1; omega, by have := h.2; omega⟩
def gc (n m : Nat) : List Int := un (n / m) ++ le (n % m) m
def Cd (n m : Int) : Prop := Rt m ∧ n ≤ 1099511627776 ∧ n / m < 8128
instance cdDec (n m : Int) : Decidable (Cd n m) := inferInstanceAs (Decidable (_ ∧ _))
def go (n m : Int) : Int × List Int × Int := if Cd n m then ok3 (gc n.toNat m.toNat) else (0, [], 3)
theorem qkK {n m : Int} (h : ¬ Cd n m) : go n m = (0, [], 3) := by unfold go; rw [if_neg h]
theorem qo4 {n m : Nat} (h : Cd n m) : go n m = ok3 (gc n m) := by unfold go; rw [if_pos h, Int.toNat_natCast, Int.toNat_natCast]
theorem qoE {a b : Nat} (ha : a < 18446744073709551616) : iquo .u64 (a : Int) (b : Int) = ((a / b : Nat) : Int) := by
  unfold iquo
  rw [Int.tdiv_eq_ediv_of_nonneg (by omega), ← Int.natCast_ediv]
  have := Nat.div_le_self a b
  generalize a / b = q at this
  exact kI (by omega) (by omega)
theorem qqQ {a b : Nat} : irem (a : Int) (b : Int) = ((a % b : Nat) : Int) := by
  unfold irem; rw [Int.tmod_eq_emod_of_nonneg (by omega)]; norm_cast
theorem qnm {F : Nat} (hF : 20000 ≤ F) {n m : Int} (hn : U64 n) : qap F n m = some (go n m) := by
  unfold qap
  rw [qnP]
  simp only [Option.bind_some]
  by_cases h : Rt m
  · obtain ⟨m, rfl, h1, h2⟩ := qqF h
    obtain ⟨n, rfl⟩ := Int.eq_ofNat_of_zero_le hn.1
    by_cases h3 : n ≤ 1099511627776
    · have hc : ((m : Int) != 0) = true := by rw [bne_iff_ne]; omega
      rw [decide_eq_true h, if_neg (by simp; omega), hc, qoE (by omega)]
      simp only [chk, if_true]
      unfold j4
      have hdiv : (n : Int) / (m : Int) = ((n / m : Nat) : Int) := by norm_cast
      by_cases h4 : n / m < 8128
      · rw [if_neg (by simp only [decide_eq_true_eq]; omega), qo4 ⟨h, by omega, by rw [hdiv]; omega⟩, hc]
        simp only [chk, if_true]
        rw [qoE (by omega), qkW hF (by omega), qqQ]
        simp only [Option.bind_some]
        rw [qjq hF (qjd _) (by rw [qfX]; omega) (by omega) (Nat.mod_lt _ (by omega))]
        rfl
      · rw [if_pos (by simp only [decide_eq_true_eq]; omega), qkK (fun hh => by have := hh.2.2; rw [hdiv] at this; omega)]
    · rw [decide_eq_true h, if_pos (by simp; omega), qkK (fun hh => by have := hh.2.1; omega)]
      rfl
  · rw [decide_eq_false h, if_pos (by simp), qkK (fun hh => h hh.1)]
    rfl
theorem qjv (n : Nat) : qa2 (n + 200) = some true := by kernel_rfl
theorem qiL {F : Nat} (hF : 20000 ≤ F) : qa2 F = some true := by
  obtain ⟨n, rfl⟩ : ∃ n, F = n + 200 := ⟨F - 200, by omega⟩
  exact qjv n
theorem qiM (n : Nat) : qaw (n + 200) = some true := by kernel_rfl
theorem qhH {F : Nat} (hF : 20000 ≤ F) : qaw F = some true := by
  obtain ⟨n, rfl⟩ : ∃ n, F = n + 200 := ⟨F - 200, by omega⟩
  exact qiM n
theorem qnB {n m : Nat} (hm : m ≤ 9223372036854775808) : (le n m).length ≤ 63 := by
  have := qqs n m; have := qnW hm; split at * <;> omega
theorem qqk {n m : Nat} : (gc n m).length = n / m + 1 + (le (n % m) m).length := by unfold gc; rw [List.length_append, qfX]
theorem qn3 (l : List Int) : (srt l).Perm l := List.mergeSort_perm l _
theorem qqI (l : List Int) : (srt l).Pairwise (· ≤ ·) := by
  have h := List.pairwise_mergeSort (le := fun x y : Int => decide (x ≤ y)) (fun a b c h1 h2 => by simp only [decide_eq_true_eq] at *; omega) (fun a b => by simp only [Bool.or_eq_true, decide_eq_true_eq]; omega) l
  exact h.imp (fun h => by simpa using h)
theorem qqH {l m : List Int} (hp : l.Perm m) (hm : m.Pairwise (· ≤ ·)) : srt l = m :=
  List.Perm.eq_of_pairwise (le := fun x y : Int => x ≤ y) (fun a b _ _ h1 h2 => by omega) (qqI l) hm ((qn3 l).trans hp)
theorem qo5 {F n : Nat} (h : n ≤ 1000000) : ym F ([] : List Int) 0 (n : Int) = some [] := by
  unfold ym lett
  rw [if_neg (by simp)]
  have e1 : isub .i64 ((0 : Nat) : Int) (([] : List Int).length : Int) = 0 := by decide
  rw [e1, jw (by omega) (by omega), Int.sub_zero]
  by_cases h0 : n = 0
  · subst h0; rfl
  · simp only
    rw [if_pos (by simp; omega)]
    have e2 : sub ([] : List Int) 0 ((0 : Nat) : Int) = some [] := by decide
    have e3 : appz 8796093022208 ([] : List Int) 0 (n : Int) = some (List.replicate n 0) := by
      unfold appz
      rw [if_pos (by simp; omega)]
      simp
    rw [e2]
    simp only [Option.bind_some]
    rw [e3]
    simp only [Option.bind_some]
    have e4 : sub (List.replicate n (0 : Int)) 0 ((([] : List Int).length : Nat) : Int) = some [] := by
      have := qp8 (l := List.replicate n (0 : Int)) (i := 0) (j := 0) (by omega) (by omega)
      simpa using this
    rw [e4]
    rfl
theorem qmc {F : Nat} (hF : 20000 ≤ F) {a b : List Int} (h : a.length + b.length ≤ 1000000) : zI F [a, b] = some (a ++ b) := by
  obtain ⟨k, rfl⟩ : ∃ k, F = k + 3 := ⟨F - 3, by omega⟩
  have i0 : idx [a, b] (0 : Int) = some a := rfl
  have i1 : idx [a, b] (1 : Int) = some b := rfl
  have e0 : iadd .i64 0 (a.length : Int) = (a.length : Int) := by rw [qW (by omega) (by omega)]; omega
  have e1 : iadd .i64 (a.length : Int) (b.length : Int) = ((a.length + b.length : Nat) : Int) := qeT (by omega)
  have o1 : iadd .i64 0 1 = 1 := by decide
  have o2 : iadd .i64 1 1 = 2 := by decide
  have hs : kf (k + 3) [a, b] ((a.length + b.length : Nat) : Int) = some (a ++ b) := by
    unfold kf
    rw [qo5 h]
    simp only [Option.bind_some]
    show qU (k + 3) [a, b] (zf (k + 3) [a, b] (k + 2)) [] 0 = _
    unfold qU
    rw [if_pos (by simp), i0]
    simp only [Option.bind_some]
    rw [vQ (by simp; omega), o1]
    simp only [Option.bind_some, List.nil_append]
    show qU (k + 3) [a, b] (zf (k + 3) [a, b] (k + 1)) a 1 = _
    unfold qU
    rw [if_pos (by simp), i1]
    simp only [Option.bind_some]
    rw [vQ (by omega), o2]
    simp only [Option.bind_some]
    show qU (k + 3) [a, b] (zf (k + 3) [a, b] k) (a ++ b) 2 = _
    unfold qU
    rw [if_neg (by simp)]
    rfl
  unfold zI
  show qV (k + 3) [a, b] (zg (k + 3) [a, b] (k + 2)) 0 0 = _
  unfold qV
  rw [if_pos (by simp), i0]
  simp only [Option.bind_some]
  rw [e0, if_neg (by simp), o1]
  show qV (k + 3) [a, b] (zg (k + 3) [a, b] (k + 1)) (a.length : Int) 1 = _
  unfold qV
  rw [if_pos (by simp), i1]
  simp only [Option.bind_some]
  rw [e1, if_neg (by simp; omega), o2]
  show qV (k + 3) [a, b] (zg (k + 3) [a, b] k) ((a.length + b.length : Nat) : Int) 2 = _
  unfold qV
  rw [if_neg (by simp)]
  exact hs
def tb : Bool → Int → List Bool → List Int
  | _, _, [] => []
  | c, m, b :: bs => if b != c then m :: tb b 1 bs else tb c (m + 1) bs
def vb : Nat → Int → List Int
  | 0, n => [n]
  | j + 1, n => if n < 128 then [n] else (n % 128 + 128) :: vb j (n / 128)
theorem qhk (j : Nat) {n : Int} (h : n < 128) : vb j n = [n] := by cases j <;> simp [vb, h]
theorem qlh (j : Nat) {n : Int} (h : ¬ n < 128) : vb (j + 1) n = (n % 128 + 128) :: vb j (n / 128) := by simp [vb, h]
theorem qqS (j : Nat) (n : Int) : 1 ≤ (vb j n).length := by
  cases j with
  | zero => simp [vb]
  | succ j => unfold vb; split <;> simp
def vn (n : Int) : List Int := vb 9 n
theorem qoL {n : Int} : ior .u8 (iconv .u8 n) 128 = n % 128 + 128 := by
  have h1 : iconv .u8 n = n % 256 := qgc n
  rw [h1]
  by_cases h : n % 256 < 128
  · rw [qiY (m := 7) (by omega) (by simpa using h) (by decide) (by decide) rfl (by simp [IntKind.bits]; omega)]
    omega
  · have hx : ∃ y : Nat, n % 256 = (y : Int) ∧ 128 ≤ y ∧ y < 256 := ⟨(n % 256).toNat, by omega, by omega, by omega⟩
    obtain ⟨y, hy, h2, h3⟩ := hx
    have key : ∀ y : Fin 256, 128 ≤ y.val → ior .u8 (y.val : Int) 128 = (y.val : Int) := by decide +kernel
    have := key ⟨y, h3⟩ h2
    simp only at this
    rw [hy, this]
    omega
theorem qpR (n : Int) : ishr .u64 n 7 = n / 128 := by
  have := qiZ (k := .u64) (a := n) (m := 7) (by decide)
  simpa using this
theorem qoH (F : Nat) : ∀ (j k : Nat) (out : List Int) (n : Int), 0 ≤ n → n < 128 ^ (j + 1) → j < k → out.length + j + 1 ≤ 70368744177664 →
    yx F k (out, n) = some (out ++ vb j n)
  | j, 0, out, n, _, _, h, _ => by omega
  | j, k + 1, out, n, h0, h1, hk, hl => by
    show qaN F (yx F k) out n = _
    unfold qaN
    by_cases hn : 128 ≤ n
    · cases j with
      | zero => simp at h1; omega
      | succ j =>
        simp only [hn, decide_true, if_true]
        rw [qoL, qpR, vQ (by simp; omega)]
        simp only [Option.bind_some]
        rw [qoH F j k _ _ (by omega) (by rw [Int.pow_succ] at h1; omega) (by omega) (by simp; omega), qlh j (by omega)]
        simp
    · simp only [hn, decide_false, Bool.false_eq_true, if_false]
      unfold qck
      rw [vQ (by simp; omega), qhk j (by omega)]
      have : iconv .u8 n = n := ql5 h0 (by omega)
      simp [this]
theorem qpO {F : Nat} (hF : 10 ≤ F) {out : List Int} {n : Int} (h0 : 0 ≤ n) (h1 : n < 18446744073709551616) (hl : out.length ≤ 1000000) : qcv F out n = some (out ++ vn n) := by
  unfold qcv
  exact qoH F 9 F out n h0 (Int.lt_of_lt_of_le h1 (by decide)) (by omega) (by omega)
def vrd : List Int → Nat → Int → Int × Nat × Int
  | [], _, _ => (0, 0, 7)
  | x :: s, i, n => if i = 9 ∧ 1 < x then (0, 0, 3) else if 0 < i ∧ x = 0 then (0, 0, 1) else
    if x < 128 then (n + x % 128 * 128 ^ i, i + 1, 0) else vrd s (i + 1) (n + x % 128 * 128 ^ i)
def vout (at' : Nat) (r : Int × Nat × Int) : Int × Int × Int := if r.2.2 = 0 then (r.1, (at' : Int) + (r.2.1 : Int), 0) else (0, 0, r.2.2)
theorem qpS : ∀ i : Fin 10, ((128 : Int) ^ i.val = 2 ^ (7 * i.val)) := by decide
theorem qhl {i : Nat} (hi : i ≤ 9) : (128 : Int) ^ i ≤ 9223372036854775808 ∧ 1 ≤ (128 : Int) ^ i := by
  have key : ∀ i : Fin 10, (128 : Int) ^ i.val ≤ 9223372036854775808 ∧ 1 ≤ (128 : Int) ^ i.val := by decide
  exact key ⟨i, by omega⟩
theorem qkq {i : Nat} {x : Int} (hi : i ≤ 9) (hx : 0 ≤ x) (h9 : i = 9 → x ≤ 1) : 0 ≤ x % 128 * 128 ^ i ∧ x % 128 * 128 ^ i + 128 ^ i ≤ 18446744073709551616 := by
  have hp := qhl hi
  have h1 : 0 ≤ x % 128 := by omega
  have h2 : 0 ≤ x % 128 * 128 ^ i := Int.mul_nonneg h1 (by omega)
  refine ⟨h2, ?_⟩
  by_cases h : i = 9
  · subst h
    have := h9 rfl
    have h3 : x = 0 ∨ x = 1 := by omega
    rcases h3 with rfl | rfl <;> decide
  · have h4 : i ≤ 8 := by omega
    have key : ∀ i : Fin 9, (128 : Int) ^ i.val ≤ 72057594037927936 := by decide
    have h5 := key ⟨i, by omega⟩
    simp only at h5
    have h6 : x % 128 * 128 ^ i ≤ 127 * 128 ^ i := Int.mul_le_mul_of_nonneg_right (by omega) (by omega)
    omega
theorem qmQ {x : Int} (h0 : 0 ≤ x) (h1 : x < 256) : iand .u8 x 127 = x % 128 := by
  have := qev (k := .u8) (a := x) (m := 7) h0 (by simpa [IntKind.bits] using h1) (by decide) rfl
  simpa using this
theorem ql4 (F : Nat) {b : List Int} (hb : U8s b) (hm : b.length ≤ 4611686018427387904) {at' : Nat} (hat : at' ≤ b.length) : ∀ (k i : Nat) (n : Int), 9 < k + i → i ≤ 9 → at' + i ≤ b.length → 0 ≤ n → n < 128 ^ i →
    yg F b at' k (n, (i : Int)) = some (vout at' (vrd (b.drop (at' + i)) i n))
  | 0, i, n, h, hi, _, _, _ => by omega
  | k + 1, i, n, h, hi, hai, hn0, hn1 => by
    show qac F b at' (yg F b at' k) n i = _
    unfold qac
    have e1 : iadd .i64 (at' : Int) (i : Int) = ((at' + i : Nat) : Int) := by rw [qW (by omega) (by omega)]; omega
    have e2 : imul .i64 7 (i : Int) = ((7 * i : Nat) : Int) := by rw [qjV (by omega) (by omega)]; omega
    rw [e1, e2]
    by_cases hlt : at' + i < b.length
    · have h1 : ¬ ((b.length : Int) ≤ ((at' + i : Nat) : Int)) := by omega
      have hg : b[at' + i]? = some b[at' + i] := by simp [hlt]
      have hx := hb b[at' + i] (List.getElem_mem hlt)
      rw [List.drop_eq_getElem_cons hlt]
      simp only [h1, decide_false, Bool.false_eq_true, if_false, qM, hg, Option.bind_some]
      generalize b[at' + i] = x at hx
      unfold vrd
      by_cases c1 : i = 9 ∧ 1 < x
      · have : (((i : Int) == 9) && decide (1 < x)) = true := by simp [c1.1, c1.2]
        rw [if_pos this, if_pos c1]
        rfl
      · have hc1 : (((i : Int) == 9) && decide (1 < x)) = false := by
          rw [Bool.eq_false_iff]; intro h; apply c1; simp at h; exact ⟨by omega, h.2⟩
        simp only [hc1, Bool.false_eq_true, if_false, c1]
        by_cases c2 : 0 < i ∧ x = 0
        · have : (decide ((0 : Int) < i) && (x == 0)) = true := by simp [c2.2]; omega
          rw [if_pos this, if_pos c2]
          rfl
        · have hc2 : (decide ((0 : Int) < i) && (x == 0)) = false := by
            rw [Bool.eq_false_iff]; intro h; apply c2; simp at h; exact ⟨by omega, h.2⟩
          simp only [hc2, Bool.false_eq_true, if_false, c2]
          have hch : decide ((0 : Int) ≤ ((7 * i : Nat) : Int)) = true := decide_eq_true (by omega)
          simp only [hch, chk, if_true, lett]
          have hpl := qkq (x := x) hi hx.1 (fun e => by omega)
          have hpw : (128 : Int) ^ i = 2 ^ (7 * i) := qpS ⟨i, by omega⟩
          have hv : ior .u64 n (ishl .u64 (iconv .u64 (iand .u8 x 127)) ((7 * i : Nat) : Int)) = n + x % 128 * 128 ^ i := by
            rw [qmQ hx.1 hx.2, qgS (by omega)]
            have h1 : iconv .u64 (x % 128) = x % 128 := kI (by omega) (by omega)
            rw [h1, ← hpw, Int.emod_eq_of_lt hpl.1 (by omega)]
            refine qiY (m := 7 * i) hn0 (by rw [← hpw]; exact hn1) hpl.1 ?_ rfl ?_
            · rw [← hpw]; exact Int.mul_emod_left _ _
            · simp only [IntKind.bits]
              have : (2 : Int) ^ 64 = 18446744073709551616 := by decide
              omega
          rw [hv]
          by_cases c3 : x < 128
          · simp only [c3, decide_true, if_true]
            have e3 : iadd .i64 ((at' + i : Nat) : Int) 1 = ((at' + (i + 1) : Nat) : Int) := by rw [qW (by omega) (by omega)]; omega
            rw [e3]
            unfold vout
            simp
          · simp only [c3, decide_false, Bool.false_eq_true, if_false]
            have hi9 : i ≠ 9 := by intro e; apply c1; exact ⟨e, by omega⟩
            rw [qW (by omega) (by omega), show (i : Int) + 1 = ((i + 1 : Nat) : Int) from by omega,
              ql4 F hb hm hat k (i + 1) _ (by omega) (by omega) (by omega) (by omega) (by rw [Int.pow_succ]; have : x % 128 * 128 ^ i ≤ 127 * 128 ^ i := Int.mul_le_mul_of_nonneg_right (by omega) (by omega); omega)]
            rw [show at' + (i + 1) = at' + i + 1 from by omega]
    · have h1 : ((b.length : Int) ≤ ((at' + i : Nat) : Int)) := by omega
      simp only [h1, decide_true, if_true]
      rw [List.drop_eq_nil_of_le (by omega)]
      rfl
theorem qoK {F : Nat} (hF : 10 ≤ F) {b : List Int} (hb : U8s b) (hm : b.length ≤ 4611686018427387904) {at' : Nat} (hat : at' ≤ b.length) : qat F b at' = some (vout at' (vrd (b.drop at') 0 0)) := by
  unfold qat
  have := ql4 F hb hm hat F 0 0 (by omega) (by omega) (by omega) (by omega) (by decide)
  simpa using this
theorem qp2 : ∀ (s : List Int) (i : Nat) (n v : Int) (c : Nat), U8s s → i ≤ 9 → vrd s i n = (v, c, 0) →
    ∃ m, 0 ≤ m ∧ v = n + m * 128 ^ i ∧ m * 128 ^ i < 18446744073709551616 ∧ (0 < i → m ≠ 0) ∧ c = i + (vb (9 - i) m).length ∧ s = vb (9 - i) m ++ s.drop (c - i)
  | [], i, n, v, c, _, _, h => by simp [vrd] at h
  | x :: s, i, n, v, c, hu, hi, h => by
    have hx := hu x (by simp)
    have hp := qhl hi
    unfold vrd at h
    by_cases c1 : i = 9 ∧ 1 < x
    · rw [if_pos c1] at h; simp at h
    · rw [if_neg c1] at h
      by_cases c2 : 0 < i ∧ x = 0
      · rw [if_pos c2] at h; simp at h
      · rw [if_neg c2] at h
        by_cases c3 : x < 128
        · rw [if_pos c3] at h
          simp only [Prod.mk.injEq, and_true] at h
          obtain ⟨rfl, rfl⟩ := h
          have hpl := qkq (x := x) hi hx.1 (fun e => by omega)
          have hxe : x % 128 = x := Int.emod_eq_of_lt hx.1 c3
          refine ⟨x, hx.1, by rw [hxe], by rw [hxe] at hpl; omega, fun h0 hz => c2 ⟨h0, hz⟩, by rw [qhk _ c3]; simp, ?_⟩
          rw [qhk _ c3, show i + 1 - i = 1 from by omega]
          simp
        · rw [if_neg c3] at h
          have hi8 : i ≤ 8 := by omega
          obtain ⟨m, h0, hv, hm, hz, hc, hs⟩ := qp2 s (i + 1) _ v c (fun y hy => hu y (List.mem_cons_of_mem _ hy)) (by omega) h
          have hz' := hz (by omega)
          have hj : 9 - i = (9 - (i + 1)) + 1 := by omega
          have e2 : x % 128 * 128 ^ i + m * 128 ^ (i + 1) = (x % 128 + 128 * m) * 128 ^ i := by
            rw [Int.pow_succ, Int.add_mul, Int.mul_comm 128 m, Int.mul_assoc m, Int.mul_comm 128 ((128 : Int) ^ i)]
          refine ⟨x % 128 + 128 * m, by omega, ?_, ?_, fun _ => by omega, ?_, ?_⟩
          · rw [← e2]; omega
          · rw [← e2]
            have : m * 128 ^ (i + 1) ≤ 18446744073709551616 - 128 ^ (i + 1) := by
              have hd : (18446744073709551616 : Int) = 18446744073709551616 / 128 ^ (i + 1) * 128 ^ (i + 1) := by
                have key : ∀ i : Fin 9, (18446744073709551616 : Int) = 18446744073709551616 / 128 ^ (i.val + 1) * 128 ^ (i.val + 1) := by decide
                exact key ⟨i, by omega⟩
              generalize (18446744073709551616 : Int) / 128 ^ (i + 1) = q at hd
              have hp1 := (qhl (i := i + 1) (by omega)).2
              rw [hd] at hm ⊢
              have hmq : m < q := Int.lt_of_mul_lt_mul_right hm (by omega)
              have : (m + 1) * 128 ^ (i + 1) ≤ q * 128 ^ (i + 1) := Int.mul_le_mul_of_nonneg_right (by omega) (by omega)
              rw [Int.add_mul] at this
              omega
            have hx2 : x % 128 * 128 ^ i ≤ 127 * 128 ^ i := Int.mul_le_mul_of_nonneg_right (by omega) (by omega)
            rw [Int.pow_succ] at this ⊢
            omega
          · rw [hj, qlh _ (by omega), show (x % 128 + 128 * m) / 128 = m from by omega]
            simp only [List.length_cons]
            omega
          · rw [hj, qlh _ (by omega), show (x % 128 + 128 * m) / 128 = m from by omega, show (x % 128 + 128 * m) % 128 + 128 = x from by omega]
            rw [show c - i = (c - (i + 1)) + 1 from by omega, List.drop_succ_cons, List.cons_append, ← hs]
theorem qqE {s : List Int} {v : Int} {c : Nat} (hu : U8s s) (h : vrd s 0 0 = (v, c, 0)) : 0 ≤ v ∧ v < 18446744073709551616 ∧ c = (vn v).length ∧ s = vn v ++ s.drop c := by
  obtain ⟨m, h0, hv, hm, _, hc, hs⟩ := qp2 s 0 0 v c hu (by omega) h
  simp at hv hm hc hs
  subst hv
  exact ⟨h0, hm, hc, hs⟩
theorem qnO {s : List Int} (hu : U8s s) (h : (vrd s 0 0).2.2 = 0) : 1 ≤ (vrd s 0 0).2.1 ∧ (vrd s 0 0).2.1 ≤ s.length := by
  have hr : vrd s 0 0 = ((vrd s 0 0).1, (vrd s 0 0).2.1, 0) := Prod.ext rfl (Prod.ext rfl h)
  obtain ⟨_, _, hc, hs⟩ := qqE hu hr
  have hp : 1 ≤ (vn (vrd s 0 0).1).length := qqS 9 (vrd s 0 0).1
  have hl : s.length = (vn (vrd s 0 0).1 ++ s.drop (vrd s 0 0).2.1).length := by rw [← hs]
  rw [List.length_append] at hl
  omega
theorem U8s.vdrop {s : List Int} (h : U8s s) (n : Nat) : U8s (s.drop n) := fun x hx => h x (List.mem_of_mem_drop hx)
def wins (a : Nat) : List Nat → List Nat
  | [] => [a]
  | b :: t => if a ≤ b then a :: b :: t else b :: wins a t
theorem qf0 (a : Nat) : ∀ l : List Nat, (wins a l).Perm (a :: l)
  | [] => List.Perm.refl _
  | b :: t => by
    unfold wins
    split
    · exact List.Perm.refl _
    · exact ((qf0 a t).cons b).trans (List.Perm.swap a b t)
theorem qgb {a : Nat} : ∀ {l : List Nat}, l.Pairwise (· ≤ ·) → (wins a l).Pairwise (· ≤ ·)
  | [], _ => by simp [wins]
  | b :: t, h => by
    rw [List.pairwise_cons] at h
    unfold wins
    split
    · rename_i hab
      refine List.pairwise_cons.2 ⟨fun x hx => ?_, List.pairwise_cons.2 h⟩
      rcases List.mem_cons.1 hx with rfl | hx
      · exact hab
      · exact Nat.le_trans hab (h.1 x hx)
    · rename_i hab
      refine List.pairwise_cons.2 ⟨fun x hx => ?_, qgb h.2⟩
      rcases List.mem_cons.1 ((qf0 a t).mem_iff.1 hx) with rfl | hx
      · omega
      · exact h.1 x hx
def hc : Nat → List Nat → Nat
  | 0, _ => 0
  | n + 1, a :: b :: t => a + b + hc n (wins (a + b) t)
  | _ + 1, _ => 0
abbrev Grp := List Nat × Nat
def glt (g h : Grp) : Bool := decide (g.2 < h.2) || (decide (g.2 = h.2) && decide (g.1.headD 0 < h.1.headD 0))
theorem qes {g h : Grp} : glt g h = true ↔ g.2 < h.2 ∨ (g.2 = h.2 ∧ g.1.headD 0 < h.1.headD 0) := by simp [glt]
theorem qh0 {a b c : Grp} (h : glt a b = true) (h' : glt b c = true) : glt a c = true := by
  rw [qes] at *
  omega
def gins (g : Grp) : List Grp → List Grp
  | [] => [g]
  | h :: t => if glt h g then h :: gins g t else g :: h :: t
theorem yX (g : Grp) : ∀ l : List Grp, (gins g l).Perm (g :: l)
  | [] => List.Perm.refl _
  | h :: t => by
    unfold gins
    split
    · exact ((yX g t).cons h).trans (List.Perm.swap g h t)
    · exact List.Perm.refl _
theorem qec (g : Grp) (l : List Grp) : (gins g l).length = l.length + 1 := by
  rw [(yX g l).length_eq]; rfl
def Apg (g h : Grp) : Prop := g.1.headD 0 ≠ h.1.headD 0
theorem qql {g h : Grp} (ha : Apg g h) (hn : glt h g = false) : glt g h = true := by
  have h1 : ¬ glt h g = true := by rw [hn]; simp
  rw [qes] at *
  unfold Apg at ha
  omega
theorem qed {g : Grp} : ∀ {l : List Grp}, l.Pairwise (fun a b => glt a b = true) → (∀ h ∈ l, Apg g h) → (gins g l).Pairwise (fun a b => glt a b = true)
  | [], _, _ => by simp [gins]
  | h :: t, hp, ha => by
    rw [List.pairwise_cons] at hp
    unfold gins
    split
    · rename_i hg
      refine List.pairwise_cons.2 ⟨fun x hx => ?_, qed hp.2 fun y hy => ha y (by simp [hy])⟩
      rcases List.mem_cons.1 ((yX g t).mem_iff.1 hx) with rfl | hx
      · exact hg
      · exact hp.1 x hx
    · rename_i hg
      have hgh : glt g h = true := qql (ha h (by simp)) (by simpa using hg)
      refine List.pairwise_cons.2 ⟨fun x hx => ?_, List.pairwise_cons.2 hp⟩
      rcases List.mem_cons.1 hx with rfl | hx
      · exact hgh
      · exact qh0 hgh (hp.1 x hx)
theorem qik {a : Nat} {l : List Nat} (h : ∀ x ∈ l, a ≤ x) : wins a l = a :: l := by
  cases l with
  | nil => rfl
  | cons b t => unfold wins; rw [if_pos (h b (by simp))]
theorem qk4 {l : List Grp} (h : l.Pairwise (fun a b => glt a b = true)) : (l.map (·.2)).Pairwise (· ≤ ·) := by
  rw [List.pairwise_map]
  exact h.imp fun {a b} hab => by
    rw [qes] at hab
    omega
theorem qjN {g : Grp} : ∀ {l : List Grp}, l.Pairwise (fun a b => glt a b = true) → (gins g l).map (·.2) = wins g.2 (l.map (·.2))
  | [], _ => rfl
  | h :: t, hp => by
    have hw := qk4 hp
    rw [List.map_cons, List.pairwise_cons] at hw
    rw [List.pairwise_cons] at hp
    unfold gins
    split
    · rename_i hg
      rw [List.map_cons, qjN hp.2, List.map_cons]
      rw [qes] at hg
      rcases hg with hg | ⟨hg, _⟩
      · conv => rhs; unfold wins
        rw [if_neg (by omega)]
      · rw [qik (a := g.2) (l := h.2 :: t.map (·.2)) (fun x hx => by
          rcases List.mem_cons.1 hx with rfl | hx
          · omega
          · have := hw.1 x hx; omega), qik (fun x hx => by have := hw.1 x hx; omega), hg]
    · rename_i hg
      have h1 : ¬ glt h g = true := hg
      rw [qes] at h1
      rw [List.map_cons, List.map_cons]
      conv => rhs; unfold wins
      rw [if_pos (by omega)]
def srtN : List Nat → List Nat
  | [] => []
  | a :: l => wins a (srtN l)
theorem kT : ∀ l : List Nat, (srtN l).Perm l
  | [] => List.Perm.refl _
  | a :: l => (qf0 a _).trans ((kT l).cons a)
theorem qel : ∀ l : List Nat, (srtN l).Pairwise (· ≤ ·)
  | [] => List.Pairwise.nil
  | a :: l => qgb (qel l)
def gmerge (a b : Grp) : Grp := (srtN (a.1 ++ b.1), a.2 + b.2)
def gbump (o : Nat → Nat) (ss : List Nat) : Nat → Nat := fun s => if s ∈ ss then o s + 1 else o s
def hrun : Nat → List Grp → (Nat → Nat) → (Nat → Nat)
  | k + 1, a :: b :: t, o => hrun k (gins (gmerge a b) t) (gbump o (a.1 ++ b.1))
  | _, _, o => o
def hsg (h : List Grp) : List Nat := h.flatMap (·.1)
theorem qjT {a b : List Grp} (h : a.Perm b) : (hsg a).Perm (hsg b) := List.Perm.flatMap_right _ h
theorem qdq {a b : Grp} {t : List Grp} : (hsg (gins (gmerge a b) t)).Perm (hsg (a :: b :: t)) := by
  refine (qjT (yX _ _)).trans ?_
  show ((srtN (a.1 ++ b.1)) ++ hsg t).Perm (a.1 ++ (b.1 ++ hsg t))
  rw [← List.append_assoc]
  exact (kT _).append_right _
def nsum (l : List Nat) (f : Nat → Nat) : Nat := (l.map f).sum
theorem qj2 (f : Nat → Nat) : nsum [] f = 0 := rfl
theorem qaf (a : Nat) (l : List Nat) (f : Nat → Nat) : nsum (a :: l) f = f a + nsum l f := by simp [nsum]
theorem qb6 (a b : List Nat) (f : Nat → Nat) : nsum (a ++ b) f = nsum a f + nsum b f := by simp [nsum]
theorem qag {a b : List Nat} (h : a.Perm b) (f : Nat → Nat) : nsum a f = nsum b f := by
  induction h with
  | nil => rfl
  | cons x _ ih => simp [qaf, ih]
  | swap x y l => simp only [qaf]; omega
  | trans _ _ h1 h2 => exact h1.trans h2
theorem qbQ {l : List Nat} {f g : Nat → Nat} (h : ∀ s ∈ l, f s = g s) : nsum l f = nsum l g := by
  unfold nsum
  rw [List.map_congr_left h]
theorem qnF (l : List Nat) (f g : Nat → Nat) : nsum l (fun s => f s + g s) = nsum l f + nsum l g := by
  induction l with
  | nil => rfl
  | cons a l ih => simp only [qaf, ih]; omega
theorem qj1 (l : List Nat) (f : Nat → Nat) (k : Nat) : nsum l (fun s => k * f s) = k * nsum l f := by
  induction l with
  | nil => rfl
  | cons a l ih => simp only [qaf, ih, Nat.mul_add]
theorem qpi {l : List Nat} {f g : Nat → Nat} (h : ∀ s ∈ l, f s ≤ g s) : nsum l f ≤ nsum l g := by
  induction l with
  | nil => exact Nat.le_refl _
  | cons a l ih =>
    simp only [qaf]
    have := h a (by simp)
    have := ih fun s hs => h s (by simp [hs])
    omega
structure HI (w : Nat → Nat) (h : List Grp) (o : Nat → Nat) : Prop where
  nd : (hsg h).Nodup
  ne : ∀ g ∈ h, g.1 ≠ []
  up : ∀ g ∈ h, g.1.Pairwise (· < ·)
  wt : ∀ g ∈ h, g.2 = nsum g.1 w
  ord : h.Pairwise (fun a b => glt a b = true)
  room : ∀ g ∈ h, nsum g.1 (fun s => 2 ^ (64 - o s)) = 2 ^ 64
  low : ∀ s ∈ hsg h, o s + h.length ≤ 64
theorem qbB {g : Grp} (h : g.1 ≠ []) : g.1.headD 0 ∈ g.1 := by
  obtain ⟨l, w⟩ := g
  cases l with
  | nil => exact absurd rfl h
  | cons a t => simp
theorem qdM {h : List Grp} {s : Nat} : s ∈ hsg h ↔ ∃ g ∈ h, s ∈ g.1 := List.mem_flatMap
theorem HI.step {w o : Nat → Nat} {a b : Grp} {t : List Grp} (h : HI w (a :: b :: t) o) : HI w (gins (gmerge a b) t) (gbump o (a.1 ++ b.1)) := by
  have hmem : ∀ g, g ∈ gins (gmerge a b) t ↔ g = gmerge a b ∨ g ∈ t := fun g => by rw [(yX _ _).mem_iff, List.mem_cons]
  have hnd := h.nd
  have hnd' : (a.1 ++ (b.1 ++ hsg t)).Nodup := hnd
  rw [← List.append_assoc] at hnd'
  obtain ⟨hab, hT, hdis⟩ := List.nodup_append.1 hnd'
  have hnot : ∀ g ∈ t, ∀ s ∈ g.1, s ∉ a.1 ++ b.1 := fun g hg s hs hm => hdis s hm s (qdM.2 ⟨g, hg, hs⟩) rfl
  have hout : ∀ g ∈ t, ∀ s ∈ g.1, gbump o (a.1 ++ b.1) s = o s := fun g hg s hs => by unfold gbump; rw [if_neg (hnot g hg s hs)]
  have hin : ∀ s ∈ a.1 ++ b.1, gbump o (a.1 ++ b.1) s = o s + 1 := fun s hs => by unfold gbump; rw [if_pos hs]
  have hp := h.ord
  rw [List.pairwise_cons, List.pairwise_cons] at hp
  refine ⟨qdq.nodup_iff.2 hnd, fun g hg => ?_, fun g hg => ?_, fun g hg => ?_, ?_, fun g hg => ?_, fun s hs => ?_⟩
  · rcases (hmem g).1 hg with rfl | hg
    · have h1 := h.ne a (by simp)
      intro h0
      have h2 := (kT (a.1 ++ b.1)).length_eq
      have h3 : srtN (a.1 ++ b.1) = [] := h0
      rw [h3] at h2
      simp only [List.length_nil, List.length_append] at h2
      exact h1 (List.eq_nil_of_length_eq_zero (by omega))
    · exact h.ne g (by simp [hg])
  · rcases (hmem g).1 hg with rfl | hg
    · have h1 := qel (a.1 ++ b.1)
      have h2 : (srtN (a.1 ++ b.1)).Nodup := (kT _).nodup_iff.2 hab
      exact (List.pairwise_and_iff.2 ⟨h1, h2⟩).imp fun ⟨h3, h4⟩ => by omega
    · exact h.up g (by simp [hg])
  · rcases (hmem g).1 hg with rfl | hg
    · show a.2 + b.2 = nsum (srtN (a.1 ++ b.1)) w
      rw [qag (kT _), qb6, ← h.wt a (by simp), ← h.wt b (by simp)]
    · exact h.wt g (by simp [hg])
  · refine qed hp.2.2 fun g hg => ?_
    intro he
    have h1 : (gmerge a b).1.headD 0 ∈ a.1 ++ b.1 := by
      refine (kT (a.1 ++ b.1)).mem_iff.1 (qbB (g := gmerge a b) ?_)
      intro h0
      have h2 := (kT (a.1 ++ b.1)).length_eq
      have h3 : srtN (a.1 ++ b.1) = [] := h0
      rw [h3] at h2
      simp only [List.length_nil, List.length_append] at h2
      exact h.ne a (by simp) (List.eq_nil_of_length_eq_zero (by omega))
    rw [he] at h1
    exact hnot g hg _ (qbB (h.ne g (by simp [hg]))) h1
  · rcases (hmem g).1 hg with rfl | hg
    · show nsum (srtN (a.1 ++ b.1)) _ = _
      rw [qag (kT _)]
      have e1 : ∀ s ∈ a.1 ++ b.1, 2 ^ (64 - o s) = 2 * 2 ^ (64 - gbump o (a.1 ++ b.1) s) := fun s hs => by
        have hl := h.low s (qdM.2 (by
          rcases List.mem_append.1 hs with hs | hs
          · exact ⟨a, by simp, hs⟩
          · exact ⟨b, by simp, hs⟩))
        simp only [List.length_cons] at hl
        rw [hin s hs, show 64 - o s = (64 - (o s + 1)) + 1 by omega, Nat.pow_succ, Nat.mul_comm]
      have e2 : nsum (a.1 ++ b.1) (fun s => 2 ^ (64 - o s)) = 2 * nsum (a.1 ++ b.1) (fun s => 2 ^ (64 - gbump o (a.1 ++ b.1) s)) := by
        rw [qbQ e1, qj1]
      rw [qb6, h.room a (by simp), h.room b (by simp)] at e2
      omega
    · rw [qbQ (g := fun s => 2 ^ (64 - o s)) fun s hs => by rw [hout g hg s hs]]
      exact h.room g (by simp [hg])
  · have hs' := qdq.mem_iff.1 hs
    have hl := h.low s hs'
    rw [qec]
    simp only [List.length_cons] at hl
    unfold gbump
    split <;> omega
theorem qfL {w : Nat → Nat} : ∀ (k : Nat) (h : List Grp) (o : Nat → Nat), h.length ≤ k → HI w h o →
    nsum (hsg h) (fun s => w s * hrun k h o s) = nsum (hsg h) (fun s => w s * o s) + hc k (h.map (·.2)) ∧
    (h ≠ [] → nsum (hsg h) (fun s => 2 ^ (64 - hrun k h o s)) = 2 ^ 64) ∧
    (∀ s, s ∉ hsg h → hrun k h o s = o s) ∧ (2 ≤ h.length → ∀ s ∈ hsg h, o s + 1 ≤ hrun k h o s) ∧ (∀ s ∈ hsg h, o s ≤ hrun k h o s ∧ hrun k h o s ≤ 64)
  | 0, [], o, _, _ => ⟨rfl, fun h => absurd rfl h, fun _ _ => rfl, fun h => absurd h (by simp), fun s hs => by simp [hsg] at hs⟩
  | k + 1, [], o, _, _ => ⟨rfl, fun h => absurd rfl h, fun _ _ => rfl, fun h => absurd h (by simp), fun s hs => by simp [hsg] at hs⟩
  | 0, a :: t, o, hk, _ => absurd hk (by simp)
  | k + 1, [a], o, _, hi => by
    have e : hsg [a] = a.1 := by simp [hsg]
    refine ⟨rfl, fun _ => ?_, fun _ _ => rfl, fun h => absurd h (by simp), fun s hs => ?_⟩
    · rw [e]; exact hi.room a (by simp)
    · have := hi.low s hs
      exact ⟨Nat.le_refl _, show o s ≤ 64 by omega⟩
  | k + 1, a :: b :: t, o, hk, hi => by
    have hs := hi.step
    obtain ⟨i1, i2, i3, i4, i5⟩ := qfL k _ _ (by rw [qec]; simp only [List.length_cons] at hk; omega) hs
    have hp := hi.ord
    rw [List.pairwise_cons, List.pairwise_cons] at hp
    have hm : (hsg (gins (gmerge a b) t)).Perm (hsg (a :: b :: t)) := qdq
    have hR : hrun (k + 1) (a :: b :: t) o = hrun k (gins (gmerge a b) t) (gbump o (a.1 ++ b.1)) := rfl
    have hlow := hi.low
    rw [hR]
    rw [qag hm] at i1 i2
    rw [qag hm] at i1
    have hab : ∀ s ∈ a.1 ++ b.1, s ∈ hsg (a :: b :: t) := fun s hs => by
      refine qdM.2 ?_
      rcases List.mem_append.1 hs with hs | hs
      · exact ⟨a, by simp, hs⟩
      · exact ⟨b, by simp, hs⟩
    have hge : ∀ s, o s ≤ gbump o (a.1 ++ b.1) s := fun s => by unfold gbump; split <;> omega
    refine ⟨?_, fun _ => i2 (by
      intro h0
      have := qec (gmerge a b) t
      rw [h0] at this
      simp at this), fun s hs => ?_, fun _ s hs => ?_, fun s hs => ?_⟩
    · rw [i1, qjN hp.2.2]
      show _ = _ + (a.2 + b.2 + hc k (wins (a.2 + b.2) (t.map (·.2))))
      have e : nsum (hsg (a :: b :: t)) (fun s => w s * gbump o (a.1 ++ b.1) s) = nsum (hsg (a :: b :: t)) (fun s => w s * o s) + (a.2 + b.2) := by
        have e1 : hsg (a :: b :: t) = (a.1 ++ b.1) ++ hsg t := by simp [hsg]
        have hnd : ((a.1 ++ b.1) ++ hsg t).Nodup := by rw [← e1]; exact hi.nd
        have hdis := (List.nodup_append.1 hnd).2.2
        rw [e1, qb6 (a.1 ++ b.1) (hsg t), qb6 (a.1 ++ b.1) (hsg t), qbQ (l := a.1 ++ b.1) (g := fun s => w s * o s + w s) (fun s hs => by unfold gbump; rw [if_pos hs, Nat.mul_add, Nat.mul_one]), qnF,
          qbQ (l := hsg t) (g := fun s => w s * o s) (fun s hs => by unfold gbump; rw [if_neg (fun hm => hdis s hm s hs rfl)])]
        have e2 : nsum (a.1 ++ b.1) (fun s => w s) = a.2 + b.2 := by rw [qb6, hi.wt a (by simp), hi.wt b (by simp)]
        rw [e2]
        omega
      rw [e]
      show _ + hc k (wins (gmerge a b).2 (t.map (·.2))) = _
      have e3 : (gmerge a b).2 = a.2 + b.2 := rfl
      rw [e3]
      omega
    · rw [i3 s (fun h => hs (hm.mem_iff.1 h))]
      unfold gbump
      rw [if_neg (fun h => hs (hab s h))]
    · have hs2 := hm.mem_iff.2 hs
      by_cases hs3 : s ∈ a.1 ++ b.1
      · have h1 := (i5 s hs2).1
        have h2 : gbump o (a.1 ++ b.1) s = o s + 1 := by unfold gbump; rw [if_pos hs3]
        omega
      ·
        have hl : 2 ≤ (gins (gmerge a b) t).length := by
          rw [qec]
          obtain ⟨g, hg, hsg⟩ := qdM.1 hs
          rcases List.mem_cons.1 hg with rfl | hg
          · exact absurd (List.mem_append.2 (.inl hsg)) hs3
          · rcases List.mem_cons.1 hg with rfl | hg
            · exact absurd (List.mem_append.2 (.inr hsg)) hs3
            · have := List.length_pos_of_mem hg
              omega
        have h1 := i4 hl s hs2
        have h2 := hge s
        omega
    · have h1 := i5 s (hm.mem_iff.2 hs)
      have h2 := hge s
      omega
theorem qdE {F : Nat} {x y : Int} : kd F x y = some (if x < y then -1 else if y < x then 1 else 0) := by
  unfold kd qaB
  simp only [bne_self_eq_false, Option.bind_some, Bool.false_eq_true, if_false, decide_eq_true_eq]
  split
  · rfl
  · split <;> rfl
theorem qp1 {F : Nat} (hF : 3 ≤ F) {x y : Int} : qbc F [x, y] = some (if x ≠ 0 then x else y) := by
  obtain ⟨k, rfl⟩ := Nat.exists_eq_add_of_le hF
  rw [Nat.add_comm]
  unfold qbc
  show kp (k + 3) [x, y] (kV (k + 3) [x, y] (k + 2)) 0 = _
  unfold kp
  rw [if_pos (by simp)]
  show ((some x).bind _) = _
  simp only [Option.bind_some]
  by_cases hx : x = 0
  · rw [if_neg (by simp [hx]), if_neg (by simp [hx])]
    show kp (k + 3) [x, y] (kV (k + 3) [x, y] (k + 1)) 1 = _
    unfold kp
    rw [if_pos (by simp)]
    show ((some y).bind _) = _
    simp only [Option.bind_some]
    by_cases hy : y = 0
    · rw [if_neg (by simp [hy]), hy]
      show kp (k + 3) [x, y] (kV (k + 3) [x, y] k) 2 = _
      unfold kp
      rw [if_neg (by simp)]
      rfl
    · rw [if_pos (by simp [hy])]
  · rw [if_pos (by simp [hx]), if_pos hx]
theorem qai {α : Type} {l : List α} {j : Nat} (h : j < l.length) : l.take (j + 1) = l.take j ++ [l[j]] := by
  rw [List.take_add_one, List.getElem?_eq_getElem h]; rfl
def gL (l : List Int) (t : Nat) : Int := l.getD t 0
theorem qdG {l : List Int} {t : Nat} (h : t < l.length) : l[t]? = some (gL l t) := by simp [gL, List.getD, List.getElem?_eq_getElem h]
def KL (l : List Int) : Prop := l.length ≤ 64 ∧ ∀ n ∈ l, 0 ≤ n ∧ n ≤ 24
theorem KL.at {l : List Int} (h : KL l) {t : Nat} (ht : t < l.length) : 0 ≤ gL l t ∧ gL l t ≤ 24 := h.2 _ (List.mem_of_getElem? (qdG ht))
def kOut (l : List Int) : Bool := l.any fun n => decide (n < 0) || decide (24 < n)
def kchk (l : List Int) : Int := if 64 < l.length then 2 else if kOut l then 3 else 0
theorem qew {l : List Int} : kchk l = 0 ↔ KL l := by
  unfold kchk KL
  by_cases h1 : 64 < l.length
  · rw [if_pos h1]; simp; omega
  · rw [if_neg h1]
    by_cases h2 : kOut l = true
    · rw [if_pos h2]
      unfold kOut at h2
      obtain ⟨n, hn, hx⟩ := List.any_eq_true.1 h2
      refine ⟨fun h => by simp at h, fun h => ?_⟩
      have := h.2 n hn
      simp at hx; omega
    · rw [if_neg h2]
      refine ⟨fun _ => ⟨by omega, fun n hn => ?_⟩, fun _ => rfl⟩
      by_cases hx : n < 0 ∨ 24 < n
      · exact absurd (List.any_eq_true.2 ⟨n, hn, by simpa using hx⟩) h2
      · omega
theorem qjW {F : Nat} {l : List Int} (hm : l.length ≤ 1000000) : ∀ (k i : Nat), l.length < k + i → i ≤ l.length → ∃ z, qC F l k (i : Int) = some z ∧ decide (0 ≤ z) = kOut (l.drop i)
  | 0, _, _, _ => by omega
  | k + 1, i, h, hi => by
    show ∃ z, qZ F l (qC F l k) (i : Int) = some z ∧ _
    unfold qZ
    by_cases hlt : i < l.length
    · rw [if_pos (by simp; omega), qM, List.getElem?_eq_getElem hlt, List.drop_eq_getElem_cons hlt]
      simp only [Option.bind_some]
      unfold qcf
      simp only [Option.bind_some]
      unfold kOut
      rw [List.any_cons]
      by_cases hc : (decide (l[i] < 0) || decide (24 < l[i])) = true
      · rw [if_pos hc, hc]
        exact ⟨_, rfl, by simp⟩
      · rw [if_neg hc, zz (by omega)]
        rw [Bool.not_eq_true] at hc
        rw [hc, Bool.false_or]
        exact qjW hm k (i + 1) (by omega) (by omega)
    · rw [if_neg (by simp; omega), List.drop_eq_nil_of_le (by omega)]
      exact ⟨-1, rfl, rfl⟩
theorem qfN {F : Nat} {l : List Int} (hF : 1000 ≤ F) : vM F l = some (kchk l) := by
  unfold vM kchk
  by_cases h : 64 < l.length
  · rw [if_pos (by simp; omega), if_pos h]
  · rw [if_neg (by simp; omega), if_neg h]
    unfold zr zD
    obtain ⟨z, e1, e2⟩ := qjW (F := F) (l := l) (by omega) F 0 (by omega) (by omega)
    have e1' : qC F l F 0 = some z := e1
    rw [List.drop_zero] at e2
    rw [e1']
    simp only [Option.bind_some]
    rw [e2]
    split <;> rfl
def W (n : Int) : Nat := if 0 < n then 2 ^ (24 - n.toNat) else 0
theorem qqY (n : Int) : W n ≤ 16777216 := by
  unfold W
  split
  · exact Nat.le_trans (Nat.pow_le_pow_right (by decide) (show 24 - n.toNat ≤ 24 by omega)) (by decide)
  · omega
def wsum (l : List Int) : Nat := (l.map W).sum
theorem qjf : ∀ (l : List Int), wsum l ≤ 16777216 * l.length
  | [] => by simp [wsum]
  | x :: l => by
    have h1 := qqY x
    have h2 := qjf l
    unfold wsum at *
    rw [List.map_cons, List.sum_cons, List.length_cons]
    omega
theorem qnx {m : Nat} (h : m ≤ 24) : ishl .i64 1 (m : Int) = ((2 ^ m : Nat) : Int) := by
  have : ∀ m : Fin 25, ishl .i64 1 ((m.1 : Nat) : Int) = ((2 ^ m.1 : Nat) : Int) := by decide
  exact this ⟨m, by omega⟩
theorem qnQ {F : Nat} {l : List Int} (hl : KL l) : ∀ (k i : Nat), l.length < k + i → i ≤ l.length → kX F l k (16777216 - (wsum (l.take i) : Int), (i : Int)) = some (16777216 - (wsum l : Int))
  | 0, _, _, _ => by omega
  | k + 1, i, h, hi => by
    have h1 := hl.1
    show qaF F l (kX F l k) (16777216 - (wsum (l.take i) : Int)) (i : Int) = _
    unfold qaF qaG
    by_cases hlt : i < l.length
    · have hrec := qnQ (F := F) hl k (i + 1) (by omega) (by omega)
      have hn := hl.2 _ (List.getElem_mem hlt)
      have hws := qjf (l.take i)
      rw [List.length_take] at hws
      have e : wsum (l.take (i + 1)) = wsum (l.take i) + W l[i] := by
        unfold wsum
        rw [qai hlt, List.map_append, List.sum_append]; simp
      have hW := qqY l[i]
      rw [e] at hrec
      rw [if_pos (by simp; omega), qM, List.getElem?_eq_getElem hlt]
      simp only [Option.bind_some]
      by_cases h0 : 0 < l[i]
      · obtain ⟨n, hnn⟩ := Int.eq_ofNat_of_zero_le hn.1
        have hsub : isub .i64 24 l[i] = ((24 - n : Nat) : Int) := by rw [jw (by omega) (by omega)]; omega
        have hw : W l[i] = 2 ^ (24 - n) := by unfold W; rw [if_pos h0, hnn, Int.toNat_natCast]
        rw [hw] at hrec hW
        rw [if_pos (by simpa using h0), hsub]
        simp only [chk, lett]
        rw [if_pos (by simp), qnx (by omega), jw (by omega) (by omega), zz (by omega)]
        rw [show (16777216 : Int) - ((wsum (l.take i) + 2 ^ (24 - n) : Nat) : Int) = 16777216 - (wsum (l.take i) : Int) - ((2 ^ (24 - n) : Nat) : Int) by omega] at hrec
        exact hrec
      · have hw : W l[i] = 0 := by unfold W; rw [if_neg h0]
        rw [hw, Nat.add_zero] at hrec
        rw [if_neg (by simpa using h0), zz (by omega)]
        exact hrec
    · rw [if_neg (by simp; omega), List.take_of_length_le (by omega)]
      rfl
theorem qjX {F : Nat} {l : List Int} (hF : 1000 ≤ F) (hl : KL l) : qbv F l = some (16777216 - (wsum l : Int)) := by
  have h1 := hl.1
  unfold qbv
  have := qnQ (F := F) hl F 0 (by omega) (by omega)
  rw [List.take_zero] at this
  exact this
theorem qnz {F : Nat} {l : List Int} (hF : 1000 ≤ F) : qct F l = some (if kchk l ≠ 0 then (0, kchk l) else (16777216 - (wsum l : Int), 0)) := by
  unfold qct
  rw [qfN hF]
  simp only [Option.bind_some]
  by_cases h : kchk l = 0
  · rw [if_neg (by simp [h]), if_neg (by simp [h]), qjX hF (qew.1 h)]; rfl
  · rw [if_pos (by simpa using h), if_pos h]
def rsum (n : Nat) (f : Nat → Nat) : Nat := ((List.range n).map f).sum
theorem qfR (n : Nat) (f : Nat → Nat) : rsum (n + 1) f = rsum n f + f n := by
  unfold rsum
  rw [List.range_succ, List.map_append, List.sum_append]; simp
theorem qgp {f h : Nat → Nat} : ∀ {n : Nat}, (∀ t, t < n → f t ≤ h t) → rsum n f ≤ rsum n h
  | 0, _ => by simp [rsum]
  | n + 1, hh => by
    rw [qfR, qfR]
    have := qgp (n := n) fun t ht => hh t (by omega)
    have := hh n (by omega)
    omega
theorem qkZ {f h : Nat → Nat} {n : Nat} (hh : ∀ t, t < n → f t = h t) : rsum n f = rsum n h :=
  Nat.le_antisymm (qgp fun t ht => Nat.le_of_eq (hh t ht)) (qgp fun t ht => Nat.le_of_eq (hh t ht).symm)
theorem qei {p : Nat → Bool} {f : Nat → Nat} : ∀ (n : Nat), rsum n (fun t => if p t then f t else 0) = (((List.range n).filter p).map f).sum
  | 0 => rfl
  | n + 1 => by
    rw [qfR, qei n, List.range_succ, List.filter_append, List.map_append, List.sum_append]
    congr 1
    cases h : p n <;> simp [h]
theorem qn5 {A B : List Nat} (h : A.Perm B) : A.sum = B.sum := by
  induction h with
  | nil => rfl
  | cons x _ ih => simp [ih]
  | swap x y l => simp; omega
  | trans _ _ h1 h2 => exact h1.trans h2
def bfn (l : List Int) (n : Int) (s t : Nat) : Bool := decide (0 < gL l t) && (decide (gL l t < n) || (decide (gL l t = n) && decide (t < s)))
def psn (l : List Int) (n : Int) (s : Nat) : Nat := rsum l.length fun t => if bfn l n s t then W (gL l t) else 0
def pos (l : List Int) (s : Nat) : Nat := psn l (gL l s) s
def cw (l : List Int) (s : Nat) : Nat := pos l s / W (gL l s)
def cd (l : List Int) (s : Nat) : List Int := nb (cw l s) (gL l s).toNat
def ent (l : List Int) (s : Nat) : Int × List Int := (gL l s, pk (cd l s))
def cds (l : List Int) : List (Int × List Int) := (List.range l.length).map (ent l)
theorem qgm {l : List Int} {n : Int} {s t : Nat} : bfn l n s t = true ↔ 0 < gL l t ∧ (gL l t < n ∨ (gL l t = n ∧ t < s)) := by simp [bfn]
theorem qil (l : List Int) : wsum l = rsum l.length fun t => W (gL l t) := by
  unfold wsum rsum
  congr 1
  apply List.ext_getElem (by simp)
  intro i h1 h2
  rw [List.length_map] at h1
  simp [gL, List.getD, List.getElem?_eq_getElem h1]
theorem qqz (l : List Int) (n : Int) (s : Nat) : psn l n s ≤ wsum l := by
  rw [qil]
  exact qgp fun t _ => by split <;> omega
theorem qqa {n : Nat} (h : 0 < n) : W (n : Int) = 2 ^ (24 - n) := by
  unfold W
  rw [if_pos (by omega), Int.toNat_natCast]
def tbl (l : List Int) (p : Nat → Bool) : List (Int × List Int) := (List.range l.length).map fun t => if p t then ent l t else (0, [])
theorem qpG (l : List Int) (p : Nat → Bool) : (tbl l p).length = l.length := by simp [tbl]
theorem qpF {l : List Int} {p : Nat → Bool} {t : Nat} (h : t < l.length) : (tbl l p)[t]? = some (if p t then ent l t else (0, [])) := by simp [tbl, h]
theorem qpH {l : List Int} {p q : Nat → Bool} {s : Nat} (h : ∀ t, t < l.length → q t = (p t || decide (t = s))) : (tbl l p).set s (ent l s) = tbl l q := by
  apply List.ext_getElem (by simp [tbl])
  intro t h1 h2
  rw [qpG] at h2
  rw [List.getElem_set]
  simp only [tbl, List.getElem_map, List.getElem_range]
  rw [h t h2]
  by_cases hs : s = t
  · subst hs; simp
  · rw [if_neg hs]
    have : ¬ t = s := fun e => hs e.symm
    simp [this]
theorem qmN {l : List Int} {p q : Nat → Bool} (h : ∀ t, t < l.length → p t = q t) : tbl l p = tbl l q := by
  unfold tbl
  exact List.map_congr_left fun t ht => by rw [h t (List.mem_range.1 ht)]
theorem qpE {l : List Int} {p : Nat → Bool} (hl : KL l) (h : ∀ t, t < l.length → 0 < gL l t → p t = true) : tbl l p = cds l := by
  unfold tbl cds
  refine List.map_congr_left fun t ht => ?_
  have ht := List.mem_range.1 ht
  have h1 := hl.at ht
  by_cases h0 : 0 < gL l t
  · rw [if_pos (h t ht h0)]
  · have : gL l t = 0 := by omega
    have e : ent l t = (0, []) := by
      unfold ent cd
      rw [this, show (0 : Int).toNat = 0 from rfl, show nb (cw l t) 0 = [] from rfl, qqx]
    rw [e]; split <;> rfl
theorem qqg {l : List Int} {s n N : Nat} (h : gL l s = (n : Int)) (hn : 0 < n) (hN : N * 2 ^ (24 - n) = pos l s) : ent l s = ((n : Int), pk (nb N n)) := by
  unfold ent cd cw
  rw [h, qqa hn, ← hN, Nat.mul_div_cancel _ (Nat.pow_pos (by decide)), Int.toNat_natCast]
theorem qqb {l : List Int} (hl : KL l) {n N s : Nat} (hN : N * 2 ^ (24 - n) = psn l (n : Int) s) : N ≤ 1073741824 := by
  have h1 := qqz l (n : Int) s
  have h2 := qjf l
  have h3 := hl.1
  have h4 : N * 1 ≤ N * 2 ^ (24 - n) := Nat.mul_le_mul_left N (Nat.pow_pos (by decide))
  omega
def codesM (l : List Int) : List (Int × List Int) × Int := if kchk l ≠ 0 then ([], kchk l) else if 16777216 < wsum l then ([], 8) else (cds l, 0)
theorem qqu {l : List Int} (h : l.length ≤ 1000) : mk 2199023255552 (((0 : Int), ([] : List Int)) : Int × List Int) (l.length : Int) = some (tbl l (bfn l 1 0)) := by
  unfold mk
  rw [if_pos ⟨by omega, by omega⟩, Int.toNat_natCast]
  congr 1
  apply List.ext_getElem (by simp [tbl])
  intro t h1 h2
  simp only [tbl, List.getElem_map, List.getElem_range, List.getElem_replicate]
  rw [if_neg]
  rw [qgm]; omega
def kLt (l : List Int) (a b : Nat) : Prop := gL l a < gL l b ∨ (gL l a = gL l b ∧ a < b)
instance kLtDec (l : List Int) (a b : Nat) : Decidable (kLt l a b) := by unfold kLt; infer_instance
def usd (l : List Int) : List Nat := (List.range l.length).filter fun t => decide (0 < gL l t)
def uN (l : List Int) : List Nat := (usd l).mergeSort fun a b => decide (¬ kLt l b a)
theorem qdQ (l : List Int) : (uN l).Perm (usd l) := List.mergeSort_perm _ _
theorem qfZ (l : List Int) : (usd l).Nodup := (List.nodup_range.filter _ : List.Pairwise _ _)
theorem qoB (l : List Int) : (uN l).Pairwise (kLt l) := by
  have h := List.pairwise_mergeSort (le := fun a b : Nat => decide (¬ kLt l b a)) (fun a b c h1 h2 => by simp only [decide_eq_true_eq] at *; unfold kLt at *; omega) (fun a b => by simp only [Bool.or_eq_true, decide_eq_true_eq]; unfold kLt; omega) (usd l)
  have hn : (uN l).Nodup := (qdQ l).nodup_iff.2 (qfZ l)
  refine (List.Pairwise.and h hn).imp fun {a b} h => ?_
  have h1 := h.1
  have h2 := h.2
  simp only [decide_eq_true_eq] at h1
  unfold kLt at *; omega
theorem qgW {l : List Int} {t : Nat} : t ∈ uN l ↔ t < l.length ∧ 0 < gL l t := by
  rw [(qdQ l).mem_iff]
  unfold usd
  rw [List.mem_filter, List.mem_range]; simp
theorem qpD {l : List Int} {i : Nat} (hi : i < (uN l).length) {t : Nat} : t ∈ (uN l).take i ↔ t < l.length ∧ bfn l (gL l (uN l)[i]) (uN l)[i] t = true := by
  have hpw := List.pairwise_iff_getElem.1 (qoB l)
  constructor
  · intro ht
    obtain ⟨j, hj, rfl⟩ := List.mem_iff_getElem.1 ht
    rw [List.length_take] at hj
    rw [List.getElem_take]
    have h1 := hpw j i (by omega) hi (by omega)
    have h2 := qgW.1 (List.getElem_mem (show j < (uN l).length by omega))
    exact ⟨h2.1, qgm.2 ⟨h2.2, h1⟩⟩
  · rintro ⟨h1, h2⟩
    have h3 := qgm.1 h2
    obtain ⟨j, hj, rfl⟩ := List.mem_iff_getElem.1 (qgW.2 ⟨h1, h3.1⟩)
    by_cases hji : j < i
    · exact List.mem_iff_getElem.2 ⟨j, by rw [List.length_take]; omega, List.getElem_take⟩
    · exfalso
      rcases Nat.eq_or_lt_of_le (show i ≤ j by omega) with he | he
      · subst he; omega
      · have h4 := hpw i j hi hj he
        unfold kLt at h4; omega
def ssum (l : List Int) (i : Nat) : Nat := (((uN l).take i).map fun t => W (gL l t)).sum
theorem qn4 {l : List Int} {i : Nat} (hi : i < (uN l).length) : ssum l i = pos l (uN l)[i] := by
  unfold ssum pos psn
  rw [qei]
  refine qn5 (List.Perm.map _ ?_)
  have hn : (uN l).Nodup := (qdQ l).nodup_iff.2 (qfZ l)
  refine (List.perm_ext_iff_of_nodup (hn.sublist (List.take_sublist _ _)) (List.nodup_range.filter _ : List.Pairwise _ _)).2 fun t => ?_
  rw [qpD hi, List.mem_filter, List.mem_range]
theorem qmA {l : List Int} {i : Nat} (hi : i < (uN l).length) : ssum l (i + 1) = ssum l i + W (gL l (uN l)[i]) := by
  unfold ssum
  rw [qai hi, List.map_append, List.sum_append]; simp
theorem qoF {F : Nat} {l : List Int} (hF : 3 ≤ F) {a b : Nat} (ha : a < l.length) (hb : b < l.length) : ∃ z, qbw F (a : Int) (b : Int) l = some z ∧ (z < 0 ↔ kLt l a b) := by
  unfold qbw
  rw [qM, qdG ha]
  simp only [Option.bind_some]
  rw [qM, qdG hb]
  simp only [Option.bind_some]
  rw [qdE, qdE]
  simp only [Option.bind_some]
  rw [qp1 hF]
  simp only [Option.bind_some]
  unfold kLt
  by_cases h1 : gL l a < gL l b
  · exact ⟨-1, by simp [h1], by simp [h1]⟩
  · by_cases h2 : gL l b < gL l a
    · exact ⟨1, by simp [h1, h2], by omega⟩
    · refine ⟨if (a : Int) < (b : Int) then -1 else if (b : Int) < (a : Int) then 1 else 0, by simp [h1, h2], ?_⟩
      split
      · omega
      · split <;> omega
theorem qmx {F : Nat} {l : List Int} (hF : 3 ≤ F) (hm : l.length ≤ 1000) : zM F ((usd l).map fun (t : Nat) => (t : Int)) l = some ((uN l).map fun (t : Nat) => (t : Int)) := by
  have hu : ∀ x ∈ (usd l).map (fun (t : Nat) => (t : Int)), ∃ t : Nat, x = (t : Int) ∧ t < l.length := fun x hx => by
    obtain ⟨t, ht, rfl⟩ := List.mem_map.1 hx
    unfold usd at ht
    exact ⟨t, rfl, List.mem_range.1 (List.mem_filter.1 ht).1⟩
  refine qn1 (lt := fun a b : Int => gL l a.toNat < gL l b.toNat ∨ (gL l a.toNat = gL l b.toNat ∧ a < b)) (fun a ha b hb => ?_) (fun a => by omega) (fun a b d => by omega) (fun a b => by omega) ?_ ?_ ?_
  · obtain ⟨s, rfl, hs⟩ := hu a ha
    obtain ⟨t, rfl, ht⟩ := hu b hb
    obtain ⟨z, e1, e2⟩ := qoF (F := F) hF hs ht
    refine ⟨z, e1, ?_⟩
    rw [e2]
    unfold kLt
    simp only [Int.toNat_natCast]
    omega
  · rw [List.length_map]
    have : (usd l).length ≤ l.length := by
      unfold usd
      exact Nat.le_trans (List.length_filter_le _ _) (by simp)
    omega
  · exact (qdQ l).map _
  · rw [List.pairwise_map]
    exact (qoB l).imp fun {a b} h => by
      simp only [Int.toNat_natCast]
      unfold kLt at h; omega
theorem qoG {F : Nat} {l : List Int} (hF : 3 ≤ F) (hm : l.length ≤ 1000) : ∀ (k i : Nat), l.length < k + i → i ≤ l.length → kY F l k (((List.range i).filter fun t => decide (0 < gL l t)).map (fun (t : Nat) => (t : Int)), (i : Int)) = some ((uN l).map fun (t : Nat) => (t : Int))
  | 0, _, _, _ => by omega
  | k + 1, i, h, hi => by
    show qaH F l (kY F l k) (((List.range i).filter fun t => decide (0 < gL l t)).map fun (t : Nat) => (t : Int)) (i : Int) = _
    unfold qaH qaI
    by_cases hlt : i < l.length
    · have hrec := qoG (F := F) hF hm k (i + 1) (by omega) (by omega)
      rw [List.range_succ, List.filter_append, List.map_append] at hrec
      have hfl : ((List.range i).filter fun t => decide (0 < gL l t)).length ≤ i := Nat.le_trans (List.length_filter_le _ _) (by simp)
      rw [if_pos (by simp; omega), qM, qdG hlt]
      simp only [Option.bind_some]
      by_cases h0 : 0 < gL l i
      · rw [if_pos (by simpa using h0), vQ (by simp only [List.length_map, List.length_singleton]; omega)]
        simp only [Option.bind_some]
        rw [zz (by omega)]
        rw [show ([i].filter fun t => decide (0 < gL l t)) = [i] by simp [h0]] at hrec
        exact hrec
      · rw [if_neg (by simpa using h0), zz (by omega)]
        rw [show ([i].filter fun t => decide (0 < gL l t)) = [] by simp [h0], List.map_nil, List.append_nil] at hrec
        exact hrec
    · rw [if_neg (by simp; omega), show i = l.length from by omega]
      unfold qcg
      have hs := qmx (F := F) (l := l) hF hm
      unfold usd at hs
      rw [hs]
      simp only [Option.bind_some, chk]
      rw [if_pos]
      have := (qdQ l).length_eq
      unfold usd at this
      simp [this]
theorem qpN {F : Nat} {l : List Int} (hF : 20000 ≤ F) (hm : l.length ≤ 1000) : qcu F l = some ((uN l).map fun (t : Nat) => (t : Int)) := by
  unfold qcu
  exact qoG (by omega) hm F 0 (by omega) (by omega)
theorem qlt {F : Nat} {l : List Int} (hF : 20000 ≤ F) (hl : KL l) : ∀ (k i N last : Nat), (uN l).length < k + i → i ≤ (uN l).length → N * 2 ^ (24 - last) = ssum l i → (∀ j, j < (uN l).length → i ≤ j → (last : Int) ≤ gL l ((uN l).getD j 0)) → last ≤ 24 →
    yf F l ((uN l).map fun (t : Nat) => (t : Int)) k (tbl l (fun t => decide (t ∈ (uN l).take i)), (N : Int), (last : Int), (i : Int)) = some (cds l, 0)
  | 0, _, _, _, _, _, _, _, _ => by omega
  | k + 1, i, N, last, h, hi, hN, hlast, hl24 => by
    have h1 := hl.1
    have hul : (uN l).length ≤ l.length := by
      rw [(qdQ l).length_eq]
      unfold usd
      exact Nat.le_trans (List.length_filter_le _ _) (by simp)
    show j9 F l ((uN l).map fun (t : Nat) => (t : Int)) (yf F l ((uN l).map fun (t : Nat) => (t : Int)) k) (tbl l (fun t => decide (t ∈ (uN l).take i))) (N : Int) (last : Int) (i : Int) = _
    unfold j9
    by_cases hlt : i < (uN l).length
    · obtain ⟨hu1, hu2⟩ := qgW.1 (List.getElem_mem hlt)
      have hut := hl.at hu1
      obtain ⟨n, hn⟩ := Int.eq_ofNat_of_zero_le hut.1
      have hgd : (uN l).getD i 0 = (uN l)[i] := by simp [List.getD, List.getElem?_eq_getElem hlt]
      have hln := hlast i hlt (Nat.le_refl _)
      rw [hgd, hn] at hln
      have hps := qn4 hlt
      have hN' : (N * 2 ^ (n - last)) * 2 ^ (24 - n) = pos l (uN l)[i] := by
        rw [← hps, ← hN, Nat.mul_assoc, ← Nat.pow_add]
        congr 2; omega
      have hbig : N * 2 ^ (n - last) ≤ 1073741824 := qqb hl (n := n) (s := (uN l)[i]) (by rw [hN']; unfold pos; rw [hn])
      have he := qqg hn (by omega) hN'
      have hsh : ishl .u64 (N : Int) (isub .i64 (n : Int) (last : Int)) = ((N * 2 ^ (n - last) : Nat) : Int) := by
        rw [qgT (by omega) (by omega), qny (by omega), Nat.mod_eq_of_lt (by omega)]
      rw [if_pos (by simp; omega), qM, List.getElem?_map, List.getElem?_eq_getElem hlt]
      simp only [Option.map_some, Option.bind_some]
      rw [qM, qdG hu1, hn]
      simp only [Option.bind_some, chk]
      rw [if_pos (by rw [qgT (by omega) (by omega)]; simp), qM, qpF hu1]
      simp only [Option.bind_some, lett]
      rw [hsh]
      have hadd := qkz (F := F) (n := N * 2 ^ (n - last)) (w := n) (m := 0) (b := []) (by omega) (by omega) (fun x hx => by simp at hx) (qj4 (l := []) (by simp)) (by omega)
      have hadd' : kb F 0 [] ((N * 2 ^ (n - last) : Nat) : Int) (n : Int) = some ((n : Int), pk (nb (N * 2 ^ (n - last)) n)) := by
        rw [Nat.zero_add] at hadd
        exact hadd
      rw [hadd']
      simp only [Option.bind_some, Int.toNat_natCast]
      rw [← he, qpH (q := fun t => decide (t ∈ (uN l).take (i + 1))) (fun t _ => by rw [← Bool.decide_or]; exact decide_eq_decide.2 (by rw [qai hlt, List.mem_append, List.mem_singleton]))]
      have e1 : iadd .u64 ((N * 2 ^ (n - last) : Nat) : Int) 1 = ((N * 2 ^ (n - last) + 1 : Nat) : Int) := by unfold iadd; rw [kI (by omega) (by omega)]; omega
      rw [e1, zz (by omega)]
      refine qlt hF hl k (i + 1) _ n (by omega) (by omega) ?_ (fun j hj hij => ?_) (by omega)
      · rw [qmA hlt, hps, ← hN', hn, qqa (by omega), Nat.add_mul, Nat.one_mul]
      · have := List.pairwise_iff_getElem.1 (qoB l) i j hlt hj (by omega)
        have hgj : (uN l).getD j 0 = (uN l)[j] := by simp [List.getD, List.getElem?_eq_getElem hj]
        unfold kLt at this
        rw [hgj]; omega
    · rw [if_neg (by simp; omega)]
      unfold qbO
      rw [qpE hl fun t ht h0 => by rw [show i = (uN l).length by omega, List.take_length]; exact decide_eq_true (qgW.2 ⟨ht, h0⟩)]
theorem qdp {F : Nat} {l : List Int} (hF : 20000 ≤ F) : z8 F l = some (codesM l) := by
  unfold z8 codesM
  rw [qfN (by omega)]
  simp only [Option.bind_some]
  unfold qab qaa
  by_cases h : kchk l = 0
  · have hl := qew.1 h
    have h1 := hl.1
    rw [if_pos (by simpa using h), qjX (by omega) hl, if_neg (show ¬ kchk l ≠ 0 by simp [h])]
    simp only [Option.bind_some]
    by_cases h2 : 16777216 < wsum l
    · rw [if_pos (by simp; omega), if_pos (by decide), if_pos h2]
    · have hul : (uN l).length ≤ l.length := by
        rw [(qdQ l).length_eq]
        unfold usd
        exact Nat.le_trans (List.length_filter_le _ _) (by simp)
      rw [if_neg (show ¬ decide (16777216 - (wsum l : Int) < 0) = true by simp; omega), h, if_neg (by decide), if_neg h2, qqu (by omega)]
      simp only [Option.bind_some]
      rw [qpN hF (by omega)]
      simp only [Option.bind_some]
      have e0 : tbl l (bfn l 1 0) = tbl l (fun t => decide (t ∈ (uN l).take 0)) := qmN fun t _ => by
        rw [List.take_zero]
        simp only [List.not_mem_nil, decide_false]
        rw [← Bool.not_eq_true, qgm]; omega
      rw [e0]
      exact qlt hF hl F 0 0 0 (by omega) (by omega) (by simp [ssum]) (fun j hj _ => by
        have hgj : (uN l).getD j 0 = (uN l)[j] := by simp [List.getD, List.getElem?_eq_getElem hj]
        have := (qgW.1 (List.getElem_mem hj)).2
        rw [hgj]; omega) (by omega)
  · rw [if_neg (by simpa using h), if_neg (by simp), if_pos (by simpa using h), if_pos h]
def hw (many : List Int) (s : Nat) : Nat := (gL many s).toNat
def hst (many : List Int) : Nat → List Grp
  | 0 => []
  | i + 1 => if 0 < gL many i then gins ([i], hw many i) (hst many i) else hst many i
def hdep (many : List Int) : Nat → Nat :=
  let h := hst many many.length
  hrun h.length h (fun s => if h.length = 1 ∧ s ∈ hsg h then 1 else 0)
def HM (many : List Int) : Prop := many.length ≤ 64 ∧ ∀ n ∈ many, 0 ≤ n ∧ n ≤ 1048576
theorem HM.at {many : List Int} (h : HM many) {t : Nat} (ht : t < many.length) : 0 ≤ gL many t ∧ gL many t ≤ 1048576 := h.2 _ (List.mem_of_getElem? (qdG ht))
def usdTo (many : List Int) (i : Nat) : List Nat := (List.range i).filter fun t => decide (0 < gL many t)
theorem qhj (many : List Int) (i : Nat) : usdTo many (i + 1) = usdTo many i ++ if 0 < gL many i then [i] else [] := by
  unfold usdTo
  rw [List.range_succ, List.filter_append]
  congr 1
  by_cases h : 0 < gL many i <;> simp [h]
theorem qcI (many : List Int) : usdTo many many.length = usd many := rfl
theorem qeS (many : List Int) : ∀ i, (hsg (hst many i)).Perm (usdTo many i)
  | 0 => List.Perm.refl _
  | i + 1 => by
    rw [qhj]
    unfold hst
    by_cases h : 0 < gL many i
    · rw [if_pos h, if_pos h]
      refine (qjT (yX _ _)).trans ?_
      show (i :: hsg (hst many i)).Perm _
      exact ((qeS many i).cons i).trans (List.perm_append_singleton i _).symm
    · rw [if_neg h, if_neg h, List.append_nil]
      exact qeS many i
theorem qkN (many : List Int) : ∀ i, ((hst many i).map (·.2)).Perm ((usdTo many i).map (hw many))
  | 0 => List.Perm.refl _
  | i + 1 => by
    rw [qhj]
    unfold hst
    by_cases h : 0 < gL many i
    · rw [if_pos h, if_pos h, List.map_append]
      refine ((yX _ _).map _).trans ?_
      exact ((qkN many i).cons _).trans (List.perm_append_singleton _ _).symm
    · rw [if_neg h, if_neg h, List.append_nil]
      exact qkN many i
theorem qcy (many : List Int) : ∀ i, ∀ g ∈ hst many i, ∃ s, s < i ∧ g = ([s], hw many s)
  | 0, g, hg => by simp [hst] at hg
  | i + 1, g, hg => by
    unfold hst at hg
    by_cases h : 0 < gL many i
    · rw [if_pos h, (yX _ _).mem_iff, List.mem_cons] at hg
      rcases hg with rfl | hg
      · exact ⟨i, by omega, rfl⟩
      · obtain ⟨s, hs, e⟩ := qcy many i g hg
        exact ⟨s, by omega, e⟩
    · rw [if_neg h] at hg
      obtain ⟨s, hs, e⟩ := qcy many i g hg
      exact ⟨s, by omega, e⟩
theorem qgn (many : List Int) : ∀ i, (hst many i).Pairwise (fun a b => glt a b = true)
  | 0 => List.Pairwise.nil
  | i + 1 => by
    unfold hst
    by_cases h : 0 < gL many i
    · rw [if_pos h]
      refine qed (qgn many i) fun g hg => ?_
      obtain ⟨s, hs, rfl⟩ := qcy many i g hg
      show i ≠ s
      omega
    · rw [if_neg h]; exact qgn many i
theorem qfp (many : List Int) (i : Nat) : (hst many i).length = (usdTo many i).length := by
  have := (qkN many i).length_eq
  simpa using this
theorem qlg (many : List Int) : (usd many).length ≤ many.length := by
  have := List.length_filter_le (fun t => decide (0 < gL many t)) (List.range many.length)
  rwa [List.length_range] at this
theorem qex {many : List Int} {t : Nat} : t ∈ usd many ↔ t < many.length ∧ 0 < gL many t := by simp [usd]
def ho (many : List Int) : Nat → Nat := fun s => if (hst many many.length).length = 1 ∧ s ∈ hsg (hst many many.length) then 1 else 0
theorem qfo (many : List Int) : hdep many = hrun (hst many many.length).length (hst many many.length) (ho many) := rfl
theorem qkM {many : List Int} (hm : HM many) {o : Nat → Nat} (h0 : (hst many many.length).length ≠ 1) (ho : ∀ s, o s = 0) : HI (hw many) (hst many many.length) o where
  nd := (qeS many _).nodup_iff.2 (by rw [qcI]; exact qfZ many)
  ne := fun g hg => by obtain ⟨s, _, rfl⟩ := qcy many _ g hg; simp
  up := fun g hg => by obtain ⟨s, _, rfl⟩ := qcy many _ g hg; simp
  wt := fun g hg => by obtain ⟨s, _, rfl⟩ := qcy many _ g hg; simp [nsum]
  ord := qgn many _
  room := fun g hg => by obtain ⟨s, _, rfl⟩ := qcy many _ g hg; simp [nsum, ho]
  low := fun s _ => by
    have := qfp many many.length
    have h1 := qlg many
    have := hm.1
    rw [qcI] at *
    have := ho s
    omega
theorem qml {many : List Int} (hm : HM many) {s : Nat} (hs : s ∉ usd many) : hdep many s = 0 := by
  have hs' : s ∉ hsg (hst many many.length) := fun h => hs ((qeS many _).mem_iff.1 h)
  rw [qfo]
  by_cases h1 : (hst many many.length).length = 1
  · rw [h1]
    obtain ⟨a, ha⟩ := List.length_eq_one_iff.1 h1
    rw [ha] at hs' ⊢
    show ho many s = 0
    unfold ho
    rw [ha, if_neg (fun h => hs' h.2)]
  · have hi := qkM hm (o := ho many) h1 (fun s => by unfold ho; rw [if_neg (fun h => h1 h.1)])
    rw [(qfL _ _ _ (Nat.le_refl _) hi).2.2.1 s hs']
    unfold ho
    rw [if_neg (fun h => h1 h.1)]
theorem qjQ {many : List Int} (h1 : (usd many).length = 1) {s : Nat} (hs : s ∈ usd many) : hdep many s = 1 := by
  have hl : (hst many many.length).length = 1 := by rw [qfp, qcI, h1]
  have hs' : s ∈ hsg (hst many many.length) := (qeS many _).mem_iff.2 hs
  rw [qfo, hl]
  obtain ⟨a, ha⟩ := List.length_eq_one_iff.1 hl
  have e : hrun 1 (hst many many.length) (ho many) = ho many := by rw [ha]; rfl
  rw [e]
  unfold ho
  rw [if_pos ⟨hl, hs'⟩]
theorem qh2 {many : List Int} (hm : HM many) (h2 : (usd many).length ≠ 1) :
    nsum (usd many) (fun s => hw many s * hdep many s) = hc (usd many).length ((hst many many.length).map (·.2)) ∧
    (usd many ≠ [] → nsum (usd many) (fun s => 2 ^ (64 - hdep many s)) = 2 ^ 64) ∧ (∀ s ∈ usd many, 1 ≤ hdep many s ∧ hdep many s ≤ 64) := by
  have hl : (hst many many.length).length = (usd many).length := by rw [qfp, qcI]
  have hne : (hst many many.length).length ≠ 1 := by rw [hl]; exact h2
  have h0 : ∀ s, ho many s = 0 := fun s => by unfold ho; rw [if_neg (fun h => hne h.1)]
  have hi := qkM hm (o := ho many) hne h0
  obtain ⟨i1, i2, i3, i4, i5⟩ := qfL (hst many many.length).length _ _ (Nat.le_refl _) hi
  rw [← qfo] at i1 i2 i3 i4 i5
  have hp : (hsg (hst many many.length)).Perm (usd many) := qeS many _
  rw [qag hp, qag hp, hl] at i1
  rw [qag hp] at i2
  refine ⟨?_, fun hne => i2 ?_, fun s hs => ?_⟩
  · rw [i1, qbQ (g := fun _ => 0) (fun s _ => by rw [h0 s, Nat.mul_zero])]
    have : ∀ l : List Nat, nsum l (fun _ => 0) = 0 := fun l => by
      induction l with
      | nil => rfl
      | cons a l ih => rw [qaf, ih]
    rw [this, Nat.zero_add]
  · intro h; rw [h] at hl; exact hne (List.eq_nil_of_length_eq_zero hl.symm)
  · have hs' := hp.mem_iff.2 hs
    have hlen : 2 ≤ (hst many many.length).length := by
      have := List.length_pos_of_mem hs
      rw [hl]; omega
    have h3 := i4 hlen s hs'
    rw [h0 s] at h3
    exact ⟨by omega, (i5 s hs').2⟩
theorem qns {many : List Int} (hm : HM many) {s : Nat} (hs : s ∈ usd many) : 1 ≤ hdep many s := by
  by_cases h : (usd many).length = 1
  · rw [qjQ h hs]; exact Nat.le_refl _
  · exact ((qh2 hm h).2.2 s hs).1
theorem qmm {many : List Int} (hm : HM many) (h24 : ∀ s ∈ usd many, hdep many s ≤ 24) :
    nsum (usd many) (fun s => 2 ^ (24 - hdep many s)) = if (usd many).length = 0 then 0 else if (usd many).length = 1 then 2 ^ 23 else 2 ^ 24 := by
  by_cases h0 : (usd many).length = 0
  · rw [if_pos h0, List.eq_nil_of_length_eq_zero h0]; rfl
  · rw [if_neg h0]
    by_cases h : (usd many).length = 1
    · rw [if_pos h]
      obtain ⟨a, ha⟩ := List.length_eq_one_iff.1 h
      have := qjQ h (s := a) (by rw [ha]; simp)
      rw [ha, qaf, qj2, this]
    · rw [if_neg h]
      have h1 := (qh2 hm h).2.1 (fun e => h0 (by rw [e]; rfl))
      rw [qbQ (g := fun s => 2 ^ 40 * 2 ^ (24 - hdep many s)) (fun s hs => by
        have := h24 s hs
        rw [← Nat.pow_add, show 64 - hdep many s = 40 + (24 - hdep many s) by omega]), qj1] at h1
      generalize nsum (usd many) (fun s => 2 ^ (24 - hdep many s)) = X at h1 ⊢
      omega
theorem qkT (l : List Nat) (c : Nat) : nsum l (fun _ => c) = l.length * c := by
  induction l with
  | nil => simp [nsum]
  | cons a l ih => rw [qaf, ih, List.length_cons, Nat.add_mul]; omega
def hsI (l : List Nat) : List Int := l.map fun (s : Nat) => (s : Int)
def cG (g : Grp) : List Int × Int := (hsI g.1, (g.2 : Int))
theorem qqG (p q x y : Int) : (if (if p < q then (-1 : Int) else if q < p then 1 else 0) ≠ 0 then (if p < q then (-1 : Int) else if q < p then 1 else 0) else (if x < y then (-1 : Int) else if y < x then 1 else 0)) < 0 ↔ p < q ∨ (p = q ∧ x < y) := by
  by_cases h1 : p < q
  · simp [h1]
  · by_cases h2 : q < p
    · simp [h1, h2]; omega
    · by_cases h3 : x < y
      · simp [h1, h2, h3]; omega
      · by_cases h4 : y < x
        · simp [h1, h2, h3, h4]
        · simp [h1, h2, h3, h4]
theorem qj5 {F : Nat} {a b : Grp} (hF : 3 ≤ F) (ha : a.1 ≠ []) (hb : b.1 ≠ []) : ∃ z, qbr F (cG a).1 (cG a).2 (cG b).1 (cG b).2 = some z ∧ (z < 0 ↔ glt a b = true) := by
  obtain ⟨la, wa⟩ := a
  obtain ⟨lb, wb⟩ := b
  cases la with
  | nil => exact absurd rfl ha
  | cons x ta =>
  cases lb with
  | nil => exact absurd rfl hb
  | cons y tb =>
  unfold qbr
  have e1 : idx (cG (x :: ta, wa)).1 0 = some (x : Int) := by simp [idx, cG, hsI]
  have e2 : idx (cG (y :: tb, wb)).1 0 = some (y : Int) := by simp [idx, cG, hsI]
  rw [e1, e2]
  simp only [Option.bind_some]
  rw [qdE, qdE]
  simp only [Option.bind_some]
  rw [qp1 hF]
  simp only [Option.bind_some]
  refine ⟨_, rfl, (qqG _ _ _ _).trans ?_⟩
  rw [qes]
  show ((wa : Int) < (wb : Int) ∨ ((wa : Int) = (wb : Int) ∧ (x : Int) < (y : Int))) ↔ wa < wb ∨ (wa = wb ∧ x < y)
  omega
def gidx (g : Grp) : List Grp → Nat
  | [] => 0
  | h :: t => if glt h g then gidx g t + 1 else 0
theorem qjM (g : Grp) : ∀ l : List Grp, gins g l = l.take (gidx g l) ++ g :: l.drop (gidx g l)
  | [] => rfl
  | h :: t => by
    unfold gins gidx
    split
    · rw [qjM g t]; rfl
    · rfl
theorem qlz (g : Grp) : ∀ l : List Grp, gidx g l ≤ l.length
  | [] => Nat.le_refl _
  | h :: t => by
    unfold gidx
    split
    · have := qlz g t
      simp only [List.length_cons]; omega
    · omega
theorem qjL {g : Grp} : ∀ {l : List Grp}, l.Pairwise (fun a b => glt a b = true) → ∀ {i : Nat} (hi : i < l.length), (i < gidx g l ↔ glt l[i] g = true)
  | [], _, i, hi => absurd hi (by simp)
  | h :: t, hp, i, hi => by
    rw [List.pairwise_cons] at hp
    unfold gidx
    cases i with
    | zero =>
      simp only [List.getElem_cons_zero]
      split
      · rename_i h1; simp [h1]
      · rename_i h1; simp [h1]
    | succ i =>
      simp only [List.getElem_cons_succ]
      have hi' : i < t.length := by simpa using hi
      split
      · rw [Nat.add_lt_add_iff_right]
        exact qjL hp.2 hi'
      · rename_i h1
        refine ⟨fun h => by omega, fun h => absurd (qh0 (hp.1 _ (List.getElem_mem hi')) h) h1⟩
theorem hmid {i j : Nat} (h : i + j < 1000000000) : iconv .i64 (ishr .u64 (iconv .u64 (iadd .i64 (i : Int) (j : Int))) 1) = (((i + j) / 2 : Nat) : Int) := by
  rw [qeT (by omega), show iconv .u64 ((i + j : Nat) : Int) = ((i + j : Nat) : Int) from kI (by omega) (by omega), show (1 : Int) = ((1 : Nat) : Int) from rfl, qfM (by omega)]
  exact wrap_i64 (by omega) (by omega)
theorem qm5 {l : List Grp} {i : Nat} (hi : i < l.length) : idx (l.map cG) (i : Int) = some (cG l[i]) := by
  rw [qM, List.getElem?_map, List.getElem?_eq_getElem hi]; rfl
theorem qfI {F : Nat} {l : List Grp} {g : Grp} (hF : 3 ≤ F) (hl : l.length < 1000) (hp : l.Pairwise (fun a b => glt a b = true)) (hne : ∀ h ∈ l, h.1 ≠ []) (hg : g.1 ≠ []) : ∀ (k lo hi : Nat), hi - lo < k → lo ≤ gidx g l → gidx g l ≤ hi → hi ≤ l.length →
    ∃ b, ql F (l.map cG) (cG g).1 (cG g).2 k ((lo : Int), (hi : Int)) = some ((gidx g l : Int), b)
  | 0, _, _, h, _, _, _ => absurd h (by omega)
  | k + 1, lo, hi, h, h1, h2, h3 => by
    show ∃ b, qu F (l.map cG) (cG g).1 (cG g).2 (ql F (l.map cG) (cG g).1 (cG g).2 k) (lo : Int) (hi : Int) = _
    unfold qu
    by_cases hlt : lo < hi
    · have hm : (lo + hi) / 2 < l.length := by omega
      rw [if_pos (by simp; omega), hmid (by omega)]
      simp only [lett]
      rw [qm5 hm]
      simp only [Option.bind_some]
      obtain ⟨z, hz, hz2⟩ := qj5 (F := F) (a := l[(lo + hi) / 2]) (b := g) hF (hne _ (List.getElem_mem hm)) hg
      rw [hz]
      simp only [Option.bind_some]
      have hk := qjL (g := g) hp hm
      by_cases hc : z < 0
      · have := hk.2 (hz2.1 hc)
        rw [if_pos (by simpa using hc), zz (by omega)]
        exact qfI hF hl hp hne hg k ((lo + hi) / 2 + 1) hi (by omega) (by omega) h2 h3
      · have : ¬ (lo + hi) / 2 < gidx g l := fun h => hc (hz2.2 (hk.1 h))
        rw [if_neg (by simpa using hc)]
        exact qfI hF hl hp hne hg k lo ((lo + hi) / 2) (by omega) h1 (by omega) (by omega)
    · rw [if_neg (by simp; omega)]
      have e : lo = gidx g l := by omega
      unfold qK qw
      by_cases hl2 : lo < l.length
      · rw [if_pos (by simp; omega), qm5 hl2]
        simp only [Option.bind_some]
        obtain ⟨z, hz, _⟩ := qj5 (F := F) (a := l[lo]) (b := g) hF (hne _ (List.getElem_mem hl2)) hg
        rw [hz]
        simp only [Option.bind_some]
        exact ⟨_, by rw [e]⟩
      · rw [if_neg (by simp; omega)]
        exact ⟨_, by rw [e]⟩
theorem qlM {F : Nat} {l : List Grp} {g : Grp} (hF : 1000 ≤ F) (hl : l.length < 1000) (hp : l.Pairwise (fun a b => glt a b = true)) (hne : ∀ h ∈ l, h.1 ≠ []) (hg : g.1 ≠ []) :
    qfG F (l.map cG) (cG g).1 (cG g).2 = some (gidx g l : Int) ∧ insK (gidx g l : Int) (l.map cG) (cG g) = (gins g l).map cG := by
  have hle := qlz g l
  constructor
  · unfold qfG qp
    obtain ⟨b, hb⟩ := qfI (F := F) (g := g) (by omega) hl hp hne hg F 0 l.length (by omega) (Nat.zero_le _) hle (Nat.le_refl _)
    have hb' : ql F (l.map cG) (cG g).1 (cG g).2 F (0, ((l.map cG).length : Int)) = some ((gidx g l : Int), b) := by rw [List.length_map]; exact hb
    rw [hb']
    simp only [Option.bind_some]
    rw [if_pos ⟨by omega, by simp only [List.length_map]; omega, by simp only [List.length_map]; omega⟩]
  · unfold insK
    rw [qjM, List.map_append, List.map_cons, List.map_take, List.map_drop, Int.toNat_natCast]
def hOut (l : List Int) : Bool := l.any fun n => decide (n < 0) || decide (1048576 < n)
def hchk (l : List Int) : Int := if 64 < l.length then 2 else if hOut l then 3 else 0
theorem qiW {l : List Int} : hchk l = 0 ↔ HM l := by
  unfold hchk HM
  by_cases h1 : 64 < l.length
  · rw [if_pos h1]; simp; omega
  · rw [if_neg h1]
    by_cases h2 : hOut l = true
    · rw [if_pos h2]
      unfold hOut at h2
      obtain ⟨n, hn, hx⟩ := List.any_eq_true.1 h2
      refine ⟨fun h => by simp at h, fun h => ?_⟩
      have := h.2 n hn
      simp at hx; omega
    · rw [if_neg h2]
      refine ⟨fun _ => ⟨by omega, fun n hn => ?_⟩, fun _ => rfl⟩
      by_cases hx : n < 0 ∨ 1048576 < n
      · exact absurd (List.any_eq_true.2 ⟨n, hn, by simpa using hx⟩) h2
      · omega
theorem qjR {F : Nat} {l : List Int} (hm : l.length ≤ 1000000) : ∀ (k i : Nat), l.length < k + i → i ≤ l.length → ∃ z, qF F l k (i : Int) = some z ∧ decide (0 ≤ z) = hOut (l.drop i)
  | 0, _, _, _ => by omega
  | k + 1, i, h, hi => by
    show ∃ z, q7 F l (qF F l k) (i : Int) = some z ∧ _
    unfold q7
    by_cases hlt : i < l.length
    · rw [if_pos (by simp; omega), qM, List.getElem?_eq_getElem hlt, List.drop_eq_getElem_cons hlt]
      simp only [Option.bind_some]
      unfold qcR qdz
      simp only [Option.bind_some]
      unfold hOut
      rw [List.any_cons]
      by_cases hc : (decide (l[i] < 0) || decide (1048576 < l[i])) = true
      · have : (!(decide (0 ≤ l[i]) && decide (l[i] ≤ 1048576))) = true := by simp at hc ⊢; omega
        rw [this, if_pos rfl, hc]
        exact ⟨_, rfl, by simp⟩
      · have : (!(decide (0 ≤ l[i]) && decide (l[i] ≤ 1048576))) = false := by simp at hc ⊢; omega
        rw [this, if_neg (by simp), zz (by omega)]
        rw [Bool.not_eq_true] at hc
        rw [hc, Bool.false_or]
        exact qjR hm k (i + 1) (by omega) (by omega)
    · rw [if_neg (by simp; omega), List.drop_eq_nil_of_le (by omega)]
      exact ⟨-1, rfl, rfl⟩
theorem qh1 {F : Nat} {l : List Int} (hF : 1000 ≤ F) : qbo F l = some (hchk l) := by
  unfold qbo hchk
  by_cases h : 64 < l.length
  · rw [if_pos (by simp; omega), if_pos h]
  · rw [if_neg (by simp; omega), if_neg h]
    unfold zv zF
    obtain ⟨z, e1, e2⟩ := qjR (F := F) (l := l) (by omega) F 0 (by omega) (by omega)
    have e1' : qF F l F 0 = some z := e1
    rw [List.drop_zero] at e2
    rw [e1']
    simp only [Option.bind_some]
    rw [e2]
    split <;> rfl
def dOut (l : List Int) : Bool := l.any fun n => decide (24 < n)
theorem qjD {F : Nat} {l : List Int} (hm : l.length ≤ 1000000) : ∀ (k i : Nat), l.length < k + i → i ≤ l.length → ∃ z, qA F l k (i : Int) = some z ∧ decide (0 ≤ z) = dOut (l.drop i)
  | 0, _, _, _ => by omega
  | k + 1, i, h, hi => by
    show ∃ z, qY F l (qA F l k) (i : Int) = some z ∧ _
    unfold qY
    by_cases hlt : i < l.length
    · rw [if_pos (by simp; omega), qM, List.getElem?_eq_getElem hlt, List.drop_eq_getElem_cons hlt]
      simp only [Option.bind_some]
      unfold qbN
      simp only [Option.bind_some]
      unfold dOut
      rw [List.any_cons]
      by_cases hc : decide (24 < l[i]) = true
      · rw [if_pos hc, hc]
        exact ⟨_, rfl, by simp⟩
      · rw [if_neg hc, zz (by omega)]
        rw [Bool.not_eq_true] at hc
        rw [hc, Bool.false_or]
        exact qjD hm k (i + 1) (by omega) (by omega)
    · rw [if_neg (by simp; omega), List.drop_eq_nil_of_le (by omega)]
      exact ⟨-1, rfl, rfl⟩
def oL (n : Nat) (o : Nat → Nat) : List Int := (List.range n).map fun s => (o s : Int)
theorem qcm (n : Nat) (o : Nat → Nat) : (oL n o).length = n := by simp [oL]
theorem qdN {n : Nat} {o : Nat → Nat} {s : Nat} (h : s < n) : (oL n o)[s]? = some (o s : Int) := by simp [oL, h]
theorem qkV {n s : Nat} {o o' : Nat → Nat} (h : ∀ t, t < n → o' t = if t = s then o s + 1 else o t) (hs : s < n) : (oL n o).set s ((o s : Int) + 1) = oL n o' := by
  apply List.ext_getElem?
  intro t
  rw [List.getElem?_set, qcm]
  by_cases ht : t < n
  · rw [qdN ht, qdN ht, h t ht]
    by_cases e : s = t
    · subst e
      rw [if_pos rfl, if_pos ht, if_pos rfl]; rfl
    · rw [if_neg e, if_neg (fun h => e h.symm)]
  · rw [List.getElem?_eq_none (by rw [qcm]; omega), List.getElem?_eq_none (by rw [qcm]; omega)]
    by_cases e : s = t
    · omega
    · rw [if_neg e]
def hfin (n : Nat) (o : Nat → Nat) : List Int × Int := if dOut (oL n o) then ([], 8) else (oL n o, 0)
theorem qlA {F n : Nat} {o : Nat → Nat} (hF : 1000 ≤ F) (hn : n ≤ 64) : vo F (oL n o) = some (hfin n o) := by
  unfold vo zp zx
  have hl := qcm n o
  obtain ⟨z, e1, e2⟩ := qjD (F := F) (l := oL n o) (by omega) F 0 (by omega) (by omega)
  have e1' : qA F (oL n o) F 0 = some z := e1
  rw [List.drop_zero] at e2
  rw [e1']
  simp only [Option.bind_some]
  rw [e2]
  unfold hfin
  split <;> rfl
theorem qet (l : List Nat) : (hsI l).length = l.length := by simp [hsI]
theorem qo9 {l : List Nat} {i : Nat} (h : i < l.length) : idx (hsI l) (i : Int) = some (l[i] : Int) := by
  rw [qM]; simp [hsI, List.getElem?_eq_getElem h]
theorem qnv (l : List Nat) : srt (hsI l) = hsI (srtN l) := by
  refine qqH (((kT l).symm).map _) ?_
  unfold hsI
  rw [List.pairwise_map]
  exact (qel l).imp fun h => by omega
theorem qm4 {F n : Nat} {rec29 : (List Int × List (List Int × Int)) → Option (List Int × Int)} {p q : (List Int × Int) × List (List Int × Int)} {S : List Nat} {o : Nat → Nat} (hS : S.Nodup) (hb : ∀ s ∈ S, s < n) (ho : ∀ s ∈ S, o s ≤ 1000) (hl : S.length ≤ 1000) :
    ∀ (k j : Nat), S.length < k + j → j ≤ S.length → zU F rec29 p q (hsI S) k (oL n (gbump o (S.take j)), (j : Int)) = vp F rec29 p q (hsI S) (oL n (gbump o S))
  | 0, _, _, _ => by omega
  | k + 1, j, h, hj => by
    show vl F rec29 p q (hsI S) (zU F rec29 p q (hsI S) k) (oL n (gbump o (S.take j))) (j : Int) = _
    unfold vl
    by_cases hlt : j < S.length
    · have hm := List.getElem_mem hlt
      have hs := hb _ hm
      rw [if_pos (by simp [qet]; omega), qo9 hlt]
      simp only [Option.bind_some]
      have hnot : S[j] ∉ S.take j := by
        intro hmem
        obtain ⟨i, hi, e⟩ := List.getElem_of_mem hmem
        rw [List.getElem_take] at e
        have hi' : i < j := by simp at hi; omega
        have := (List.getElem_inj hS).1 e
        omega
      have hv : gbump o (S.take j) S[j] = o S[j] := by unfold gbump; rw [if_neg hnot]
      have ho' := ho _ hm
      rw [qM, qdN hs, hv]
      simp only [Option.bind_some, lett]
      rw [Int.toNat_natCast, qW (by omega) (by omega), zz (by omega)]
      rw [← hv, qkV (o' := gbump o (S.take (j + 1))) (fun t _ => ?_) hs]
      · exact qm4 hS hb ho hl k (j + 1) (by omega) (by omega)
      · rw [hv]
        unfold gbump
        rw [qai hlt]
        simp only [List.mem_append, List.mem_singleton]
        by_cases e : t = S[j]
        · subst e
          rw [if_pos (.inr rfl), if_pos rfl]
        · rw [if_neg e]
          by_cases h1 : t ∈ S.take j
          · rw [if_pos (.inl h1), if_pos h1]
          · rw [if_neg (by rintro (h | h) <;> contradiction), if_neg h1]
    · rw [if_neg (by simp [qet]; omega), List.take_of_length_le (by omega)]
theorem qkL {F n : Nat} {w : Nat → Nat} (hF : 20000 ≤ F) (hn : n ≤ 64) : ∀ (k : Nat) (h : List Grp) (o : Nat → Nat), h.length < k → (h.length = 1 ∨ HI w h o) → (∀ s ∈ hsg h, s < n) → nsum (hsg h) w ≤ 1000000000 →
    qQ F k (oL n o, h.map cG) = some (hfin n (hrun h.length h o))
  | 0, _, _, hk, _, _, _ => absurd hk (by omega)
  | k + 1, h, o, hk, hi, hb, hW => by
    show vk F (qQ F k) (oL n o) (h.map cG) = _
    unfold vk
    match h, hi with
    | [], _ => rw [if_neg (by simp)]; exact qlA (by omega) hn
    | [a], _ => rw [if_neg (by simp)]; exact qlA (by omega) hn
    | a :: b :: t, hi =>
      have hi : HI w (a :: b :: t) o := hi.resolve_left (by simp)
      have hs := hi.step
      rw [if_pos (by simp; omega)]
      simp only [List.map_cons, popM, Option.bind_some]
      have hperm : (hsg (gins (gmerge a b) t)).Perm (hsg (a :: b :: t)) := qdq
      have hnd : (a.1 ++ b.1).Nodup := by
        have h1 : (a.1 ++ (b.1 ++ hsg t)).Nodup := hi.nd
        rw [← List.append_assoc] at h1
        exact (List.nodup_append.1 h1).1
      have hmab : ∀ s ∈ a.1 ++ b.1, s ∈ hsg (a :: b :: t) := fun s hs => by
        refine qdM.2 ?_
        rcases List.mem_append.1 hs with hs | hs
        · exact ⟨a, by simp, hs⟩
        · exact ⟨b, by simp, hs⟩
      have hlab : (a.1 ++ b.1).length ≤ 64 := by
        have h1 := List.Nodup.length_le_of_subset hnd (fun s hs => List.mem_range.2 (hb s (hmab s hs)))
        rw [List.length_range] at h1
        omega
      rw [List.length_append] at hlab
      have e1 : (cG a).1 = hsI a.1 := rfl
      have e2 : (cG b).1 = hsI b.1 := rfl
      rw [e1, e2, qmc hF (by rw [qet, qet]; omega)]
      simp only [Option.bind_some]
      have e3 : hsI a.1 ++ hsI b.1 = hsI (a.1 ++ b.1) := by simp [hsI]
      rw [e3]
      unfold yl yn
      rw [if_pos (by rw [qet, List.length_append]; omega)]
      simp only [Option.bind_some]
      rw [qnv]
      have hsl : (srtN (a.1 ++ b.1)).length = (a.1 ++ b.1).length := (kT _).length_eq
      unfold chk
      rw [if_pos (by simp [qet, hsl])]
      have hmem : ∀ s, s ∈ srtN (a.1 ++ b.1) ↔ s ∈ a.1 ++ b.1 := fun s => (kT _).mem_iff
      have hbump := qm4 (F := F) (n := n) (rec29 := qQ F k) (p := (cG a, cG b :: t.map cG)) (q := (cG b, t.map cG)) (S := srtN (a.1 ++ b.1)) (o := o) ((kT _).nodup_iff.2 hnd) (fun s hs => hb s (hmab s ((hmem s).1 hs)))
        (fun s hs => by have := hi.low s (hmab s ((hmem s).1 hs)); omega) (by rw [hsl, List.length_append]; omega) F 0 (by rw [hsl, List.length_append]; omega) (Nat.zero_le _)
      have e4 : gbump o ((srtN (a.1 ++ b.1)).take 0) = o := by funext s; simp [gbump]
      have e5 : gbump o (srtN (a.1 ++ b.1)) = gbump o (a.1 ++ b.1) := by
        funext s
        unfold gbump
        by_cases h1 : s ∈ a.1 ++ b.1
        · rw [if_pos h1, if_pos ((hmem s).2 h1)]
        · rw [if_neg h1, if_neg (fun h => h1 ((hmem s).1 h))]
      rw [e4, e5] at hbump
      have hbump' : zU F (qQ F k) (cG a, cG b :: t.map cG) (cG b, t.map cG) (hsI (srtN (a.1 ++ b.1))) F (oL n o, 0) = _ := hbump
      rw [hbump']
      unfold vp
      have hww : a.2 + b.2 ≤ nsum (hsg (a :: b :: t)) w := by
        have h1 : hsg (a :: b :: t) = a.1 ++ (b.1 ++ hsg t) := rfl
        rw [h1, qb6, qb6, hi.wt a (by simp), hi.wt b (by simp)]
        omega
      have hw1 : iadd .i64 (cG a).2 (cG b).2 = ((a.2 + b.2 : Nat) : Int) := qeT (by omega)
      simp only []
      rw [hw1]
      have hp := hi.ord
      rw [List.pairwise_cons, List.pairwise_cons] at hp
      have hpush := qlM (F := F) (l := t) (g := gmerge a b) (by omega) (by have := hi.low _ (qdM.2 ⟨a, by simp, qbB (hi.ne a (by simp))⟩); simp only [List.length_cons] at this; omega) hp.2.2 (fun g hg => hi.ne g (by simp [hg])) (hs.ne _ ((yX _ _).mem_iff.2 (by simp)))
      have e6 : (cG (gmerge a b)).1 = hsI (srtN (a.1 ++ b.1)) := rfl
      have e7 : (cG (gmerge a b)).2 = ((a.2 + b.2 : Nat) : Int) := rfl
      rw [e6, e7] at hpush
      rw [hpush.1]
      simp only [Option.bind_some]
      have e8 : ((hsI (srtN (a.1 ++ b.1)), ((a.2 + b.2 : Nat) : Int)) : List Int × Int) = cG (gmerge a b) := rfl
      rw [e8, hpush.2]
      have hlen := qec (gmerge a b) t
      simp only [List.length_cons] at hk
      rw [qkL hF hn k _ _ (by omega) (.inr hs) (fun s hs => hb s (hperm.mem_iff.1 hs)) (by rw [qag hperm]; exact hW), hlen]
      rfl
theorem qnu {F : Nat} {many : List Int} (hF : 20000 ≤ F) (hm : HM many) : ∀ (k i : Nat), many.length < k + i → i ≤ many.length →
    zL F many k ((i : Int), (hst many i).map cG) = vU F many ((hst many many.length).map cG)
  | 0, _, _, _ => by omega
  | k + 1, i, h, hi => by
    show vm F many (zL F many k) (i : Int) ((hst many i).map cG) = _
    unfold vm
    have hm1 := hm.1
    by_cases hlt : i < many.length
    · have hn := hm.at hlt
      rw [if_pos (by simp; omega), qM, qdG hlt]
      simp only [Option.bind_some]
      have hrec := qnu (F := F) hF hm k (i + 1) (by omega) (by omega)
      unfold vq
      rw [zz (by omega)]
      rw [show hst many (i + 1) = (if 0 < gL many i then gins ([i], hw many i) (hst many i) else hst many i) from rfl] at hrec
      by_cases h0 : 0 < gL many i
      · rw [if_pos h0] at hrec
        rw [if_pos (by simpa using h0)]
        have hw1 : ((hw many i : Nat) : Int) = gL many i := by unfold hw; omega
        have hlen : (hst many i).length < 1000 := by
          rw [qfp]
          have := List.length_filter_le (fun t => decide (0 < gL many t)) (List.range i)
          rw [List.length_range] at this
          have : (usdTo many i).length ≤ i := this
          omega
        have hp := qlM (F := F) (l := hst many i) (g := ([i], hw many i)) (by omega) hlen (qgn many i) (fun g hg => by obtain ⟨s, _, rfl⟩ := qcy many i g hg; simp) (by simp)
        have e1 : cG ([i], hw many i) = ([(i : Int)], gL many i) := by simp [cG, hsI, hw1]
        rw [e1] at hp
        simp only at hp
        rw [hp.1]
        simp only [Option.bind_some]
        rw [hp.2]
        exact hrec
      · rw [if_neg h0] at hrec
        rw [if_neg (by simpa using h0)]
        exact hrec
    · rw [if_neg (by simp; omega)]
      have : i = many.length := by omega
      subst this; rfl
theorem qlB {α : Type} {lim n : Nat} {y : α} (h : n ≤ lim) : mk lim y (n : Int) = some (List.replicate n y) := by
  unfold mk
  rw [if_pos ⟨by omega, by omega⟩, Int.toNat_natCast]
def hlenM (many : List Int) : List Int × Int := if hchk many ≠ 0 then ([], hchk many) else hfin many.length (hdep many)
theorem qkS {l : List Nat} {f : Nat → Nat} {c : Nat} (h : ∀ s ∈ l, f s ≤ c) : nsum l f ≤ l.length * c := by
  rw [← qkT]
  exact qpi h
theorem qdL {F : Nat} {many : List Int} (hF : 20000 ≤ F) : yk F many = some (hlenM many) := by
  unfold yk hlenM
  rw [qh1 (by omega)]
  simp only [Option.bind_some]
  by_cases hc : hchk many = 0
  · rw [if_neg (by simp [hc]), if_neg (by simp [hc])]
    have hm := qiW.1 hc
    have hm1 := hm.1
    have h1 := qnu (F := F) hF hm F 0 (by omega) (by omega)
    have h1' : zL F many F (0, ([] : List (List Int × Int))) = _ := h1
    rw [h1']
    unfold vU
    rw [qlB (by omega)]
    simp only [Option.bind_some]
    have e0 : List.replicate many.length (0 : Int) = oL many.length (fun _ => 0) := by
      apply List.ext_getElem?
      intro i
      by_cases h : i < many.length
      · rw [qdN h]; simp [h]
      · rw [List.getElem?_eq_none (by simp; omega), List.getElem?_eq_none (by rw [qcm]; omega)]
    rw [e0]
    have hsgp := qeS many many.length
    have hb : ∀ s ∈ hsg (hst many many.length), s < many.length := fun s hs => (qex.1 (hsgp.mem_iff.1 hs)).1
    have hlen : (hst many many.length).length ≤ 64 := by
      rw [qfp, qcI]
      have := qlg many
      omega
    have hW : nsum (hsg (hst many many.length)) (hw many) ≤ 1000000000 := by
      rw [qag hsgp, qcI]
      have h2 := qkS (l := usd many) (f := hw many) (c := 1048576) (fun s hs => by
        have := hm.at (qex.1 hs).1
        unfold hw; omega)
      have := qlg many
      have : (usd many).length * 1048576 ≤ 64 * 1048576 := Nat.mul_le_mul_right _ (by omega)
      omega
    by_cases hone : (hst many many.length).length = 1
    · obtain ⟨g, hg⟩ := List.length_eq_one_iff.1 hone
      obtain ⟨s, hs, rfl⟩ := qcy many many.length g (by rw [hg]; simp)
      rw [if_pos (by rw [List.length_map, hone]; rfl)]
      have e1 : idx ((hst many many.length).map cG) 0 = some ([(s : Int)], (hw many s : Int)) := by rw [hg]; rfl
      rw [e1]
      simp only [Option.bind_some]
      have e2 : idx ([(s : Int)] : List Int) 0 = some (s : Int) := rfl
      rw [e2]
      simp only [Option.bind_some]
      rw [qM, qdN hs]
      simp only [Option.bind_some, lett]
      rw [Int.toNat_natCast]
      have e3 : (oL many.length (fun _ => 0)).set s 1 = oL many.length (ho many) := by
        have h3 := qkV (n := many.length) (s := s) (o := fun _ => 0) (o' := ho many) (fun t _ => by
          unfold ho
          rw [hg]
          by_cases e : t = s
          · subst e; simp [hsg]
          · rw [if_neg (by simp [hsg, e]), if_neg e]) hs
        exact h3
      rw [e3]
      unfold yC
      rw [qkL (w := hw many) hF hm1 F _ _ (by omega) (.inl hone) hb hW, qfo]
    · rw [if_neg (by rw [List.length_map]; simp; omega)]
      unfold yC
      have e4 : (fun _ : Nat => 0) = ho many := by
        funext s
        unfold ho
        rw [if_neg (fun h => hone h.1)]
      rw [e4, qkL (w := hw many) hF hm1 F _ _ (by omega) (.inr (qkM hm hone (fun s => by unfold ho; rw [if_neg (fun h => hone h.1)]))) hb hW, qfo]
  · rw [if_pos (by simpa using hc), if_pos hc]
def cmpb (x y : List Int) : Bool := decide (x.take y.length = y.take x.length)
theorem qjA {x y : List Int} : cmpb x y = decide (x.take (min y.length x.length) = y.take (min y.length x.length)) := by
  unfold cmpb
  refine decide_eq_decide.2 ?_
  by_cases h : y.length ≤ x.length
  · rw [Nat.min_eq_left h, List.take_of_length_le (l := y) h, List.take_of_length_le (l := y) (Nat.le_refl _)]
  · rw [Nat.min_eq_right (by omega), List.take_of_length_le (l := x) (by omega : x.length ≤ y.length), List.take_of_length_le (l := x) (Nat.le_refl _)]
theorem qjt {F at_ : Nat} {x y : List Int} (hx : Bit x) (hy : Bit y) (hxm : x.length ≤ 8192) (hym : y.length ≤ 8192) (ha : at_ ≤ x.length) : ∀ (k i : Nat), min y.length (x.drop at_).length < k + i → i ≤ min y.length (x.drop at_).length → (x.drop at_).take i = y.take i →
    kO F (x.length : Int) (pk x) (at_ : Int) (y.length : Int) (pk y) k (i : Int) = some (cmpb (x.drop at_) y)
  | 0, _, _, _, _ => by omega
  | k + 1, i, h, hi, he => by
    have hmin : imin (y.length : Int) (isub .i64 (x.length : Int) (at_ : Int)) = ((min y.length (x.drop at_).length : Nat) : Int) := by
      rw [qgT ha (by omega), List.length_drop]
      unfold imin
      split <;> omega
    show jb F (x.length : Int) (pk x) (at_ : Int) (y.length : Int) (pk y) (kO F (x.length : Int) (pk x) (at_ : Int) (y.length : Int) (pk y) k) (i : Int) = _
    unfold jb
    rw [hmin]
    by_cases hlt : i < min y.length (x.drop at_).length
    · have hiy : i < y.length := by omega
      have hix : i < (x.drop at_).length := by omega
      have hixx : at_ + i < x.length := by rw [List.length_drop] at hix; omega
      rw [if_pos (by simpa using hlt), qeT (by omega), qm2 hx (by omega) hixx]
      simp only [Option.bind_some]
      rw [qm2 hy (by omega) hiy]
      simp only [Option.bind_some]
      have hd : (x.drop at_)[i] = x[at_ + i] := List.getElem_drop
      by_cases hc : x[at_ + i] = y[i]
      · rw [if_neg (by simpa using hc), zz (by omega)]
        refine qjt hx hy hxm hym ha k (i + 1) (by omega) (by omega) ?_
        rw [qai hix, qai hiy, he, hd, hc]
      · rw [if_pos (by simpa using hc)]
        congr 1
        symm
        rw [qjA]
        refine decide_eq_false fun h2 => hc ?_
        have this : ((x.drop at_).take (min y.length (x.drop at_).length))[i]? = (y.take (min y.length (x.drop at_).length))[i]? := congrArg (fun z : List Int => z[i]?) h2
        rw [List.getElem?_take_of_lt hlt, List.getElem?_take_of_lt hlt, List.getElem?_eq_getElem hix, List.getElem?_eq_getElem hiy] at this
        rw [← hd]
        exact Option.some.inj this
    · rw [if_neg (show ¬ decide (((i : Nat) : Int) < ((min y.length (x.drop at_).length : Nat) : Int)) = true by rw [decide_eq_true_eq]; omega)]
      unfold qbu
      congr 1
      symm
      rw [qjA, show min y.length (x.drop at_).length = i by omega]
      exact decide_eq_true he
theorem qhS {F at_ : Nat} {x y : List Int} (hF : 20000 ≤ F) (hx : Bit x) (hy : Bit y) (hxm : x.length ≤ 8192) (hym : y.length ≤ 8192) (ha : at_ ≤ x.length) :
    yV F (x.length : Int) (pk x) (at_ : Int) (y.length : Int) (pk y) = some (cmpb (x.drop at_) y) := by
  unfold yV
  exact qjt hx hy hxm hym ha F 0 (by omega) (by omega) rfl
def enc1 (x : List Int) : Int × List Int := ((x.length : Int), pk x)
def BL (xs : List (List Int)) : Prop := ∀ x ∈ xs, Bit x ∧ x.length ≤ 8192
theorem BL.at {xs : List (List Int)} (h : BL xs) (i : Nat) : Bit (xs.getD i []) ∧ (xs.getD i []).length ≤ 8192 := by
  by_cases hi : i < xs.length
  · have : xs.getD i [] = xs[i] := by simp [List.getD, List.getElem?_eq_getElem hi]
    rw [this]; exact h _ (List.getElem_mem hi)
  · have : xs.getD i [] = [] := by simp [List.getD, List.getElem?_eq_none (show xs.length ≤ i by omega)]
    rw [this]; exact ⟨fun x hx => by simp at hx, by simp⟩
theorem qiR {xs : List (List Int)} {i : Nat} (h : i < xs.length) : (xs.map enc1)[i]? = some (((xs.getD i []).length : Int), pk (xs.getD i [])) := by
  have : xs.getD i [] = xs[i] := by simp [List.getD, List.getElem?_eq_getElem h]
  rw [List.getElem?_map, List.getElem?_eq_getElem h, this]; rfl
def bad (xs : List (List Int)) (i k : Nat) : Bool := decide (0 < (xs.getD i []).length) && (decide (0 < (xs.getD k []).length) && cmpb (xs.getD i []) (xs.getD k []))
theorem qjs {F i : Nat} {xs : List (List Int)} {rec80 : Int → Option (Bool × Int)} (hF : 20000 ≤ F) (hB : BL xs) (hi : i < xs.length) (hm : xs.length ≤ 1000) : ∀ (k j : Nat), i < k + j → j ≤ i →
    ke F rec80 (i : Int) (((xs.getD i []).length : Int), pk (xs.getD i [])) ((xs.map enc1).take i) k (j : Int) = if ((List.range i).drop j).any (bad xs i) then some (false, 0) else vZ F rec80 (i : Int)
  | 0, _, _, _ => by omega
  | k + 1, j, h, hj => by
    show vX F rec80 (i : Int) (((xs.getD i []).length : Int), pk (xs.getD i [])) ((xs.map enc1).take i) (ke F rec80 (i : Int) (((xs.getD i []).length : Int), pk (xs.getD i [])) ((xs.map enc1).take i) k) (j : Int) = _
    unfold vX v6
    by_cases hlt : j < i
    · have hrec := qjs (F := F) (rec80 := rec80) hF hB hi hm k (j + 1) (by omega) (by omega)
      obtain ⟨b1, b2⟩ := hB.at i
      obtain ⟨b3, b4⟩ := hB.at j
      rw [if_pos (by simp; omega), qM, List.getElem?_take_of_lt hlt, qiR (by omega), List.drop_eq_getElem_cons (by simp; omega), List.getElem_range, List.any_cons]
      simp only [Option.bind_some]
      rw [zz (by omega)]
      by_cases hc : 0 < (xs.getD i []).length ∧ 0 < (xs.getD j []).length
      · have hb := qhS (F := F) (at_ := 0) hF b1 b3 b2 b4 (by omega)
        rw [List.drop_zero] at hb
        have hb' : yV F ((xs.getD i []).length : Int) (pk (xs.getD i [])) 0 ((xs.getD j []).length : Int) (pk (xs.getD j [])) = _ := hb
        rw [if_pos (show (decide (0 < ((xs.getD i []).length : Int)) && decide (0 < ((xs.getD j []).length : Int))) = true by rw [Bool.and_eq_true, decide_eq_true_eq, decide_eq_true_eq]; omega), hb']
        simp only [Option.bind_some]
        have e : bad xs i j = cmpb (xs.getD i []) (xs.getD j []) := by
          unfold bad
          rw [decide_eq_true hc.1, decide_eq_true hc.2, Bool.true_and, Bool.true_and]
        rw [e]
        by_cases h2 : cmpb (xs.getD i []) (xs.getD j []) = true
        · rw [if_pos h2, h2, if_pos (by simp)]
        · rw [if_neg h2]
          rw [Bool.not_eq_true] at h2
          rw [h2, Bool.false_or]
          exact hrec
      · have e : bad xs i j = false := by
          unfold bad
          by_cases h3 : 0 < (xs.getD i []).length
          · have h4 : ¬ 0 < (xs.getD j []).length := fun h4 => hc ⟨h3, h4⟩
            rw [decide_eq_false h4, Bool.false_and, Bool.and_false]
          · rw [decide_eq_false h3, Bool.false_and]
        rw [if_neg (by simp only [Bool.and_eq_true, decide_eq_true_eq]; omega), if_neg (by simp), e, Bool.false_or]
        exact hrec
    · rw [if_neg (by simp; omega), List.drop_eq_nil_of_le (by simp; omega)]
      rfl
theorem qhR {F : Nat} {xs : List (List Int)} (hF : 20000 ≤ F) (hB : BL xs) (hm : xs.length ≤ 1000) : ∀ (k i : Nat), xs.length < k + i → i ≤ xs.length →
    zd F (xs.map enc1) k (i : Int) = some (!(((List.range xs.length).drop i).any fun i => (List.range i).any (bad xs i)), 0)
  | 0, _, _, _ => by omega
  | k + 1, i, h, hi => by
    show vW F (xs.map enc1) (zd F (xs.map enc1) k) (i : Int) = _
    unfold vW
    by_cases hlt : i < xs.length
    · have hin := qjs (F := F) (rec80 := zd F (xs.map enc1) k) hF hB hlt hm F 0 (by omega) (by omega)
      have hs := qp8 (l := xs.map enc1) (i := 0) (j := i) (by omega) (by simp; omega)
      rw [show ((0 : Nat) : Int) = 0 from rfl, List.drop_zero] at hs
      rw [List.drop_zero] at hin
      rw [if_pos (by simp; omega), qM, qiR hlt, List.drop_eq_getElem_cons (by simp; omega), List.getElem_range, List.any_cons]
      simp only [Option.bind_some]
      rw [hs]
      simp only [Option.bind_some]
      refine Eq.trans hin ?_
      by_cases hb : (List.range i).any (bad xs i) = true
      · rw [if_pos hb, hb]; rfl
      · rw [if_neg hb]
        rw [Bool.not_eq_true] at hb
        rw [hb, Bool.false_or]
        unfold vZ
        rw [zz (by omega)]
        exact qhR hF hB hm k (i + 1) (by omega) (by omega)
    · rw [if_neg (by simp; omega), List.drop_eq_nil_of_le (by simp; omega)]
      rfl
def apB (xs : List (List Int)) : Bool := !((List.range xs.length).any fun i => (List.range i).any (bad xs i))
def apE : List (Int × List Int) → Int
  | [] => 0
  | c :: cs => if chkOf c.1 c.2 ≠ 0 then chkOf c.1 c.2 else apE cs
def xsl (cs : List (Int × List Int)) : List (List Int) := cs.map fun c => bl c.2 c.1.toNat
def CB (cs : List (Int × List Int)) : Prop := ∀ c ∈ cs, U8s c.2 ∧ I64 c.1 ∧ c.2.length ≤ 9223372036854775807
theorem qoM {cs : List (Int × List Int)} (h : CB cs) (he : apE cs = 0) : cs = (xsl cs).map enc1 ∧ BL (xsl cs) := by
  induction cs with
  | nil => exact ⟨rfl, fun x hx => by simp [xsl] at hx⟩
  | cons c cs ih =>
    unfold apE at he
    by_cases hc : chkOf c.1 c.2 = 0
    · rw [if_neg (by simp [hc])] at he
      obtain ⟨i1, i2⟩ := ih (fun d hd => h d (by simp [hd])) he
      obtain ⟨n, hn, ob⟩ := vG hc
      have hb := (h c (by simp)).1
      have hmax := ob.max
      constructor
      · show c :: cs = enc1 (bl c.2 c.1.toNat) :: (xsl cs).map enc1
        rw [← i1]
        congr 1
        unfold enc1
        rw [yN, hn, Int.toNat_natCast, qib hb ob, ← hn]
      · intro x hx
        rcases List.mem_cons.1 (show x ∈ bl c.2 c.1.toNat :: xsl cs from hx) with rfl | hx
        · exact ⟨qfH _ _, by rw [yN, hn, Int.toNat_natCast]; exact ob.max⟩
        · exact i2 x hx
    · rw [if_pos hc] at he
      exact absurd he hc
theorem qlk {F : Nat} {cs : List (Int × List Int)} (h : CB cs) (hm : cs.length ≤ 1000) : ∀ (k i : Nat), cs.length < k + i → i ≤ cs.length →
    kN F cs k (i : Int) = if apE (cs.drop i) ≠ 0 then some (false, apE (cs.drop i)) else j8 F cs
  | 0, _, _, _ => by omega
  | k + 1, i, hk, hi => by
    show vY F cs (kN F cs k) (i : Int) = _
    unfold vY
    by_cases hlt : i < cs.length
    · obtain ⟨c1, c2, c3⟩ := h _ (List.getElem_mem hlt)
      rw [if_pos (by simp; omega), qM, List.getElem?_eq_getElem hlt, List.drop_eq_getElem_cons hlt]
      simp only [Option.bind_some]
      rw [qb5 c1 c2.1 c2.2 c3]
      simp only [Option.bind_some]
      unfold apE
      by_cases hc : chkOf cs[i].1 cs[i].2 = 0
      · have e : (if chkOf cs[i].1 cs[i].2 ≠ 0 then chkOf cs[i].1 cs[i].2 else apE (cs.drop (i + 1))) = apE (cs.drop (i + 1)) := if_neg (by simp [hc])
        rw [if_neg (show ¬ (chkOf cs[i].1 cs[i].2 != 0) = true by simp [hc]), e, zz (by omega)]
        exact qlk h hm k (i + 1) (by omega) (by omega)
      · have e : (if chkOf cs[i].1 cs[i].2 ≠ 0 then chkOf cs[i].1 cs[i].2 else apE (cs.drop (i + 1))) = chkOf cs[i].1 cs[i].2 := if_pos hc
        rw [if_pos (show (chkOf cs[i].1 cs[i].2 != 0) = true by simpa using hc), e, if_pos hc]
    · rw [if_neg (by simp; omega), List.drop_eq_nil_of_le (by omega)]
      rw [if_neg (by simp [apE])]
def apartM (cs : List (Int × List Int)) : Bool × Int := if 64 < cs.length then (false, 2) else if apE cs ≠ 0 then (false, apE cs) else (apB (xsl cs), 0)
theorem qjr {F : Nat} {cs : List (Int × List Int)} (hF : 20000 ≤ F) (h : CB cs) : qaq F cs = some (apartM cs) := by
  unfold qaq apartM
  by_cases h1 : 64 < cs.length
  · rw [if_pos (by simp; omega), if_pos h1]
  · rw [if_neg (by simp; omega), if_neg h1]
    have hc := qlk (F := F) h (by omega) F 0 (by omega) (by omega)
    rw [List.drop_zero] at hc
    refine Eq.trans hc ?_
    by_cases h2 : apE cs = 0
    · rw [if_neg (by simp [h2]), if_neg (by simp [h2])]
      obtain ⟨f1, f2⟩ := qoM h h2
      have hl : (xsl cs).length = cs.length := by unfold xsl; simp
      unfold j8
      have := qhR (F := F) hF f2 (by omega) F 0 (by omega) (by omega)
      rw [← f1, List.drop_zero] at this
      exact this
    · rw [if_pos h2, if_pos h2]
def dsl (l : List Int) : List (List Int) := (List.range l.length).map (cd l)
theorem qlu (l : List Int) : (dsl l).length = l.length := by simp [dsl]
theorem qiP (l : List Int) (s : Nat) : (cd l s).length = (gL l s).toNat := qfP _ _
theorem qlr {l : List Int} (hl : KL l) : cds l = (dsl l).map enc1 := by
  unfold cds dsl
  rw [List.map_map]
  refine List.map_congr_left fun s hs => ?_
  have := hl.at (List.mem_range.1 hs)
  show ent l s = enc1 (cd l s)
  unfold ent enc1
  rw [qiP, Int.toNat_of_nonneg this.1]
theorem qnc {l : List Int} (hl : KL l) : BL (dsl l) := fun x hx => by
  obtain ⟨s, hs, rfl⟩ := List.mem_map.1 hx
  have := hl.at (List.mem_range.1 hs)
  exact ⟨qkR _ _, by rw [qiP]; omega⟩
def hit (d X : List Int) : Bool := decide (0 < d.length) && (decide (d.length ≤ X.length) && cmpb X d)
def part (d X : List Int) : Bool := decide (X.length < d.length) && cmpb X d
def fndM (ds : List (List Int)) (X : List Int) (at_ : Nat) : Int × Int × Int := match (List.range ds.length).find? (fun s => hit (ds.getD s []) X) with
  | some s => ((s : Int), ((at_ + (ds.getD s []).length : Nat) : Int), 0)
  | none => (0, 0, if (List.range ds.length).any (fun s => part (ds.getD s []) X) then 7 else 5)
theorem qmZ {p : Nat → Bool} {s : Nat} : (List.range (s + 1)).any p = ((List.range s).any p || p s) := by
  rw [List.range_succ, List.any_append]; simp
theorem qlx {F at_ : Nat} {ds : List (List Int)} {x : List Int} (hF : 20000 ≤ F) (hB : BL ds) (hm : ds.length ≤ 1000) (hx : Bit x) (hxm : x.length ≤ 8192) (ha : at_ ≤ x.length) : ∀ (k s : Nat), ds.length < k + s → s ≤ ds.length → ((List.range ds.length).take s).find? (fun s => hit (ds.getD s []) (x.drop at_)) = none →
    zR F (ds.map enc1) (x.length : Int) (pk x) (at_ : Int) k (if (List.range s).any (fun s => part (ds.getD s []) (x.drop at_)) then 7 else 5, (s : Int)) = some (fndM ds (x.drop at_) at_)
  | 0, _, _, _, _ => by omega
  | k + 1, s, h, hs, hno => by
    show v7 F (ds.map enc1) (x.length : Int) (pk x) (at_ : Int) (zR F (ds.map enc1) (x.length : Int) (pk x) (at_ : Int) k) (if (List.range s).any (fun s => part (ds.getD s []) (x.drop at_)) then 7 else 5) (s : Int) = _
    unfold v7 ja v8
    by_cases hlt : s < ds.length
    · have hrec := qlx (F := F) hF hB hm hx hxm ha k (s + 1) (by omega) (by omega)
      obtain ⟨b1, b2⟩ := hB.at s
      have hdl : (x.drop at_).length = x.length - at_ := by simp
      have htk : (List.range ds.length).take (s + 1) = (List.range ds.length).take s ++ [s] := by rw [qai (by simp; omega), List.getElem_range]
      rw [htk, List.find?_append, hno, Option.none_or, qmZ] at hrec
      rw [if_pos (by simp; omega), qM, qiR hlt]
      simp only [Option.bind_some]
      rw [zz (by omega)]
      by_cases h0 : (ds.getD s []).length = 0
      · have e1 : hit (ds.getD s []) (x.drop at_) = false := by unfold hit; rw [decide_eq_false (by omega), Bool.false_and]
        have e2 : part (ds.getD s []) (x.drop at_) = false := by unfold part; rw [decide_eq_false (by omega), Bool.false_and]
        rw [if_pos (show (((ds.getD s []).length : Int) == 0) = true by rw [beq_iff_eq]; omega), if_pos trivial]
        rw [e2, Bool.or_false] at hrec
        exact hrec (by simp only [List.find?_cons, e1, List.find?_nil])
      · rw [if_neg (show ¬ (((ds.getD s []).length : Int) == 0) = true by rw [beq_iff_eq]; omega), qhS hF hx b1 hxm b2 ha]
        simp only [Option.bind_some]
        by_cases hc : cmpb (x.drop at_) (ds.getD s []) = true
        · rw [hc, if_neg (by simp), qgT ha (by omega)]
          by_cases hsh : x.length - at_ < (ds.getD s []).length
          · have e1 : hit (ds.getD s []) (x.drop at_) = false := by unfold hit; rw [decide_eq_false (show ¬ (ds.getD s []).length ≤ (x.drop at_).length by omega), Bool.false_and, Bool.and_false]
            have e2 : part (ds.getD s []) (x.drop at_) = true := by unfold part; rw [decide_eq_true (by omega), hc]; rfl
            rw [if_pos (show decide (((x.length - at_ : Nat) : Int) < ((ds.getD s []).length : Int)) = true by rw [decide_eq_true_eq]; omega)]
            rw [e2, Bool.or_true, if_pos rfl] at hrec
            exact hrec (by simp only [List.find?_cons, e1, List.find?_nil])
          · have e1 : hit (ds.getD s []) (x.drop at_) = true := by unfold hit; rw [decide_eq_true (by omega), decide_eq_true (show (ds.getD s []).length ≤ (x.drop at_).length by omega), hc]; rfl
            rw [if_neg (show ¬ decide (((x.length - at_ : Nat) : Int) < ((ds.getD s []).length : Int)) = true by rw [decide_eq_true_eq]; omega), qeT (by omega)]
            unfold fndM
            have hfd : (List.range ds.length).find? (fun s => hit (ds.getD s []) (x.drop at_)) = some s := by
              have : List.range ds.length = (List.range ds.length).take (s + 1) ++ (List.range ds.length).drop (s + 1) := (List.take_append_drop _ _).symm
              rw [this, htk, List.find?_append, List.find?_append, hno, Option.none_or, List.find?_cons, e1]; rfl
            rw [hfd]
        · rw [Bool.not_eq_true] at hc
          have e1 : hit (ds.getD s []) (x.drop at_) = false := by unfold hit; rw [hc, Bool.and_false, Bool.and_false]
          have e2 : part (ds.getD s []) (x.drop at_) = false := by unfold part; rw [hc, Bool.and_false]
          rw [hc, if_pos (by simp)]
          rw [e2, Bool.or_false] at hrec
          exact hrec (by simp only [List.find?_cons, e1, List.find?_nil])
    · rw [if_neg (by simp; omega)]
      have : s = ds.length := by omega
      subst this
      rw [List.take_of_length_le (by simp)] at hno
      unfold qbs fndM
      rw [hno]
theorem qjK {F at_ : Nat} {ds : List (List Int)} {x : List Int} (hF : 20000 ≤ F) (hB : BL ds) (hm : ds.length ≤ 1000) (hx : Bit x) (hxm : x.length ≤ 8192) (ha : at_ ≤ x.length) : qar F (ds.map enc1) (x.length : Int) (pk x) (at_ : Int) = some (fndM ds (x.drop at_) at_) := by
  unfold qar
  have := qlx (F := F) hF hB hm hx hxm ha F 0 (by omega) (by omega) (by simp)
  exact this
def signM (l : List Int) (m : Int) (b : List Int) (a : Int) : Int × Int × Int :=
  if (codesM l).2 ≠ 0 then (0, 0, (codesM l).2) else if raOf m b a ≠ 0 then (0, 0, raOf m b a) else fndM (dsl l) ((bl b m.toNat).drop a.toNat) a.toNat
theorem qhV {l : List Int} (h : (codesM l).2 = 0) : KL l ∧ wsum l ≤ 16777216 ∧ codesM l = (cds l, 0) := by
  unfold codesM at h ⊢
  by_cases h1 : kchk l = 0
  · rw [if_neg (by simp [h1])] at h ⊢
    by_cases h2 : 16777216 < wsum l
    · rw [if_pos h2] at h; simp at h
    · rw [if_neg h2]; exact ⟨qew.1 h1, by omega, rfl⟩
  · rw [if_pos h1] at h; exact absurd h h1
theorem qra {m a : Int} {b : List Int} (hb : U8s b) (h : raOf m b a = 0) : ∃ (n i : Nat), m = (n : Int) ∧ a = (i : Int) ∧ i ≤ n ∧ n ≤ 8192 ∧ Ok n b ∧ pk (bl b n) = b := by
  unfold raOf at h
  by_cases h1 : chkOf m b = 0
  · rw [if_neg (by simp [h1])] at h
    by_cases h2 : a < 0 ∨ m < a
    · rw [if_pos h2] at h; simp at h
    · obtain ⟨n, hn, ob⟩ := vG h1
      obtain ⟨i, hi⟩ := Int.eq_ofNat_of_zero_le (show 0 ≤ a by omega)
      exact ⟨n, i, hn, hi, by omega, ob.max, ob, qib hb ob⟩
  · rw [if_pos h1] at h; exact absurd h h1
theorem qlR {F : Nat} {l : List Int} {m a : Int} {b : List Int} (hF : 20000 ≤ F) (hb : U8s b) (hm : I64 m) (lb : b.length ≤ 9223372036854775807) : qbt F l m b a = some (signM l m b a) := by
  unfold qbt signM
  rw [qdp hF]
  simp only [Option.bind_some]
  unfold qaE
  by_cases h1 : (codesM l).2 = 0
  · obtain ⟨hl, _, e⟩ := qhV h1
    rw [if_pos (by simpa using h1), qme hb hm lb, if_neg (show ¬ (codesM l).2 ≠ 0 by simp [h1])]
    simp only [Option.bind_some]
    by_cases h2 : raOf m b a = 0
    · obtain ⟨n, i, rfl, rfl, hin, hn, ob, hpk⟩ := qra hb h2
      have hl1 := hl.1
      rw [if_neg (by simp [h2]), if_neg (show ¬ raOf (n : Int) b (i : Int) ≠ 0 by simp [h2]), e]
      simp only [Int.toNat_natCast]
      have hf := qjK (F := F) (at_ := i) (ds := dsl l) (x := bl b n) hF (qnc hl) (by rw [qlu]; omega) (qfH _ _) (by rw [yN]; exact hn) (by rw [yN]; exact hin)
      rw [yN, hpk, ← qlr hl] at hf
      rw [hf]; rfl
    · rw [if_pos (by simpa using h2), if_pos h2]
  · rw [if_neg (by simpa using h1), if_pos (by simpa using h1), if_pos h1]
theorem qm6 (l : List Int) (s : Nat) : Bit (cd l s) := qkR _ _
theorem qqr {F : Nat} (hF : 20000 ≤ F) : qa4 F = some true := by
  have c1 : codesM [2, 0, 1, 3, 3] = ([(2, [128]), (0, []), (1, [0]), (3, [192]), (3, [224])], 0) := by decide
  have r1 : (if kchk [2, 0, 1, 3, 3] ≠ 0 then ((0 : Int), kchk [2, 0, 1, 3, 3]) else (16777216 - (wsum [2, 0, 1, 3, 3] : Int), 0)) = (0, 0) := by decide
  have a1 : apartM [(2, [128]), (0, []), (1, [0]), (3, [192]), (3, [224])] = (true, 0) := by decide
  have s1 : signM [2, 0, 1, 3, 3] 4 [96] 1 = (3, 4, 0) := by decide
  have c2 : codesM [1, 1, 1] = ([], 8) := by decide
  have s2 : signM [2] 1 [128] 0 = (0, 0, 5) := by decide
  have hcb : CB [(2, [128]), (0, []), (1, [0]), (3, [192]), (3, [224])] := by unfold CB U8s I64; decide
  unfold qa4
  rw [qnz (by omega), r1]
  simp only [Option.bind_some]
  rw [qdp hF, c1]
  simp only [Option.bind_some]
  rw [if_neg (by decide), qjr hF hcb, a1]
  simp only [Option.bind_some]
  rw [qlR hF (by unfold U8s; decide) (by unfold I64; decide) (by decide), s1]
  simp only [Option.bind_some]
  rw [qdp hF, c2]
  simp only [Option.bind_some]
  rw [qlR hF (by unfold U8s; decide) (by unfold I64; decide) (by decide), s2]
  simp only [Option.bind_some]
  rw [if_pos (by decide)]
  show ((some ((2 : Int), [(128 : Int)])).bind _) = _
  simp only [Option.bind_some]
  rw [qfS (by simp; omega) (by decide)]
  simp only [Option.bind_some]
  unfold vR
  rw [if_pos rfl]
  show ((some ((1 : Int), [(0 : Int)])).bind _) = _
  simp only [Option.bind_some]
  rw [qfS (by simp; omega) (by decide)]
  simp only [Option.bind_some]
  unfold vS
  rw [if_pos rfl]
  show ((some ((3 : Int), [(224 : Int)])).bind _) = _
  simp only [Option.bind_some]
  rw [qfS (by simp; omega) (by decide)]
  rfl
def kflat (l : List Int) (P : List Nat) : List Int := (P.map (cd l)).flatten
theorem qmo (l : List Int) (P : List Nat) : Bit (kflat l P) := fun x hx => by
  obtain ⟨y, hy, hx⟩ := List.mem_flatten.1 hx
  obtain ⟨s, _, rfl⟩ := List.mem_map.1 hy
  exact qm6 l s x hx
theorem qkP (l : List Int) (P : List Nat) (s : Nat) : kflat l (P ++ [s]) = kflat l P ++ cd l s := by simp [kflat]
def ksgs (P : List Nat) : List Int := P.map fun (s : Nat) => (s : Int)
def hcs (many l : List Int) (n : Nat) : Nat := nsum (List.range n) (fun s => hw many s * (gL l s).toNat)
def hbad (many l : List Int) (t : Nat) : Bool := decide (0 < gL many t) && decide (gL l t = 0)
def costM (many l : List Int) : Int × Int :=
  if kchk l ≠ 0 then (0, kchk l) else if many.length ≠ l.length then (0, 1) else if hchk many ≠ 0 then (0, hchk many) else if (List.range many.length).any (hbad many l) then (0, 4) else ((hcs many l many.length : Int), 0)
theorem qjP (many l : List Int) (n : Nat) : hcs many l (n + 1) = hcs many l n + hw many n * (gL l n).toNat := by
  unfold hcs
  rw [List.range_succ, qb6, qaf, qj2]; rfl
theorem qnq {many l : List Int} (hm : HM many) (hl : KL l) (he : many.length = l.length) : ∀ n, n ≤ many.length → hcs many l n ≤ n * 25165824
  | 0, _ => by simp [hcs, nsum]
  | n + 1, h => by
    rw [qjP]
    have h1 := qnq hm hl he n (by omega)
    have h2 := hm.at (show n < many.length by omega)
    have h3 := hl.at (show n < l.length by omega)
    have h4 : hw many n * (gL l n).toNat ≤ 1048576 * 24 := Nat.mul_le_mul (by unfold hw; omega) (by omega)
    omega
theorem qm9 {F : Nat} {many l : List Int} (hm : HM many) (hl : KL l) (he : many.length = l.length) : ∀ (k i : Nat), many.length < k + i → i ≤ many.length →
    kW F many l k ((hcs many l i : Int), (i : Int)) = some (if ((List.range many.length).drop i).any (hbad many l) then (0, 4) else ((hcs many l many.length : Int), 0))
  | 0, _, _, _ => by omega
  | k + 1, i, h, hi => by
    show qaC F many l (kW F many l k) (hcs many l i : Int) (i : Int) = _
    unfold qaC qaD
    have hm1 := hm.1
    by_cases hlt : i < many.length
    · have hrec := qm9 (F := F) hm hl he k (i + 1) (by omega) (by omega)
      have h2 := hm.at hlt
      have h3 := hl.at (show i < l.length by omega)
      have h5 := qnq hm hl he (i + 1) (by omega)
      have h6 : (i + 1) * 25165824 ≤ 64 * 25165824 := Nat.mul_le_mul_right _ (by omega)
      rw [if_pos (by simp; omega), qM, qdG hlt]
      simp only [Option.bind_some]
      rw [qM, qdG (show i < l.length by omega)]
      simp only [Option.bind_some]
      have hd : (List.range many.length).drop i = i :: (List.range many.length).drop (i + 1) := by
        rw [List.drop_eq_getElem_cons (by simpa using hlt)]; simp
      rw [hd, List.any_cons]
      have hmul : imul .i64 (gL many i) (gL l i) = ((hw many i * (gL l i).toNat : Nat) : Int) := by
        have e1 : gL many i = (hw many i : Int) := by unfold hw; omega
        have e2 : gL l i = ((gL l i).toNat : Int) := by omega
        have h7 : hw many i * (gL l i).toNat ≤ 1048576 * 24 := Nat.mul_le_mul (by unfold hw; omega) (by omega)
        rw [e1, e2, Int.toNat_natCast]
        have e3 : ((hw many i : Nat) : Int) * ((gL l i).toNat : Int) = ((hw many i * (gL l i).toNat : Nat) : Int) := by rw [Int.natCast_mul]
        rw [qjV (by rw [e3]; omega) (by rw [e3]; omega), e3]
      rw [qjP] at h5 hrec
      have hadd : iadd .i64 (hcs many l i : Int) (imul .i64 (gL many i) (gL l i)) = ((hcs many l i + hw many i * (gL l i).toNat : Nat) : Int) := by
        rw [hmul, qeT (by omega)]
      rw [hadd, zz (by omega), hrec]
      by_cases hb : hbad many l i = true
      · rw [hb, Bool.true_or, if_pos rfl]
        unfold hbad at hb
        simp only [Bool.and_eq_true, decide_eq_true_eq] at hb
        rw [if_pos (by simpa using hb.1), hb.2]
        simp
      · rw [Bool.not_eq_true] at hb
        rw [hb, Bool.false_or]
        unfold hbad at hb
        by_cases h0 : 0 < gL many i
        · have : gL l i ≠ 0 := by
            intro h; rw [h] at hb; simp at hb; omega
          rw [if_pos (by simpa using h0), if_neg (by simpa using this)]
        · rw [if_neg (by simpa using h0), if_neg (by simp)]
    · rw [if_neg (by simp; omega)]
      have : i = many.length := by omega
      subst this
      rw [List.drop_eq_nil_of_le (by simp)]
      rfl
theorem qoV {F : Nat} {many l : List Int} (hF : 20000 ≤ F) : qc4 F many l = some (costM many l) := by
  unfold qc4 costM qbl qbm
  rw [qfN (by omega)]
  simp only [Option.bind_some]
  by_cases h1 : kchk l = 0
  · rw [if_neg (show ¬ kchk l ≠ 0 by simp [h1])]
    by_cases h2 : many.length = l.length
    · rw [if_neg (by simp [h1, h2]), if_pos (by simp [h1]), qh1 (by omega), if_neg (show ¬ many.length ≠ l.length by simp [h2])]
      simp only [Option.bind_some]
      by_cases h3 : hchk many = 0
      · rw [if_neg (by simp [h3]), if_neg (by simp [h3])]
        have hm := qiW.1 h3
        have := qm9 (F := F) hm (qew.1 h1) h2 F 0 (by have := hm.1; omega) (by omega)
        rw [List.drop_zero] at this
        exact this
      · rw [if_pos (by simpa using h3), if_pos h3]
    · rw [if_pos (by simp [h1]; omega), if_neg (by simp), if_pos (by simp), if_pos h2]
  · rw [if_neg (by simp [h1]), if_neg (by simpa using h1), if_pos (by simpa using h1), if_pos h1]
def hcnt (signs : List Int) : Nat → Nat := fun s => signs.count (s : Int)
def hsOut (signs : List Int) (many : Int) : Bool := signs.any fun s => decide (s < 0) || decide (many ≤ s)
def cntM (signs : List Int) (many : Int) : List Int × Int :=
  if many < 0 ∨ 64 < many then ([], 3) else if hsOut signs many then ([], 3) else if 1000 < signs.length then ([], 2) else (oL many.toNat (hcnt signs), 0)
theorem qmk {signs : List Int} {i : Nat} (hi : i < signs.length) {s : Nat} (hs : signs[i] = (s : Int)) (t : Nat) : hcnt (signs.take (i + 1)) t = if t = s then hcnt (signs.take i) s + 1 else hcnt (signs.take i) t := by
  unfold hcnt
  rw [qai hi, List.count_append, hs]
  by_cases e : t = s
  · subst e; simp
  · have h0 : List.count (t : Int) [(s : Int)] = 0 := List.count_eq_zero_of_not_mem (by rw [List.mem_singleton]; omega)
    rw [if_neg e, h0, Nat.add_zero]
theorem qo6 (signs : List Int) (s : Nat) : hcnt signs s ≤ signs.length := List.count_le_length
theorem qhW {F m : Nat} {signs : List Int} (hs : signs.length ≤ 9223372036854775807) : ∀ (k i : Nat), signs.length < k + i → i ≤ signs.length →
    kM F signs (m : Int) k (oL m (hcnt (signs.take i)), (i : Int)) = some (if hsOut (signs.drop i) (m : Int) then ([], 3) else if 1000 < signs.length then ([], 2) else (oL m (hcnt signs), 0))
  | 0, _, _, _ => by omega
  | k + 1, i, h, hi => by
    show vV F signs (m : Int) (kM F signs (m : Int) k) (oL m (hcnt (signs.take i))) (i : Int) = _
    unfold vV
    by_cases hlt : i < signs.length
    · rw [if_pos (by simp; omega), qM, List.getElem?_eq_getElem hlt, List.drop_eq_getElem_cons hlt]
      simp only [Option.bind_some]
      unfold hsOut
      rw [List.any_cons]
      by_cases hc : (decide (signs[i] < 0) || decide ((m : Int) ≤ signs[i])) = true
      · rw [if_pos hc, hc]; rfl
      · rw [if_neg hc]
        rw [Bool.not_eq_true] at hc
        rw [hc, Bool.false_or]
        have hc' : ¬ signs[i] < 0 ∧ ¬ (m : Int) ≤ signs[i] := by simpa using hc
        obtain ⟨s, hs'⟩ := Int.eq_ofNat_of_zero_le (show 0 ≤ signs[i] by omega)
        have hsm : s < m := by omega
        rw [hs', qM, qdN hsm]
        simp only [Option.bind_some, lett]
        have hle := qo6 (signs.take i) s
        rw [List.length_take] at hle
        rw [Int.toNat_natCast, qW (by omega) (by omega), zz (by omega), qkV (o' := hcnt (signs.take (i + 1))) (fun t _ => qmk hlt hs' t) hsm]
        exact qhW hs k (i + 1) (by omega) (by omega)
    · rw [if_neg (by simp; omega), List.drop_eq_nil_of_le (by omega), List.take_of_length_le (by omega)]
      unfold qbq
      rw [show hsOut [] (m : Int) = false from rfl, if_neg (show ¬ (false = true) by simp)]
      by_cases h1 : 1000 < signs.length
      · rw [if_pos (by simp; omega), if_pos h1]
      · rw [if_neg (by simp; omega), if_neg h1]
theorem qkF {F : Nat} {signs : List Int} {many : Int} (hF : 20000 + signs.length ≤ F) (hs : signs.length ≤ 9223372036854775807) : qbp F signs many = some (cntM signs many) := by
  unfold qbp cntM
  by_cases h1 : many < 0 ∨ 64 < many
  · rw [if_pos (by simpa using h1), if_pos h1]
  · rw [if_neg (by simpa using h1), if_neg h1]
    obtain ⟨m, rfl⟩ := Int.eq_ofNat_of_zero_le (show 0 ≤ many by omega)
    rw [qlB (by omega)]
    simp only [Option.bind_some]
    have e0 : List.replicate m (0 : Int) = oL m (hcnt (signs.take 0)) := by
      apply List.ext_getElem?
      intro i
      by_cases h : i < m
      · rw [qdN h]; simp [h, hcnt]
      · rw [List.getElem?_eq_none (by simp; omega), List.getElem?_eq_none (by rw [qcm]; omega)]
    rw [e0]
    have := qhW (F := F) (m := m) hs F 0 (by omega) (by omega)
    rw [List.drop_zero] at this
    exact this
theorem qpZ {n s : Nat} {o : Nat → Nat} (h : s < n) : gL (oL n o) s = (o s : Int) := by
  unfold gL
  rw [List.getD_eq_getElem?_getD, qdN h]; rfl
theorem qo8 {many : List Int} (hm : HM many) (h24 : ∀ s ∈ usd many, hdep many s ≤ 24) : wsum (oL many.length (hdep many)) = nsum (usd many) (fun s => 2 ^ (24 - hdep many s)) := by
  rw [qil, qcm]
  have e : rsum many.length (fun t => W (gL (oL many.length (hdep many)) t)) = rsum many.length (fun t => if decide (0 < gL many t) then 2 ^ (24 - hdep many t) else 0) := by
    refine qkZ fun t ht => ?_
    rw [qpZ ht]
    by_cases h0 : 0 < gL many t
    · have hu := qex.2 ⟨ht, h0⟩
      have h1 := qns hm hu
      rw [qqa (by omega), if_pos (by simpa using h0)]
    · have hu : t ∉ usd many := fun h => h0 (qex.1 h).2
      rw [qml hm hu, if_neg (by simpa using h0)]; rfl
  rw [e, qei]
  rfl
theorem qjS {many : List Int} (h : (hlenM many).2 = 0) : HM many ∧ hlenM many = (oL many.length (hdep many), 0) ∧ (∀ s, s < many.length → hdep many s ≤ 24) := by
  unfold hlenM at h ⊢
  by_cases h1 : hchk many = 0
  · have hm := qiW.1 h1
    rw [if_neg (by simp [h1])] at h ⊢
    unfold hfin at h ⊢
    by_cases h2 : dOut (oL many.length (hdep many)) = true
    · rw [if_pos h2] at h; simp at h
    · rw [if_neg h2]
      refine ⟨hm, rfl, fun s hs => ?_⟩
      by_cases h3 : hdep many s ≤ 24
      · exact h3
      · exfalso
        exact h2 (List.any_eq_true.2 ⟨(hdep many s : Int), List.mem_of_getElem? (qdN hs), by simp; omega⟩)
  · rw [if_pos h1] at h; exact absurd h h1
theorem qp0 {many : List Int} (hm : HM many) (h24 : ∀ s, s < many.length → hdep many s ≤ 24) : KL (oL many.length (hdep many)) := by
  refine ⟨by rw [qcm]; exact hm.1, fun n hn => ?_⟩
  obtain ⟨s, hs, rfl⟩ := List.mem_map.1 hn
  have := h24 s (List.mem_range.1 hs)
  omega
theorem qo7 {many : List Int} (hm : HM many) (h24 : ∀ s, s < many.length → hdep many s ≤ 24) : wsum (oL many.length (hdep many)) = if (usd many).length = 0 then 0 else if (usd many).length = 1 then 2 ^ 23 else 2 ^ 24 := by
  have h := fun s (hs : s ∈ usd many) => h24 s (qex.1 hs).1
  rw [qo8 hm h, qmm hm h]
theorem qqn {many : List Int} (hm : HM many) (h24 : ∀ s, s < many.length → hdep many s ≤ 24) : wsum (oL many.length (hdep many)) ≤ 16777216 := by
  rw [qo7 hm h24]
  split
  · omega
  · split <;> decide
theorem qnr {many : List Int} (hm : HM many) (h24 : ∀ s, s < many.length → hdep many s ≤ 24) : codesM (oL many.length (hdep many)) = (cds (oL many.length (hdep many)), 0) := by
  unfold codesM
  have h1 := qew.2 (qp0 hm h24)
  have h2 := qqn hm h24
  rw [if_neg (by simp [h1]), if_neg (by omega)]
def hsN (signs : List Int) : List Nat := signs.map Int.toNat
def packM (signs : List Int) (many : Int) : List Int × Int × List Int × Int :=
  if (cntM signs many).2 ≠ 0 then ([], 0, [], (cntM signs many).2)
  else if (hlenM (cntM signs many).1).2 ≠ 0 then ([], 0, [], (hlenM (cntM signs many).1).2)
  else if 8192 < (kflat (hlenM (cntM signs many).1).1 (hsN signs)).length then ([], 0, [], 8)
  else ((hlenM (cntM signs many).1).1, ((kflat (hlenM (cntM signs many).1).1 (hsN signs)).length : Int), pk (kflat (hlenM (cntM signs many).1).1 (hsN signs)), 0)
structure HP (signs : List Int) (m : Nat) : Prop where
  max : m ≤ 64
  len : signs.length ≤ 1000
  sgn : ∀ s ∈ signs, 0 ≤ s ∧ s < (m : Int)
theorem qoU {signs : List Int} {many : Int} (h : (cntM signs many).2 = 0) : ∃ m : Nat, many = (m : Int) ∧ HP signs m ∧ cntM signs many = (oL m (hcnt signs), 0) := by
  unfold cntM at h ⊢
  by_cases h1 : many < 0 ∨ 64 < many
  · rw [if_pos h1] at h; simp at h
  · rw [if_neg h1] at h ⊢
    obtain ⟨m, rfl⟩ := Int.eq_ofNat_of_zero_le (show 0 ≤ many by omega)
    by_cases h2 : hsOut signs (m : Int) = true
    · rw [if_pos h2] at h; simp at h
    · rw [if_neg h2] at h ⊢
      by_cases h3 : 1000 < signs.length
      · rw [if_pos h3] at h; simp at h
      · rw [if_neg h3]
        refine ⟨m, rfl, ⟨by omega, by omega, fun s hs => ?_⟩, rfl⟩
        by_cases hx : s < 0 ∨ (m : Int) ≤ s
        · exact absurd (List.any_eq_true.2 ⟨s, hs, by simpa using hx⟩) h2
        · omega
theorem HP.nat {signs : List Int} {m : Nat} (h : HP signs m) : signs = ksgs (hsN signs) := by
  unfold ksgs hsN
  rw [List.map_map]
  conv => lhs; rw [← List.map_id signs]
  refine List.map_congr_left fun s hs => ?_
  have := (h.sgn s hs).1
  show s = ((s.toNat : Nat) : Int)
  omega
theorem HP.used {signs : List Int} {m : Nat} (h : HP signs m) {s : Nat} (hs : s ∈ hsN signs) : s < m ∧ s ∈ usd (oL m (hcnt signs)) := by
  obtain ⟨x, hx, rfl⟩ := List.mem_map.1 hs
  have h1 := h.sgn x hx
  have hlt : x.toNat < m := by omega
  refine ⟨hlt, qex.2 ⟨by rw [qcm]; exact hlt, ?_⟩⟩
  rw [qpZ hlt]
  have : 0 < hcnt signs x.toNat := by
    unfold hcnt
    refine List.count_pos_iff.2 ?_
    rw [Int.toNat_of_nonneg h1.1]
    exact hx
  omega
theorem qnK {F : Nat} {signs l : List Int} {e c : Int} (hF : 20000 ≤ F) (hl : KL l) (hlen : signs.length ≤ 1000) (hn : signs = ksgs (hsN signs)) (hu : ∀ s ∈ hsN signs, s < l.length) : ∀ (k i : Nat), signs.length < k + i → i ≤ signs.length → (kflat l ((hsN signs).take i)).length ≤ 8192 →
    yT F signs (l, e) (cds l, c) k ((i : Int), ((kflat l ((hsN signs).take i)).length : Int), pk (kflat l ((hsN signs).take i))) = some (if 8192 < (kflat l (hsN signs)).length then ([], 0, [], 8) else (l, ((kflat l (hsN signs)).length : Int), pk (kflat l (hsN signs)), 0))
  | 0, _, _, _, _ => by omega
  | k + 1, i, h, hi, hX => by
    show qbn F signs (l, e) (cds l, c) (yT F signs (l, e) (cds l, c) k) (i : Int) ((kflat l ((hsN signs).take i)).length : Int) (pk (kflat l ((hsN signs).take i))) = _
    unfold qbn
    have hsl : (hsN signs).length = signs.length := by simp [hsN]
    by_cases hlt : i < signs.length
    · have hlt' : i < (hsN signs).length := by omega
      have hg0 : (ksgs (hsN signs))[i]? = some (((hsN signs)[i] : Nat) : Int) := by simp [ksgs, hlt']
      rw [← hn] at hg0
      have hg : idx signs (i : Int) = some (((hsN signs)[i] : Nat) : Int) := by rw [qM, hg0]
      have hsl2 := hu _ (List.getElem_mem hlt')
      rw [if_pos (by simp; omega), hg]
      simp only [Option.bind_some]
      have hc : (cds l)[(hsN signs)[i]]? = some (ent l (hsN signs)[i]) := by simp [cds, hsl2]
      rw [qM, hc]
      simp only [Option.bind_some]
      have hst : kflat l ((hsN signs).take (i + 1)) = kflat l ((hsN signs).take i) ++ cd l (hsN signs)[i] := by rw [qai hlt', qkP]
      have hgl := hl.at hsl2
      have hcl := qiP l (hsN signs)[i]
      have e1 : (ent l (hsN signs)[i]).1 = ((cd l (hsN signs)[i]).length : Int) := by
        show gL l (hsN signs)[i] = _
        omega
      have e2 : (ent l (hsN signs)[i]).2 = pk (cd l (hsN signs)[i]) := rfl
      have hle : (kflat l ((hsN signs).take (i + 1))).length ≤ (kflat l (hsN signs)).length := by
        have : kflat l (hsN signs) = kflat l ((hsN signs).take (i + 1)) ++ kflat l ((hsN signs).drop (i + 1)) := by
          unfold kflat
          rw [← List.flatten_append, ← List.map_append, List.take_append_drop]
        rw [this, List.length_append]
        omega
      rw [e1, e2, qeT (by omega)]
      rw [hst, List.length_append] at hle
      by_cases hov : 8192 < (kflat l ((hsN signs).take i)).length + (cd l (hsN signs)[i]).length
      · rw [if_pos (by simp; omega), if_pos (by omega)]
      · rw [if_neg (by simp; omega), qlp hF (qmo _ _) (qm6 _ _) hX (by omega)]
        simp only [Option.bind_some]
        rw [zz (by omega), ← hst]
        exact qnK hF hl hlen hn hu k (i + 1) (by omega) (by omega) (by rw [hst, List.length_append]; omega)
    · rw [if_neg (by simp; omega)]
      unfold qcQ
      have e : (hsN signs).take i = hsN signs := List.take_of_length_le (by omega)
      rw [e] at hX ⊢
      rw [if_neg (by omega)]
theorem qlJ {F : Nat} {signs : List Int} {many : Int} (hF : 20000 + signs.length ≤ F) (hs : signs.length ≤ 9223372036854775807) : qb3 F signs many = some (packM signs many) := by
  unfold qb3 packM
  rw [qkF hF hs]
  simp only [Option.bind_some]
  by_cases h1 : (cntM signs many).2 = 0
  · obtain ⟨m, rfl, hp, hc⟩ := qoU h1
    rw [if_neg (by simp [h1]), if_neg (by simp [h1]), qdL (by omega)]
    simp only [Option.bind_some]
    by_cases h2 : (hlenM (cntM signs (m : Int)).1).2 = 0
    · obtain ⟨hm, hl, h24⟩ := qjS h2
      rw [if_neg (by simp [h2]), if_neg (by simp [h2]), qdp (by omega)]
      simp only [Option.bind_some]
      rw [hl]
      rw [qnr hm h24]
      have hkl := qp0 hm h24
      have hn0 : (cntM signs (m : Int)).1.length = m := by rw [hc]; exact qcm _ _
      have := qnK (F := F) (signs := signs) (e := 0) (c := 0) (by omega) hkl hp.len hp.nat (fun s hs => by rw [qcm, hn0]; exact (hp.used hs).1) F 0 (by have := hp.len; omega) (by omega) (by simp [kflat])
      have ek : kflat (oL (cntM signs (m : Int)).1.length (hdep (cntM signs (m : Int)).1)) ((hsN signs).take 0) = [] := by simp [kflat]
      rw [ek] at this
      exact this
    · rw [if_pos (by simpa using h2), if_pos h2]
  · rw [if_pos (by simpa using h1), if_pos h1]
def upk (ds : List (List Int)) (x : List Int) : Nat → Nat → List Int × Int
  | 0, a => if a < x.length then ([], 1) else ([], 0)
  | k + 1, a => if (fndM ds (x.drop a) a).2.2 ≠ 0 then ([], (fndM ds (x.drop a) a).2.2)
    else if (upk ds x k (fndM ds (x.drop a) a).2.1.toNat).2 ≠ 0 then ([], (upk ds x k (fndM ds (x.drop a) a).2.1.toNat).2)
    else ((fndM ds (x.drop a) a).1 :: (upk ds x k (fndM ds (x.drop a) a).2.1.toNat).1, 0)
def qdR (l : List Int) (m : Int) (b : List Int) (n : Int) : List Int × Int :=
  if (codesM l).2 ≠ 0 then ([], (codesM l).2) else if chkOf m b ≠ 0 then ([], chkOf m b) else if n < 0 ∨ 1000 < n then ([], 3) else upk (dsl l) (bl b m.toNat) n.toNat 0
theorem qqi {ds : List (List Int)} {X : List Int} {a : Nat} (h : (fndM ds X a).2.2 = 0) : ∃ a' : Nat, (fndM ds X a).2.1 = (a' : Int) ∧ a' ≤ a + X.length := by
  unfold fndM at h ⊢
  cases hf : (List.range ds.length).find? (fun s => hit (ds.getD s []) X) with
  | none =>
    rw [hf] at h
    simp only at h
    split at h <;> simp at h
  | some s =>
    have hh := List.find?_some hf
    unfold hit at hh
    simp only [Bool.and_eq_true, decide_eq_true_eq] at hh
    exact ⟨_, rfl, by omega⟩
theorem qp9 {F n : Nat} {ds : List (List Int)} {x : List Int} {c : Int} (hF : 20000 ≤ F) (hB : BL ds) (hm : ds.length ≤ 1000) (hx : Bit x) (hxm : x.length ≤ 8192) (hn : n ≤ 1000) : ∀ (k a : Nat) (out : List Int), n + 1 < k + out.length → out.length ≤ n → a ≤ x.length →
    zB F (x.length : Int) (pk x) (n : Int) (ds.map enc1, c) k (0, out, (a : Int)) = some (if (upk ds x (n - out.length) a).2 ≠ 0 then ([], (upk ds x (n - out.length) a).2) else (out ++ (upk ds x (n - out.length) a).1, 0))
  | 0, _, _, h, _, _ => absurd h (by omega)
  | k + 1, a, out, h, ho, ha => by
    show zV F (x.length : Int) (pk x) (n : Int) (ds.map enc1, c) (zB F (x.length : Int) (pk x) (n : Int) (ds.map enc1, c) k) 0 out (a : Int) = _
    unfold zV
    by_cases hlt : out.length < n
    · rw [if_pos (by simp; omega), qjK hF hB hm hx hxm ha]
      simp only [Option.bind_some]
      rw [vQ (by simp; omega)]
      simp only [Option.bind_some]
      have hs : n - out.length = (n - (out.length + 1)) + 1 := by omega
      rw [hs]
      unfold upk
      by_cases he : (fndM ds (x.drop a) a).2.2 = 0
      · obtain ⟨a', e1, e2⟩ := qqi he
        rw [List.length_drop] at e2
        have hrec := qp9 (c := c) hF hB hm hx hxm hn k a' (out ++ [(fndM ds (x.drop a) a).1]) (by simp; omega) (by simp; omega) (by omega)
        rw [he, e1, hrec, List.length_append, List.length_singleton, if_neg (show ¬ ((0 : Int) ≠ 0) by simp), Int.toNat_natCast]
        by_cases h2 : (upk ds x (n - (out.length + 1)) a').2 = 0
        · simp only [h2, ne_eq, not_true_eq_false, if_false]
          simp
        · simp only [h2, ne_eq, not_false_eq_true, if_true]
      · obtain ⟨k', rfl⟩ : ∃ k', k = k' + 1 := ⟨k - 1, by omega⟩
        show zV F (x.length : Int) (pk x) (n : Int) (ds.map enc1, c) (zB F (x.length : Int) (pk x) (n : Int) (ds.map enc1, c) k') (fndM ds (x.drop a) a).2.2 (out ++ [(fndM ds (x.drop a) a).1]) (fndM ds (x.drop a) a).2.1 = _
        unfold zV yU ye
        rw [if_neg (by simp [he]), if_neg (by simp [he]), if_pos (by simpa using he), if_pos he, if_pos he]
    · rw [if_neg (by simp; omega)]
      have hs : n - out.length = 0 := by omega
      rw [hs]
      unfold upk yU ye
      by_cases h1 : a < x.length
      · rw [if_pos (by simp; omega), if_pos h1, if_pos (by simp), if_pos (by simp)]
      · rw [if_neg (by simp; omega), if_neg h1, if_neg (by simp), if_neg (by simp)]
        simp
theorem qfY {F : Nat} {l : List Int} {m n : Int} {b : List Int} (hF : 20000 ≤ F) (hb : U8s b) (hm : I64 m) (lb : b.length ≤ 9223372036854775807) : vL F l m b n = some (qdR l m b n) := by
  unfold vL qdR j5 j7 j6
  rw [qdp hF]
  simp only [Option.bind_some]
  have bad : ∀ (e : Int), e ≠ 0 → zB F m b n (codesM l) F (e, [], 0) = some ([], e) := fun e he => by
    obtain ⟨k, rfl⟩ : ∃ k, F = k + 1 := ⟨F - 1, by omega⟩
    show zV (k + 1) m b n (codesM l) (zB (k + 1) m b n (codesM l) k) e [] 0 = _
    unfold zV yU ye
    rw [if_neg (by simp [he]), if_neg (by simp [he]), if_pos (by simpa using he)]
  by_cases h1 : (codesM l).2 = 0
  · obtain ⟨hl, hw, hc⟩ := qhV h1
    rw [if_pos (by simp [h1]), if_neg (show ¬ (codesM l).2 ≠ 0 by simp [h1]), qb5 hb hm.1 hm.2 lb]
    simp only [Option.bind_some]
    by_cases h2 : chkOf m b = 0
    · obtain ⟨x, rfl, ob⟩ := vG h2
      rw [if_pos (by simp [h2]), if_neg (show ¬ chkOf (x : Int) b ≠ 0 by simp [h2])]
      by_cases h3 : n < 0 ∨ 1000 < n
      · rw [if_pos (by simpa using h3), if_pos h3, bad 3 (by simp)]
      · rw [if_neg (by simpa using h3), if_neg h3]
        obtain ⟨n', rfl⟩ := Int.eq_ofNat_of_zero_le (show 0 ≤ n by omega)
        have hu := qp9 (F := F) (n := n') (ds := dsl l) (x := bl b x) (c := 0) hF (qnc hl) (by rw [qlu]; have := hl.1; omega) (qfH _ _) (by rw [yN]; exact ob.max) (by omega) F 0 [] (by simp; omega) (Nat.zero_le _) (Nat.zero_le _)
        rw [yN, qib hb ob, ← qlr hl, ← hc] at hu
        rw [h2]
        have hu' : zB F (x : Int) b (n' : Int) (codesM l) F (0, [], 0) = _ := hu
        rw [hu', Int.toNat_natCast, Int.toNat_natCast]
        simp only [List.length_nil, Nat.sub_zero, List.nil_append]
        by_cases h4 : (upk (dsl l) (bl b x) n' 0).2 = 0
        · rw [if_neg (by simp [h4])]
          congr 1
          rw [← h4]
        · rw [if_pos h4]
          have : (upk (dsl l) (bl b x) n' 0).1 = [] := by
            cases n' with
            | zero =>
              unfold upk
              split <;> rfl
            | succ n' =>
              unfold upk at h4 ⊢
              split
              · rfl
              · rename_i h5
                rw [if_neg h5] at h4
                split
                · rfl
                · rename_i h6
                  rw [if_neg h6] at h4
                  simp at h4
          congr 1
          rw [← this]
    · rw [if_neg (by simp [h2]), if_pos h2, if_neg (by simp), bad _ h2]
  · rw [if_neg (by simp [h1]), if_pos h1, if_neg (by simp [h1]), if_neg (by simp), bad _ h1]
theorem qlC {F : Nat} {xs ys : List Int} (he : xs.length = ys.length) (hm : xs.length ≤ 1000000) : ∀ (k i : Nat), xs.length < k + i → i ≤ xs.length → ko F xs ys k (i : Int) = some (decide (xs.drop i = ys.drop i))
  | 0, _, _, _ => by omega
  | k + 1, i, h, hi => by
    show vA F xs ys (ko F xs ys k) (i : Int) = _
    unfold vA
    by_cases hlt : i < xs.length
    · have hlt' : i < ys.length := by omega
      rw [if_pos (by simp; omega), qM, List.getElem?_eq_getElem hlt, qM, List.getElem?_eq_getElem hlt']
      simp only [Option.bind_some]
      rw [List.drop_eq_getElem_cons hlt, List.drop_eq_getElem_cons hlt']
      by_cases hc : xs[i] = ys[i]
      · rw [if_neg (by simp [hc]), zz (by omega), qlC he hm k (i + 1) (by omega) (by omega)]
        congr 1
        rw [decide_eq_decide, List.cons.injEq]
        exact ⟨fun h => ⟨hc, h⟩, fun h => h.2⟩
      · rw [if_pos (by simpa using hc), decide_eq_false (fun e => hc (List.cons.inj e).1)]
    · rw [if_neg (by simp; omega), List.drop_eq_nil_of_le (by omega), List.drop_eq_nil_of_le (by omega)]
      rfl
theorem qdI {F : Nat} {xs ys : List Int} (hF : xs.length < F) (hm : xs.length ≤ 1000000) : ka F xs ys = some (decide (xs = ys)) := by
  unfold ka
  by_cases h : xs.length = ys.length
  · rw [if_neg (by simp [h])]
    have := qlC (F := F) h hm F 0 (by omega) (Nat.zero_le _)
    rw [List.drop_zero, List.drop_zero] at this
    exact this
  · rw [if_pos (by simp; omega), decide_eq_false (fun e => h (by rw [e]))]
theorem qmj {F : Nat} (hF : 20003 ≤ F) : qbV F = some true := by
  have c1 : hlenM [5, 0, 1, 2, 1] = ([1, 0, 3, 2, 3], 0) := by decide
  have c2 : costM [5, 0, 1, 2, 1] [1, 0, 3, 2, 3] = (15, 0) := by decide
  have c3 : packM [0, 2, 0] 3 = ([1, 0, 1], 3, [64], 0) := by decide
  have c4 : qdR [1, 0, 1] 3 [64] 3 = ([0, 2, 0], 0) := by decide
  have c5 : qdR [1, 0, 1] 3 [64] 2 = ([], 1) := by decide
  have c6 : hlenM [0, 7] = ([0, 1], 0) := by decide
  unfold qbV
  rw [qdL (by omega), c1]
  simp only [Option.bind_some]
  rw [qoV (by omega), c2]
  simp only [Option.bind_some]
  rw [qlJ (by simp; omega) (by decide), c3]
  simp only [Option.bind_some]
  rw [qfY (by omega) (by unfold U8s; decide) (by unfold I64; decide) (by decide), c4]
  simp only [Option.bind_some]
  rw [qfY (by omega) (by unfold U8s; decide) (by unfold I64; decide) (by decide), c5]
  simp only [Option.bind_some]
  rw [qdL (by omega), c6]
  simp only [Option.bind_some]
  rw [qdI (by simp; omega) (by decide)]
  simp only [Option.bind_some]
  rw [if_pos (by decide), qdI (by simp; omega) (by decide)]
  simp only [Option.bind_some]
  unfold jV
  rw [if_pos (by decide), qdI (by simp; omega) (by decide)]
  simp only [Option.bind_some]
  unfold jW
  rw [if_pos (by decide), qdI (by simp; omega) (by decide)]
  rfl
theorem qmn {many : List Int} (h0 : (hlenM many).2 ≠ 0) : (hlenM many).1 = [] ∧ ((hlenM many).2 = 2 ∨ (hlenM many).2 = 3 ∨ (hlenM many).2 = 8) := by
  unfold hlenM at h0 ⊢
  split
  · rename_i h1
    refine ⟨rfl, ?_⟩
    show hchk many = 2 ∨ hchk many = 3 ∨ hchk many = 8
    unfold hchk at h1 ⊢
    split
    · simp
    · rename_i h2
      rw [if_neg h2] at h1
      split
      · simp
      · rename_i h3
        rw [if_neg h3] at h1
        simp at h1
  · rename_i h1
    rw [if_neg h1] at h0
    unfold hfin at h0 ⊢
    split
    · exact ⟨rfl, .inr (.inr rfl)⟩
    · rename_i h2
      rw [if_neg h2] at h0
      simp at h0
abbrev ghd (g : Grp) : Nat := g.1.headD 0
structure RI (many : List Int) (h : List Grp) (fo fw o : Nat → Nat) : Prop where
  hi : HI (hw many) h o
  sg : (hsg h).Perm (usd many)
  of_ : ∀ g ∈ h, ∀ s ∈ g.1, fo s = ghd g
  wt : ∀ g ∈ h, fw (ghd g) = g.2
theorem qiT {g : Grp} (h : g.1.Pairwise (· < ·)) {s : Nat} (hs : s ∈ g.1) : ghd g ≤ s := by
  obtain ⟨l, w⟩ := g
  cases l with
  | nil => simp at hs
  | cons a t =>
    rcases List.mem_cons.1 hs with rfl | hs
    · exact Nat.le_refl _
    · exact Nat.le_of_lt ((List.pairwise_cons.1 h).1 s hs)
theorem qmi {w o : Nat → Nat} {a b : Grp} {t : List Grp} (hi : HI w (a :: b :: t) o) : ghd (gmerge a b) = min (ghd a) (ghd b) := by
  have hm : gmerge a b ∈ gins (gmerge a b) t := (yX _ _).mem_iff.2 (by simp)
  have h1 := qbB (hi.step.ne _ hm)
  have hmem : ∀ s, s ∈ (gmerge a b).1 ↔ s ∈ a.1 ∨ s ∈ b.1 := fun s => by
    show s ∈ srtN (a.1 ++ b.1) ↔ _
    rw [(kT _).mem_iff, List.mem_append]
  have hup := hi.step.up _ hm
  have h2 := qiT hup ((hmem _).2 (.inl (qbB (hi.ne a (by simp)))))
  have h3 := qiT hup ((hmem _).2 (.inr (qbB (hi.ne b (by simp)))))
  rcases (hmem _).1 h1 with h4 | h4
  · have h5 := qiT (hi.up a (by simp)) h4
    unfold ghd at *
    omega
  · have h5 := qiT (hi.up b (by simp)) h4
    unfold ghd at *
    omega
theorem RI.step {many : List Int} {a b : Grp} {t : List Grp} {fo fw o : Nat → Nat} (hr : RI many (a :: b :: t) fo fw o) {m M : Nat} (hmM : (m = ghd a ∧ M = ghd b) ∨ (m = ghd b ∧ M = ghd a)) (hlt : m ≤ M) :
    RI many (gins (gmerge a b) t) (fun s => if decide (s ∈ a.1 ++ b.1) then m else fo s) (fun s => if s = m then fw m + fw M else fw s) (gbump o (a.1 ++ b.1)) := by
  have hmem : ∀ g, g ∈ gins (gmerge a b) t ↔ g = gmerge a b ∨ g ∈ t := fun g => by rw [(yX _ _).mem_iff, List.mem_cons]
  have hgm := qmi hr.hi
  have hm0 : ghd (gmerge a b) = m := by
    rw [hgm]
    rcases hmM with ⟨rfl, rfl⟩ | ⟨rfl, rfl⟩ <;> omega
  have hab : (a.1 ++ (b.1 ++ hsg t)).Nodup := hr.hi.nd
  rw [← List.append_assoc] at hab
  have hdis := (List.nodup_append.1 hab).2.2
  have hnot : ∀ g ∈ t, ∀ s ∈ g.1, s ∉ a.1 ++ b.1 := fun g hg s hs hm => hdis s hm s (qdM.2 ⟨g, hg, hs⟩) rfl
  have hmin : m ∈ a.1 ++ b.1 := by
    rcases hmM with ⟨rfl, _⟩ | ⟨rfl, _⟩
    · exact List.mem_append.2 (.inl (qbB (hr.hi.ne a (by simp))))
    · exact List.mem_append.2 (.inr (qbB (hr.hi.ne b (by simp))))
  refine ⟨hr.hi.step, qdq.trans hr.sg, fun g hg s hs => ?_, fun g hg => ?_⟩
  · rcases (hmem g).1 hg with rfl | hg
    · have : s ∈ a.1 ++ b.1 := (kT _).mem_iff.1 hs
      simp only [this, decide_true, if_true]
      exact hm0.symm
    · have := hnot g hg s hs
      simp only [this, decide_false, Bool.false_eq_true, if_false]
      exact hr.of_ g (by simp [hg]) s hs
  · rcases (hmem g).1 hg with rfl | hg
    · simp only [hm0, if_true]
      show _ = a.2 + b.2
      have h1 := hr.wt a (by simp)
      have h2 := hr.wt b (by simp)
      rcases hmM with ⟨rfl, rfl⟩ | ⟨rfl, rfl⟩
      · rw [h1, h2]
      · rw [h1, h2]; omega
    · have : ghd g ≠ m := fun e => hnot g hg _ (qbB (hr.hi.ne g (by simp [hg]))) (by
        rw [show g.1.headD 0 = m from e]; exact hmin)
      simp only [this, if_false]
      exact hr.wt g (by simp [hg])
theorem ql1 {ds : List (List Int)} {x : List Int} : ∀ (k a : Nat), (upk ds x k a).1.length ≤ k
  | 0, a => by
    unfold upk
    split <;> simp
  | k + 1, a => by
    unfold upk
    split
    · simp
    · split
      · simp
      · have := ql1 (ds := ds) (x := x) k (fndM ds (x.drop a) a).2.1.toNat
        simp only [List.length_cons]
        omega
theorem qh3 (many : List Int) : (hlenM many).1.length ≤ 64 := by
  by_cases h : (hlenM many).2 = 0
  · obtain ⟨hm, hl, _⟩ := qjS h
    rw [hl, qcm]; exact hm.1
  · rw [(qmn h).1]; simp
theorem qko (l : List Int) (m : Int) (b : List Int) (n : Int) : (qdR l m b n).1.length ≤ 1000 := by
  unfold qdR
  split
  · simp
  · split
    · simp
    · split
      · simp
      · have := ql1 (ds := dsl l) (x := bl b m.toNat) n.toNat 0
        omega
def nup : Nat → Nat × Nat
  | 0 => (1, 2)
  | i + 1 => ((nup i).2, (nup i).1 + (nup i).2)
def nu (i : Nat) : Nat := (nup i).1
theorem qq4 (i : Nat) : (nup i).2 = nu (i + 1) := rfl
theorem qri : nu 0 = 1 := rfl
theorem qqw (i : Nat) : nu (i + 2) = nu (i + 1) + nu i := by
  show (nup i).1 + (nup i).2 = _
  rw [qq4, Nat.add_comm]; rfl
theorem qkU : ∀ i, 1 ≤ nu i
  | 0 => Nat.le_refl 1
  | 1 => by decide
  | i + 2 => by rw [qqw]; have := qkU i; omega
theorem qlI (i : Nat) : nu i < nu (i + 1) := by
  cases i with
  | zero => decide
  | succ i => rw [qqw]; have := qkU i; omega
theorem qey {i j : Nat} (h : i ≤ j) : nu i ≤ nu j := by
  induction j with
  | zero => rw [show i = 0 from by omega]; exact Nat.le_refl _
  | succ j ih =>
    by_cases e : i = j + 1
    · rw [e]; exact Nat.le_refl _
    · exact Nat.le_trans (ih (by omega)) (Nat.le_of_lt (qlI j))
theorem qmq {i j : Nat} : nu i < nu j ↔ i < j := by
  constructor
  · intro h
    by_cases e : i < j
    · exact e
    · have := qey (show j ≤ i by omega); omega
  · intro h; exact Nat.lt_of_lt_of_le (qlI i) (qey h)
theorem qq3 : nu 65 = 44945570212853 := by decide +kernel
theorem qnG {i : Nat} (h : i ≤ 65) : nu i ≤ 44945570212853 := by rw [← qq3]; exact qey h
def fibs : List Int := [1, 2, 3, 5, 8, 13, 21, 34, 55, 89, 144, 233, 377, 610, 987, 1597, 2584, 4181, 6765, 10946, 17711, 28657, 46368, 75025, 121393, 196418, 317811, 514229, 832040, 1346269, 2178309, 3524578, 5702887, 9227465, 14930352, 24157817, 39088169, 63245986, 102334155, 165580141, 267914296, 433494437, 701408733, 1134903170, 1836311903, 2971215073, 4807526976, 7778742049, 12586269025, 20365011074, 32951280099, 53316291173, 86267571272, 139583862445, 225851433717, 365435296162, 591286729879, 956722026041, 1548008755920, 2504730781961, 4052739537881, 6557470319842, 10610209857723, 17167680177565]
theorem qjF : fibs.length = 64 := by decide +kernel
theorem qnf : ∀ i : Fin 64, fibs[i.val]? = some ((nu i.val : Nat) : Int) := by decide +kernel
theorem qjE {i : Nat} (h : i < 64) : fibs[i]? = some ((nu i : Nat) : Int) := qnf ⟨i, h⟩
theorem qms (n : Nat) : yL (n + 200) = some fibs := by kernel_rfl
theorem qf5 {F : Nat} (hF : 20000 ≤ F) : yL F = some fibs := by
  obtain ⟨n, rfl⟩ : ∃ n, F = n + 200 := ⟨F - 200, by omega⟩
  exact qms n
theorem qgQ {a b : Nat} (h : a + b < 18446744073709551616) : iadd .u64 (a : Int) (b : Int) = ((a + b : Nat) : Int) := by
  unfold iadd; rw [← Int.natCast_add]; exact kI (by omega) (by omega)
theorem qkO {a b : Nat} (h : b ≤ a) (h2 : a < 18446744073709551616) : isub .u64 (a : Int) (b : Int) = ((a - b : Nat) : Int) := by
  unfold isub; rw [show (a : Int) - (b : Int) = ((a - b : Nat) : Int) from by omega]; exact kI (by omega) (by omega)
def pv : Nat → Nat
  | 0 => 1
  | k + 1 => nu k
theorem qnH (k : Nat) : nu (k + 1) = nu k + pv k := by
  cases k with
  | zero => rfl
  | succ k => exact qqw k
theorem qq6 (k : Nat) : pv k ≤ nu k := by
  cases k with
  | zero => exact Nat.le_refl 1
  | succ k => exact Nat.le_of_lt (qlI k)
def gd : Nat → Nat → List Nat
  | 0, _ => []
  | k + 1, n => if nu k ≤ n then gd k (n - nu k) ++ [k] else gd k n
def sm (l : List Nat) : Nat := (l.map nu).sum
theorem qnZ (l k : List Nat) : sm (l ++ k) = sm l + sm k := by simp [sm]
theorem qrc (k : Nat) : sm [k] = nu k := by simp [sm]
theorem qn0 {l : List Nat} {i : Nat} (h : i ∈ l) : nu i ≤ sm l := by
  induction l with
  | nil => simp at h
  | cons x l ih =>
    have e : sm (x :: l) = nu x + sm l := by simp [sm]
    rcases List.mem_cons.1 h with rfl | h
    · omega
    · have := ih h; omega
def Sp : List Nat → Prop
  | [] => True
  | [_] => True
  | a :: b :: l => a + 2 ≤ b ∧ Sp (b :: l)
theorem qn2 {l : List Nat} {k : Nat} (h : Sp l) (hl : ∀ i ∈ l, i + 2 ≤ k) : Sp (l ++ [k]) := by
  induction l with
  | nil => trivial
  | cons a l ih =>
    cases l with
    | nil => exact ⟨hl a List.mem_cons_self, trivial⟩
    | cons b l => exact ⟨h.1, ih h.2 (fun i hi => hl i (List.mem_cons_of_mem _ hi))⟩
theorem qiS : ∀ (k n : Nat), n < nu k → sm (gd k n) = n ∧ Sp (gd k n) ∧ ∀ i ∈ gd k n, i < k
  | 0, n, h => by
    have : n = 0 := by rw [qri] at h; omega
    subst this; exact ⟨rfl, trivial, fun i hi => by simp [gd] at hi⟩
  | k + 1, n, h => by
    unfold gd
    by_cases hk : nu k ≤ n
    · rw [if_pos hk]
      have h2 : n - nu k < pv k := by rw [qnH] at h; omega
      obtain ⟨h3, h4, h5⟩ := qiS k (n - nu k) (by have := qq6 k; omega)
      refine ⟨by rw [qnZ, qrc, h3]; omega, qn2 h4 (fun i hi => ?_), fun i hi => ?_⟩
      · have h6 := qn0 hi
        rw [h3] at h6
        cases k with
        | zero => have := h5 i hi; omega
        | succ k =>
          have : nu i < nu k := Nat.lt_of_le_of_lt h6 h2
          have := qmq.1 this; omega
      · rcases List.mem_append.1 hi with hi | hi
        · have := h5 i hi; omega
        · simp at hi; omega
    · rw [if_neg hk]
      obtain ⟨h3, h4, h5⟩ := qiS k n (by omega)
      exact ⟨h3, h4, fun i hi => by have := h5 i hi; omega⟩
theorem qly {n k : Nat} (h : n < nu k) : ∀ j, gd (k + j) n = gd k n
  | 0 => rfl
  | j + 1 => by
    have := qey (show k ≤ k + j by omega)
    rw [← Nat.add_assoc, gd, if_neg (by omega), qly h j]
theorem getRev {α : Type} {l : List α} {i : Nat} (h : i < l.length) : l.reverse[i]? = l[l.length - 1 - i]? := by
  rw [List.getElem?_reverse h]
theorem qp3 {F : Nat} {xs : List Int} (hm : xs.length ≤ 100000) : ∀ (k i : Nat) (ys : List Int), xs.length < k + i → 2 * i ≤ xs.length + 1 → ys.length = xs.length → (∀ p, p < i → ys[p]? = xs[xs.length - 1 - p]?) → (∀ p, p < i → ys[xs.length - 1 - p]? = xs[p]?) → (∀ p, i ≤ p → p + i < xs.length → ys[p]? = xs[p]?) →
    zm F k (ys, (i : Int), (xs.length : Int) - 1 - (i : Int)) = some xs.reverse
  | 0, _, _, _, _, _, _, _, _ => by omega
  | k + 1, i, ys, hk, hi, hl, h1, h2, h3 => by
    show zZ F (zm F k) ys (i : Int) ((xs.length : Int) - 1 - (i : Int)) = _
    unfold zZ
    by_cases hlt : (i : Int) < (xs.length : Int) - 1 - (i : Int)
    · have ej : (xs.length : Int) - 1 - (i : Int) = ((xs.length - 1 - i : Nat) : Int) := by omega
      have hi1 : i < ys.length := by omega
      have hj1 : xs.length - 1 - i < ys.length := by omega
      rw [if_pos (by simpa using hlt), ej, qM, qM, List.getElem?_eq_getElem hj1, List.getElem?_eq_getElem hi1]
      simp only [Option.bind_some, lett, Int.toNat_natCast]
      rw [zz (by omega), qfq (by omega) (by omega)]
      have e2 : ((xs.length - 1 - i - 1 : Nat) : Int) = (xs.length : Int) - 1 - ((i + 1 : Nat) : Int) := by omega
      rw [e2]
      have hyi : ys[i]? = xs[i]? := h3 i (Nat.le_refl _) (by omega)
      have hyj : ys[xs.length - 1 - i]? = xs[xs.length - 1 - i]? := h3 _ (by omega) (by omega)
      rw [List.getElem?_eq_getElem hi1] at hyi
      rw [List.getElem?_eq_getElem hj1] at hyj
      refine qp3 hm k (i + 1) _ (by omega) (by omega) (by rw [List.length_set, List.length_set, hl]) (fun p hp => ?_) (fun p hp => ?_) (fun p hp hp2 => ?_)
      · rw [List.getElem?_set, List.getElem?_set, List.length_set]
        by_cases e : p = i
        · subst e
          rw [if_neg (by omega), if_pos rfl, if_pos hi1, hyj]
        · rw [if_neg (by omega), if_neg (by omega)]
          exact h1 p (by omega)
      · rw [List.getElem?_set, List.getElem?_set, List.length_set]
        by_cases e : p = i
        · subst e
          rw [if_pos rfl, if_pos hj1, hyi]
        · rw [if_neg (by omega), if_neg (by omega)]
          exact h2 p (by omega)
      · rw [List.getElem?_set, List.getElem?_set, List.length_set, if_neg (by omega), if_neg (by omega)]
        exact h3 p (by omega) (by omega)
    · rw [if_neg (by simpa using hlt)]
      congr 1
      apply List.ext_getElem?
      intro p
      by_cases hp : p < xs.length
      · rw [getRev hp]
        by_cases h4 : p < i
        · exact h1 p h4
        · by_cases h5 : p + i < xs.length
          · rw [h3 p (by omega) h5, show xs.length - 1 - p = p from by omega]
          · have := h2 (xs.length - 1 - p) (by omega)
            rwa [show xs.length - 1 - (xs.length - 1 - p) = p from by omega] at this
      · rw [List.getElem?_eq_none (by omega), List.getElem?_eq_none (by rw [List.length_reverse]; omega)]
theorem qkX {F : Nat} {xs : List Int} (hF : xs.length < F) (hm : xs.length ≤ 100000) : kC F xs = some xs.reverse := by
  unfold kC
  have e : isub .i64 (xs.length : Int) 1 = (xs.length : Int) - 1 - ((0 : Nat) : Int) := by rw [jw (by omega) (by omega)]; omega
  rw [e]
  exact qp3 hm F 0 xs (by omega) (by omega) rfl (fun p h => by omega) (fun p h => by omega) (fun p _ _ => rfl)
def lci (l : List Nat) : List Int := l.map fun x : Nat => (x : Int)
theorem qdK (l : List Nat) : (lci l).length = l.length := by simp [lci]
theorem qpd {l : List Nat} {i : Nat} (hi : i < l.length) : (lci l)[i]? = some ((l[i] : Nat) : Int) := by simp [lci, hi]
theorem qnn (k : Nat) : ∀ n, (gd k n).length ≤ k := by
  induction k with
  | zero => intro n; simp [gd]
  | succ k ih =>
    intro n; unfold gd
    split
    · rw [List.length_append]; have := ih (n - nu k); simp; omega
    · have := ih n; omega
theorem qi3 {F : Nat} (hF : 20000 ≤ F) : ∀ (k i n : Nat) (L : List Nat), i < k → i ≤ 64 → n < 18446744073709551616 → L.length + i ≤ 64 →
    yi F fibs k ((n : Int), lci L, (i : Int) - 1) = some (lci (gd i n ++ L.reverse))
  | 0, _, _, _, _, _, _, _ => by omega
  | k + 1, i, n, L, hk, hi, hn, hL => by
    show qbg F fibs (yi F fibs k) (n : Int) (lci L) ((i : Int) - 1) = _
    unfold qbg
    cases i with
    | zero =>
      rw [if_neg (by simp)]
      unfold qcN
      rw [qkX (by rw [qdK]; omega) (by rw [qdK]; omega)]
      simp only [Option.bind_some]
      rw [List.length_reverse, decide_eq_true rfl]
      simp [chk, gd, lci]
    | succ i =>
      rw [show ((i + 1 : Nat) : Int) - 1 = (i : Int) from by omega, if_pos (by simp), qM, qjE (by omega)]
      simp only [Option.bind_some]
      have e1 : isub .i64 (i : Int) 1 = (i : Int) - 1 := by rw [jw (by omega) (by omega)]
      unfold gd
      by_cases h : nu i ≤ n
      · rw [if_pos (by simp only [decide_eq_true_eq]; omega), if_pos h, vQ (by rw [qdK]; simp; omega)]
        simp only [Option.bind_some, jp]
        rw [qkO h hn, e1]
        have := qi3 hF k i (n - nu i) (L ++ [i]) (by omega) (by omega) (by omega) (by simp; omega)
        rw [show lci L ++ [(i : Int)] = lci (L ++ [i]) from by simp [lci], this]
        simp
      · rw [if_neg (by simp only [decide_eq_true_eq]; omega), if_neg h]
        simp only [jp]
        rw [e1]
        exact qi3 hF k i n L (by omega) (by omega) hn (by omega)
theorem qhY {F n : Nat} (hF : 20000 ≤ F) (hn : n < 18446744073709551616) : qb2 F (n : Int) = some (lci (gd 64 n)) := by
  unfold qb2
  rw [qf5 hF]
  simp only [Option.bind_some]
  rw [qjF, decide_eq_true rfl]
  simp only [chk, if_true]
  have := qi3 hF F 64 n [] (by omega) (by omega) hn (by simp)
  rw [List.reverse_nil, List.append_nil] at this
  exact this
theorem qlS {l : List Nat} {x : Nat} : Sp (l ++ [x]) ↔ Sp l ∧ ∀ i ∈ l, i + 2 ≤ x := by
  constructor
  · intro h
    induction l with
    | nil => exact ⟨trivial, fun i hi => by simp at hi⟩
    | cons a l ih =>
      cases l with
      | nil => exact ⟨trivial, fun i hi => by simp at hi; rw [hi]; exact h.1⟩
      | cons b l =>
        have h2 := ih h.2
        refine ⟨⟨h.1, h2.1⟩, fun i hi => ?_⟩
        rcases List.mem_cons.1 hi with rfl | hi
        · have := h2.2 b List.mem_cons_self; have := h.1; omega
        · exact h2.2 i hi
  · intro h; exact qn2 h.1 h.2
theorem qh4 {l : List Nat} (h : l ≠ []) : ∃ k x, l = k ++ [x] := ⟨l.dropLast, l.getLast h, (List.dropLast_concat_getLast h).symm⟩
theorem qp7 : ∀ (k : Nat) (l : List Nat), Sp l → (∀ i ∈ l, i < k) → sm l < nu k
  | k, l, h, hl => by
    by_cases e : l = []
    · subst e; have := qkU k; show 0 < nu k; omega
    · obtain ⟨l, x, rfl⟩ := qh4 e
      have hx := hl x (by simp)
      obtain ⟨h1, h2⟩ := qlS.1 h
      have h3 : sm l < pv x := by
        cases x with
        | zero =>
          have : l = [] := by
            cases l with
            | nil => rfl
            | cons a l => have := h2 a List.mem_cons_self; omega
          subst this; decide
        | succ x => exact qp7 x l h1 (fun i hi => by have := h2 i hi; omega)
      have h4 := qnH x
      have h5 := qey (show x + 1 ≤ k by omega)
      rw [qnZ, qrc]; omega
  termination_by k => k
def fs : Int → Int → List Int → Int × Int
  | _, s, [] => (s, 0)
  | last, s, i :: l => if i < 0 ∨ 64 ≤ i then (0, 3) else if i ≤ last + 1 then (0, 4) else fs i (s + ((nu i.toNat : Nat) : Int)) l
def FI (last s : Int) : Prop := (last = -2 ∧ s = 0) ∨ ∃ a t : Nat, last = (a : Int) ∧ s = (t : Int) ∧ a < 64 ∧ t < nu (a + 1)
theorem qoY {last s i : Int} (h : FI last s) (h0 : 0 ≤ i) (h1 : i < 64) (h2 : last + 1 < i) : FI i (s + ((nu i.toNat : Nat) : Int)) := by
  obtain ⟨i, rfl⟩ := Int.eq_ofNat_of_zero_le h0
  rw [Int.toNat_natCast]
  right
  rcases h with ⟨rfl, rfl⟩ | ⟨a, t, rfl, rfl, h3, h4⟩
  · exact ⟨i, nu i, rfl, by omega, by omega, qlI i⟩
  · refine ⟨i, t + nu i, rfl, by omega, by omega, ?_⟩
    have h5 := qnH i
    cases i with
    | zero => omega
    | succ i =>
      have : nu (a + 1) ≤ nu i := qey (by omega)
      have e : pv (i + 1) = nu i := rfl
      omega
theorem qrh {last s : Int} (h : FI last s) : 0 ≤ s ∧ s ≤ 44945570212853 ∧ -2 ≤ last ∧ last < 64 := by
  rcases h with ⟨rfl, rfl⟩ | ⟨a, t, rfl, rfl, h3, h4⟩
  · omega
  · have := qnG (i := a + 1) (by omega); omega
theorem qpg {s : Int} {k : Nat} (h : 0 ≤ s) (h2 : s ≤ 44945570212853) (h3 : k ≤ 44945570212853) : iadd .u64 s (k : Int) = s + (k : Int) := by
  obtain ⟨s, rfl⟩ := Int.eq_ofNat_of_zero_le h
  rw [qgQ (by omega)]; omega
theorem qnk {F : Nat} {l : List Int} (hm : l.length ≤ 9223372036854775807) : ∀ (k i : Nat) (last s : Int), l.length < k + i → i ≤ l.length → FI last s →
    j1 F l fibs k (s, last, (i : Int)) = some (fs last s (l.drop i))
  | 0, _, _, _, _, _, _ => by omega
  | k + 1, i, last, s, hk, hi, hf => by
    show qcs F l fibs (j1 F l fibs k) s last (i : Int) = _
    unfold qcs
    by_cases hlt : i < l.length
    · rw [if_pos (by simpa using hlt), qM, List.getElem?_eq_getElem hlt, List.drop_eq_getElem_cons hlt]
      simp only [Option.bind_some]
      have hb := qrh hf
      generalize l[i] = x
      unfold fs
      by_cases h1 : x < 0 ∨ 64 ≤ x
      · rw [if_pos (by simpa using h1), if_pos h1]
      · rw [if_neg (by simpa using h1), if_neg h1, qW (by omega) (by omega)]
        by_cases h2 : x ≤ last + 1
        · rw [if_pos (by simpa using h2), if_pos h2]
        · rw [if_neg (by simpa using h2), if_neg h2]
          have h3 := qoY hf (i := x) (by omega) (by omega) (by omega)
          obtain ⟨x, rfl⟩ := Int.eq_ofNat_of_zero_le (show 0 ≤ x by omega)
          rw [qM, qjE (by omega)]
          simp only [Option.bind_some]
          have := qnG (i := x) (by omega)
          rw [qpg hb.1 hb.2.1 this, zz (by omega)]
          rw [Int.toNat_natCast] at h3 ⊢
          exact qnk hm k (i + 1) _ _ (by omega) (by omega) h3
    · rw [if_neg (by simpa using hlt), List.drop_eq_nil_of_le (by omega)]; rfl
theorem qo2 {F : Nat} {l : List Int} (hF : 20000 ≤ F) (hl : l.length < F) (hm : l.length ≤ 9223372036854775807) : qcC F l = some (fs (-2) 0 l) := by
  unfold qcC
  rw [qf5 hF]
  simp only [Option.bind_some]
  rw [qjF, decide_eq_true rfl]
  simp only [chk, if_true]
  exact qnk hm F 0 _ _ (by omega) (by omega) (.inl ⟨rfl, rfl⟩)
theorem qmb (n : Nat) : qcr (n + 200) = some true := by kernel_rfl
theorem qkC {F : Nat} (hF : 20000 ≤ F) : qcr F = some true := by
  obtain ⟨n, rfl⟩ : ∃ n, F = n + 200 := ⟨F - 200, by omega⟩
  exact qmb n
def fprt (n : Nat) : List Int × Int := if 1099511627776 < n then ([], 3) else (lci (gd 64 n), 0)
theorem qmf {F n : Nat} (hF : 20000 ≤ F) (hn : n < 18446744073709551616) : qb1 F (n : Int) = some (fprt n) := by
  unfold qb1 fprt
  by_cases h : 1099511627776 < n
  · rw [if_pos (by simp; omega), if_pos h]
  · rw [if_neg (by simp; omega), if_neg h, qhY hF hn]; rfl
theorem qq2 : nu 60 = 4052739537881 := by decide +kernel
theorem qke {n : Nat} (h : n ≤ 1099511627777) : n < nu 60 := by rw [qq2]; omega
theorem qq0 {n : Nat} (h : n ≤ 1099511627777) : sm (gd 64 n) = n ∧ Sp (gd 64 n) ∧ ∀ i ∈ gd 64 n, i < 60 := by
  have := qly (qke h) 4
  rw [this]
  exact qiS 60 n (qke h)
def zb (l : List Nat) (m : Nat) : List Int := (List.range m).map fun i => if i ∈ l then 1 else 0
theorem qrk (l : List Nat) (m : Nat) : zb l (m + 1) = zb l m ++ [if m ∈ l then 1 else 0] := by unfold zb; rw [List.range_succ, List.map_append]; rfl
theorem qjh (l : List Nat) (m : Nat) : (zb l m).length = m := by simp [zb]
theorem qlj (l : List Nat) (m : Nat) : Bit (zb l m) := by
  intro x hx
  unfold zb at hx
  obtain ⟨i, _, rfl⟩ := List.mem_map.1 hx
  split
  · right; rfl
  · left; rfl
def tp (n : Nat) : Nat := (gd 64 (n + 1)).getLast?.getD 0
def fc (n : Nat) : List Int := zb (gd 64 (n + 1)) (tp n + 1) ++ [1]
theorem qlZ {n : Nat} (h : n ≤ 1099511627776) : ∃ k, gd 64 (n + 1) = k ++ [tp n] ∧ tp n < 60 ∧ nu (tp n) ≤ n + 1 ∧ n + 1 < nu (tp n + 1) := by
  obtain ⟨h1, h2, h3⟩ := qq0 (show n + 1 ≤ 1099511627777 by omega)
  have hne : gd 64 (n + 1) ≠ [] := by
    intro e; rw [e] at h1; simp [sm] at h1
  obtain ⟨k, x, e⟩ := qh4 hne
  have ht : tp n = x := by unfold tp; rw [e, List.getLast?_concat]; rfl
  rw [ht]
  rw [e] at h1 h2 h3
  refine ⟨k, e, h3 x (by simp), ?_, ?_⟩
  · have := qn0 (l := k ++ [x]) (i := x) (by simp); omega
  · rw [← h1]
    refine qp7 _ _ h2 (fun i hi => ?_)
    rcases List.mem_append.1 hi with hi | hi
    · have := (qlS.1 h2).2 i hi; omega
    · simp at hi; omega
theorem qqh (n : Nat) : (fc n).length = tp n + 2 := by unfold fc; rw [List.length_append, qjh]; rfl
theorem qgN {F : Nat} {l : List Nat} {x : Nat} (hm : l.length ≤ 100000) : ∀ (k i : Nat), l.length < k + i → i ≤ l.length → (∀ j, j < i → l[j]? ≠ some x) →
    ∃ q : Int, zk F (lci l) (x : Int) k (i : Int) = some q ∧ (0 ≤ q ↔ x ∈ l)
  | 0, _, _, _, _ => by omega
  | k + 1, i, hk, hi, hn => by
    have e : zk F (lci l) (x : Int) (k + 1) (i : Int) = kv F (lci l) (x : Int) (zk F (lci l) (x : Int) k) (i : Int) := rfl
    rw [e]
    unfold kv
    by_cases hlt : i < l.length
    · rw [if_pos (by rw [qdK]; simpa using hlt), qM, qpd hlt]
      simp only [Option.bind_some]
      by_cases h : x = l[i]
      · rw [if_pos (by simp [h])]
        exact ⟨i, rfl, by rw [h]; simp⟩
      · rw [if_neg (by rw [beq_iff_eq]; omega), zz (by omega)]
        refine qgN hm k (i + 1) (by omega) (by omega) (fun j hj => ?_)
        by_cases e2 : j = i
        · subst e2; rw [List.getElem?_eq_getElem hlt]; intro e3; simp at e3; exact h e3.symm
        · exact hn j (by omega)
    · rw [if_neg (by rw [qdK]; simpa using hlt)]
      refine ⟨-1, rfl, ⟨fun h => by omega, fun h => ?_⟩⟩
      obtain ⟨j, hj⟩ := List.getElem?_of_mem h
      have := (List.getElem?_eq_some_iff.1 hj).1
      exact absurd hj (hn j (by omega))
theorem qjB {F : Nat} {l : List Nat} {x : Nat} (hF : l.length < F) (hm : l.length ≤ 100000) : ku F (lci l) (x : Int) = some (decide (x ∈ l)) := by
  unfold ku vr
  obtain ⟨q, h1, h2⟩ := qgN (F := F) (x := x) hm F 0 (by omega) (by omega) (fun j h => by omega)
  rw [show ((0 : Nat) : Int) = 0 from rfl] at h1
  rw [h1]
  simp only [Option.bind_some, h2]
theorem qnN {F : Nat} (hF : 20000 ≤ F) {l : List Nat} (hl : l.length ≤ 64) {x : Nat} (hx : x < 64) : ∀ (k i : Nat), x + 1 < k + i → i ≤ x + 1 →
    yK F (lci l) (x : Int) k ((i : Int), ((zb l i).length : Int), pk (zb l i)) = some (((zb l (x + 1) ++ [1]).length : Int), pk (zb l (x + 1) ++ [1]))
  | 0, _, _, _ => by omega
  | k + 1, i, hk, hi => by
    show qbW F (lci l) (x : Int) (yK F (lci l) (x : Int) k) (i : Int) ((zb l i).length : Int) (pk (zb l i)) = _
    unfold qbW
    rw [zz (by omega)]
    by_cases hlt : i < x + 1
    · have a1 := qeQ (F := F) (n := 1) (w := 1) (l := zb l i) (by decide) (by omega) (qlj _ _) (by rw [qjh]; omega) (by decide)
      have a0 := qeQ (F := F) (n := 0) (w := 1) (l := zb l i) (by decide) (by omega) (qlj _ _) (by rw [qjh]; omega) (by decide)
      rw [show ((1 : Nat) : Int) = 1 from rfl, show nb 1 1 = [1] from rfl] at a1
      rw [show ((0 : Nat) : Int) = 0 from rfl, show ((1 : Nat) : Int) = 1 from rfl, show nb 0 1 = [0] from rfl] at a0
      have hrec := qnN hF hl hx k (i + 1) (by omega) (by omega)
      rw [if_pos (by simp only [decide_eq_true_eq]; omega), qjB (by omega) (by omega)]
      simp only [Option.bind_some]
      rw [qrk] at hrec
      by_cases h : i ∈ l
      · rw [if_pos h] at hrec
        rw [decide_eq_true h, if_pos rfl]
        unfold qao
        rw [a1]
        simp only [Option.bind_some]
        rw [zz (by omega)]
        exact hrec
      · rw [if_neg h] at hrec
        rw [decide_eq_false h, if_neg (by decide)]
        unfold qao
        rw [a0]
        simp only [Option.bind_some]
        rw [zz (by omega)]
        exact hrec
    · obtain rfl : i = x + 1 := by omega
      rw [if_neg (by simp)]
      unfold qdy
      have a1 := qeQ (F := F) (n := 1) (w := 1) (l := zb l (x + 1)) (by decide) (by omega) (qlj _ _) (by rw [qjh]; omega) (by decide)
      rw [show ((1 : Nat) : Int) = 1 from rfl, show nb 1 1 = [1] from rfl] at a1
      rw [a1]; rfl
theorem qni {F n : Nat} (hF : 20000 ≤ F) (hn : n ≤ 1099511627776) : qep F (n : Int) = some (((fc n).length : Int), pk (fc n)) := by
  unfold qep
  obtain ⟨k, h1, h2, _, _⟩ := qlZ hn
  have hlen := qnn 64 (n + 1)
  rw [show iadd .u64 (n : Int) 1 = ((n + 1 : Nat) : Int) from qgQ (b := 1) (by omega), qhY hF (by omega)]
  simp only [Option.bind_some]
  have hk : (gd 64 (n + 1)).length = k.length + 1 := by rw [h1]; simp
  rw [qdK, qfq (by omega) (by omega), qM, hk, Nat.add_sub_cancel]
  have hg : (lci (gd 64 (n + 1)))[k.length]? = some ((tp n : Nat) : Int) := by rw [h1]; simp [lci]
  rw [hg]
  simp only [Option.bind_some]
  have := qnN (F := F) hF hlen (show tp n < 64 by omega) F 0 (by omega) (by omega)
  rw [show zb (gd 64 (n + 1)) 0 = [] from rfl, show pk [] = [] from by decide] at this
  exact this
def fcd (n : Nat) : Int × List Int × Int := if 1099511627776 < n then (0, [], 3) else (((fc n).length : Int), pk (fc n), 0)
theorem qne {F n : Nat} (hF : 20000 ≤ F) : qcL F (n : Int) = some (fcd n) := by
  unfold qcL fcd
  by_cases h : 1099511627776 < n
  · rw [if_pos (by simp; omega), if_pos h]
  · rw [if_neg (by simp; omega), if_neg h, qni hF (by omega)]; rfl
theorem vbegun (n : Nat) : qaA (n + 20) = some true := by kernel_rfl
theorem qpQ {F : Nat} (hF : 5000 ≤ F) : qaA F = some true := by
  obtain ⟨n, rfl⟩ : ∃ n, F = n + 20 := ⟨F - 20, by omega⟩
  exact vbegun n
def vfin (ys : List Int) : List Int × Int := if 4096 < ys.length then ([], 2) else (ys, 0)
theorem qkr {F : Nat} (hF : 10 ≤ F) {l : List Int} (hu : N64 l) (hm : l.length ≤ 9223372036854775807) : ∀ (k i : Nat) (acc : List Int), l.length < k + i → i ≤ l.length → acc.length ≤ 4096 →
    kQ F l k (acc, (i : Int)) = some (vfin (acc ++ (l.drop i).flatMap vn))
  | 0, i, acc, h, hi, _ => by omega
  | k + 1, i, acc, h, hi, ha => by
    show jf F l (kQ F l k) acc i = _
    unfold jf
    by_cases hlt : i < l.length
    · have hlt' : (i : Int) < (l.length : Int) := by omega
      have hg : l[i]? = some l[i] := by simp [hlt]
      have hx := hu l[i] (List.getElem_mem hlt)
      rw [List.drop_eq_getElem_cons hlt]
      simp only [hlt', decide_true, if_true, qM, hg, Option.bind_some, List.flatMap_cons]
      rw [qpO hF hx.1 hx.2 (by omega)]
      simp only [Option.bind_some]
      by_cases hb : 4096 < ((acc ++ vn l[i]).length : Int)
      · simp only [hb, decide_true, if_true]
        unfold vfin
        rw [if_pos (by simp at hb ⊢; omega)]
      · simp only [hb, decide_false, Bool.false_eq_true, if_false]
        rw [qW (by omega) (by omega), show (i : Int) + 1 = ((i + 1 : Nat) : Int) from by omega, qkr hF hu hm k (i + 1) _ (by omega) (by omega) (by omega)]
        simp
    · have hlt' : ¬ (i : Int) < (l.length : Int) := by omega
      simp only [hlt', decide_false, Bool.false_eq_true, if_false]
      have : l.drop i = [] := List.drop_eq_nil_of_le (by omega)
      rw [this]
      unfold qbz vfin
      rw [if_neg (by simp; omega)]
      simp
theorem qmR {F : Nat} {l : List Int} (hF : 10 ≤ F) (hl : l.length < F) (hu : N64 l) (hm : l.length ≤ 9223372036854775807) : js F l = some (vfin (l.flatMap vn)) := by
  unfold js
  have := qkr hF hu hm F 0 [] (by omega) (by omega) (by simp)
  simpa using this
def vall : Nat → List Int → List Int × Int
  | 0, _ => ([], 0)
  | k + 1, s => if s = [] then ([], 0) else if (vrd s 0 0).2.2 ≠ 0 then ([], (vrd s 0 0).2.2) else
    if (vall k (s.drop (vrd s 0 0).2.1)).2 ≠ 0 then ([], (vall k (s.drop (vrd s 0 0).2.1)).2) else ((vrd s 0 0).1 :: (vall k (s.drop (vrd s 0 0).2.1)).1, 0)
theorem qoI : ∀ (k : Nat) (s : List Int), (vall k s).2 ≠ 0 → (vall k s).1 = []
  | 0, s, h => by simp [vall] at h
  | k + 1, s, h => by
    unfold vall at h ⊢
    split
    · rfl
    · split
      · rfl
      · split
        · rfl
        · rename_i h1 h2 h3
          rw [if_neg h1, if_neg h2, if_neg h3] at h
          simp at h
def vallr (b : List Int) : List Int × Int := if 4096 < b.length then ([], 2) else vall (b.length + 1) b
def vkSum (acc : List Int) (p : List Int × Int) (q : Option (List Int ⊕ (List Int × Int))) : Prop :=
  (p.2 = 0 ∧ q = some (.inl (acc ++ p.1))) ∨ (p.2 ≠ 0 ∧ ∃ a, q = some (.inr (a, p.2)))
theorem ql3 {F : Nat} (hF : 10 ≤ F) {yy : List Int → Int × Int → Option (List Int ⊕ (List Int × Int))} (hy : ∀ a p, yy a p = yz F a p.1 p.2) {b : List Int} (hb : U8s b) (hm : b.length ≤ 4096) : ∀ (k at' : Nat) (acc : List Int), b.length - at' < k → at' ≤ b.length → acc.length + (b.length - at') ≤ 10000 →
    vkSum acc (vall k (b.drop at')) (ky F yy b k ((at' : Int), acc))
  | 0, at', acc, h, _, _ => by omega
  | k + 1, at', acc, h, hat, hl => by
    show vkSum acc (vall (k + 1) (b.drop at')) (vt F yy b (ky F yy b k) at' acc)
    unfold vt vall
    by_cases hlt : at' < b.length
    · have h1 : ((at' : Int) < (b.length : Int)) := by omega
      have hne : b.drop at' ≠ [] := by intro e; rw [List.drop_eq_nil_iff] at e; omega
      simp only [h1, decide_true, if_true]
      rw [qoK hF hb (by omega) hat, if_neg hne]
      simp only [Option.bind_some]
      by_cases he : (vrd (b.drop at') 0 0).2.2 = 0
      · have hc := qnO (hb.vdrop at') he
        have ho : vout at' (vrd (b.drop at') 0 0) = ((vrd (b.drop at') 0 0).1, ((at' + (vrd (b.drop at') 0 0).2.1 : Nat) : Int), 0) := by
          unfold vout; rw [if_pos he]; simp
        rw [ho]
        simp only [hy, yz, bne_self_eq_false, Bool.false_eq_true, if_false]
        rw [vQ (by simp; omega)]
        simp only [Option.bind_some, Sum.elim_inl]
        rw [List.length_drop] at hc
        have ih := ql3 hF hy hb hm k (at' + (vrd (b.drop at') 0 0).2.1) (acc ++ [(vrd (b.drop at') 0 0).1]) (by omega) (by omega) (by simp; omega)
        rw [← List.drop_drop] at ih
        generalize vall k ((b.drop at').drop (vrd (b.drop at') 0 0).2.1) = p at ih
        simp only [he, ne_eq, not_true_eq_false, if_false]
        rcases ih with ⟨e1, e2⟩ | ⟨e1, a, e2⟩
        · left
          rw [e2]
          simp [e1]
        · right
          rw [e2]
          simp [e1]
      · have ho : vout at' (vrd (b.drop at') 0 0) = (0, 0, (vrd (b.drop at') 0 0).2.2) := by unfold vout; rw [if_neg he]
        rw [ho]
        have hb2 : ((vrd (b.drop at') 0 0).2.2 != 0) = true := by simpa using he
        simp only [hy, yz, hb2, if_true, Option.bind_some, Sum.elim_inr]
        right
        simp [he]
    · have h1 : ¬ ((at' : Int) < (b.length : Int)) := by omega
      simp only [h1, decide_false, Bool.false_eq_true, if_false]
      rw [if_pos (List.drop_eq_nil_of_le (by omega))]
      left
      simp
theorem qij : ∀ (k k' : Nat) (s : List Int), U8s s → s.length < k → s.length < k' → vall k s = vall k' s
  | 0, _, s, _, h, _ => by omega
  | _ + 1, 0, s, _, _, h => by omega
  | k + 1, k' + 1, s, hu, h, h' => by
    unfold vall
    by_cases hs : s = []
    · rw [if_pos hs, if_pos hs]
    · rw [if_neg hs, if_neg hs]
      by_cases h1 : (vrd s 0 0).2.2 ≠ 0
      · rw [if_pos h1, if_pos h1]
      · have hc := qnO hu (by simpa using h1)
        have : vall k (s.drop (vrd s 0 0).2.1) = vall k' (s.drop (vrd s 0 0).2.1) := qij k k' _ (hu.vdrop _) (by rw [List.length_drop]; omega) (by rw [List.length_drop]; omega)
        rw [if_neg h1, if_neg h1, this]
theorem qpP {F : Nat} (hF : 5000 ≤ F) {b : List Int} (hb : U8s b) : qby F b = some (vallr b) := by
  unfold qby vallr
  by_cases hl : 4096 < b.length
  · have : (4096 : Int) < (b.length : Int) := by omega
    simp [this, hl]
  · have h1 : ¬ (4096 : Int) < (b.length : Int) := by omega
    simp only [h1, decide_false, Bool.false_eq_true, if_false, hl, qdi, Option.bind_some, qcl]
    have := ql3 (F := F) (by omega) (yy := fun (x57 : List Int) ((x71, x72) : (Int × Int)) => yz F x57 x71 x72) (fun _ _ => rfl) hb (by omega) F 0 [] (by omega) (by omega) (by simp; omega)
    rw [List.drop_zero, qij F (b.length + 1) b hb (by omega) (by omega), show ((0 : Nat) : Int) = 0 from rfl] at this
    rcases this with ⟨e1, e2⟩ | ⟨e1, a, e2⟩
    · rw [e2]
      simp only [Option.bind_some, Sum.elim_inl, List.nil_append]
      rw [← e1]
    · rw [e2]
      have := qoI _ _ e1
      simp only [Option.bind_some, Sum.elim_inr]
      rw [← this]
theorem qkp : ∀ (k : Nat) (s : List Int), (vall k s).1.length ≤ k
  | 0, s => by simp [vall]
  | k + 1, s => by
    have ih := qkp k (s.drop (vrd s 0 0).2.1)
    unfold vall
    split
    · simp
    · split
      · simp
      · split
        · simp
        · simp; omega
theorem qmP (b : List Int) : (vallr b).1.length ≤ 4097 := by
  unfold vallr
  split
  · simp
  · have := qkp (b.length + 1) b
    omega
theorem qoJ (b : List Int) : (vfin b).1.length ≤ 4096 := by
  unfold vfin
  split
  · simp
  · simp only; omega
theorem qqA {m : Int} {b : List Int} {n w : Int} : (pt m b n w).2.1.length ≤ 1024 := by
  unfold pt
  by_cases h : putOf m b n w = 0
  · rw [if_neg (by simp [h])]
    unfold putOf at h
    by_cases hc : chkOf m b = 0
    · obtain ⟨k, rfl, ob⟩ := vG hc
      rw [if_neg (by simp [hc])] at h
      split at h
      · simp at h
      · split at h
        · simp at h
        · simp only [qcT, List.length_append, yN, qfP]
          omega
    · rw [if_pos hc] at h; exact absurd h hc
  · rw [if_pos h]; simp
theorem qqq {n m : Int} {a b : List Int} : (jn n a m b).2.1.length ≤ 1024 := by
  unfold jn
  by_cases h : joinOf n a m b = 0
  · rw [if_neg (by simp [h])]
    unfold joinOf at h
    by_cases hc : chkOf n a = 0
    · by_cases hd : chkOf m b = 0
      · obtain ⟨k, rfl, _⟩ := vG hc
        obtain ⟨k', rfl, _⟩ := vG hd
        rw [if_neg (by simp [hc]), if_neg (by simp [hd])] at h
        split at h
        · simp at h
        · simp only [qcT, List.length_append, yN]
          omega
      · rw [if_neg (by simp [hc]), if_pos hd] at h; exact absurd h hd
    · rw [if_pos hc] at h; exact absurd h hc
  · rw [if_pos h]; simp
theorem qqd {n i j : Int} {b : List Int} : (ct n b i j).2.1.length ≤ 1024 := by
  unfold ct
  by_cases h : cutOf n b i j = 0
  · rw [if_neg (by simp [h])]
    unfold cutOf at h
    by_cases hc : chkOf n b = 0
    · obtain ⟨k, rfl, ob⟩ := vG hc
      have := ob.max
      rw [if_neg (by simp [hc])] at h
      split at h
      · simp at h
      · simp only [qcT, List.length_drop, yN]
        omega
    · rw [if_pos hc] at h; exact absurd h hc
  · rw [if_pos h]; simp
theorem qqP {l : List Int} : (um l).2.1.length ≤ 1024 := by
  unfold um
  split
  · simp
  · split
    · simp
    · rename_i h
      simp only [qcT]
      unfold tot at h
      omega
theorem qnd {n : Int} : (ec ga n).2.1.length ≤ 1024 := by
  unfold ec
  split
  · simp
  · have := @qnE n.toNat (by omega)
    simp only [qcT, qqj]
    omega
theorem qqm {n m : Int} (hn : 0 ≤ n) : (go n m).2.1.length ≤ 1034 := by
  unfold go
  split
  · rename_i h
    obtain ⟨h1, h2, h3⟩ := h
    have := h1
    unfold Rt at this
    have := @qnB (n.toNat % m.toNat) m.toNat (by omega)
    obtain ⟨n, rfl⟩ := Int.eq_ofNat_of_zero_le hn
    obtain ⟨m, rfl⟩ := Int.eq_ofNat_of_zero_le (by omega : 0 ≤ m)
    simp only [ok3, qcT, qqk, Int.toNat_natCast] at this ⊢
    have e : ((n : Int) / (m : Int)) = ((n / m : Nat) : Int) := (Int.natCast_ediv n m).symm
    rw [e] at h3
    omega
  · simp
theorem qoX {n : Nat} : (fcd n).2.1.length ≤ 1024 := by
  unfold fcd
  split
  · simp
  · obtain ⟨k, _, h, _⟩ := qlZ (n := n) (by omega)
    simp only [qcT, qqh]
    omega
theorem qnh {n : Nat} : (fprt n).1.length ≤ 64 := by
  unfold fprt
  split
  · simp
  · simp only [qdK]; exact qnn _ _
theorem qqN {m k : Int} {b : List Int} : (ua m b k).1.length ≤ 8192 := by
  unfold ua
  by_cases h : uaOf m b k = 0
  · rw [if_neg (by simp [h])]
    unfold uaOf at h
    by_cases hc : chkOf m b = 0
    · rw [if_neg (by simp [hc])] at h
      split at h
      · simp at h
      · unfold uaR
        split
        · simp
        · rename_i p hp
          have := (qnM _ _ hp).1
          simp only
          omega
    · rw [if_pos hc] at h; exact absurd h hc
  · rw [if_pos h]; simp
end Go.Proofs.YtmoikolponkmpaaGreat
