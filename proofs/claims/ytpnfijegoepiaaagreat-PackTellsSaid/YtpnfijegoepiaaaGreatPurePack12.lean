/- Plain facts of what the functions of this seat compute. -/
import Derived.Test.YtpnfijegoepiaaaGreatModels
import Derived.KernelRfl
import Derived.Lib.SlicesCompact
namespace Go.Proofs.YtpnfijegoepiaaaGreat
open Go SX
variable {F : Nat} {rec68 : (List (Int × Int) × List Int × Int) → Option (List (Int × Int) × List Int)} {l : List Int} {least : Int} {o : List (Int × Int)} {rest : List Int} {i : Int}
def byt (l : List Int) (k : Nat) : Int :=
  l.getD (8 * k) 0 * 128 + l.getD (8 * k + 1) 0 * 64 + l.getD (8 * k + 2) 0 * 32 + l.getD (8 * k + 3) 0 * 16 + l.getD (8 * k + 4) 0 * 8 + l.getD (8 * k + 5) 0 * 4 + l.getD (8 * k + 6) 0 * 2 + l.getD (8 * k + 7) 0
def pk (l : List Int) : List Int := (List.range ((l.length + 7) / 8)).map (byt l)
def Bit (l : List Int) : Prop := ∀ x ∈ l, x = 0 ∨ x = 1
theorem Bit.getD {l : List Int} (h : Bit l) (i : Nat) : l.getD i 0 = 0 ∨ l.getD i 0 = 1 := by
  by_cases hi : i < l.length
  · have := h l[i] (List.getElem_mem hi)
    simpa [List.getD, hi] using this
  · left
    simp [List.getD, List.getElem?_eq_none (Nat.le_of_not_lt hi)]
theorem jN {l : List Int} {i : Nat} (h : l.length ≤ i) : l.getD i 0 = 0 := by simp [List.getD, List.getElem?_eq_none h]
theorem qjA (l : List Int) (x : Int) (i : Nat) : (l ++ [x]).getD i 0 = if i = l.length then x else l.getD i 0 := by
  by_cases h : i = l.length
  · subst h; simp [List.getD]
  · rw [if_neg h]
    by_cases h2 : i < l.length
    · simp [List.getD, List.getElem?_append_left h2]
    · rw [jN (by simp; omega), jN (by omega)]
theorem qfI {l : List Int} (h : Bit l) (k : Nat) : 0 ≤ byt l k ∧ byt l k < 256 := by
  have h0 := h.getD (8 * k); have h1 := h.getD (8 * k + 1); have h2 := h.getD (8 * k + 2); have h3 := h.getD (8 * k + 3)
  have h4 := h.getD (8 * k + 4); have h5 := h.getD (8 * k + 5); have h6 := h.getD (8 * k + 6); have h7 := h.getD (8 * k + 7)
  unfold byt
  omega
theorem qh0 {l : List Int} {x : Int} {k : Nat} (h : k ≠ l.length / 8) : byt (l ++ [x]) k = byt l k := by
  unfold byt
  simp only [qjA]
  rw [if_neg (by omega), if_neg (by omega), if_neg (by omega), if_neg (by omega), if_neg (by omega), if_neg (by omega), if_neg (by omega), if_neg (by omega)]
theorem qlS {l : List Int} {x : Int} : byt (l ++ [x]) (l.length / 8) = byt l (l.length / 8) + x * 2 ^ (7 - l.length % 8) := by
  obtain ⟨k, hk⟩ : ∃ k, k = l.length / 8 := ⟨_, rfl⟩
  obtain ⟨r, hr⟩ : ∃ r, r = l.length % 8 := ⟨_, rfl⟩
  have hl : l.length = 8 * k + r := by omega
  have hr8 : r < 8 := by omega
  rw [← hk, ← hr]
  unfold byt
  simp only [qjA, hl]
  have hg : ∀ j, r ≤ j → l.getD (8 * k + j) 0 = 0 := fun j hj => jN (by omega)
  have g0 := hg 0; have g1 := hg 1; have g2 := hg 2; have g3 := hg 3; have g4 := hg 4; have g5 := hg 5; have g6 := hg 6; have g7 := hg 7
  rw [Nat.add_zero] at g0
  rcases (by omega : r = 0 ∨ r = 1 ∨ r = 2 ∨ r = 3 ∨ r = 4 ∨ r = 5 ∨ r = 6 ∨ r = 7) with rfl | rfl | rfl | rfl | rfl | rfl | rfl | rfl
  · rw [show (2 : Int) ^ (7 - 0) = 128 from by decide]
    rw [if_pos (by omega), if_neg (by omega), if_neg (by omega), if_neg (by omega), if_neg (by omega), if_neg (by omega), if_neg (by omega), if_neg (by omega)]
    have e0 := g0 (by omega)
    have e1 := g1 (by omega)
    have e2 := g2 (by omega)
    have e3 := g3 (by omega)
    have e4 := g4 (by omega)
    have e5 := g5 (by omega)
    have e6 := g6 (by omega)
    have e7 := g7 (by omega)
    omega
  · rw [show (2 : Int) ^ (7 - 1) = 64 from by decide]
    rw [if_neg (by omega), if_pos (by omega), if_neg (by omega), if_neg (by omega), if_neg (by omega), if_neg (by omega), if_neg (by omega), if_neg (by omega)]
    have e1 := g1 (by omega)
    have e2 := g2 (by omega)
    have e3 := g3 (by omega)
    have e4 := g4 (by omega)
    have e5 := g5 (by omega)
    have e6 := g6 (by omega)
    have e7 := g7 (by omega)
    omega
  · rw [show (2 : Int) ^ (7 - 2) = 32 from by decide]
    rw [if_neg (by omega), if_neg (by omega), if_pos (by omega), if_neg (by omega), if_neg (by omega), if_neg (by omega), if_neg (by omega), if_neg (by omega)]
    have e2 := g2 (by omega)
    have e3 := g3 (by omega)
    have e4 := g4 (by omega)
    have e5 := g5 (by omega)
    have e6 := g6 (by omega)
    have e7 := g7 (by omega)
    omega
  · rw [show (2 : Int) ^ (7 - 3) = 16 from by decide]
    rw [if_neg (by omega), if_neg (by omega), if_neg (by omega), if_pos (by omega), if_neg (by omega), if_neg (by omega), if_neg (by omega), if_neg (by omega)]
    have e3 := g3 (by omega)
    have e4 := g4 (by omega)
    have e5 := g5 (by omega)
    have e6 := g6 (by omega)
    have e7 := g7 (by omega)
    omega
  · rw [show (2 : Int) ^ (7 - 4) = 8 from by decide]
    rw [if_neg (by omega), if_neg (by omega), if_neg (by omega), if_neg (by omega), if_pos (by omega), if_neg (by omega), if_neg (by omega), if_neg (by omega)]
    have e4 := g4 (by omega)
    have e5 := g5 (by omega)
    have e6 := g6 (by omega)
    have e7 := g7 (by omega)
    omega
  · rw [show (2 : Int) ^ (7 - 5) = 4 from by decide]
    rw [if_neg (by omega), if_neg (by omega), if_neg (by omega), if_neg (by omega), if_neg (by omega), if_pos (by omega), if_neg (by omega), if_neg (by omega)]
    have e5 := g5 (by omega)
    have e6 := g6 (by omega)
    have e7 := g7 (by omega)
    omega
  · rw [show (2 : Int) ^ (7 - 6) = 2 from by decide]
    rw [if_neg (by omega), if_neg (by omega), if_neg (by omega), if_neg (by omega), if_neg (by omega), if_neg (by omega), if_pos (by omega), if_neg (by omega)]
    have e6 := g6 (by omega)
    have e7 := g7 (by omega)
    omega
  · rw [show (2 : Int) ^ (7 - 7) = 1 from by decide]
    rw [if_neg (by omega), if_neg (by omega), if_neg (by omega), if_neg (by omega), if_neg (by omega), if_neg (by omega), if_neg (by omega), if_pos (by omega)]
    have e7 := g7 (by omega)
    omega
theorem irem8 (n : Nat) : irem (n : Int) 8 = ((n % 8 : Nat) : Int) := by
  unfold irem; rw [Int.tmod_eq_emod_of_nonneg (by omega)]; omega
theorem iquo8 {n : Nat} (h : n ≤ 9223372036854775807) : iquo .i64 (n : Int) 8 = ((n / 8 : Nat) : Int) := by
  unfold iquo; rw [Int.tdiv_eq_ediv_of_nonneg (by omega), q4 (by omega) (by omega)]; omega
theorem qnS {l : List Int} : byt l (l.length / 8) % 2 ^ (8 - l.length % 8) = 0 := by
  obtain ⟨k, hk⟩ : ∃ k, k = l.length / 8 := ⟨_, rfl⟩
  obtain ⟨r, hr⟩ : ∃ r, r = l.length % 8 := ⟨_, rfl⟩
  have hl : l.length = 8 * k + r := by omega
  have hr8 : r < 8 := by omega
  rw [← hk, ← hr]
  unfold byt
  have hg : ∀ j, r ≤ j → l.getD (8 * k + j) 0 = 0 := fun j hj => jN (by omega)
  have g0 := hg 0; have g1 := hg 1; have g2 := hg 2; have g3 := hg 3; have g4 := hg 4; have g5 := hg 5; have g6 := hg 6; have g7 := hg 7
  rw [Nat.add_zero] at g0
  rcases (by omega : r = 0 ∨ r = 1 ∨ r = 2 ∨ r = 3 ∨ r = 4 ∨ r = 5 ∨ r = 6 ∨ r = 7) with rfl | rfl | rfl | rfl | rfl | rfl | rfl | rfl
  · have e0 := g0 (by omega); have e1 := g1 (by omega); have e2 := g2 (by omega); have e3 := g3 (by omega); have e4 := g4 (by omega); have e5 := g5 (by omega); have e6 := g6 (by omega); have e7 := g7 (by omega)
    rw [show (2 : Int) ^ (8 - 0) = 256 from by decide]; omega
  · have e1 := g1 (by omega); have e2 := g2 (by omega); have e3 := g3 (by omega); have e4 := g4 (by omega); have e5 := g5 (by omega); have e6 := g6 (by omega); have e7 := g7 (by omega)
    rw [show (2 : Int) ^ (8 - 1) = 128 from by decide]; omega
  · have e2 := g2 (by omega); have e3 := g3 (by omega); have e4 := g4 (by omega); have e5 := g5 (by omega); have e6 := g6 (by omega); have e7 := g7 (by omega)
    rw [show (2 : Int) ^ (8 - 2) = 64 from by decide]; omega
  · have e3 := g3 (by omega); have e4 := g4 (by omega); have e5 := g5 (by omega); have e6 := g6 (by omega); have e7 := g7 (by omega)
    rw [show (2 : Int) ^ (8 - 3) = 32 from by decide]; omega
  · have e4 := g4 (by omega); have e5 := g5 (by omega); have e6 := g6 (by omega); have e7 := g7 (by omega)
    rw [show (2 : Int) ^ (8 - 4) = 16 from by decide]; omega
  · have e5 := g5 (by omega); have e6 := g6 (by omega); have e7 := g7 (by omega)
    rw [show (2 : Int) ^ (8 - 5) = 8 from by decide]; omega
  · have e6 := g6 (by omega); have e7 := g7 (by omega)
    rw [show (2 : Int) ^ (8 - 6) = 4 from by decide]; omega
  · have e7 := g7 (by omega)
    rw [show (2 : Int) ^ (8 - 7) = 2 from by decide]; omega
theorem qry {l : List Int} (h : l.length % 8 = 0) : byt l (l.length / 8) = 0 := by
  unfold byt
  rw [jN (by omega), jN (by omega), jN (by omega), jN (by omega), jN (by omega), jN (by omega), jN (by omega), jN (by omega)]
  rfl
theorem ql6 (k : IntKind) (a b : Int) : ior k a b = ior k b a := by unfold ior; rw [BitVec.or_comm]
def room (l : List Int) : List Int := (List.range (l.length / 8 + 1)).map (byt l)
theorem qox {F : Nat} {l : List Int} (hl : Bit l) {x : Int} (hx : x = 0 ∨ x = 1) (hn : l.length ≤ 1000000) : kZ F (l.length : Int) x (room l) = some (((l.length + 1 : Nat) : Int), pk (l ++ [x])) := by
  unfold kZ
  rw [iquo8 (by omega), irem8]
  have hg : (room l)[l.length / 8]? = some (byt l (l.length / 8)) := by simp [room]
  rw [qs, hg]
  simp only [Option.bind_some]
  have hc : decide ((0 : Int) ≤ ((l.length % 8 : Nat) : Int)) = true := decide_eq_true (by omega)
  rw [hc]
  simp only [chk, if_true, lett, Int.toNat_natCast]
  have hb := qfI hl (l.length / 8)
  have hr8 : l.length % 8 < 8 := Nat.mod_lt _ (by decide)
  have e1 : ishl .u64 x 7 = x * 128 := by
    have := qib (a := x) (m := 7) (by decide)
    rw [show ((7 : Nat) : Int) = 7 from rfl] at this
    rw [this]
    rcases hx with rfl | rfl <;> decide
  have e2 : iconv .u8 (x * 128) = x * 128 := qoI (by omega) (by omega)
  have e3 : ishr .u8 (x * 128) ((l.length % 8 : Nat) : Int) = x * 2 ^ (7 - l.length % 8) := by
    rw [qgK (by simp only [IntKind.bits]; omega)]
    have key : ∀ r : Fin 8, ((0 : Int) * 128 / 2 ^ r.val = 0 * 2 ^ (7 - r.val)) ∧ ((1 : Int) * 128 / 2 ^ r.val = 1 * 2 ^ (7 - r.val)) := by decide
    have := key ⟨l.length % 8, hr8⟩
    rcases hx with rfl | rfl
    · exact this.1
    · exact this.2
  have key2 : ∀ r : Fin 8, (1 : Int) ≤ 2 ^ (7 - r.val) ∧ (2 : Int) ^ (8 - r.val) = 2 * 2 ^ (7 - r.val) ∧ (2 : Int) ^ (7 - r.val) ≤ 128 ∧ (256 : Int) % 2 ^ (8 - r.val) = 0 ∧ (2 : Int) ^ (8 - r.val) ≤ 256 := by decide
  have hk2 := key2 ⟨l.length % 8, hr8⟩
  simp only at hk2
  have hat := qlS (l := l) (x := x)
  have hb2 : Bit (l ++ [x]) := by
    intro y hy
    rcases List.mem_append.1 hy with h | h
    · exact hl y h
    · simp at h; subst h; exact hx
  have hbb := qfI hb2 (l.length / 8)
  have e4 : ior .u8 (byt l (l.length / 8)) (x * 2 ^ (7 - l.length % 8)) = byt (l ++ [x]) (l.length / 8) := by
    rw [ql6, qn8 (m := 8 - l.length % 8) ?_ ?_ hb.1 qnS rfl ?_]
    · rw [hat]; omega
    · rcases hx with rfl | rfl <;> omega
    · rcases hx with rfl | rfl <;> omega
    · simp only [IntKind.bits]
      rw [show (2 : Int) ^ 8 = 256 from by decide]
      omega
  rw [e1, e2, e3, e4, qr (by omega) (by omega)]
  congr 2
  unfold room pk
  have hlen : ((l ++ [x]).length + 7) / 8 = l.length / 8 + 1 := by simp; omega
  rw [hlen]
  apply List.ext_getElem?
  intro k
  rw [List.getElem?_set]
  by_cases hk : l.length / 8 = k
  · subst hk; simp
  · rw [if_neg hk]
    simp only [List.getElem?_map]
    by_cases h3 : k < l.length / 8 + 1
    · rw [List.getElem?_range h3]
      simp only [Option.map_some]
      rw [qh0 (fun e => hk e.symm)]
    · rw [List.getElem?_eq_none (by simpa using h3)]
      rfl
theorem qpA {F : Nat} {l : List Int} (hl : Bit l) {x : Int} (hx : x = 0 ∨ x = 1) (hn : l.length ≤ 1000000) : vx F (l.length : Int) (pk l) x = some (((l.length + 1 : Nat) : Int), pk (l ++ [x])) := by
  unfold vx
  rw [irem8]
  by_cases h : l.length % 8 = 0
  · have h1 : ((((l.length % 8 : Nat) : Int) : Int) == 0) = true := by simp [h]
    simp only [h1, if_true]
    rw [qQ (by simp [pk]; omega)]
    simp only [Option.bind_some]
    have : pk l ++ [0] = room l := by
      unfold pk room
      rw [show (l.length + 7) / 8 = l.length / 8 from by omega, List.range_succ, List.map_append]
      simp [qry h]
    rw [this]
    exact qox hl hx hn
  · have h1 : ((((l.length % 8 : Nat) : Int) : Int) == 0) = false := by simp; omega
    simp only [h1, Bool.false_eq_true, if_false]
    have : pk l = room l := by
      unfold pk room
      rw [show (l.length + 7) / 8 = l.length / 8 + 1 from by omega]
    rw [this]
    exact qox hl hx hn
def bitAt (b : List Int) (i : Nat) : Int := b.getD (i / 8) 0 / 2 ^ (7 - i % 8) % 2
def bl (b : List Int) (n : Nat) : List Int := (List.range n).map (bitAt b)
theorem qg8 (b : List Int) (i : Nat) : bitAt b i = 0 ∨ bitAt b i = 1 := by unfold bitAt; omega
theorem qmY (b : List Int) (n : Nat) : Bit (bl b n) := by
  intro x hx
  obtain ⟨i, _, rfl⟩ := List.mem_map.1 hx
  exact qg8 b i
theorem jn (b : List Int) (n : Nat) : (bl b n).length = n := by simp [bl]
def U8s (l : List Int) : Prop := ∀ n ∈ l, 0 ≤ n ∧ n < 256
theorem qpx {F : Nat} {n : Int} {b : List Int} (hb : U8s b) {i : Nat} (hi : i / 8 < b.length) (hm : i ≤ 1000000) : qba F n b (i : Int) = some (bitAt b i) := by
  unfold qba
  rw [iquo8 (by omega), irem8, qs]
  have hg : b[i / 8]? = some b[i / 8] := by simp [hi]
  rw [hg]
  simp only [Option.bind_some]
  have e1 : isub .i64 7 ((i % 8 : Nat) : Int) = ((7 - i % 8 : Nat) : Int) := by rw [qx (by omega) (by omega)]; omega
  rw [e1]
  have hc : decide ((0 : Int) ≤ ((7 - i % 8 : Nat) : Int)) = true := decide_eq_true (by omega)
  rw [hc]
  simp only [chk, if_true, lett]
  have hx := hb b[i / 8] (List.getElem_mem hi)
  rw [qgK (by simp only [IntKind.bits]; omega)]
  have hp : (1 : Int) ≤ 2 ^ (7 - i % 8) := by
    have key : ∀ r : Fin 8, (1 : Int) ≤ 2 ^ (7 - r.val) := by decide
    exact key ⟨i % 8, Nat.mod_lt _ (by decide)⟩
  have h1 : 0 ≤ b[i / 8] / 2 ^ (7 - i % 8) := Int.ediv_nonneg hx.1 (by omega)
  have h2 : b[i / 8] / 2 ^ (7 - i % 8) ≤ b[i / 8] := Int.ediv_le_self _ hx.1
  have e2 : iconv .u64 (b[i / 8] / 2 ^ (7 - i % 8)) = b[i / 8] / 2 ^ (7 - i % 8) := zr h1 (by omega)
  rw [e2]
  have e3 := qfK (k := .u64) (a := b[i / 8] / 2 ^ (7 - i % 8)) (m := 1) h1 (by simp only [IntKind.bits]; rw [show (2 : Int) ^ 64 = 18446744073709551616 from by decide]; omega) (by decide) rfl
  rw [show ((2 ^ 1 - 1 : Nat) : Int) = 1 from rfl, show (2 : Int) ^ 1 = 2 from rfl] at e3
  rw [e3]
  unfold bitAt
  simp [List.getD, hg]
theorem qrv (b : List Int) (n : Nat) : bl b (n + 1) = bl b n ++ [bitAt b n] := by simp [bl, List.range_succ]
theorem qmg {F : Nat} {n : Int} {b : List Int} (hb : U8s b) {yy : (Int × List Int) → Int → Option ((Int × List Int) ⊕ Empty)} (hy : ∀ (l : List Int) x, Bit l → (x = 0 ∨ x = 1) → l.length ≤ 100000 → yy ((l.length : Int), pk l) x = some (.inl (((l.length + 1 : Nat) : Int), pk (l ++ [x])))) {to : Nat} (ht : to ≤ 8 * b.length) (hm : to ≤ 10000) :
    ∀ (k i : Nat) (l : List Int), to < k + i → i ≤ to → Bit l → l.length + (to - i) ≤ 100000 →
      zN F yy (to : Int) n b k ((i : Int), ((l.length : Int), pk l)) = some (.inl (((l.length + (to - i) : Nat) : Int), pk (l ++ (bl b to).drop i)))
  | 0, i, l, h, hi, _, _ => by omega
  | k + 1, i, l, h, hi, hl, hc => by
    have hstep : zN F yy (to : Int) n b (k + 1) ((i : Int), ((l.length : Int), pk l)) = jF F yy (to : Int) n b (zN F yy (to : Int) n b k) (i : Int) ((l.length : Int), pk l) := rfl
    rw [hstep]
    unfold jF
    by_cases hlt : i < to
    · have h1 : (i : Int) < (to : Int) := by omega
      simp only [h1, decide_true, if_true]
      rw [qpx hb (by omega) (by omega)]
      simp only [Option.bind_some]
      have hx := qg8 b i
      rw [hy l _ hl hx (by omega)]
      simp only [Option.bind_some, Sum.elim_inl]
      rw [qr (by omega) (by omega), show (i : Int) + 1 = ((i + 1 : Nat) : Int) from by omega]
      have hl2 : Bit (l ++ [bitAt b i]) := by
        intro y hy2
        rcases List.mem_append.1 hy2 with h | h
        · exact hl y h
        · simp at h; subst h; exact hx
      have := qmg (F := F) (n := n) hb hy ht hm k (i + 1) (l ++ [bitAt b i]) (by omega) (by omega) hl2 (by simp; omega)
      rw [show (l ++ [bitAt b i]).length = l.length + 1 from by simp] at this
      rw [this]
      have hd : (bl b to).drop i = bitAt b i :: (bl b to).drop (i + 1) := by
        rw [List.drop_eq_getElem_cons (by rw [jn]; exact hlt)]
        congr 1
        simp [bl]
      rw [hd, List.append_assoc, show l.length + 1 + (to - (i + 1)) = l.length + (to - i) from by omega]
      rfl
    · have h1 : ¬ (i : Int) < (to : Int) := by omega
      simp only [h1, decide_false, Bool.false_eq_true, if_false]
      rw [List.drop_eq_nil_of_le (by rw [jn]; omega), List.append_nil, show l.length + (to - i) = l.length from by omega]
structure Ok (n : Nat) (b : List Int) : Prop where
  max : n ≤ 8192
  len : b.length = (n + 7) / 8
  low : n % 8 ≠ 0 → b.getD (n / 8) 0 % 2 ^ (8 - n % 8) = 0
theorem qru {b : List Int} {n i : Nat} : (bl b n).getD i 0 = if i < n then bitAt b i else 0 := by
  by_cases h : i < n
  · rw [if_pos h]; simp [bl, List.getD, h]
  · rw [if_neg h]; exact jN (by rw [jn]; omega)
theorem bits8 {x : Int} (h0 : 0 ≤ x) (h1 : x < 256) : x / 128 % 2 * 128 + x / 64 % 2 * 64 + x / 32 % 2 * 32 + x / 16 % 2 * 16 + x / 8 % 2 * 8 + x / 4 % 2 * 4 + x / 2 % 2 * 2 + x / 1 % 2 = x := by omega
theorem qkD (b : List Int) (k : Nat) : bitAt b (8 * k) = b.getD k 0 / 128 % 2 ∧ bitAt b (8 * k + 1) = b.getD k 0 / 64 % 2 ∧ bitAt b (8 * k + 2) = b.getD k 0 / 32 % 2 ∧ bitAt b (8 * k + 3) = b.getD k 0 / 16 % 2 ∧
    bitAt b (8 * k + 4) = b.getD k 0 / 8 % 2 ∧ bitAt b (8 * k + 5) = b.getD k 0 / 4 % 2 ∧ bitAt b (8 * k + 6) = b.getD k 0 / 2 % 2 ∧ bitAt b (8 * k + 7) = b.getD k 0 / 1 % 2 := by
  unfold bitAt
  rw [show 8 * k / 8 = k from by omega, show (8 * k + 1) / 8 = k from by omega, show (8 * k + 2) / 8 = k from by omega, show (8 * k + 3) / 8 = k from by omega, show (8 * k + 4) / 8 = k from by omega, show (8 * k + 5) / 8 = k from by omega, show (8 * k + 6) / 8 = k from by omega, show (8 * k + 7) / 8 = k from by omega,
    show 8 * k % 8 = 0 from by omega, show (8 * k + 1) % 8 = 1 from by omega, show (8 * k + 2) % 8 = 2 from by omega, show (8 * k + 3) % 8 = 3 from by omega, show (8 * k + 4) % 8 = 4 from by omega, show (8 * k + 5) % 8 = 5 from by omega, show (8 * k + 6) % 8 = 6 from by omega, show (8 * k + 7) % 8 = 7 from by omega]
  exact ⟨rfl, rfl, rfl, rfl, rfl, rfl, rfl, rfl⟩
theorem qsT {n : Nat} {b : List Int} (hb : U8s b) (h : Ok n b) {k : Nat} (hk : k < (n + 7) / 8) : byt (bl b n) k = b.getD k 0 := by
  have hx : 0 ≤ b.getD k 0 ∧ b.getD k 0 < 256 := by
    have hlt : k < b.length := by rw [h.len]; exact hk
    have := hb b[k] (List.getElem_mem hlt)
    simpa [List.getD, hlt] using this
  obtain ⟨c0, c1, c2, c3, c4, c5, c6, c7⟩ := qkD b k
  unfold byt
  simp only [qru]
  rw [c0, c1, c2, c3, c4, c5, c6, c7]
  by_cases hf : 8 * k + 8 ≤ n
  · rw [if_pos (by omega), if_pos (by omega), if_pos (by omega), if_pos (by omega), if_pos (by omega), if_pos (by omega), if_pos (by omega), if_pos (by omega)]
    exact bits8 hx.1 hx.2
  · have hkn : n / 8 = k := by omega
    obtain ⟨r, hr⟩ : ∃ r, r = n % 8 := ⟨_, rfl⟩
    have hn : n = 8 * k + r := by omega
    have hlow := h.low (by omega)
    rw [hkn, ← hr] at hlow
    generalize b.getD k 0 = x at hx hlow
    rcases (by omega : r = 1 ∨ r = 2 ∨ r = 3 ∨ r = 4 ∨ r = 5 ∨ r = 6 ∨ r = 7) with rfl | rfl | rfl | rfl | rfl | rfl | rfl
    · rw [if_pos (by omega), if_neg (by omega), if_neg (by omega), if_neg (by omega), if_neg (by omega), if_neg (by omega), if_neg (by omega), if_neg (by omega)]
      rw [show (2 : Int) ^ (8 - 1) = 128 from by decide] at hlow
      omega
    · rw [if_pos (by omega), if_pos (by omega), if_neg (by omega), if_neg (by omega), if_neg (by omega), if_neg (by omega), if_neg (by omega), if_neg (by omega)]
      rw [show (2 : Int) ^ (8 - 2) = 64 from by decide] at hlow
      omega
    · rw [if_pos (by omega), if_pos (by omega), if_pos (by omega), if_neg (by omega), if_neg (by omega), if_neg (by omega), if_neg (by omega), if_neg (by omega)]
      rw [show (2 : Int) ^ (8 - 3) = 32 from by decide] at hlow
      omega
    · rw [if_pos (by omega), if_pos (by omega), if_pos (by omega), if_pos (by omega), if_neg (by omega), if_neg (by omega), if_neg (by omega), if_neg (by omega)]
      rw [show (2 : Int) ^ (8 - 4) = 16 from by decide] at hlow
      omega
    · rw [if_pos (by omega), if_pos (by omega), if_pos (by omega), if_pos (by omega), if_pos (by omega), if_neg (by omega), if_neg (by omega), if_neg (by omega)]
      rw [show (2 : Int) ^ (8 - 5) = 8 from by decide] at hlow
      omega
    · rw [if_pos (by omega), if_pos (by omega), if_pos (by omega), if_pos (by omega), if_pos (by omega), if_pos (by omega), if_neg (by omega), if_neg (by omega)]
      rw [show (2 : Int) ^ (8 - 6) = 4 from by decide] at hlow
      omega
    · rw [if_pos (by omega), if_pos (by omega), if_pos (by omega), if_pos (by omega), if_pos (by omega), if_pos (by omega), if_pos (by omega), if_neg (by omega)]
      rw [show (2 : Int) ^ (8 - 7) = 2 from by decide] at hlow
      omega
theorem qqj {n : Nat} {b : List Int} (hb : U8s b) (h : Ok n b) : pk (bl b n) = b := by
  unfold pk
  rw [jn]
  apply List.ext_getElem?
  intro k
  by_cases hk : k < (n + 7) / 8
  · rw [List.getElem?_map, List.getElem?_range hk]
    simp only [Option.map_some]
    rw [qsT hb h hk]
    have hlt : k < b.length := by rw [h.len]; exact hk
    simp [List.getD, hlt]
  · rw [List.getElem?_eq_none (by simpa using hk), List.getElem?_eq_none (by rw [h.len]; omega)]
def chkOf (n : Int) (b : List Int) : Int :=
  if n < 0 ∨ 8192 < n then 3 else if (b.length : Int) ≠ (n + 7) / 8 then 1 else if n % 8 ≠ 0 ∧ b.getD (n.toNat / 8) 0 % 2 ^ (8 - n.toNat % 8) ≠ 0 then 1 else 0
theorem qpG {n : Int} {b : List Int} (h : chkOf n b = 0) : ∃ m : Nat, n = m ∧ Ok m b := by
  unfold chkOf at h
  split at h
  · simp at h
  · rename_i h1
    split at h
    · simp at h
    · rename_i h2
      split at h
      · simp at h
      · rename_i h3
        obtain ⟨m, rfl⟩ := Int.eq_ofNat_of_zero_le (show 0 ≤ n by omega)
        refine ⟨m, rfl, by omega, by omega, fun hm => ?_⟩
        simp only [Int.toNat_natCast] at h3
        by_cases hz : b.getD (m / 8) 0 % 2 ^ (8 - m % 8) = 0
        · exact hz
        · exact absurd ⟨by omega, hz⟩ h3
theorem qpF {F : Nat} {n : Int} {b : List Int} (hb : U8s b) (h1 : -9223372036854775808 ≤ n) (h2 : n < 9223372036854775808) (hm : b.length ≤ 9223372036854775807) : qdt F n b = some (chkOf n b) := by
  unfold qdt chkOf
  by_cases c1 : n < 0 ∨ 8192 < n
  · have : (decide (n < 0) || decide (8192 < n)) = true := by simpa using c1
    rw [if_pos this, if_pos c1]
  · have : (decide (n < 0) || decide (8192 < n)) = false := by simpa using c1
    rw [this, if_neg c1]
    simp only [Bool.false_eq_true, if_false]
    obtain ⟨m, rfl⟩ := Int.eq_ofNat_of_zero_le (show 0 ≤ n by omega)
    have e1 : iquo .i64 (iadd .i64 (m : Int) 7) 8 = ((m : Int) + 7) / 8 := by
      rw [qr (by omega) (by omega), show (m : Int) + 7 = ((m + 7 : Nat) : Int) from by omega, iquo8 (by omega)]
      omega
    rw [e1, irem8]
    by_cases c2 : (b.length : Int) ≠ ((m : Int) + 7) / 8
    · have : ((b.length : Int) != ((m : Int) + 7) / 8) = true := by simpa using c2
      rw [if_pos this, if_pos c2]
    · have : ((b.length : Int) != ((m : Int) + 7) / 8) = false := by simpa using c2
      rw [this, if_neg c2]
      simp only [Bool.false_eq_true, if_false]
      by_cases c3 : m % 8 = 0
      · have : ((((m % 8 : Nat) : Int)) != 0) = false := by simp [c3]
        have hn : ¬ ((m : Int) % 8 ≠ 0 ∧ b.getD ((m : Int).toNat / 8) 0 % 2 ^ (8 - (m : Int).toNat % 8) ≠ 0) := fun h => h.1 (by omega)
        rw [this, if_neg hn]
        simp [jV]
      · have : ((((m % 8 : Nat) : Int)) != 0) = true := by simp; omega
        rw [this]
        simp only [if_true]
        have hlen : b.length = m / 8 + 1 := by omega
        have e2 : isub .i64 (b.length : Int) 1 = ((m / 8 : Nat) : Int) := by rw [qx (by omega) (by omega)]; omega
        have hg : b[m / 8]? = some b[m / 8] := by simp [hlen]
        rw [e2, qs, hg]
        simp only [Option.bind_some]
        have hc : decide ((0 : Int) ≤ ((m % 8 : Nat) : Int)) = true := decide_eq_true (by omega)
        rw [hc]
        simp only [chk, if_true]
        have hx := hb b[m / 8] (List.getElem_mem (by omega))
        have hgd : b.getD (m / 8) 0 = b[m / 8] := by simp [List.getD, hg]
        rw [Int.toNat_natCast, hgd]
        generalize b[m / 8] = x at hx
        have e3 : (ishl .u8 x ((m % 8 : Nat) : Int) != 0) = decide (x % 2 ^ (8 - m % 8) ≠ 0) := by
          have key : ishl .u8 x ((m % 8 : Nat) : Int) = (x * 2 ^ (m % 8)) % 256 := by
            unfold ishl
            have h : min (((m % 8 : Nat) : Int).toNat) (IntKind.bits .u8) = m % 8 := by simp [IntKind.bits]; omega
            rw [h, qmJ]
          rw [key]
          rcases (by omega : m % 8 = 1 ∨ m % 8 = 2 ∨ m % 8 = 3 ∨ m % 8 = 4 ∨ m % 8 = 5 ∨ m % 8 = 6 ∨ m % 8 = 7) with h | h | h | h | h | h | h <;> rw [h]
          · rw [show (2 : Int) ^ 1 = 2 from rfl, show (2 : Int) ^ (8 - 1) = 128 from by decide]; by_cases hz : x % 128 = 0 <;> simp [hz] <;> omega
          · rw [show (2 : Int) ^ 2 = 4 from rfl, show (2 : Int) ^ (8 - 2) = 64 from by decide]; by_cases hz : x % 64 = 0 <;> simp [hz] <;> omega
          · rw [show (2 : Int) ^ 3 = 8 from rfl, show (2 : Int) ^ (8 - 3) = 32 from by decide]; by_cases hz : x % 32 = 0 <;> simp [hz] <;> omega
          · rw [show (2 : Int) ^ 4 = 16 from by decide]; try rw [show (2 : Int) ^ (8 - 4) = 16 from by decide]
            by_cases hz : x % 16 = 0 <;> simp [hz] <;> omega
          · rw [show (2 : Int) ^ 5 = 32 from by decide, show (2 : Int) ^ (8 - 5) = 8 from by decide]; by_cases hz : x % 8 = 0 <;> simp [hz] <;> omega
          · rw [show (2 : Int) ^ 6 = 64 from by decide, show (2 : Int) ^ (8 - 6) = 4 from by decide]; by_cases hz : x % 4 = 0 <;> simp [hz] <;> omega
          · rw [show (2 : Int) ^ 7 = 128 from by decide, show (2 : Int) ^ (8 - 7) = 2 from by decide]; by_cases hz : x % 2 = 0 <;> simp [hz] <;> omega
        rw [e3]
        unfold jV
        by_cases hz : x % 2 ^ (8 - m % 8) = 0
        · rw [if_neg (by simp [hz]), if_neg (by simp [hz])]
        · rw [if_pos (by simp [hz]), if_pos ⟨by omega, hz⟩]
theorem qpH {F : Nat} {x : List Int} (h : x.length ≤ 1000000) : kW F x = some x := by
  unfold kW
  rw [qQ (by simp; omega)]
  rfl
theorem qp9 {F : Nat} {n : Int} {b : List Int} (h : b.length ≤ 1000000) : qdL F n b = some (n, b) := by
  unfold qdL
  rw [qpH h]
  rfl
theorem qkE {F : Nat} (hF : 20000 ≤ F) {n m : Nat} {a b : List Int} (ha : U8s a) (hb : U8s b) (oa : Ok n a) (ob : Ok m b) : jt F n a m b = some (((n + m : Nat) : Int), pk (bl a n ++ bl b m)) := by
  unfold jt
  have hal : a.length ≤ 1000000 := by rw [oa.len]; have := oa.max; omega
  rw [qp9 hal]
  simp only [Option.bind_some, qer, qdm]
  have hm := ob.max
  have hn := oa.max
  have := qmg (F := F) (n := (m : Int)) hb (yy := fun (p : Int × List Int) (x53 : Int) => qaG F p.1 p.2 x53) (fun l x hl hx hlen => by
    simp only [qaG]
    rw [qpA hl hx (by omega)]
    rfl) (to := m) (by rw [ob.len]; omega) (by omega) F 0 (bl a n) (by omega) (by omega) (qmY a n) (by rw [jn]; omega)
  rw [jn, qqj ha oa, List.drop_zero, Nat.sub_zero] at this
  rw [show ((0 : Nat) : Int) = 0 from rfl] at this
  have h2 : zN F (fun (x : Int × List Int) (x53 : Int) => match x with | (x45, x48) => qaG F x45 x48 x53) (m : Int) (m : Int) b F (0, ((n : Int), a)) = some (.inl (((n + m : Nat) : Int), pk (bl a n ++ bl b m))) := this
  rw [h2]
  rfl
def I64 (n : Int) : Prop := -9223372036854775808 ≤ n ∧ n < 9223372036854775808
theorem qol {l : List Int} {k : Nat} (hk : k < (l.length + 7) / 8) : (pk l).getD k 0 = byt l k := by
  unfold pk
  simp [List.getD, hk]
theorem qeJ {l : List Int} (h : Bit l) : U8s (pk l) := by
  intro x hx
  obtain ⟨k, _, rfl⟩ := List.mem_map.1 hx
  exact qfI h k
theorem qe8 (l : List Int) : (pk l).length = (l.length + 7) / 8 := by simp [pk]
theorem qgN {l : List Int} (hm : l.length ≤ 8192) : Ok l.length (pk l) where
  max := hm
  len := qe8 l
  low := fun h => by
    rw [qol (by omega)]
    exact qnS
theorem qlP {l : List Int} (h : Bit l) {i : Nat} (hi : i < l.length) : bitAt (pk l) i = l.getD i 0 := by
  obtain ⟨k, hk⟩ : ∃ k, k = i / 8 := ⟨_, rfl⟩
  obtain ⟨r, hr⟩ : ∃ r, r = i % 8 := ⟨_, rfl⟩
  have hl : i = 8 * k + r := by omega
  have hr8 : r < 8 := by omega
  obtain ⟨c0, c1, c2, c3, c4, c5, c6, c7⟩ := qkD (pk l) k
  have hb : (pk l).getD k 0 = byt l k := qol (by omega)
  rw [hb] at c0 c1 c2 c3 c4 c5 c6 c7
  have hbd : ∀ q, 0 ≤ l.getD q 0 ∧ l.getD q 0 ≤ 1 := fun q => by have := h.getD q; omega
  have h0 := hbd (8 * k); have h1 := hbd (8 * k + 1); have h2 := hbd (8 * k + 2); have h3 := hbd (8 * k + 3)
  have h4 := hbd (8 * k + 4); have h5 := hbd (8 * k + 5); have h6 := hbd (8 * k + 6); have h7 := hbd (8 * k + 7)
  clear hbd hb
  unfold byt at c0 c1 c2 c3 c4 c5 c6 c7
  rcases (by omega : r = 0 ∨ r = 1 ∨ r = 2 ∨ r = 3 ∨ r = 4 ∨ r = 5 ∨ r = 6 ∨ r = 7) with rfl | rfl | rfl | rfl | rfl | rfl | rfl | rfl
  · rw [hl, Nat.add_zero, c0]; clear c0 c1 c2 c3 c4 c5 c6 c7; generalize l.getD (8 * k) 0 = y0 at *; generalize l.getD (8 * k + 1) 0 = y1 at *; generalize l.getD (8 * k + 2) 0 = y2 at *; generalize l.getD (8 * k + 3) 0 = y3 at *; generalize l.getD (8 * k + 4) 0 = y4 at *; generalize l.getD (8 * k + 5) 0 = y5 at *; generalize l.getD (8 * k + 6) 0 = y6 at *; generalize l.getD (8 * k + 7) 0 = y7 at *; clear h hi hl hr hk hr8; omega
  · rw [hl, c1]; clear c0 c1 c2 c3 c4 c5 c6 c7; generalize l.getD (8 * k) 0 = y0 at *; generalize l.getD (8 * k + 1) 0 = y1 at *; generalize l.getD (8 * k + 2) 0 = y2 at *; generalize l.getD (8 * k + 3) 0 = y3 at *; generalize l.getD (8 * k + 4) 0 = y4 at *; generalize l.getD (8 * k + 5) 0 = y5 at *; generalize l.getD (8 * k + 6) 0 = y6 at *; generalize l.getD (8 * k + 7) 0 = y7 at *; clear h hi hl hr hk hr8; omega
  · rw [hl, c2]; clear c0 c1 c2 c3 c4 c5 c6 c7; generalize l.getD (8 * k) 0 = y0 at *; generalize l.getD (8 * k + 1) 0 = y1 at *; generalize l.getD (8 * k + 2) 0 = y2 at *; generalize l.getD (8 * k + 3) 0 = y3 at *; generalize l.getD (8 * k + 4) 0 = y4 at *; generalize l.getD (8 * k + 5) 0 = y5 at *; generalize l.getD (8 * k + 6) 0 = y6 at *; generalize l.getD (8 * k + 7) 0 = y7 at *; clear h hi hl hr hk hr8; omega
  · rw [hl, c3]; clear c0 c1 c2 c3 c4 c5 c6 c7; generalize l.getD (8 * k) 0 = y0 at *; generalize l.getD (8 * k + 1) 0 = y1 at *; generalize l.getD (8 * k + 2) 0 = y2 at *; generalize l.getD (8 * k + 3) 0 = y3 at *; generalize l.getD (8 * k + 4) 0 = y4 at *; generalize l.getD (8 * k + 5) 0 = y5 at *; generalize l.getD (8 * k + 6) 0 = y6 at *; generalize l.getD (8 * k + 7) 0 = y7 at *; clear h hi hl hr hk hr8; omega
  · rw [hl, c4]; clear c0 c1 c2 c3 c4 c5 c6 c7; generalize l.getD (8 * k) 0 = y0 at *; generalize l.getD (8 * k + 1) 0 = y1 at *; generalize l.getD (8 * k + 2) 0 = y2 at *; generalize l.getD (8 * k + 3) 0 = y3 at *; generalize l.getD (8 * k + 4) 0 = y4 at *; generalize l.getD (8 * k + 5) 0 = y5 at *; generalize l.getD (8 * k + 6) 0 = y6 at *; generalize l.getD (8 * k + 7) 0 = y7 at *; clear h hi hl hr hk hr8; omega
  · rw [hl, c5]; clear c0 c1 c2 c3 c4 c5 c6 c7; generalize l.getD (8 * k) 0 = y0 at *; generalize l.getD (8 * k + 1) 0 = y1 at *; generalize l.getD (8 * k + 2) 0 = y2 at *; generalize l.getD (8 * k + 3) 0 = y3 at *; generalize l.getD (8 * k + 4) 0 = y4 at *; generalize l.getD (8 * k + 5) 0 = y5 at *; generalize l.getD (8 * k + 6) 0 = y6 at *; generalize l.getD (8 * k + 7) 0 = y7 at *; clear h hi hl hr hk hr8; omega
  · rw [hl, c6]; clear c0 c1 c2 c3 c4 c5 c6 c7; generalize l.getD (8 * k) 0 = y0 at *; generalize l.getD (8 * k + 1) 0 = y1 at *; generalize l.getD (8 * k + 2) 0 = y2 at *; generalize l.getD (8 * k + 3) 0 = y3 at *; generalize l.getD (8 * k + 4) 0 = y4 at *; generalize l.getD (8 * k + 5) 0 = y5 at *; generalize l.getD (8 * k + 6) 0 = y6 at *; generalize l.getD (8 * k + 7) 0 = y7 at *; clear h hi hl hr hk hr8; omega
  · rw [hl, c7]; clear c0 c1 c2 c3 c4 c5 c6 c7; generalize l.getD (8 * k) 0 = y0 at *; generalize l.getD (8 * k + 1) 0 = y1 at *; generalize l.getD (8 * k + 2) 0 = y2 at *; generalize l.getD (8 * k + 3) 0 = y3 at *; generalize l.getD (8 * k + 4) 0 = y4 at *; generalize l.getD (8 * k + 5) 0 = y5 at *; generalize l.getD (8 * k + 6) 0 = y6 at *; generalize l.getD (8 * k + 7) 0 = y7 at *; clear h hi hl hr hk hr8; omega
theorem qbg {l : List Int} (h : Bit l) : bl (pk l) l.length = l := by
  apply List.ext_getElem?
  intro i
  by_cases hi : i < l.length
  · have h1 : (bl (pk l) l.length)[i]? = some (bitAt (pk l) i) := by simp [bl, hi]
    rw [h1, qlP h hi]
    simp [List.getD, hi]
  · rw [List.getElem?_eq_none (by rw [jn]; omega), List.getElem?_eq_none (by omega)]
theorem qqI (F : Nat) {xs ys : List Int} (hl : xs.length = ys.length) (hm : xs.length ≤ 9223372036854775807) : ∀ (k i : Nat), xs.length < k + i → i ≤ xs.length →
    yG F xs ys k (i : Int) = some (decide (xs.drop i = ys.drop i))
  | 0, i, h, _ => by omega
  | k + 1, i, h, hi => by
    show qa2 F xs ys (yG F xs ys k) i = _
    unfold qa2
    by_cases hlt : i < xs.length
    · have hlt' : (i : Int) < (xs.length : Int) := by omega
      have hlt2 : i < ys.length := by omega
      have hg : xs[i]? = some xs[i] := by simp [hlt]
      have hg2 : ys[i]? = some ys[i] := by simp [hlt2]
      simp only [hlt', decide_true, if_true, qs, hg, hg2, Option.bind_some]
      have e : (xs.drop i = ys.drop i) ↔ (xs[i] = ys[i] ∧ xs.drop (i + 1) = ys.drop (i + 1)) := by
        rw [List.drop_eq_getElem_cons hlt, List.drop_eq_getElem_cons hlt2, List.cons.injEq]
      simp only [e]
      by_cases he : xs[i] = ys[i]
      · simp only [he, bne_self_eq_false, Bool.false_eq_true, if_false, true_and]
        rw [qr (by omega) (by omega), show (i : Int) + 1 = ((i + 1 : Nat) : Int) from by omega, qqI F hl hm k (i + 1) (by omega) (by omega)]
      · have : (xs[i] != ys[i]) = true := by simpa using he
        simp only [this, if_true, he, false_and, decide_false]
    · have hlt' : ¬ (i : Int) < (xs.length : Int) := by omega
      simp only [hlt', decide_false, Bool.false_eq_true, if_false]
      rw [List.drop_eq_nil_of_le (by omega), List.drop_eq_nil_of_le (by omega)]
      rfl
theorem qld {F : Nat} {xs ys : List Int} (hF : xs.length < F) (hm : xs.length ≤ 9223372036854775807) : qcU F xs ys = some (decide (xs = ys)) := by
  unfold qcU
  by_cases hl : xs.length = ys.length
  · have : (((xs.length : Int) : Int) != (ys.length : Int)) = false := by simp [hl]
    simp only [this, Bool.false_eq_true, if_false]
    have := qqI F hl hm F 0 (by omega) (by omega)
    simpa using this
  · have : (((xs.length : Int) : Int) != (ys.length : Int)) = true := by simp; omega
    simp only [this, if_true]
    have : xs ≠ ys := fun e => hl (by rw [e])
    simp [this]
theorem qmw {F : Nat} {n m : Int} {xs ys : List Int} (hF : xs.length < F) (hm : xs.length ≤ 9223372036854775807) : qcb F n xs m ys = some (decide (n = m ∧ xs = ys)) := by
  unfold qcb
  by_cases h : n = m
  · have hb : (n == m) = true := by simp [h]
    rw [if_pos hb, qld hF hm]
    simp [jQ, h]
  · have hb : (n == m) = false := by simpa using h
    rw [hb]
    simp [jQ, h]
theorem qlU {n : Nat} {b : List Int} (h : Ok n b) : chkOf (n : Int) b = 0 := by
  unfold chkOf
  have := h.max
  have := h.len
  rw [if_neg (by omega), if_neg (by omega), if_neg]
  rintro ⟨h1, h2⟩
  rw [Int.toNat_natCast] at h2
  exact h2 (h.low (by omega))
theorem qrw {b : List Int} {n m : Nat} (h : n ≤ m) : (bl b m).take n = bl b n := by
  unfold bl
  rw [← List.map_take, List.take_range, Nat.min_eq_left h]
theorem yX {l k : List Int} (h : Bit l) (h2 : Bit k) : Bit (l ++ k) := by
  intro x hx
  rcases List.mem_append.1 hx with h3 | h3
  · exact h x h3
  · exact h2 x h3
theorem two64 : (2 : Nat) ^ 64 = 18446744073709551616 := by decide
theorem qkV {n k : Nat} (hn : n < 18446744073709551616) : ishr .u64 (n : Int) (k : Int) = ((n / 2 ^ k : Nat) : Int) := by
  unfold ishr
  rw [Int.fdiv_eq_ediv_of_nonneg _ (by exact_mod_cast Nat.zero_le _), Int.toNat_natCast]
  simp only [IntKind.bits]
  by_cases h : k ≤ 64
  · rw [Nat.min_eq_left h]; norm_cast
  · rw [Nat.min_eq_right (by omega)]
    have h1 : n / 2 ^ 64 = 0 := Nat.div_eq_of_lt (by omega)
    have h2 : n / 2 ^ k = 0 := Nat.div_eq_of_lt (Nat.lt_of_lt_of_le hn (by rw [← two64]; exact Nat.pow_le_pow_right (by decide) (by omega)))
    rw [h2]
    have : ((n : Int) / 2 ^ 64) = ((n / 2 ^ 64 : Nat) : Int) := by norm_cast
    rw [this, h1]
theorem qrL {n : Nat} (hn : n < 18446744073709551616) : iand .u64 (n : Int) 1 = ((n % 2 : Nat) : Int) := by
  have e := qfK (k := .u64) (a := (n : Int)) (m := 1) (by omega) (by simp only [IntKind.bits]; rw [show (2 : Int) ^ 64 = 18446744073709551616 from by decide]; omega) (by decide) rfl
  rw [show ((2 ^ 1 - 1 : Nat) : Int) = 1 from rfl, show (2 : Int) ^ 1 = 2 from rfl] at e
  rw [e]; omega
theorem qgn {n k : Nat} (hk : k ≤ 64) : ishl .u64 (n : Int) (k : Int) = ((n * 2 ^ k % 18446744073709551616 : Nat) : Int) := by
  rw [qib hk, Int.natCast_emod, Int.natCast_mul, Int.natCast_pow]; rfl
theorem qtw {a b m : Nat} (ha : a < 2 ^ m) (hb : b % 2 ^ m = 0) (h : a + b < 18446744073709551616) : ior .u64 (b : Int) (a : Int) = ((b + a : Nat) : Int) := by
  rw [ql6, qn8 (m := m) (by omega) (by exact_mod_cast ha) (by omega) (by exact_mod_cast hb) rfl (by simp only [IntKind.bits]; rw [show (2 : Int) ^ 64 = 18446744073709551616 from by decide]; omega)]
  omega
theorem vL {a b : Nat} (h : a + b < 9223372036854775808) : iadd .i64 (a : Int) (b : Int) = ((a + b : Nat) : Int) := by rw [qr (by omega) (by omega)]; omega
theorem qn {a : Nat} (h : a + 1 < 9223372036854775808) : iadd .i64 (a : Int) 1 = ((a + 1 : Nat) : Int) := by rw [qr (by omega) (by omega)]; omega
theorem qm6 {a b : Nat} (h : b ≤ a) (h2 : a < 9223372036854775808) : isub .i64 (a : Int) (b : Int) = ((a - b : Nat) : Int) := by rw [qx (by omega) (by omega)]; omega
theorem vU {a : Nat} (h : 1 ≤ a) (h2 : a < 9223372036854775808) : isub .i64 (a : Int) 1 = ((a - 1 : Nat) : Int) := by rw [qx (by omega) (by omega)]; omega
def nb (n : Nat) : Nat → List Int
  | 0 => []
  | w + 1 => ((n / 2 ^ w % 2 : Nat) : Int) :: nb n w
theorem qcF (n : Nat) : ∀ w, (nb n w).length = w
  | 0 => rfl
  | w + 1 => by simp [nb, qcF n w]
theorem qne (n : Nat) : ∀ w, Bit (nb n w)
  | 0 => by intro x hx; simp [nb] at hx
  | w + 1 => by
    intro x hx
    rcases List.mem_cons.1 hx with rfl | h
    · omega
    · exact qne n w x h
def bv (l : List Int) : Nat := l.foldl (fun n b => 2 * n + b.toNat) 0
theorem qrx (l : List Int) : ∀ m, l.foldl (fun n b => 2 * n + b.toNat) m = m * 2 ^ l.length + bv l := by
  induction l with
  | nil => intro m; simp [bv]
  | cons x l ih =>
    intro m
    show l.foldl _ _ = _
    rw [ih]
    show _ = _ + l.foldl _ _
    rw [ih, List.length_cons, Nat.pow_succ]
    generalize 2 ^ l.length = p
    rw [Nat.add_mul, Nat.add_mul]
    have : 2 * m * p = m * (p * 2) := by rw [Nat.mul_comm 2 m, Nat.mul_assoc, Nat.mul_comm 2 p]
    omega
theorem qhY (l k : List Int) : bv (l ++ k) = bv l * 2 ^ k.length + bv k := by
  unfold bv
  rw [List.foldl_append, qrx k]; rfl
theorem qkF (x : Int) (l : List Int) : bv (x :: l) = x.toNat * 2 ^ l.length + bv l := by
  have := qhY [x] l
  simpa [bv] using this
theorem qhZ {l : List Int} (h : Bit l) : bv l < 2 ^ l.length := by
  induction l with
  | nil => simp [bv]
  | cons x l ih =>
    have h1 := ih (fun y hy => h y (List.mem_cons_of_mem _ hy))
    rw [qkF, List.length_cons, Nat.pow_succ]
    rcases h x List.mem_cons_self with rfl | rfl
    · simp; omega
    · simp; omega
theorem qlR (n : Nat) : ∀ w, bv (nb n w) = n % 2 ^ w
  | 0 => by simp [nb, bv, Nat.mod_one]
  | w + 1 => by
    rw [nb, qkF, qcF, qlR n w, Int.toNat_natCast, Nat.pow_succ, Nat.mod_mul, Nat.mul_comm, Nat.add_comm]
theorem qp7 (n a : Nat) : ∀ b, nb n (b + a) = nb (n / 2 ^ a) b ++ nb n a
  | 0 => by simp [nb]
  | b + 1 => by
    rw [show b + 1 + a = (b + a) + 1 from by omega, nb, qp7 n a b, nb, List.cons_append]
    congr 3
    rw [Nat.div_div_eq_div_mul, ← Nat.pow_add, Nat.add_comm]
theorem qkZ (n w : Nat) : nb n (w + 1) = nb (n / 2) w ++ [((n % 2 : Nat) : Int)] := by
  have := qp7 n 1 w
  simpa [nb] using this
theorem qmb {F : Nat} {n : Nat} (hn : n < 18446744073709551616) : ∀ (w k : Nat) (l : List Int), w < k → Bit l → l.length + w ≤ 100000 →
    zJ F (n : Int) k ((w : Int) - 1, (l.length : Int), pk l) = some (((l.length + w : Nat) : Int), pk (l ++ nb n w))
  | _, 0, _, h, _, _ => by omega
  | 0, k + 1, l, _, _, _ => by
    show zI F (n : Int) _ (((0 : Nat) : Int) - 1) (l.length : Int) (pk l) = _
    unfold zI
    rw [if_neg (by simp)]
    simp [nb]
  | w + 1, k + 1, l, h, hl, hm => by
    show zI F (n : Int) (zJ F (n : Int) k) (((w + 1 : Nat) : Int) - 1) (l.length : Int) (pk l) = _
    unfold zI
    rw [show ((w + 1 : Nat) : Int) - 1 = (w : Int) from by omega, if_pos (by simp)]
    have hc : decide ((0 : Int) ≤ (w : Int)) = true := decide_eq_true (by omega)
    rw [hc]
    simp only [chk, if_true]
    rw [qkV hn, qrL (by have := Nat.div_le_self n (2 ^ w); omega)]
    have hx : ((n / 2 ^ w % 2 : Nat) : Int) = 0 ∨ ((n / 2 ^ w % 2 : Nat) : Int) = 1 := by omega
    rw [qpA hl hx (by omega)]
    simp only [Option.bind_some]
    rw [qx (by omega) (by omega)]
    have := qmb (F := F) hn w k (l ++ [((n / 2 ^ w % 2 : Nat) : Int)]) (by omega) (yX hl (by intro y hy; simp only [List.mem_singleton] at hy; rw [hy]; exact hx)) (by simp; omega)
    rw [show (l ++ [((n / 2 ^ w % 2 : Nat) : Int)]).length = l.length + 1 from by simp] at this
    rw [this, List.append_assoc, show l.length + 1 + w = l.length + (w + 1) from by omega]
    rfl
theorem qo3 {F : Nat} {n w : Nat} {l : List Int} (hn : n < 18446744073709551616) (hF : w < F) (hl : Bit l) (hm : l.length + w ≤ 100000) :
    vy F (l.length : Int) (pk l) (n : Int) (w : Int) = some (((l.length + w : Nat) : Int), pk (l ++ nb n w)) := by
  unfold vy
  rw [qx (by omega) (by omega)]
  exact qmb hn w F l hF hl hm
theorem qsR {F : Nat} {n w m : Nat} {b : List Int} (hn : n < 18446744073709551616) (hF : w < F) (hb : U8s b) (ob : Ok m b) (hw : w ≤ 10000) :
    qaF F (m : Int) b (n : Int) (w : Int) = some (((m + w : Nat) : Int), pk (bl b m ++ nb n w)) := by
  unfold qaF
  have := ob.max
  rw [qp9 (by rw [ob.len]; omega)]
  simp only [Option.bind_some]
  have h := qo3 (F := F) (l := bl b m) hn hF (qmY _ _) (by rw [jn]; omega)
  rw [jn, qqj hb ob] at h
  rw [h]; rfl
def U64 (n : Int) : Prop := 0 ≤ n ∧ n < 18446744073709551616
theorem qmZ {b : List Int} {n i : Nat} (h : i < n) : (bl b n)[i]? = some (bitAt b i) := by simp [bl, h]
theorem qqv {F : Nat} {n : Int} {m a w : Nat} {b : List Int} (hb : U8s b) (hlen : m ≤ 8 * b.length) (hm : m ≤ 10000) (ha : a + w ≤ m) (hw : w ≤ 64) : ∀ (k i v : Nat), w < k + i → i ≤ w → v < 2 ^ i →
    jh F n b (a : Int) (w : Int) k ((v : Int), (i : Int)) = some (((v * 2 ^ (w - i) + bv (((bl b m).drop (a + i)).take (w - i)) : Nat) : Int), true)
  | 0, _, _, _, _, _ => by omega
  | k + 1, i, v, h, hi, hv => by
    show qcf F n b (a : Int) (w : Int) (jh F n b (a : Int) (w : Int) k) (v : Int) (i : Int) = _
    unfold qcf
    by_cases hlt : i < w
    · rw [if_pos (by simp; omega), vL (by omega), qpx hb (by omega) (by omega)]
      simp only [Option.bind_some]
      have hx := qg8 b (a + i)
      have hv64 : 2 * v + 1 < 18446744073709551616 := by
        have : 2 ^ (i + 1) ≤ 2 ^ 64 := Nat.pow_le_pow_right (by decide) (by omega)
        rw [Nat.pow_succ, two64] at this
        omega
      obtain ⟨x, hxe⟩ : ∃ x : Nat, bitAt b (a + i) = (x : Int) := Int.eq_ofNat_of_zero_le (by omega)
      have hx1 : x < 2 := by omega
      have e1 : ishl .u64 (v : Int) 1 = ((v * 2 : Nat) : Int) := by
        have := qgn (n := v) (k := 1) (by decide)
        rw [show ((1 : Nat) : Int) = 1 from rfl] at this
        rw [this]; omega
      have e2 : ior .u64 ((v * 2 : Nat) : Int) (x : Int) = ((v * 2 + x : Nat) : Int) := qtw (m := 1) (by omega) (by omega) (by omega)
      rw [hxe, e1, e2, qn (by omega)]
      rw [qqv hb hlen hm ha hw k (i + 1) (v * 2 + x) (by omega) (by omega) (by rw [Nat.pow_succ]; omega)]
      have hd : ((bl b m).drop (a + i)).take (w - i) = (x : Int) :: ((bl b m).drop (a + (i + 1))).take (w - (i + 1)) := by
        rw [List.drop_eq_getElem_cons (by rw [jn]; omega), show w - i = (w - (i + 1)) + 1 from by omega, List.take_succ_cons, show a + i + 1 = a + (i + 1) from by omega]
        congr 1
        have := qmZ (b := b) (n := m) (i := a + i) (by omega)
        rw [List.getElem?_eq_getElem (by rw [jn]; omega)] at this
        rw [← hxe]; exact Option.some.inj this
      rw [hd, qkF, Int.toNat_natCast]
      have hl : (((bl b m).drop (a + (i + 1))).take (w - (i + 1))).length = w - (i + 1) := by simp [jn]; omega
      rw [hl, show w - i = (w - (i + 1)) + 1 from by omega, Nat.pow_succ, Nat.add_mul]
      congr 3
      rw [Nat.mul_assoc, Nat.mul_comm 2, Nat.add_assoc]
    · rw [if_neg (by simp; omega)]
      rw [show w - i = 0 from by omega]
      simp [qdK, bv]
theorem qr5 {F : Nat} {m a w : Nat} {b : List Int} (hF : 100 ≤ F) (hb : U8s b) (ob : Ok m b) (ha : a ≤ m) (hw : w ≤ 64) :
    ju F (m : Int) b (a : Int) (w : Int) = some (if a + w ≤ m then (((bv (((bl b m).drop a).take w) : Nat) : Int), true) else (0, false)) := by
  unfold ju
  have hmx := ob.max
  rw [qm6 ha (by omega)]
  by_cases h : a + w ≤ m
  · rw [if_neg (by simp; omega), if_pos h]
    have := qqv (F := F) (n := (m : Int)) (m := m) (a := a) (w := w) hb (by rw [ob.len]; omega) (by omega) h hw F 0 0 (by omega) (by omega) (by decide)
    simpa using this
  · rw [if_pos (by simp; omega), if_neg h]
theorem qkU (n : Nat) : irem (n : Int) 2 = ((n % 2 : Nat) : Int) := by
  unfold irem; rw [Int.tmod_eq_emod_of_nonneg (by omega)]; omega
theorem qrN {n : Nat} (h : n ≤ 9223372036854775807) : iquo .i64 (n : Int) 2 = ((n / 2 : Nat) : Int) := by
  unfold iquo; rw [Int.tdiv_eq_ediv_of_nonneg (by omega), q4 (by omega) (by omega)]; omega
theorem qn9 {n : Nat} (h : n < 18446744073709551616) : iquo .u64 (n : Int) 2 = ((n / 2 : Nat) : Int) := by
  unfold iquo; rw [Int.tdiv_eq_ediv_of_nonneg (by omega), zr (by omega) (by omega)]; omega
theorem vG {n : Nat} (h : n < 9223372036854775808) : iconv .i64 (n : Int) = (n : Int) := q4 (by omega) (by omega)
theorem zP {n : Nat} (h : n < 18446744073709551616) : iconv .u64 (n : Int) = (n : Int) := zr (by omega) (by omega)
theorem qkJ (x k : Nat) : x / 2 ^ (k + 1) = x / 2 / 2 ^ k := by rw [Nat.pow_succ, Nat.mul_comm, Nat.div_div_eq_div_mul]
theorem qhX {F : Nat} {rec38 : (List Int × Int) → Option (List Int)} {l : List Int} {i : Nat} (hm : i ≤ 100000) : ∀ (k j x : Nat), 7 - i % 8 < k + j → j ≤ 7 - i % 8 → x < 256 →
    yZ F rec38 l (i : Int) k ((x : Int), (j : Int)) = qbx F rec38 l (i : Int) ((x / 2 ^ (7 - i % 8 - j) : Nat) : Int)
  | 0, _, _, _, _, _ => by omega
  | k + 1, j, x, h, hj, hx => by
    show qbw F rec38 l (i : Int) (yZ F rec38 l (i : Int) k) (x : Int) (j : Int) = _
    unfold qbw
    rw [irem8, qx (by omega) (by omega)]
    by_cases hlt : j < 7 - i % 8
    · rw [if_pos (by simp; omega), qrN (by omega), qn (by omega), qhX hm k (j + 1) (x / 2) (by omega) (by omega) (by omega)]
      rw [show 7 - i % 8 - j = (7 - i % 8 - (j + 1)) + 1 from by omega, qkJ]
    · rw [if_neg (by simp; omega), show 7 - i % 8 - j = 0 from by omega]
      simp
theorem qjq {F : Nat} (hF : 100 ≤ F) {b : List Int} (hb : U8s b) {n : Nat} (hn : n ≤ 8 * b.length) (hm : n ≤ 100000) : ∀ (k i : Nat), n < k + i → i ≤ n →
    zB F (n : Int) b k (bl b i, (i : Int)) = some (bl b n)
  | 0, _, _, _ => by omega
  | k + 1, i, h, hi => by
    show qbv F (n : Int) b (zB F (n : Int) b k) (bl b i) (i : Int) = _
    unfold qbv
    by_cases hlt : i < n
    · rw [if_pos (by simp; omega), iquo8 (by omega), qs]
      have hg : b[i / 8]? = some b[i / 8] := by rw [List.getElem?_eq_getElem (by omega)]
      rw [hg]
      simp only [Option.bind_some]
      have hx := hb b[i / 8] (List.getElem_mem (by omega))
      obtain ⟨x, hxe⟩ := Int.eq_ofNat_of_zero_le hx.1
      rw [hxe, vG (by omega)]
      rw [show ((0 : Int)) = ((0 : Nat) : Int) from rfl, qhX (by omega) F 0 x (by omega) (by omega) (by omega)]
      unfold qbx
      rw [qkU, qQ (by rw [jn]; simp; omega)]
      simp only [Option.bind_some, qdi]
      rw [qn (by omega)]
      have e : bl b i ++ [((x / 2 ^ (7 - i % 8 - 0) % 2 : Nat) : Int)] = bl b (i + 1) := by
        rw [qrv]
        congr 2
        unfold bitAt
        simp only [List.getD, hg, Option.getD_some, hxe, Nat.sub_zero]
        norm_cast
      rw [e]
      exact qjq hF hb hn hm k (i + 1) (by omega) (by omega)
    · rw [if_neg (by simp; omega)]
      obtain rfl : i = n := by omega
      rfl
theorem qgk {F : Nat} (hF : 20000 ≤ F) {b : List Int} (hb : U8s b) {n : Nat} (hn : n ≤ 8 * b.length) (hm : n ≤ 10000) : js F (n : Int) b = some (bl b n) := by
  unfold js
  exact qjq (by omega) hb hn (by omega) F 0 (by omega) (by omega)
theorem qnN {l : List Int} (h : Bit l) {i : Nat} (hi : i < l.length) : ∃ x : Nat, l[i]? = some (x : Int) ∧ x < 2 := by
  have := h l[i] (List.getElem_mem hi)
  obtain ⟨x, hx⟩ := Int.eq_ofNat_of_zero_le (show 0 ≤ l[i] by omega)
  exact ⟨x, by rw [List.getElem?_eq_getElem hi, hx], by omega⟩
theorem qn7 {n : Nat} (h : n < 4611686018427387904) : imul .i64 2 (n : Int) = ((2 * n : Nat) : Int) := by rw [ql5 (by omega) (by omega)]; omega
def byN (l : List Int) (i : Nat) : Nat → Nat
  | 0 => 0
  | k + 1 => 2 * byN l i k + (l.getD (i + k) 0).toNat
theorem qpD {l : List Int} (h : Bit l) (i : Nat) : ∀ k, byN l i k < 2 ^ k
  | 0 => by simp [byN]
  | k + 1 => by
    have := qpD h i k
    have h2 := h.getD (i + k)
    unfold byN
    rw [Nat.pow_succ]
    omega
theorem qts {l : List Int} (h : Bit l) (i : Nat) : ((byN l (8 * i) 8 : Nat) : Int) = byt l i := by
  have h0 := h.getD (8 * i); have h1 := h.getD (8 * i + 1); have h2 := h.getD (8 * i + 2); have h3 := h.getD (8 * i + 3)
  have h4 := h.getD (8 * i + 4); have h5 := h.getD (8 * i + 5); have h6 := h.getD (8 * i + 6); have h7 := h.getD (8 * i + 7)
  unfold byt
  simp only [byN, Nat.add_zero]
  omega
theorem qfv {F : Nat} {rec98 : (Int × List Int) → Option (Int × List Int)} {l o : List Int} (hl : Bit l) {i : Nat} (hm : i ≤ 100000) (hlm : l.length ≤ 100000) : ∀ (k j : Nat), 8 < k + j → j ≤ 8 →
    ko F rec98 l (i : Int) o k ((byN l i j : Nat), (j : Int)) = qad F rec98 (i : Int) o ((byN l i 8 : Nat) : Int)
  | 0, _, _, _ => by omega
  | k + 1, j, h, hj => by
    show qac F rec98 l (i : Int) o (ko F rec98 l (i : Int) o k) ((byN l i j : Nat) : Int) (j : Int) = _
    unfold qac
    by_cases hlt : j < 8
    · have hb := qpD hl i j
      have hp : 2 ^ j ≤ 2 ^ 8 := Nat.pow_le_pow_right (by decide) hj
      rw [show 2 ^ 8 = 256 from by decide] at hp
      rw [if_pos (by simp; omega), vL (by omega)]
      by_cases h2 : i + j < l.length
      · rw [if_pos (by simp; omega), qs]
        obtain ⟨x, hx, hx2⟩ := qnN hl h2
        rw [hx]
        simp only [Option.bind_some, vn]
        rw [qn7 (by omega), vL (by omega), qn (by omega)]
        have e : 2 * byN l i j + x = byN l i (j + 1) := by
          simp [byN, List.getD, hx]
        rw [e]
        exact qfv hl hm hlm k (j + 1) (by omega) (by omega)
      · rw [if_neg (by simp; omega)]
        simp only [vn]
        rw [qn7 (by omega), qn (by omega)]
        have e : 2 * byN l i j = byN l i (j + 1) := by
          show _ = 2 * _ + (l.getD (i + j) 0).toNat
          rw [jN (by omega)]; rfl
        rw [e]
        exact qfv hl hm hlm k (j + 1) (by omega) (by omega)
    · rw [if_neg (by simp; omega)]
      obtain rfl : j = 8 := by omega
      rfl
theorem qik {F : Nat} (hF : 100 ≤ F) {l : List Int} (hl : Bit l) (hm : l.length ≤ 90000) : ∀ (k i : Nat), (l.length + 7) / 8 < k + i → i ≤ (l.length + 7) / 8 →
    qX F l k (((8 * i : Nat) : Int), (List.range i).map (byt l)) = some ((l.length : Int), pk l)
  | 0, _, _, _ => by omega
  | k + 1, i, h, hi => by
    show qaU F l (qX F l k) ((8 * i : Nat) : Int) ((List.range i).map (byt l)) = _
    unfold qaU
    by_cases hlt : 8 * i < l.length
    · rw [if_pos (by simp; omega)]
      have := qfv (F := F) (rec98 := qX F l k) (o := (List.range i).map (byt l)) hl (i := 8 * i) (by omega) (by omega) F 0 (by omega) (by omega)
      rw [show ((byN l (8 * i) 0 : Nat) : Int) = 0 from rfl, show ((0 : Nat) : Int) = 0 from rfl] at this
      rw [this]
      unfold qad
      rw [qts hl]
      have hr := qfI hl i
      rw [show iconv .u8 (byt l i) = byt l i from qoI hr.1 hr.2, qQ (by simp; omega)]
      simp only [Option.bind_some, qb6]
      rw [show ((8 : Int)) = ((8 : Nat) : Int) from rfl, vL (by omega), show 8 * i + 8 = 8 * (i + 1) from by omega]
      have e : (List.range i).map (byt l) ++ [byt l i] = (List.range (i + 1)).map (byt l) := by rw [List.range_succ, List.map_append]; rfl
      rw [e]
      exact qik hF hl hm k (i + 1) (by omega) (by omega)
    · rw [if_neg (by simp; omega)]
      obtain rfl : i = (l.length + 7) / 8 := by omega
      rfl
theorem qmc {F : Nat} (hF : 20000 ≤ F) {l : List Int} (hl : Bit l) (hm : l.length ≤ 90000) : qdo F l = some ((l.length : Int), pk l) := by
  unfold qdo
  exact qik (by omega) hl hm F 0 (by omega) (by omega)
theorem qdT {F : Nat} {a b c : Int} : zE F a b c = some (decide (b ≤ a ∧ a ≤ c)) := by
  unfold zE
  congr 1
  by_cases h : b ≤ a <;> by_cases h2 : a ≤ c <;> simp [h, h2]
theorem qlQ {F : Nat} {l : List Int} (hl : Bit l) (hm : l.length ≤ 64) : ∀ (k i : Nat), l.length < k + i → i ≤ l.length →
    j5 F l k ((bv (l.take i) : Nat), (i : Int)) = some ((bv l : Nat) : Int)
  | 0, _, _, _ => by omega
  | k + 1, i, h, hi => by
    show qcM F l (j5 F l k) ((bv (l.take i) : Nat) : Int) (i : Int) = _
    unfold qcM
    by_cases hlt : i < l.length
    · rw [if_pos (by simp; omega), qs]
      obtain ⟨x, hx, hx2⟩ := qnN hl hlt
      rw [hx]
      simp only [Option.bind_some, lett]
      rw [zP (by omega), qn (by omega)]
      have hb : bv (l.take (i + 1)) = 2 * bv (l.take i) + x := by
        have : l.take (i + 1) = l.take i ++ [(x : Int)] := by rw [List.take_add_one, hx]; rfl
        rw [this, qhY]
        simp [bv]
        omega
      have hlt2 : bv (l.take (i + 1)) < 2 ^ 64 := Nat.lt_of_lt_of_le (qhZ (fun y hy => hl y (List.mem_of_mem_take hy))) (Nat.pow_le_pow_right (by decide) (by simp; omega))
      rw [two64, hb] at hlt2
      have e : iadd .u64 (imul .u64 2 ((bv (l.take i) : Nat) : Int)) (x : Int) = ((bv (l.take (i + 1)) : Nat) : Int) := by
        unfold iadd imul
        rw [zr (n := 2 * _) (by omega) (by omega), zr (by omega) (by omega), hb]
        omega
      rw [e]
      exact qlQ hl hm k (i + 1) (by omega) (by omega)
    · rw [if_neg (by simp; omega)]
      obtain rfl : i = l.length := by omega
      rw [List.take_length]; rfl
theorem qoT {F : Nat} (hF : 100 ≤ F) {l : List Int} (hl : Bit l) (hm : l.length ≤ 64) : qeP F l = some ((bv l : Nat) : Int) := by
  unfold qeP
  exact qlQ hl hm F 0 (by omega) (by omega)
theorem qjG {F w : Nat} (hw : w ≤ 100000) : ∀ (k i n : Nat) (t : List Int), i < k → i ≤ w → n < 18446744073709551616 →
    yM F k ((n : Int), List.replicate i 0 ++ t, (i : Int) - 1) = some (nb n i ++ t)
  | 0, _, _, _, h, _, _ => by omega
  | k + 1, 0, n, t, h, _, _ => by
    show v8 F (yM F k) (n : Int) _ _ = _
    unfold v8
    rw [if_neg (by simp)]
    simp [qdH, nb]
  | k + 1, i + 1, n, t, h, hi, hn => by
    show v8 F (yM F k) (n : Int) (List.replicate (i + 1) 0 ++ t) (((i + 1 : Nat) : Int) - 1) = _
    unfold v8
    rw [show ((i + 1 : Nat) : Int) - 1 = (i : Int) from by omega, if_pos (by simp), qs]
    have hg : (List.replicate (i + 1) (0 : Int) ++ t)[i]? = some 0 := by
      rw [List.getElem?_append_left (by simp)]; simp
    rw [hg]
    simp only [Option.bind_some, lett]
    rw [qkU, vG (by omega), qn9 hn, qx (by omega) (by omega), Int.toNat_natCast]
    have e : (List.replicate (i + 1) (0 : Int) ++ t).set i ((n % 2 : Nat) : Int) = List.replicate i 0 ++ (((n % 2 : Nat) : Int) :: t) := by
      rw [List.replicate_succ', List.append_assoc, List.set_append_right _ _ (by simp)]
      simp
    rw [e, qjG hw k i (n / 2) _ (by omega) (by omega) (by omega), qkZ]
    simp
theorem qih {F w n : Nat} (hF : w < F) (hw : w ≤ 100000) (hn : n < 18446744073709551616) : qda F (n : Int) (w : Int) = some (nb n w) := by
  unfold qda
  have hmk : mk 17592186044416 (0 : Int) (w : Int) = some (List.replicate w 0) := by
    unfold mk
    rw [if_pos (by simp; omega)]; simp
  rw [hmk]
  simp only [Option.bind_some]
  rw [qx (by omega) (by omega)]
  have := qjG (F := F) hw F w n [] hF (by omega) hn
  simpa using this
theorem qho {F : Nat} {l : List Int} (hm : l.length ≤ 100000) : ∀ (k i : Nat), l.length < k + i → i ≤ l.length →
    yA F l k (i : Int) = some (if (l.drop i).all (· == 0) then 0 else 1)
  | 0, _, _, _ => by omega
  | k + 1, i, h, hi => by
    show qaO F l (yA F l k) (i : Int) = _
    unfold qaO
    by_cases hlt : i < l.length
    · rw [if_pos (by simp; omega), qs, List.getElem?_eq_getElem hlt, List.drop_eq_getElem_cons hlt, List.all_cons]
      simp only [Option.bind_some]
      by_cases h0 : l[i] = 0
      · rw [h0, if_neg (by simp), qn (by omega), qho hm k (i + 1) (by omega) (by omega)]
        simp
      · rw [if_pos (by simpa using h0)]
        simp [h0]
    · rw [if_neg (by simp; omega), List.drop_eq_nil_of_le (by omega)]
      rfl
theorem qrr {b : List Int} (hb : U8s b) {m : Nat} (hlen : b.length = (m + 7) / 8) (hr : m % 8 ≠ 0) : ((bl b (8 * ((m + 7) / 8))).drop m).all (· == 0) = decide (b.getD (m / 8) 0 % 2 ^ (8 - m % 8) = 0) := by
  obtain ⟨q, hq⟩ : ∃ q, q = m / 8 := ⟨_, rfl⟩
  obtain ⟨r, hrr⟩ : ∃ r, r = m % 8 := ⟨_, rfl⟩
  have hm : m = 8 * q + r := by omega
  have hx : 0 ≤ b.getD q 0 ∧ b.getD q 0 < 256 := by
    have hlt : q < b.length := by omega
    have := hb b[q] (List.getElem_mem hlt)
    simpa [List.getD, hlt] using this
  have hc : (m + 7) / 8 = q + 1 := by omega
  obtain ⟨c0, c1, c2, c3, c4, c5, c6, c7⟩ := qkD b q
  have hall : ((bl b (8 * (q + 1))).drop m).all (· == 0) = true ↔ (∀ i, m ≤ i → i < 8 * q + 8 → bitAt b i = 0) := by
    rw [List.all_eq_true]
    constructor
    · intro h i h1 h2
      have hg : ((bl b (8 * (q + 1))).drop m)[i - m]? = some (bitAt b i) := by
        rw [List.getElem?_drop, show m + (i - m) = i from by omega]; exact qmZ (by omega)
      have := h _ (List.mem_of_getElem? hg)
      simpa using this
    · intro h x hx
      obtain ⟨j, hj⟩ := List.getElem?_of_mem hx
      rw [List.getElem?_drop] at hj
      have hjl : m + j < 8 * (q + 1) := by
        have := (List.getElem?_eq_some_iff.1 hj).1; rwa [jn] at this
      rw [qmZ hjl] at hj
      rw [← Option.some.inj hj, h _ (by omega) (by omega)]; rfl
  rw [hc, ← hq, ← hrr, Bool.eq_iff_iff, decide_eq_true_iff, hall]
  have hall2 : (∀ i, m ≤ i → i < 8 * q + 8 → bitAt b i = 0) ↔ (∀ j, r ≤ j → j < 8 → bitAt b (8 * q + j) = 0) := by
    constructor
    · intro h j h1 h2; exact h _ (by omega) (by omega)
    · intro h i h1 h2
      have := h (i - 8 * q) (by omega) (by omega)
      rwa [show 8 * q + (i - 8 * q) = i from by omega] at this
  rw [hall2]
  generalize b.getD q 0 = x at *
  have mk : ∀ j, j < 8 → (∀ j', r ≤ j' → j' < 8 → bitAt b (8 * q + j') = 0) → r ≤ j → bitAt b (8 * q + j) = 0 := fun j h1 h h2 => h j h2 h1
  constructor
  · intro h
    have g1 := mk 1 (by omega) h; have g2 := mk 2 (by omega) h; have g3 := mk 3 (by omega) h; have g4 := mk 4 (by omega) h
    have g5 := mk 5 (by omega) h; have g6 := mk 6 (by omega) h; have g7 := mk 7 (by omega) h
    rw [c1] at g1; rw [c2] at g2; rw [c3] at g3; rw [c4] at g4; rw [c5] at g5; rw [c6] at g6; rw [c7] at g7
    clear c0 c1 c2 c3 c4 c5 c6 c7 mk hall hall2 h
    rcases (by omega : r = 1 ∨ r = 2 ∨ r = 3 ∨ r = 4 ∨ r = 5 ∨ r = 6 ∨ r = 7) with h | h | h | h | h | h | h <;> subst h <;> simp only [Nat.reduceSub, Int.reducePow] <;> omega
  · intro h j h1 h2
    clear mk hall hall2
    rcases (by omega : r = 1 ∨ r = 2 ∨ r = 3 ∨ r = 4 ∨ r = 5 ∨ r = 6 ∨ r = 7) with hh | hh | hh | hh | hh | hh | hh <;> subst hh <;> simp only [Nat.reduceSub, Int.reducePow] at h <;>
      rcases (by omega : j = 1 ∨ j = 2 ∨ j = 3 ∨ j = 4 ∨ j = 5 ∨ j = 6 ∨ j = 7) with g | g | g | g | g | g | g <;> subst g <;> first | (exfalso; omega) | (rw [c1]; omega) | (rw [c2]; omega) | (rw [c3]; omega) | (rw [c4]; omega) | (rw [c5]; omega) | (rw [c6]; omega) | (rw [c7]; omega)
theorem qgC {F : Nat} (hF : 20000 ≤ F) {n : Int} {b : List Int} (hb : U8s b) : qbk F n b = some (chkOf n b) := by
  unfold qbk chkOf
  rw [qdT]
  simp only [Option.bind_some]
  by_cases c1 : n < 0 ∨ 8192 < n
  · rw [if_pos (by simp; omega), if_pos c1]
  · rw [if_neg (by simp; omega), if_neg c1]
    obtain ⟨m, rfl⟩ := Int.eq_ofNat_of_zero_le (show 0 ≤ n by omega)
    have hj : ∀ c : Nat, c = (m + 7) / 8 → v6 F (m : Int) b (c : Int) = some (if (b.length : Int) ≠ ((m : Int) + 7) / 8 then 1 else if (m : Int) % 8 ≠ 0 ∧ b.getD ((m : Int).toNat / 8) 0 % 2 ^ (8 - (m : Int).toNat % 8) ≠ 0 then 1 else 0) := by
      intro c hc
      unfold v6
      by_cases c2 : b.length = c
      · rw [if_neg (by simp [c2]), if_neg (by omega)]
        rw [ql5 (by omega) (by omega), show (8 : Int) * (c : Int) = ((8 * c : Nat) : Int) from by omega, qgk hF hb (by omega) (by omega)]
        simp only [Option.bind_some]
        rw [qho (by rw [jn]; omega) F m (by rw [jn]; omega) (by rw [jn]; omega), Int.toNat_natCast]
        by_cases hr : m % 8 = 0
        · rw [List.drop_eq_nil_of_le (by rw [jn]; omega), List.all_nil, if_pos rfl, if_neg (by omega)]
        · rw [hc, qrr hb (by omega) hr]
          by_cases hz : b.getD (m / 8) 0 % 2 ^ (8 - m % 8) = 0
          · rw [if_pos (decide_eq_true hz), if_neg (fun h => h.2 hz)]
          · rw [if_neg (by simp only [decide_eq_true_eq]; exact hz), if_pos ⟨by omega, hz⟩]
      · rw [if_pos (by rw [bne_iff_ne]; omega), if_pos (by omega)]
    rw [irem8, iquo8 (by omega)]
    by_cases h8 : 0 < m % 8
    · rw [if_pos (by simp; omega), qn (by omega)]
      exact hj _ (by omega)
    · rw [if_neg (by simp; omega)]
      exact hj _ (by omega)
theorem qgZ {α : Type} {l : List α} {i j : Nat} (h1 : i ≤ j) (h2 : j ≤ l.length) : sub l (i : Int) (j : Int) = some ((l.take j).drop i) := by
  unfold sub
  rw [if_pos ⟨by omega, by omega, by omega⟩, Int.toNat_natCast, Int.toNat_natCast]
theorem qde {l : List Int} (h : Bit l) (i : Nat) : Bit (l.drop i) := fun x hx => h x (List.mem_of_mem_drop hx)
theorem qdU {l : List Int} (h : Bit l) (i : Nat) : Bit (l.take i) := fun x hx => h x (List.mem_of_mem_take hx)
theorem qlV {n : Int} {b : List Int} (hb : U8s b) : chkOf n b ≠ 0 ∨ ∃ l : List Int, Bit l ∧ l.length ≤ 8192 ∧ n = (l.length : Int) ∧ b = pk l := by
  by_cases h : chkOf n b = 0
  · obtain ⟨m, rfl, ob⟩ := qpG h
    exact .inr ⟨bl b m, qmY _ _, by rw [jn]; exact ob.max, by rw [jn], (qqj hb ob).symm⟩
  · exact .inl h
theorem qm0 {l : List Int} (hm : l.length ≤ 8192) : chkOf (l.length : Int) (pk l) = 0 := qlU (qgN hm)
theorem qrK {l : List Int} (h : l.length ≤ 8192) : I64 (l.length : Int) := ⟨by omega, by omega⟩
theorem qrY {l : List Int} (h : l.length ≤ 8192) : (pk l).length ≤ 9223372036854775807 := by rw [qe8]; omega
theorem qjU {F : Nat} {n : Int} {xs : List Int} (hF : xs.length < F) (hm : xs.length ≤ 1000000) : qcb F n xs n xs = some true := by
  rw [qmw hF (by omega)]; simp
def un (n : Nat) : List Int := List.replicate n 0 ++ [1]
theorem qfF (n : Nat) : (un n).length = n + 1 := by simp [un]
theorem qnP (n : Nat) : Bit (List.replicate n 0) := by intro x hx; left; exact (List.mem_replicate.1 hx).2
theorem qnO : Bit [1] := by intro x hx; right; simpa using hx
theorem qln (n : Nat) : Bit (un n) := yX (qnP n) qnO
theorem qs4 (n : Nat) : pk (List.replicate n 0) = List.replicate ((n + 7) / 8) 0 := by
  unfold pk
  rw [List.length_replicate]
  apply List.ext_getElem?
  intro k
  by_cases hk : k < (n + 7) / 8
  · have hz : ∀ i, (List.replicate n (0 : Int)).getD i 0 = 0 := by
      intro i
      by_cases h : i < n
      · simp [List.getD, h]
      · exact jN (by simp; omega)
    rw [List.getElem?_map, List.getElem?_range hk, List.getElem?_replicate, if_pos hk]
    simp only [Option.map_some, byt, hz]
    rfl
  · rw [List.getElem?_eq_none (by simpa using hk), List.getElem?_eq_none (by simpa using hk)]
theorem qkC {F : Nat} {n w : Nat} {l : List Int} (hn : n < 18446744073709551616) (hF : w < F) (hl : Bit l) (hm : l.length ≤ 8192) (hw : w ≤ 10000) :
    qaF F (l.length : Int) (pk l) (n : Int) (w : Int) = some (((l ++ nb n w).length : Int), pk (l ++ nb n w)) := by
  rw [qsR hn hF (qeJ hl) (qgN hm) hw, qbg hl, List.length_append, qcF]
theorem qqq {F n : Nat} (hF : 20000 ≤ F) (hn : n < 8192) : qdd F (n : Int) = some (((un n).length : Int), pk (un n)) := by
  unfold qdd
  have e : iquo .u64 (iadd .u64 (n : Int) 7) 8 = (((n + 7) / 8 : Nat) : Int) := by
    unfold iquo iadd
    rw [zr (n := (n : Int) + 7) (by omega) (by omega), Int.tdiv_eq_ediv_of_nonneg (by omega), zr (by omega) (by omega)]
    omega
  rw [e]
  have hmk : mk 140737488355328 (0 : Int) (((n + 7) / 8 : Nat) : Int) = some (pk (List.replicate n 0)) := by
    unfold mk
    rw [if_pos (by omega), Int.toNat_natCast, qs4]
  rw [hmk]
  simp only [Option.bind_some]
  rw [vG (by omega)]
  have h := qkC (F := F) (n := 1) (w := 1) (l := List.replicate n 0) (by decide) (by omega) (qnP n) (by simp; omega) (by decide)
  rw [List.length_replicate] at h
  rw [show ((1 : Nat) : Int) = 1 from rfl] at h
  rw [h]
  rfl
def fz : List Int → Option Nat
  | [] => none
  | x :: l => if x = 1 then some 0 else (fz l).map (· + 1)
theorem qsK (n : Nat) (r : List Int) : fz (un n ++ r) = some n := by
  induction n with
  | zero => simp [un, fz]
  | succ n ih =>
    have : un (n + 1) ++ r = 0 :: (un n ++ r) := by simp [un, List.replicate_succ]
    rw [this, fz, if_neg (by decide), ih]; rfl
theorem qnZ {l : List Int} {n : Nat} (h : fz l = some n) : n < l.length := by
  induction l generalizing n with
  | nil => simp [fz] at h
  | cons x l ih =>
    unfold fz at h
    split at h
    · simp at h; subst h; simp
    · cases hf : fz l with
      | none => rw [hf] at h; simp at h
      | some m => rw [hf] at h; simp at h; subst h; have := ih hf; simp; omega
theorem qpy {F : Nat} {m : Int} {l : List Int} (hl : Bit l) (hm : l.length ≤ 90000) {i : Nat} (hi : i < l.length) : qba F m (pk l) (i : Int) = some l[i] := by
  rw [qpx (qeJ hl) (by rw [qe8]; omega) (by omega), qlP hl hi]
  simp [List.getD, hi]
theorem qpP {F : Nat} {l : List Int} (hl : Bit l) (hm : l.length ≤ 8192) (a : Nat) : ∀ (k i : Nat), l.length < k + i → i ≤ l.length → a ≤ i →
    vj F (l.length : Int) (pk l) (a : Int) k (i : Int) = some (match fz (l.drop i) with | none => (0, 0, false) | some n => (((i - a + n : Nat) : Int), ((i + n + 1 : Nat) : Int), true))
  | 0, _, _, _, _ => by omega
  | k + 1, i, h, hi, ha => by
    show qbQ F (l.length : Int) (pk l) (a : Int) (vj F (l.length : Int) (pk l) (a : Int) k) (i : Int) = _
    unfold qbQ
    by_cases hlt : i < l.length
    · rw [if_pos (by simp; omega), qpy hl (by omega) hlt, List.drop_eq_getElem_cons hlt, fz]
      simp only [Option.bind_some]
      by_cases h1 : l[i] = 1
      · rw [if_pos (by simpa using h1), if_pos h1, qm6 ha (by omega), zP (by omega), qn (by omega)]
        rfl
      · rw [if_neg (by simpa using h1), if_neg h1, qn (by omega), qpP hl hm a k (i + 1) (by omega) (by omega) (by omega)]
        cases fz (l.drop (i + 1)) with
        | none => rfl
        | some n =>
          simp only [Option.map_some]
          rw [show i + 1 - a + n = i - a + (n + 1) from by omega, show i + 1 + n + 1 = i + (n + 1) + 1 from by omega]
    · rw [if_neg (by simp; omega), List.drop_eq_nil_of_le (by omega)]
      rfl
theorem qnY {F : Nat} (hF : 20000 ≤ F) {l : List Int} (hl : Bit l) (hm : l.length ≤ 8192) {a : Nat} (ha : a ≤ l.length) :
    qco F (l.length : Int) (pk l) (a : Int) = some (match fz (l.drop a) with | none => (0, 0, false) | some n => ((n : Int), ((a + n + 1 : Nat) : Int), true)) := by
  unfold qco
  have := qpP (F := F) hl hm a F a (by omega) ha (by omega)
  rw [this]
  cases fz (l.drop a) with
  | none => rfl
  | some n => simp only; rw [Nat.sub_self, Nat.zero_add]
def raOf (m : Int) (b : List Int) (a : Int) : Int := if chkOf m b ≠ 0 then chkOf m b else if a < 0 ∨ m < a then 3 else 0
theorem qs8 {m a : Int} {b : List Int} (h : chkOf m b ≠ 0) : raOf m b a = chkOf m b := by unfold raOf; rw [if_pos h]
theorem qqp {l : List Int} {a : Int} (h1 : l.length ≤ 8192) (h : ¬ (0 ≤ a ∧ a ≤ (l.length : Int))) : raOf (l.length : Int) (pk l) a = 3 := by
  unfold raOf; rw [if_neg (by simp [qm0 h1]), if_pos (by omega)]
theorem qr3 {l : List Int} {a : Nat} (h1 : l.length ≤ 8192) (h : a ≤ l.length) : raOf (l.length : Int) (pk l) (a : Int) = 0 := by
  unfold raOf; rw [if_neg (by simp [qm0 h1]), if_neg (by omega)]
theorem qqo {m a : Int} {b : List Int} (hb : U8s b) : raOf m b a ≠ 0 ∨ ∃ (l : List Int) (i : Nat), Bit l ∧ l.length ≤ 8192 ∧ m = (l.length : Int) ∧ b = pk l ∧ a = (i : Int) ∧ i ≤ l.length := by
  rcases qlV hb (n := m) with h | ⟨l, hl, hm, rfl, rfl⟩
  · left; rw [qs8 h]; exact h
  · by_cases h : 0 ≤ a ∧ a ≤ (l.length : Int)
    · obtain ⟨i, rfl⟩ := Int.eq_ofNat_of_zero_le h.1
      exact .inr ⟨l, i, hl, hm, rfl, rfl, rfl, by omega⟩
    · left; rw [qqp hm h]; decide
theorem qnk {F : Nat} (hF : 20000 ≤ F) {m a : Int} {b : List Int} (hb : U8s b) : qd5 F m b a = some (raOf m b a) := by
  unfold qd5 raOf
  rw [qgC hF hb]
  simp only [Option.bind_some]
  by_cases h1 : chkOf m b = 0
  · rw [if_pos (by simpa using h1), if_neg (by simp [h1]), qdT]
    simp only [Option.bind_some, qb9, qb8]
    by_cases h : a < 0 ∨ m < a
    · rw [if_pos h, if_pos (by simp; omega)]
    · rw [if_neg h, if_neg (by simp; omega), h1]
  · rw [if_neg (by simpa using h1), if_pos h1]
    rfl
theorem qnQ {F : Nat} (hF : 20000 ≤ F) {l k : List Int} (hl : Bit l) (hk : Bit k) (h1 : l.length ≤ 8192) (h2 : k.length ≤ 8192) :
    jt F (l.length : Int) (pk l) (k.length : Int) (pk k) = some (((l ++ k).length : Int), pk (l ++ k)) := by
  rw [qkE hF (qeJ hl) (qeJ hk) (qgN h1) (qgN h2), qbg hl, qbg hk, List.length_append]
theorem qhy {F n : Nat} (hn : n ≤ 100000) : ∀ (k i : Nat), n < k + i → i ≤ n →
    yI F (n : Int) k (List.replicate i 0, (i : Int)) = some (un n)
  | 0, _, _, _ => by omega
  | k + 1, i, h, hi => by
    show qa7 F (n : Int) (yI F (n : Int) k) (List.replicate i 0) (i : Int) = _
    unfold qa7
    by_cases hlt : i < n
    · rw [if_pos (by simp; omega), qQ (by simp; omega)]
      simp only [Option.bind_some]
      have e : iadd .u64 (i : Int) 1 = ((i + 1 : Nat) : Int) := by unfold iadd; rw [zr (by omega) (by omega)]; omega
      rw [e, ← List.replicate_succ']
      exact qhy hn k (i + 1) (by omega) (by omega)
    · rw [if_neg (by simp; omega)]
      obtain rfl : i = n := by omega
      unfold qcz
      rw [qQ (by simp; omega)]
      rfl
theorem qlo {F n : Nat} (hn : n ≤ 100000) (hF : n < F) : qcW F (n : Int) = some (un n) := by
  unfold qcW
  exact qhy hn F 0 (by omega) (by omega)
theorem qhz {F : Nat} {l : List Int} (hm : l.length ≤ 100000) : ∀ (k i c : Nat), l.length < k + i → i ≤ l.length → c ≤ 200000 - (l.length - i) →
    yJ F l k ((c : Int), (i : Int)) = some (match fz (l.drop i) with | none => (0, -1) | some n => (((c + n : Nat) : Int), ((i + n + 1 : Nat) : Int)))
  | 0, _, _, _, _, _ => by omega
  | k + 1, i, c, h, hi, hc => by
    show qa8 F l (yJ F l k) (c : Int) (i : Int) = _
    unfold qa8
    by_cases hlt : i < l.length
    · rw [if_pos (by simp; omega), qs, List.getElem?_eq_getElem hlt, List.drop_eq_getElem_cons hlt, fz]
      simp only [Option.bind_some]
      by_cases h1 : l[i] = 1
      · rw [if_pos (by simpa using h1), if_pos h1, qn (by omega)]
        rfl
      · have e : iadd .u64 (c : Int) 1 = ((c + 1 : Nat) : Int) := by unfold iadd; rw [zr (by omega) (by omega)]; omega
        rw [if_neg (by simpa using h1), if_neg h1, qn (by omega), e, qhz hm k (i + 1) (c + 1) (by omega) (by omega) (by omega)]
        cases fz (l.drop (i + 1)) with
        | none => rfl
        | some n =>
          simp only [Option.map_some]
          rw [show c + 1 + n = c + (n + 1) from by omega, show i + 1 + n + 1 = i + (n + 1) + 1 from by omega]
    · rw [if_neg (by simp; omega), List.drop_eq_nil_of_le (by omega)]
      rfl
theorem qg4 {F : Nat} {l : List Int} (hm : l.length ≤ 10000) (hF : 20000 ≤ F) {a : Nat} (ha : a ≤ l.length) : qbo F l (a : Int) = some (match fz (l.drop a) with | none => (0, -1) | some n => ((n : Int), ((a + n + 1 : Nat) : Int))) := by
  unfold qbo
  have := qhz (F := F) (l := l) (by omega) F a 0 (by omega) ha (by omega)
  rw [show ((0 : Nat) : Int) = 0 from rfl] at this
  rw [this]
  cases fz (l.drop a) with
  | none => rfl
  | some n => simp only; rw [Nat.zero_add]
def len (x : Nat) : Nat := if x = 0 then 0 else x.log2 + 1
theorem qev {x k : Nat} : len x ≤ k ↔ x < 2 ^ k := by
  unfold len
  by_cases h : x = 0
  · rw [if_pos h, h]; simp [Nat.pow_pos]
  · rw [if_neg h]; exact Nat.log2_lt h
theorem qif {x k : Nat} (h1 : x < 2 ^ k) (h2 : k = 0 ∨ 2 ^ (k - 1) ≤ x) : len x = k := by
  have h3 := qev.2 h1
  rcases h2 with rfl | h2
  · omega
  · by_cases h4 : len x ≤ k - 1
    · have := qev.1 h4; omega
    · omega
theorem qnc {x : Nat} : x < 2 ^ len x := qev.1 (Nat.le_refl _)
theorem qnb {x : Nat} (h : x ≠ 0) : 2 ^ (len x - 1) ≤ x := by
  have h1 : 1 ≤ len x := by unfold len; rw [if_neg h]; omega
  apply Nat.le_of_not_lt
  intro h2
  have := qev.2 h2
  omega
theorem qfN {x : Nat} (h : x ≠ 0) : 1 ≤ len x := by unfold len; rw [if_neg h]; omega
theorem qfO {x k : Nat} (h : 2 ^ k ≤ x) : len (x / 2 ^ k) + k = len x := by
  have hp : 0 < 2 ^ k := Nat.pow_pos (by decide)
  have hx : x ≠ 0 := by omega
  have hd : x / 2 ^ k ≠ 0 := by
    intro h0
    rw [Nat.div_eq_zero_iff] at h0
    omega
  symm
  apply qif
  · rw [Nat.pow_add]
    have := qnc (x := x / 2 ^ k)
    exact (Nat.div_lt_iff_lt_mul hp).1 this
  · right
    have h1 := qfN hd
    have := qnb hd
    rw [show len (x / 2 ^ k) + k - 1 = len (x / 2 ^ k) - 1 + k from by omega, Nat.pow_add]
    exact (Nat.le_div_iff_mul_le hp).1 this
theorem qrO : ∀ x : Fin 256, ∀ k : Fin 8, k8 0 ((x.val : Nat) : Int) ((8 * k.val : Nat) : Int) = some ((len x.val + 8 * k.val : Nat) : Int) := by decide +kernel
theorem qod {F x k : Nat} (hx : x < 256) (hk : k ≤ 56) (h8 : k % 8 = 0) : k8 F (x : Int) (k : Int) = some ((len x + k : Nat) : Int) := by
  have h := qrO ⟨x, hx⟩ ⟨k / 8, by omega⟩
  simp only at h
  rw [show 8 * (k / 8) = k from by omega] at h
  exact h
theorem qoc {F x k : Nat} (hx : x < 65536) (hk : k ≤ 48) (h8 : k % 8 = 0) : k7 F (x : Int) (k : Int) = some ((len x + k : Nat) : Int) := by
  unfold k7
  by_cases h : 256 ≤ x
  · have e := qkV (n := x) (k := 8) (by omega)
    rw [show ((8 : Nat) : Int) = 8 from rfl] at e
    have e2 : iadd .i64 (k : Int) 8 = ((k + 8 : Nat) : Int) := by rw [qr (by omega) (by omega)]; omega
    rw [if_pos (by simp; omega), e, e2, qod (by omega) (by omega) (by omega), ← qfO (x := x) (k := 8) (by omega)]
    congr 2; omega
  · rw [if_neg (by simp; omega), qod (by omega) (by omega) (by omega)]
theorem qob {F x k : Nat} (hx : x < 4294967296) (hk : k ≤ 32) (h8 : k % 8 = 0) : k6 F (x : Int) (k : Int) = some ((len x + k : Nat) : Int) := by
  unfold k6
  by_cases h : 65536 ≤ x
  · have e := qkV (n := x) (k := 16) (by omega)
    rw [show ((16 : Nat) : Int) = 16 from rfl] at e
    have e2 : iadd .i64 (k : Int) 16 = ((k + 16 : Nat) : Int) := by rw [qr (by omega) (by omega)]; omega
    rw [if_pos (by simp; omega), e, e2, qoc (by omega) (by omega) (by omega), ← qfO (x := x) (k := 16) (by omega)]
    congr 2; omega
  · rw [if_neg (by simp; omega), qoc (by omega) (by omega) (by omega)]
theorem qie {F x : Nat} (hx : x < 18446744073709551616) : ye F (x : Int) = some ((len x : Nat) : Int) := by
  unfold ye
  by_cases h : 4294967296 ≤ x
  · have e := qkV (n := x) (k := 32) (by omega)
    rw [show ((32 : Nat) : Int) = 32 from rfl] at e
    have := qob (F := F) (x := x / 2 ^ 32) (k := 32) (by omega) (by omega) (by omega)
    rw [show ((32 : Nat) : Int) = 32 from rfl] at this
    rw [if_pos (by simp; omega), e, this, qfO (x := x) (k := 32) (by omega)]
  · have := qob (F := F) (x := x) (k := 0) (by omega) (by omega) (by omega)
    rw [show ((0 : Nat) : Int) = 0 from rfl] at this
    rw [if_neg (by simp; omega), this, Nat.add_zero]
def lg (n : Nat) : Nat := len (n + 1) - 1
theorem qoe {n : Nat} : 2 ^ lg n ≤ n + 1 := qnb (by omega)
theorem qof {n : Nat} : n + 1 < 2 ^ (lg n + 1) := by
  have h := qfN (x := n + 1) (by omega)
  unfold lg
  rw [Nat.sub_add_cancel h]; exact qnc
theorem qo1 {n k : Nat} (h1 : 2 ^ k ≤ n + 1) (h2 : n + 1 < 2 ^ (k + 1)) : lg n = k := by
  have : len (n + 1) = k + 1 := qif h2 (.inr h1)
  unfold lg; omega
theorem qdg {n : Nat} (h : n ≤ 1099511627776) : lg n ≤ 40 := by
  have : len (n + 1) ≤ 41 := qev.2 (by omega)
  unfold lg; omega
theorem qsL {n : Nat} (h : n + 1 < 18446744073709551616) : lg n ≤ 63 := by
  have : len (n + 1) ≤ 64 := qev.2 (by rw [two64]; exact h)
  unfold lg; omega
theorem qr7 {F n : Nat} (h : n + 1 < 18446744073709551616) : qdu F (n : Int) = some ((lg n : Nat) : Int) := by
  unfold qdu
  have e : iadd .u64 (n : Int) 1 = ((n + 1 : Nat) : Int) := by unfold iadd; rw [zr (by omega) (by omega)]; omega
  rw [e, qie (by omega)]
  simp only [Option.bind_some]
  have h1 := qfN (x := n + 1) (by omega)
  have h2 : len (n + 1) ≤ 64 := qev.2 (by rw [two64]; omega)
  rw [vU h1 (by omega)]
  rfl
theorem pow64 {k : Nat} (h : k ≤ 63) : 2 ^ k ≤ 9223372036854775808 := by
  have := Nat.pow_le_pow_right (show 0 < 2 by decide) h
  rwa [show (2 : Nat) ^ 63 = 9223372036854775808 from by decide] at this
theorem qe9 {k : Nat} (h : k ≤ 63) : ishl .u64 1 (k : Int) = ((2 ^ k : Nat) : Int) := by
  have := qgn (n := 1) (k := k) (by omega)
  rw [show ((1 : Nat) : Int) = 1 from rfl] at this
  have hp := pow64 h
  rw [this, Nat.one_mul, Nat.mod_eq_of_lt (by omega)]
theorem qd3 {a b : Nat} (h : b ≤ a) (h2 : a < 18446744073709551616) : isub .u64 (a : Int) (b : Int) = ((a - b : Nat) : Int) := by
  unfold isub; rw [zr (by omega) (by omega)]; omega
theorem qfY {a : Nat} (h : 1 ≤ a) (h2 : a < 18446744073709551616) : isub .u64 (a : Int) 1 = ((a - 1 : Nat) : Int) := by
  unfold isub; rw [zr (by omega) (by omega)]; omega
theorem qhm {a b : Nat} (h2 : a + b < 18446744073709551616) : iadd .u64 (a : Int) (b : Int) = ((a + b : Nat) : Int) := by
  unfold iadd; rw [zr (by omega) (by omega)]; omega
theorem qdD {a : Nat} (h2 : a + 1 < 18446744073709551616) : iadd .u64 (a : Int) 1 = ((a + 1 : Nat) : Int) := by
  unfold iadd; rw [zr (by omega) (by omega)]; omega
theorem qs0 {F n k : Nat} (hn : n < 18446744073709551616) (hk : k ≤ 63) : qd7 F (n : Int) (k : Int) = some ((n % 2 ^ k : Nat) : Int) := by
  unfold qd7
  have hp := pow64 hk
  have hp0 : 0 < 2 ^ k := Nat.pow_pos (by decide)
  have hc : decide ((0 : Int) ≤ (k : Int)) = true := decide_eq_true (by omega)
  rw [hc]
  simp only [chk, if_true, lett]
  rw [qe9 hk, qfY (by omega) (by omega)]
  have e := qfK (k := .u64) (a := (n : Int)) (m := k) (by omega) (by simp only [IntKind.bits]; rw [show (2 : Int) ^ 64 = 18446744073709551616 from by decide]; omega) (by simp only [IntKind.bits]; omega) rfl
  rw [e]
  norm_cast
theorem qs2 {n k w : Nat} (h : w ≤ k) : nb (n % 2 ^ k) w = nb n w := by
  induction w with
  | zero => rfl
  | succ w ih =>
    rw [nb, nb, ih (by omega)]
    congr 2
    have hp : 2 ^ k = 2 ^ w * 2 ^ (k - w) := by rw [← Nat.pow_add]; congr 1; omega
    rw [hp, Nat.mod_mul_right_div_self]
    have hp2 : 2 ^ (k - w) = 2 * 2 ^ (k - w - 1) := by rw [← Nat.pow_succ']; congr 1; omega
    rw [hp2, Nat.mod_mul_right_mod]
def ga (n : Nat) : List Int := un (lg n) ++ nb (n + 1) (lg n)
theorem qe0 (n : Nat) : Bit (ga n) := yX (qln _) (qne _ _)
theorem qkN (n : Nat) : (ga n).length = 2 * lg n + 1 := by unfold ga; rw [List.length_append, qfF, qcF]; omega
theorem qhv {F n : Nat} (hF : 20000 ≤ F) (hn : n + 1 < 18446744073709551616) : ji F (n : Int) = some (((ga n).length : Int), pk (ga n)) := by
  unfold ji
  have h63 := qsL hn
  rw [qr7 hn]
  simp only [Option.bind_some]
  rw [zP (by omega), qqq hF (by omega)]
  simp only [Option.bind_some]
  rw [qdD hn, qs0 hn h63]
  simp only [Option.bind_some]
  have hlt : (n + 1) % 2 ^ lg n < 18446744073709551616 := by have := Nat.mod_le (n + 1) (2 ^ lg n); omega
  rw [qkC hlt (by omega) (qln _) (by rw [qfF]; omega) (by omega), qs2 (Nat.le_refl _)]
  rfl
def numOf (l : List Int) (k a : Nat) : Int × Int × Int :=
  if 64 ≤ k then (0, 0, 3) else if l.length < a + k then (0, 0, 7) else if 1099511627776 < bv ((l.drop a).take k) + 2 ^ k - 1 then (0, 0, 3) else (((bv ((l.drop a).take k) + 2 ^ k - 1 : Nat) : Int), ((a + k : Nat) : Int), 0)
def fg (l : List Int) (a : Nat) : Int × Int × Int := match fz (l.drop a) with | none => (0, 0, 7) | some k => numOf l k (a + k + 1)
theorem qgR {F a w : Nat} {l : List Int} (hF : 100 ≤ F) (hl : Bit l) (hm : l.length ≤ 8192) (ha : a ≤ l.length) (hw : w ≤ 64) :
    ju F (l.length : Int) (pk l) (a : Int) (w : Int) = some (if a + w ≤ l.length then (((bv ((l.drop a).take w) : Nat) : Int), true) else (0, false)) := by
  have := qr5 hF (qeJ hl) (qgN hm) ha hw
  rwa [qbg hl] at this
theorem qjx {l : List Int} {a : Nat} : (fg l a).2.2 ≠ 0 ∨ ∃ n q : Nat, fg l a = ((n : Int), (q : Int), 0) ∧ n ≤ 1099511627776 ∧ q ≤ l.length := by
  unfold fg
  cases hf : fz (l.drop a) with
  | none => left; simp
  | some k =>
    simp only
    unfold numOf
    by_cases h1 : 64 ≤ k
    · left; rw [if_pos h1]; decide
    · rw [if_neg h1]
      by_cases h2 : l.length < a + k + 1 + k
      · left; rw [if_pos h2]; decide
      · rw [if_neg h2]
        by_cases h3 : 1099511627776 < bv ((l.drop (a + k + 1)).take k) + 2 ^ k - 1
        · left; rw [if_pos h3]; decide
        · right; rw [if_neg h3]; exact ⟨_, _, rfl, by omega, by omega⟩
theorem qnf {F k a : Nat} {l : List Int} (hF : 20000 ≤ F) (hl : Bit l) (hm : l.length ≤ 8192) (ha : a ≤ l.length) :
    (if decide ((64 : Int) ≤ (k : Int)) then some ((0 : Int), (0 : Int), (3 : Int)) else ((ju F (l.length : Int) (pk l) (a : Int) (iconv .i64 (k : Int))).bind fun x10 => (if (!x10.2) then some (0, 0, 7) else (chk (decide ((0 : Int) ≤ (k : Int))) ((lett (iadd .u64 x10.1 (isub .u64 (ishl .u64 1 (k : Int)) 1)) fun x16 => (if (decide (1099511627776 < x16)) then some (0, 0, 3) else some (x16, iadd .i64 (a : Int) (iconv .i64 (k : Int)), 0)))))))) = some (numOf l k a) := by
  unfold numOf
  by_cases h1 : 64 ≤ k
  · rw [if_pos (by simp; omega), if_pos h1]
  · rw [if_neg (by simp; omega), if_neg h1, vG (by omega), qgR (by omega) hl hm ha (by omega)]
    simp only [Option.bind_some]
    by_cases h2 : a + k ≤ l.length
    · rw [if_pos h2, if_neg (show ¬ l.length < a + k by omega)]
      have hc : decide ((0 : Int) ≤ (k : Int)) = true := decide_eq_true (by omega)
      simp only [Bool.not_true, Bool.false_eq_true, if_false, hc, chk, if_true, lett]
      have hb := qhZ (qdU (qde hl a) k)
      rw [List.length_take, List.length_drop, Nat.min_eq_left (by omega)] at hb
      have hp := pow64 (k := k) (by omega)
      have hp0 : 0 < 2 ^ k := Nat.pow_pos (by decide)
      rw [qe9 (by omega), qfY (by omega) (by omega), qhm (by omega), vL (by omega), show bv ((l.drop a).take k) + (2 ^ k - 1) = bv ((l.drop a).take k) + 2 ^ k - 1 from by omega]
      by_cases h3 : 1099511627776 < bv ((l.drop a).take k) + 2 ^ k - 1
      · rw [if_pos h3, if_pos (by simp only [decide_eq_true_eq]; omega)]
      · rw [if_neg h3, if_neg (by simp only [decide_eq_true_eq]; omega)]
    · rw [if_neg h2, if_pos (show l.length < a + k by omega)]
      rfl
theorem qgG {F a : Nat} {l : List Int} (hF : 20000 ≤ F) (hl : Bit l) (hm : l.length ≤ 8192) (ha : a ≤ l.length) : vz F (l.length : Int) (pk l) (a : Int) = some (fg l a) := by
  unfold vz zH qbj
  rw [qnY hF hl hm ha]
  unfold fg
  cases hf : fz (l.drop a) with
  | none => rfl
  | some k =>
    have hk := qnZ hf
    rw [List.length_drop] at hk
    simp only [Option.bind_some, Bool.not_true, Bool.false_eq_true, if_false, bne_self_eq_false]
    rw [qnf hF hl hm (by omega)]
    rfl
theorem qp8 {n : Nat} (hn : n ≤ 1099511627776) (p r : List Int) : numOf (p ++ nb (n + 1) (lg n) ++ r) (lg n) p.length = ((n : Int), ((p.length + lg n : Nat) : Int), 0) := by
  have h40 := qdg hn
  have h1 := qoe (n := n)
  have h2 := qof (n := n)
  have hp0 : 0 < 2 ^ lg n := Nat.pow_pos (by decide)
  have hbv : bv (((p ++ nb (n + 1) (lg n) ++ r).drop p.length).take (lg n)) = n + 1 - 2 ^ lg n := by
    rw [List.append_assoc, List.drop_left, List.take_left' (qcF _ _), qlR]
    rw [Nat.pow_succ] at h2
    rw [Nat.mod_eq_sub_mod h1, Nat.mod_eq_of_lt (by omega)]
  unfold numOf
  rw [hbv, if_neg (by omega), if_neg (by rw [List.length_append, List.length_append, qcF]; omega), if_neg (by omega), show n + 1 - 2 ^ lg n + 2 ^ lg n - 1 = n from by omega]
theorem qtt {n : Nat} (hn : n ≤ 1099511627776) (p r : List Int) : fg (p ++ ga n ++ r) p.length = ((n : Int), ((p.length + (ga n).length : Nat) : Int), 0) := by
  unfold fg
  have h0 : (p ++ ga n ++ r).drop p.length = un (lg n) ++ (nb (n + 1) (lg n) ++ r) := by
    rw [List.append_assoc, List.drop_left]; unfold ga; rw [List.append_assoc]
  rw [h0, qsK]
  simp only
  have := qp8 hn (p ++ un (lg n)) r
  rw [List.length_append, qfF] at this
  have e : p ++ ga n ++ r = p ++ un (lg n) ++ nb (n + 1) (lg n) ++ r := by unfold ga; simp [List.append_assoc]
  rw [e, show p.length + lg n + 1 = p.length + (lg n + 1) from by omega, this, qkN, show p.length + (lg n + 1) + lg n = p.length + (2 * lg n + 1) from by omega]
theorem qlO {F : Nat} : ∀ (k n : Nat) (t : List Int), len n < k → n < 18446744073709551616 → t.length + len n ≤ 10000 → j7 F k ((n : Int), t) = some (nb n (len n) ++ t)
  | 0, _, _, h, _, _ => by omega
  | k + 1, n, t, h, hn, ht => by
    show qcX F (j7 F k) (n : Int) t = _
    unfold qcX
    by_cases h0 : n = 0
    · subst h0
      rw [if_neg (by simp)]
      simp [qeq, len, nb]
    · rw [if_pos (by simp; omega), qkU, vG (by omega), qQ (by simp; omega)]
      simp only [Option.bind_some]
      have hl : len n = len (n / 2) + 1 := by
        by_cases h1 : n = 1
        · subst h1; rfl
        · have := qfO (x := n) (k := 1) (by omega); rw [Nat.pow_one] at this; omega
      rw [qn9 hn, List.singleton_append, qlO k (n / 2) _ (by omega) (by omega) (by simp; omega), hl, qkZ]
      simp
theorem qoS {F n : Nat} (hF : 20000 ≤ F) (hn : n < 18446744073709551616) : qeU F (n : Int) = some (nb n (len n)) := by
  unfold qeU
  have h64 : len n ≤ 64 := qev.2 (by rw [two64]; exact hn)
  rw [qlO F n [] (by omega) hn (by simp; omega), List.append_nil]
theorem qs3 {n : Nat} : nb (n + 1) (len (n + 1)) = 1 :: nb (n + 1) (lg n) := by
  have h1 := qfN (x := n + 1) (by omega)
  have h2 := qoe (n := n)
  have h3 := qof (n := n)
  have e : len (n + 1) = lg n + 1 := by unfold lg; omega
  rw [e, nb]
  congr 1
  have hd : (n + 1) / 2 ^ lg n = 1 := by
    rw [Nat.pow_succ] at h3
    exact Nat.div_eq_of_lt_le (by omega) (by omega)
  rw [hd]; rfl
theorem qhs {F : Nat} {m : List Int} (hm : m.length ≤ 1000) (h1 : 1 ≤ m.length) : ∀ (k i : Nat), m.length < k + i → 1 ≤ i → i ≤ m.length →
    yB F m k (List.replicate (i - 1) 0, (i : Int)) = some (List.replicate (m.length - 1) 0 ++ m)
  | 0, _, _, _, _ => by omega
  | k + 1, i, h, hi1, hi => by
    show qaP F m (yB F m k) (List.replicate (i - 1) 0) (i : Int) = _
    unfold qaP
    by_cases hlt : i < m.length
    · rw [if_pos (by simp; omega), qQ (by simp; omega), ← List.replicate_succ', qn (by omega)]
      simp only [Option.bind_some]
      have := qhs (F := F) hm h1 k (i + 1) (by omega) (by omega) (by omega)
      rw [Nat.add_sub_cancel] at this
      rw [show i - 1 + 1 = i from by omega]
      exact this
    · rw [if_neg (by simp; omega)]
      obtain rfl : i = m.length := by omega
      unfold qcu
      rw [qQ (by simp; omega)]
      rfl
theorem qe1 {F n : Nat} (hF : 20000 ≤ F) (hn : n + 1 < 18446744073709551616) : zQ F (n : Int) = some (ga n) := by
  unfold zQ
  have h64 := qsL hn
  rw [qdD hn, qoS hF (by omega), qs3]
  simp only [Option.bind_some]
  have := qhs (F := F) (m := 1 :: nb (n + 1) (lg n)) (by simp [qcF]; omega) (by simp) F 1 (by simp [qcF]; omega) (by omega) (by simp)
  rw [Nat.sub_self, List.replicate_zero] at this
  rw [show ((1 : Nat) : Int) = 1 from rfl] at this
  rw [this]
  simp [ga, un, qcF]
theorem qmn {F k a : Nat} {l : List Int} (hF : 20000 ≤ F) (hl : Bit l) (hm : l.length ≤ 8192) (ha : a ≤ l.length) (hk : k ≤ 100000) : qds F l (a : Int) (k : Int) = some (numOf l k a) := by
  unfold qds numOf
  by_cases h1 : 64 ≤ k
  · rw [if_pos (by simp; omega), if_pos h1]
  · rw [if_neg (by simp; omega), if_neg h1, vG (by omega), vL (by omega)]
    by_cases h2 : l.length < a + k
    · rw [if_pos (by simp; omega), if_pos h2]
    · rw [if_neg (by simp; omega), if_neg h2, qgZ (by omega) (by omega)]
      simp only [Option.bind_some]
      have hd : (l.take (a + k)).drop a = (l.drop a).take k := by rw [List.drop_take, Nat.add_sub_cancel_left]
      have hlen : ((l.drop a).take k).length = k := by simp; omega
      have hb := qhZ (qdU (qde hl a) k)
      rw [hlen] at hb
      have hp := pow64 (k := k) (by omega)
      have hp0 : 0 < 2 ^ k := Nat.pow_pos (by decide)
      rw [hd, qQ (by simp; omega)]
      simp only [Option.bind_some]
      rw [qoT (by omega) (yX qnO (qdU (qde hl a) k)) (by simp; omega), qhY, hlen]
      simp only [Option.bind_some]
      rw [show bv [1] = 1 from rfl, Nat.one_mul, qfY (by omega) (by omega), Nat.add_comm (2 ^ k)]
      by_cases h3 : 1099511627776 < bv ((l.drop a).take k) + 2 ^ k - 1
      · rw [if_pos h3, if_pos (by simp only [decide_eq_true_eq]; omega)]
      · rw [if_neg h3, if_neg (by simp only [decide_eq_true_eq]; omega)]
theorem qe2 {F a : Nat} {l : List Int} (hF : 20000 ≤ F) (hl : Bit l) (hm : l.length ≤ 8192) (ha : a ≤ l.length) : zZ F l (a : Int) = some (fg l a) := by
  unfold zZ
  rw [qg4 (by omega) hF ha]
  unfold fg
  cases hf : fz (l.drop a) with
  | none => rfl
  | some k =>
    have hk := qnZ hf
    rw [List.length_drop] at hk
    simp only [Option.bind_some]
    rw [if_neg (by simp; omega), qmn hF hl hm (by omega) (by omega)]
    rfl
def sh (m : Nat) : Nat := len (m - 1)
def dd (m : Nat) : Nat := 2 ^ sh m - m
theorem qsP {m : Nat} (h : 1 ≤ m) : m ≤ 2 ^ sh m := by have := qnc (x := m - 1); unfold sh; omega
theorem qgV {m : Nat} (h : m ≤ 9223372036854775808) : sh m ≤ 63 := qev.2 (by rw [show (2 : Nat) ^ 63 = 9223372036854775808 from by decide]; omega)
theorem qtz {m : Nat} (h : 2 ≤ m) : 1 ≤ sh m ∧ 2 ^ (sh m - 1) < m := by
  have h1 := qfN (x := m - 1) (by omega)
  have h2 := qnb (x := m - 1) (by omega)
  unfold sh; omega
theorem qtH : sh 1 = 0 := rfl
theorem qfo {m : Nat} (h : 1 ≤ m) : m + dd m = 2 ^ sh m := by have := qsP h; unfold dd; omega
theorem qgD {m : Nat} (h : 1 ≤ m) (hd : 0 < dd m) : 1 ≤ sh m ∧ dd m < 2 ^ (sh m - 1) := by
  by_cases h2 : 2 ≤ m
  · obtain ⟨h3, h4⟩ := qtz h2
    have h5 := qfo h
    have h6 : 2 ^ sh m = 2 * 2 ^ (sh m - 1) := by rw [← Nat.pow_succ']; congr 1; omega
    omega
  · obtain rfl : m = 1 := by omega
    simp [dd, qtH] at hd
theorem qfB {F m : Nat} (h : 1 ≤ m) (h2 : m ≤ 9223372036854775808) : qaI F (m : Int) = some ((sh m : Int), (dd m : Int)) := by
  unfold qaI
  have h63 := qgV h2
  have hl := qsP h
  rw [qfY h (by omega), qie (by omega)]
  simp only [Option.bind_some]
  have hc : decide ((0 : Int) ≤ ((len (m - 1) : Nat) : Int)) = true := decide_eq_true (by omega)
  rw [hc]
  simp only [chk, if_true]
  have hp := pow64 h63
  have e := qe9 h63
  unfold sh at e hl hp
  rw [e, qd3 hl (by omega)]
  rfl
def le (n m : Nat) : List Int := if n < dd m then nb n (sh m - 1) else nb (n + dd m) (sh m)
theorem qsZ (n m : Nat) : Bit (le n m) := by unfold le; split <;> exact qne _ _
theorem qm9 (n m : Nat) : (le n m).length = if n < dd m then sh m - 1 else sh m := by unfold le; split <;> exact qcF _ _
theorem qlN {F n m : Nat} {l : List Int} (hF : 20000 ≤ F) (hl : Bit l) (hlm : l.length ≤ 8192) (hm : m ≤ 9223372036854775808) (hn : n < m) :
    qam F (l.length : Int) (pk l) (n : Int) (m : Int) = some (((l ++ le n m).length : Int), pk (l ++ le n m)) := by
  unfold qam le
  have h63 := qgV hm
  have ha := qfo (m := m) (by omega)
  have hp := pow64 h63
  rw [qfB (by omega) hm]
  simp only [Option.bind_some]
  by_cases h : n < dd m
  · obtain ⟨h1, h2⟩ := qgD (m := m) (by omega) (by omega)
    rw [if_pos (by simp; omega), if_pos h, vU h1 (by omega), qkC (by omega) (by omega) hl hlm (by omega)]
    rfl
  · rw [if_neg (by simp; omega), if_neg h, qhm (by omega), qkC (by omega) (by omega) hl hlm (by omega)]
    rfl
def flR (l : List Int) (a m : Nat) : Option (Nat × Nat) := if a + sh m ≤ l.length then some (bv ((l.drop a).take (sh m)) - dd m, a + sh m) else none
def flOf (l : List Int) (a m : Nat) : Option (Nat × Nat) :=
  if 0 < dd m then (if a + (sh m - 1) ≤ l.length then (if bv ((l.drop a).take (sh m - 1)) < dd m then some (bv ((l.drop a).take (sh m - 1)), a + (sh m - 1)) else flR l a m) else none) else flR l a m
theorem qg3 {l : List Int} (hl : Bit l) {a s : Nat} (hs : 1 ≤ s) (h : a + s ≤ l.length) : ∃ x, x < 2 ∧ bv ((l.drop a).take s) = 2 * bv ((l.drop a).take (s - 1)) + x := by
  obtain ⟨x, hx, hx2⟩ := qnN (qde hl a) (i := s - 1) (by simp; omega)
  refine ⟨x, hx2, ?_⟩
  have : (l.drop a).take s = (l.drop a).take (s - 1) ++ [(x : Int)] := by
    have h1 : s = (s - 1) + 1 := by omega
    conv => lhs; rw [h1, List.take_add_one, hx]
    rfl
  rw [this, qhY]
  simp [bv]
  omega
theorem qpM {l : List Int} (hl : Bit l) {a m n q : Nat} (hm : 1 ≤ m) (h : flOf l a m = some (n, q)) : n < m ∧ q ≤ l.length := by
  have hR : flR l a m = some (n, q) → n < m ∧ q ≤ l.length := by
    intro h
    unfold flR at h
    split at h
    · rename_i h1
      simp only [Option.some.injEq, Prod.mk.injEq] at h
      have := qhZ (qdU (qde hl a) (sh m))
      rw [List.length_take, List.length_drop, Nat.min_eq_left (by omega)] at this
      have := qfo hm
      omega
    · simp at h
  unfold flOf at h
  split at h
  · rename_i h0
    split at h
    · split at h
      · simp only [Option.some.injEq, Prod.mk.injEq] at h
        have h1 := qgD hm h0
        have h2 := qfo hm
        have h6 : 2 ^ sh m = 2 * 2 ^ (sh m - 1) := by rw [← Nat.pow_succ']; congr 1; omega
        omega
      · exact hR h
    · simp at h
  · exact hR h
theorem qkM {F a m : Nat} {l : List Int} (hF : 20000 ≤ F) (hl : Bit l) (hlm : l.length ≤ 8192) (ha : a ≤ l.length) (hm1 : 1 ≤ m) (hm : m ≤ 9223372036854775808) :
    match flOf l a m with
    | none => ∃ x y, za F (l.length : Int) (pk l) (a : Int) (m : Int) = some (x, y, false)
    | some p => za F (l.length : Int) (pk l) (a : Int) (m : Int) = some ((p.1 : Int), (p.2 : Int), true) := by
  have h63 := qgV hm
  have hadd := qfo hm1
  have hp := pow64 h63
  have hj1 : (0 < dd m → ¬ bv ((l.drop a).take (sh m - 1)) < dd m) → match flR l a m with
      | none => ∃ x y, zd F (l.length : Int) (pk l) (a : Int) ((sh m : Int), (dd m : Int)) = some (x, y, false)
      | some p => zd F (l.length : Int) (pk l) (a : Int) ((sh m : Int), (dd m : Int)) = some ((p.1 : Int), (p.2 : Int), true) := by
    intro hge
    unfold flR zd
    simp only
    rw [qgR (by omega) hl hlm ha (by omega)]
    simp only [Option.bind_some]
    by_cases h : a + sh m ≤ l.length
    · rw [if_pos h, if_pos h]
      simp only
      have hb := qhZ (qdU (qde hl a) (sh m))
      rw [List.length_take, List.length_drop, Nat.min_eq_left (by omega)] at hb
      have hdb : dd m ≤ bv ((l.drop a).take (sh m)) := by
        by_cases h0 : 0 < dd m
        · obtain ⟨h1, _⟩ := qgD hm1 h0
          obtain ⟨x, _, hx⟩ := qg3 hl h1 h
          have := hge h0
          omega
        · omega
      rw [qd3 hdb (by omega), vL (by omega)]
    · rw [if_neg h, if_neg h]
      exact ⟨_, _, rfl⟩
  by_cases h0 : 0 < dd m
  · obtain ⟨h1, h2⟩ := qgD hm1 h0
    by_cases h3 : a + (sh m - 1) ≤ l.length
    · by_cases h4 : bv ((l.drop a).take (sh m - 1)) < dd m
      · have e : flOf l a m = some (bv ((l.drop a).take (sh m - 1)), a + (sh m - 1)) := by unfold flOf; rw [if_pos h0, if_pos h3, if_pos h4]
        rw [e]
        unfold za
        rw [qfB hm1 hm]
        simp only [Option.bind_some]
        rw [if_pos (by simp; omega), vU h1 (by omega), qgR (by omega) hl hlm ha (by omega), if_pos h3]
        simp only [Option.bind_some, Bool.not_true, Bool.false_eq_true, if_false]
        rw [if_pos (by simp; omega), vL (by omega), vU (by omega) (by omega), show a + sh m - 1 = a + (sh m - 1) from by omega]
      · have e : flOf l a m = flR l a m := by unfold flOf; rw [if_pos h0, if_pos h3, if_neg h4]
        have e2 : za F (l.length : Int) (pk l) (a : Int) (m : Int) = zd F (l.length : Int) (pk l) (a : Int) ((sh m : Int), (dd m : Int)) := by
          unfold za
          rw [qfB hm1 hm]
          simp only [Option.bind_some]
          rw [if_pos (by simp; omega), vU h1 (by omega), qgR (by omega) hl hlm ha (by omega), if_pos h3]
          simp only [Option.bind_some, Bool.not_true, Bool.false_eq_true, if_false]
          rw [if_neg (by simp; omega)]
        rw [e, e2]
        exact hj1 (fun _ => h4)
    · have e : flOf l a m = none := by unfold flOf; rw [if_pos h0, if_neg h3]
      rw [e]
      unfold za
      rw [qfB hm1 hm]
      simp only [Option.bind_some]
      rw [if_pos (by simp; omega), vU h1 (by omega), qgR (by omega) hl hlm ha (by omega), if_neg h3]
      exact ⟨_, _, rfl⟩
  · have e : flOf l a m = flR l a m := by unfold flOf; rw [if_neg h0]
    have e2 : za F (l.length : Int) (pk l) (a : Int) (m : Int) = zd F (l.length : Int) (pk l) (a : Int) ((sh m : Int), (dd m : Int)) := by
      unfold za
      rw [qfB hm1 hm]
      simp only [Option.bind_some]
      rw [if_neg (by simp; omega)]
    rw [e, e2]
    exact hj1 (fun h => absurd h h0)
theorem qtu {n m : Nat} (hn : n < m) (p r : List Int) : flOf (p ++ le n m ++ r) p.length m = some (n, p.length + (le n m).length) := by
  have hd : (p ++ le n m ++ r).drop p.length = le n m ++ r := by rw [List.append_assoc, List.drop_left]
  have hll := qm9 n m
  have hadd := qfo (m := m) (by omega)
  have hL : (p ++ le n m ++ r).length = p.length + (le n m).length + r.length := by simp; omega
  unfold flOf flR
  rw [hd, hL, hll]
  by_cases h : n < dd m
  · obtain ⟨h1, h2⟩ := qgD (m := m) (by omega) (by omega)
    have e : bv ((le n m ++ r).take (sh m - 1)) = n := by
      unfold le
      rw [if_pos h, List.take_left' (qcF _ _), qlR, Nat.mod_eq_of_lt (by omega)]
    rw [if_pos h, if_pos (by omega), if_pos (by omega), e, if_pos h]
  · have e : bv ((le n m ++ r).take (sh m)) = n + dd m := by
      unfold le
      rw [if_neg h, List.take_left' (qcF _ _), qlR, Nat.mod_eq_of_lt (by omega)]
    rw [if_neg h]
    by_cases h0 : 0 < dd m
    · obtain ⟨h1, h2⟩ := qgD (m := m) (by omega) h0
      have e2 : bv ((le n m ++ r).take (sh m - 1)) = (n + dd m) / 2 := by
        unfold le
        rw [if_neg h]
        have hs : nb (n + dd m) (sh m) = nb ((n + dd m) / 2) (sh m - 1) ++ [((((n + dd m) % 2 : Nat)) : Int)] := by
          have := qkZ (n + dd m) (sh m - 1)
          rwa [show sh m - 1 + 1 = sh m from by omega] at this
        have h6 : 2 ^ sh m = 2 * 2 ^ (sh m - 1) := by rw [← Nat.pow_succ']; congr 1; omega
        rw [hs, List.append_assoc, List.take_left' (qcF _ _), qlR, Nat.mod_eq_of_lt (by omega)]
      rw [if_pos h0, if_pos (by omega), e2, if_neg (by omega), if_pos (by omega), e, Nat.add_sub_cancel]
    · rw [if_neg h0, if_pos (by omega), e, Nat.add_sub_cancel]
theorem qoD {k m : Nat} (hk : k ≤ 63) (hm : 1 ≤ m) : decide (ishl .u64 1 (k : Int) < (m : Int)) = decide (k < sh m) := by
  rw [qe9 hk]
  congr 1
  rw [eq_iff_iff]
  have := qev (x := m - 1) (k := k)
  unfold sh
  omega
theorem qht {F n m : Nat} (hF : 20000 ≤ F) (hm1 : 1 ≤ m) (hm : m ≤ 9223372036854775808) (hn : n < m) : ∀ (k i : Nat), sh m < k + i → i ≤ sh m →
    yC F (n : Int) (m : Int) k (i : Int) = some (le n m)
  | 0, _, _, _ => by omega
  | k + 1, i, h, hi => by
    show qaR F (n : Int) (m : Int) (yC F (n : Int) (m : Int) k) (i : Int) = _
    unfold qaR
    have h63 := qgV hm
    have hadd := qfo hm1
    have hp := pow64 h63
    have hc : decide ((0 : Int) ≤ (i : Int)) = true := decide_eq_true (by omega)
    rw [hc]
    simp only [chk, if_true]
    rw [qoD (by omega) hm1]
    by_cases hlt : i < sh m
    · rw [if_pos (by simpa using hlt), qn (by omega)]
      exact qht hF hm1 hm hn k (i + 1) (by omega) (by omega)
    · rw [if_neg (by simpa using hlt)]
      obtain rfl : i = sh m := by omega
      unfold qcv le
      rw [hc]
      simp only [chk, if_true]
      rw [qe9 h63, qd3 (by omega) (by omega), show 2 ^ sh m - m = dd m from rfl]
      by_cases hd : n < dd m
      · obtain ⟨h1, h2⟩ := qgD (m := m) (by omega) (by omega)
        rw [if_pos (by simp; omega), if_pos hd, vU h1 (by omega), qih (by omega) (by omega) (by omega)]
        rfl
      · rw [if_neg (by simp; omega), if_neg hd, qhm (by omega), qih (by omega) (by omega) (by omega)]
        rfl
theorem qkW {F n m : Nat} (hF : 20000 ≤ F) (hm : m ≤ 9223372036854775808) (hn : n < m) : qcP F (n : Int) (m : Int) = some (le n m) := by
  unfold qcP
  have h63 := qgV hm
  exact qht hF (by omega) hm hn F 0 (by omega) (by omega)
def lrI (p : Option (Nat × Nat)) : Int × Int := match p with | none => (0, -1) | some p => ((p.1 : Int), (p.2 : Int))
theorem qhu {F a m : Nat} {l : List Int} (hl : Bit l) (hlm : l.length ≤ 8192) (hm1 : 1 ≤ m) (hm : m ≤ 9223372036854775808) : ∀ (k i : Nat), sh m < k + i → i ≤ sh m → a + i ≤ l.length →
    (i = sh m → 0 < dd m → ¬ bv ((l.drop a).take (sh m - 1)) < dd m) →
    yD F l (a : Int) (m : Int) (sh m : Int) k (((bv ((l.drop a).take i) : Nat) : Int), (i : Int)) = some (lrI (flOf l a m))
  | 0, _, _, _, _, _ => by omega
  | k + 1, i, h, hi, hai, hge => by
    show qaS F l (a : Int) (m : Int) (sh m : Int) (yD F l (a : Int) (m : Int) (sh m : Int) k) ((bv ((l.drop a).take i) : Nat) : Int) (i : Int) = _
    unfold qaS
    have h63 := qgV hm
    have hadd := qfo hm1
    have hp := pow64 h63
    have hb := qhZ (qdU (qde hl a) i)
    rw [List.length_take, List.length_drop, Nat.min_eq_left (by omega)] at hb
    rw [if_pos (by simp; omega), qe9 h63, qd3 (by omega) (by omega), show 2 ^ sh m - m = dd m from rfl, qx (by omega) (by omega)]
    by_cases h1 : i + 1 = sh m ∧ bv ((l.drop a).take i) < dd m
    · rw [if_pos (by simp; omega), vL (by omega)]
      have e : sh m - 1 = i := by omega
      unfold flOf
      rw [if_pos (by omega), e, if_pos hai, if_pos h1.2]
      rfl
    · rw [if_neg (by simp; omega)]
      by_cases h2 : i = sh m
      · rw [if_pos (by simp; omega)]
        simp only [lett]
        have hdb : dd m ≤ bv ((l.drop a).take i) := by
          by_cases h0 : 0 < dd m
          · obtain ⟨h3, _⟩ := qgD hm1 h0
            obtain ⟨x, _, hx⟩ := qg3 hl (a := a) (s := i) (by omega) (by omega)
            have := hge h2 h0
            rw [← h2] at this
            omega
          · omega
        have hp2 : 2 ^ i = 2 ^ sh m := by rw [h2]
        rw [qd3 hdb (by omega), vL (by omega)]
        unfold flOf flR
        rw [← h2, if_pos hai]
        by_cases h0 : 0 < dd m
        · have := hge h2 h0
          rw [← h2] at this
          rw [if_pos h0, if_pos (by omega), if_neg this]
          rfl
        · rw [if_neg h0]; rfl
      · rw [if_neg (by simp; omega), vL (by omega)]
        by_cases h3 : l.length ≤ a + i
        · rw [if_pos (by simp; omega)]
          unfold flOf flR
          have hR : ¬ a + sh m ≤ l.length := by omega
          rw [if_neg hR]
          by_cases h0 : 0 < dd m
          · rw [if_pos h0]
            by_cases h4 : a + (sh m - 1) ≤ l.length
            · have e : sh m - 1 = i := by omega
              rw [if_pos h4, e, if_neg (by omega)]; rfl
            · rw [if_neg h4]; rfl
          · rw [if_neg h0]; rfl
        · rw [if_neg (by simp; omega), qs]
          obtain ⟨x, hx, hx2⟩ := qnN hl (i := a + i) (by omega)
          rw [hx]
          simp only [Option.bind_some, lett]
          have hpi : 2 ^ (i + 1) ≤ 2 ^ sh m := Nat.pow_le_pow_right (by decide) (by omega)
          rw [Nat.pow_succ] at hpi
          have ht : (l.drop a).take (i + 1) = (l.drop a).take i ++ [(x : Int)] := by
            rw [List.take_add_one, List.getElem?_drop, hx]; rfl
          have hbn : bv ((l.drop a).take (i + 1)) = 2 * bv ((l.drop a).take i) + x := by
            rw [ht, qhY]; simp [bv]; omega
          have e2 : imul .u64 2 ((bv ((l.drop a).take i) : Nat) : Int) = ((2 * bv ((l.drop a).take i) : Nat) : Int) := by
            unfold imul; rw [zr (by omega) (by omega)]; omega
          rw [e2, zP (by omega), qhm (by omega), ← hbn, qn (by omega)]
          refine qhu hl hlm hm1 hm k (i + 1) (by omega) (by omega) (by omega) ?_
          intro h5 h6
          rw [← h5, Nat.add_sub_cancel]
          omega
theorem qkX {F a m : Nat} {l : List Int} (hF : 20000 ≤ F) (hl : Bit l) (hlm : l.length ≤ 8192) (ha : a ≤ l.length) (hm1 : 1 ≤ m) (hm : m ≤ 9223372036854775808) :
    qcQ F l (a : Int) (m : Int) = some (lrI (flOf l a m)) := by
  unfold qcQ
  have h63 := qgV hm
  have key : ∀ (k i : Nat), sh m < k + i → i ≤ sh m → yE F l (a : Int) (m : Int) k (i : Int) = some (lrI (flOf l a m)) := by
    intro k
    induction k with
    | zero => intro i h1 h2; omega
    | succ k ih =>
      intro i h1 h2
      show qaT F l (a : Int) (m : Int) (yE F l (a : Int) (m : Int) k) (i : Int) = _
      unfold qaT
      have hc : decide ((0 : Int) ≤ (i : Int)) = true := decide_eq_true (by omega)
      rw [hc]
      simp only [chk, if_true]
      rw [qoD (by omega) hm1]
      by_cases hlt : i < sh m
      · rw [if_pos (by simpa using hlt), qn (by omega)]
        exact ih (i + 1) (by omega) (by omega)
      · rw [if_neg (by simpa using hlt)]
        obtain rfl : i = sh m := by omega
        unfold qcw
        rw [hc]
        simp only [chk, if_true]
        have := qhu (F := F) (a := a) hl hlm hm1 hm F 0 (by omega) (by omega) (by omega) (by
          intro h5 h6
          have := qgD hm1 h6
          omega)
        rw [List.take_zero] at this
        exact this
  exact key F 0 (by omega) (by omega)
def ok3 (l : List Int) : Int × List Int × Int := ((l.length : Int), pk l, 0)
theorem qtl {a b : Nat} (h : a * b < 18446744073709551616) : imul .u64 (a : Int) (b : Int) = ((a * b : Nat) : Int) := by
  unfold imul
  rw [← Int.natCast_mul]
  generalize a * b = q at h
  exact zr (by omega) (by omega)
def en (p : Option (Nat × Nat)) : Int × Int × Int := match p with
  | none => (0, 0, 7)
  | some p => if 1099511627776 < p.1 then (0, 0, 3) else ((p.1 : Int), (p.2 : Int), 0)
theorem qoV {F n q : Nat} : qci F (n : Int) (q : Int) true = some (en (some (n, q))) := by
  unfold qci en
  rw [if_neg (by simp)]
  by_cases h : 1099511627776 < n
  · simp only; rw [if_pos (by simp; omega), if_pos h]
  · simp only; rw [if_neg (by simp; omega), if_neg h]
def zh (n k : Nat) : Nat := lg n / k
def zf (n k : Nat) : Nat := 2 ^ (zh n k * k)
def zt (n k : Nat) : Nat := 2 ^ (zh n k * k + k)
def ze (n k : Nat) : List Int := un (zh n k) ++ le (n + 1 - zf n k) (zt n k - zf n k)
theorem qnL (n k : Nat) : Bit (ze n k) := yX (qln _) (qsZ _ _)
theorem qoM (n k : Nat) : zf n k ≤ n + 1 := by
  have h : zh n k * k ≤ lg n := Nat.div_mul_le_self _ _
  exact Nat.le_trans (Nat.pow_le_pow_right (by decide) h) qoe
theorem qoO {n k : Nat} (hk : 1 ≤ k) : n + 1 < zt n k := by
  have h : lg n + 1 ≤ zh n k * k + k := by
    have := Nat.lt_mul_div_succ (lg n) hk
    unfold zh
    rw [Nat.mul_add, Nat.mul_one, Nat.mul_comm] at this
    omega
  exact Nat.lt_of_lt_of_le qof (Nat.pow_le_pow_right (by decide) h)
theorem qkc {n k : Nat} (hn : n ≤ 1099511627776) (hk2 : k ≤ 16) : zh n k * k ≤ 40 ∧ zt n k ≤ 72057594037927936 := by
  have h : zh n k * k ≤ lg n := Nat.div_mul_le_self _ _
  have h40 := qdg hn
  refine ⟨by omega, ?_⟩
  have : zt n k ≤ 2 ^ 56 := Nat.pow_le_pow_right (by decide) (by omega)
  rwa [show (2 : Nat) ^ 56 = 72057594037927936 from by decide] at this
def Zk (k : Int) : Prop := 1 ≤ k ∧ k ≤ 16
instance zkDec (k : Int) : Decidable (Zk k) := inferInstanceAs (Decidable (_ ∧ _))
theorem qtq {k : Int} (h : Zk k) : ∃ j : Nat, k = j ∧ 1 ≤ j ∧ j ≤ 16 := by
  obtain ⟨j, rfl⟩ := Int.eq_ofNat_of_zero_le (show 0 ≤ k by have := h.1; omega)
  exact ⟨j, rfl, by have := h.1; omega, by have := h.2; omega⟩
theorem qsb {F n k : Nat} (hn : n ≤ 1099511627776) (hk : 1 ≤ k) (hk2 : k ≤ 16) : qc2 F (n : Int) (k : Int) = some ((zh n k : Int), (zf n k : Int), (zt n k : Int)) := by
  unfold qc2
  obtain ⟨h40, h56⟩ := qkc hn hk2
  have hlen : len (n + 1) = lg n + 1 := by have := qfN (x := n + 1) (by omega); unfold lg; omega
  have hl40 := qdg hn
  have hzl : zh n k ≤ lg n := Nat.div_le_self _ _
  have hc0 : ((k : Int) != 0) = true := by rw [bne_iff_ne]; omega
  rw [qdD (by omega), qie (by omega), hlen]
  simp only [Option.bind_some]
  rw [vU (by omega) (by omega), Nat.add_sub_cancel]
  have e1 : iquo .i64 (lg n : Int) (k : Int) = ((zh n k : Nat) : Int) := by
    unfold iquo zh
    rw [Int.tdiv_eq_ediv_of_nonneg (by omega), ← Int.natCast_ediv]
    unfold zh at hzl
    generalize lg n / k = q at hzl
    exact q4 (by omega) (by omega)
  have e2 : imul .i64 ((zh n k : Nat) : Int) (k : Int) = ((zh n k * k : Nat) : Int) := by
    unfold imul
    rw [← Int.natCast_mul]
    generalize zh n k * k = q at h40
    exact q4 (by omega) (by omega)
  rw [e1, e2, vL (by omega), hc0]
  have c1 : decide ((0 : Int) ≤ ((zh n k * k : Nat) : Int)) = true := decide_eq_true (Int.natCast_nonneg _)
  have c2 : decide ((0 : Int) ≤ ((zh n k * k + k : Nat) : Int)) = true := decide_eq_true (Int.natCast_nonneg _)
  rw [c1, c2]
  simp only [chk, if_true]
  rw [qe9 (by omega), qe9 (by omega)]
  rfl
def gz (n k : Int) : Int × List Int × Int := if Zk k ∧ n ≤ 1099511627776 then ok3 (ze n.toNat k.toNat) else (0, [], 3)
theorem qsY {n k : Int} (h : ¬ (Zk k ∧ n ≤ 1099511627776)) : gz n k = (0, [], 3) := by unfold gz; rw [if_neg h]
theorem qn6 {n k : Nat} (h : Zk k) (h2 : n ≤ 1099511627776) : gz n k = ok3 (ze n k) := by unfold gz; rw [if_pos ⟨h, by omega⟩, Int.toNat_natCast, Int.toNat_natCast]
theorem qsH {F : Nat} (hF : 20000 ≤ F) {n k : Int} (hn : U64 n) : qc1 F n k = some (gz n k) := by
  unfold qc1
  by_cases h : Zk k ∧ n ≤ 1099511627776
  · obtain ⟨n, rfl⟩ := Int.eq_ofNat_of_zero_le hn.1
    obtain ⟨k, rfl, h1, h2⟩ := qtq h.1
    have hn2 : n ≤ 1099511627776 := by have := h.2; omega
    have hl40 := qdg hn2
    have hzl : zh n k ≤ lg n := Nat.div_le_self _ _
    have a1 := qoM n k
    have a2 := qoO (n := n) h1
    have a3 := (qkc hn2 h2).2
    rw [if_neg (by simp; omega), qsb hn2 h1 h2, qn6 h.1 hn2]
    simp only [Option.bind_some]
    rw [zP (by omega), qqq hF (by omega), qdD (by omega), qd3 a1 (by omega), qd3 (by omega) (by omega)]
    simp only [Option.bind_some]
    rw [qlN hF (qln _) (by rw [qfF]; omega) (by omega) (by omega)]
    rfl
  · rw [if_pos (by unfold Zk at h; simp; omega), qsY h]
def zq (k : Nat) (l : List Int) (i : Nat) : Int × Int × Int := match fz (l.drop i) with
  | none => (0, 0, 7)
  | some h => if 41 ≤ h * k then (0, 0, 3) else en ((flOf l (i + h + 1) (2 ^ (h * k + k) - 2 ^ (h * k))).map fun p => (2 ^ (h * k) + p.1 - 1, p.2))
theorem qk5 {a k : Nat} (hk : 1 ≤ k) : 2 * 2 ^ a ≤ 2 ^ (a + k) := by
  rw [← Nat.pow_succ']; exact Nat.pow_le_pow_right (by decide) (by omega)
theorem qk4 {a : Nat} (h : a ≤ 56) : 2 ^ a ≤ 72057594037927936 := by
  have : 2 ^ a ≤ 2 ^ 56 := Nat.pow_le_pow_right (by decide) h
  rwa [show (2 : Nat) ^ 56 = 72057594037927936 from by decide] at this
theorem qlZ {F i k : Nat} {l : List Int} (hF : 20000 ≤ F) (hl : Bit l) (hlm : l.length ≤ 8192) (hi : i ≤ l.length) (h1 : 1 ≤ k) (h2 : k ≤ 16) : qal F (l.length : Int) (pk l) (i : Int) (k : Int) = some (zq k l i) := by
  unfold qal
  rw [qnY hF hl hlm hi]
  unfold zq
  cases hz : fz (l.drop i) with
  | none => rfl
  | some h =>
    have hq := qnZ hz
    rw [List.length_drop] at hq
    have hmul : h * k ≤ 8192 * 16 := Nat.mul_le_mul (by omega) h2
    simp only [Option.bind_some, Bool.not_true, Bool.false_eq_true, if_false]
    rw [zP (by omega), qtl (by omega), vG (by omega)]
    by_cases h3 : 41 ≤ h * k
    · rw [if_pos (by simp only [decide_eq_true_eq]; omega), if_pos h3]
    · rw [if_neg (by simp only [decide_eq_true_eq]; omega), if_neg h3]
      have e2 : imul .i64 (h : Int) (k : Int) = ((h * k : Nat) : Int) := by
        unfold imul
        rw [← Int.natCast_mul]
        generalize h * k = q at hmul
        exact q4 (by omega) (by omega)
      have c1 : decide ((0 : Int) ≤ ((h * k : Nat) : Int)) = true := decide_eq_true (Int.natCast_nonneg _)
      have c2 : decide ((0 : Int) ≤ (k : Int)) = true := decide_eq_true (by omega)
      rw [e2, c1, c2]
      simp only [chk, if_true, lett]
      have p1 := qk4 (a := h * k) (by omega)
      have p2 := qk4 (a := h * k + k) (by omega)
      have p3 := qk5 (a := h * k) h1
      have p0 : 0 < 2 ^ (h * k) := Nat.pow_pos (by decide)
      rw [qe9 (by omega), qgn (by omega), ← Nat.pow_add, Nat.mod_eq_of_lt (by omega), qd3 (by omega) (by omega)]
      have := qkM (a := i + h + 1) (m := 2 ^ (h * k + k) - 2 ^ (h * k)) hF hl hlm (by omega) (by omega) (by omega)
      cases hf : flOf l (i + h + 1) (2 ^ (h * k + k) - 2 ^ (h * k)) with
      | none =>
        rw [hf] at this
        obtain ⟨x, y, e⟩ := this
        rw [e]; rfl
      | some p =>
        rw [hf] at this
        simp only at this
        have hp := qpM hl (n := p.1) (q := p.2) (by omega) hf
        rw [this]
        simp only [Option.bind_some]
        rw [qhm (by omega), qfY (by omega) (by omega), qoV]
        rfl
theorem qct {n : Nat} (hn : n ≤ 1099511627776) : (ga n).length ≤ 81 := by rw [qkN]; have := qdg hn; omega
theorem qrQ (p : Nat × Nat) : lrI (some p) = ((p.1 : Int), (p.2 : Int)) := rfl
theorem qiM {F n k : Nat} (hn : n ≤ 1099511627776) (h1 : 1 ≤ k) (h2 : k ≤ 16) : ∀ (j h : Nat), zh n k < j + h → h ≤ zh n k →
    ve F (n : Int) (k : Int) j ((h : Int), ((2 ^ (h * k) : Nat) : Int)) = some ((zh n k : Int), (zf n k : Int), (zt n k : Int))
  | 0, _, _, _ => by omega
  | j + 1, h, hh, hi => by
    show qbH F (n : Int) (k : Int) (ve F (n : Int) (k : Int) j) (h : Int) ((2 ^ (h * k) : Nat) : Int) = _
    unfold qbH
    obtain ⟨h40, h56⟩ := qkc hn h2
    have hhk : h * k ≤ zh n k * k := Nat.mul_le_mul_right k hi
    have c2 : decide ((0 : Int) ≤ (k : Int)) = true := decide_eq_true (by omega)
    have p1 := qk4 (a := h * k + k) (by omega)
    rw [c2]
    simp only [chk, if_true]
    rw [qgn (by omega), ← Nat.pow_add, Nat.mod_eq_of_lt (by omega), qdD (by omega)]
    have hle := qoe (n := n)
    have hlt := qof (n := n)
    by_cases h3 : h < zh n k
    · have h4 : h * k + k ≤ zh n k * k := by rw [← Nat.succ_mul]; exact Nat.mul_le_mul_right k h3
      have h5 := qoM n k
      have h6 : 2 ^ (h * k + k) ≤ zf n k := Nat.pow_le_pow_right (by decide) h4
      rw [if_pos (by simp only [decide_eq_true_eq]; omega), qdD (by have := qdg hn; have : zh n k ≤ lg n := Nat.div_le_self _ _; omega)]
      have e : h * k + k = (h + 1) * k := by rw [Nat.succ_mul]
      rw [e]
      exact qiM hn h1 h2 j (h + 1) (by omega) (by omega)
    · obtain rfl : h = zh n k := by omega
      have h5 := qoO (n := n) h1
      unfold zt at h5
      rw [if_neg (by simp only [decide_eq_true_eq]; omega)]
      unfold qdl
      rw [c2]
      simp only [chk, if_true]
      rw [qgn (by omega), ← Nat.pow_add, Nat.mod_eq_of_lt (by omega)]
      rfl
theorem qmK {F n k : Nat} (hF : 20000 ≤ F) (hn : n ≤ 1099511627776) (h1 : 1 ≤ k) (h2 : k ≤ 16) : qdq F (n : Int) (k : Int) = some (ze n k) := by
  unfold qdq qeV
  have hl40 := qdg hn
  have hzl : zh n k ≤ lg n := Nat.div_le_self _ _
  have a1 := qoM n k
  have a2 := qoO (n := n) h1
  have a3 := (qkc hn h2).2
  have a4 := qgV (m := zt n k - zf n k) (by omega)
  have := qiM (F := F) hn h1 h2 F 0 (by omega) (by omega)
  rw [Nat.zero_mul, Nat.pow_zero] at this
  rw [show (((0 : Nat) : Int), ((1 : Nat) : Int)) = ((0 : Int), (1 : Int)) from rfl] at this
  rw [this]
  simp only [Option.bind_some]
  rw [qlo (by omega) (by omega)]
  simp only [Option.bind_some]
  rw [qdD (by omega), qd3 a1 (by omega), qd3 (by omega) (by omega), qkW hF (by omega) (by omega)]
  simp only [Option.bind_some]
  have hll := qm9 (n + 1 - zf n k) (zt n k - zf n k)
  rw [qQ (by rw [qfF]; split at hll <;> omega)]
  rfl
theorem qiL {F k q h : Nat} {l : List Int} {x : Int × Int} (hx : x.1 = (h : Int)) (hx2 : x.2 = (q : Int)) (hF : 20000 ≤ F) (hl : Bit l) (hlm : l.length ≤ 8192) (hq : q ≤ l.length) (h1 : 1 ≤ k) (h2 : k ≤ 16) (h41 : h * k ≤ 40) : ∀ (j i : Nat), h < j + i → i ≤ h →
    vd F l (k : Int) x j (((2 ^ (i * k) : Nat) : Int), (i : Int)) = some (en ((flOf l q (2 ^ (h * k + k) - 2 ^ (h * k))).map fun p => (2 ^ (h * k) + p.1 - 1, p.2)))
  | 0, _, _, _ => by omega
  | j + 1, i, hh, hi => by
    show qbG F l (k : Int) x (vd F l (k : Int) x j) ((2 ^ (i * k) : Nat) : Int) (i : Int) = _
    unfold qbG
    have c2 : decide ((0 : Int) ≤ (k : Int)) = true := decide_eq_true (by omega)
    have hik : i * k ≤ h * k := Nat.mul_le_mul_right k hi
    have hhk : h ≤ h * k := Nat.le_mul_of_pos_right h (by omega)
    have p1 := qk4 (a := i * k + k) (by omega)
    rw [hx]
    by_cases h3 : i < h
    · rw [if_pos (by simp; omega), c2]
      simp only [chk, if_true]
      rw [qgn (by omega), ← Nat.pow_add, Nat.mod_eq_of_lt (by omega), qdD (by omega)]
      have e : i * k + k = (i + 1) * k := by rw [Nat.succ_mul]
      rw [e]
      exact qiL hx hx2 hF hl hlm hq h1 h2 h41 j (i + 1) (by omega) (by omega)
    · obtain rfl : i = h := by omega
      rw [if_neg (by simp)]
      unfold qdk
      have p3 := qk5 (a := i * k) h1
      have p0 : 0 < 2 ^ (i * k) := Nat.pow_pos (by decide)
      rw [c2, hx2]
      simp only [chk, if_true]
      rw [qgn (by omega), ← Nat.pow_add, Nat.mod_eq_of_lt (by omega), qd3 (by omega) (by omega), qkX hF hl hlm hq (by omega) (by omega)]
      simp only [Option.bind_some]
      cases hf : flOf l q (2 ^ (i * k + k) - 2 ^ (i * k)) with
      | none => rfl
      | some p =>
        have hp := qpM hl (n := p.1) (q := p.2) (by omega) hf
        rw [qrQ]
        simp only
        rw [if_neg (by simp), qhm (by omega), qfY (by omega) (by omega)]
        simp only [Option.map_some, en]
        by_cases h4 : 1099511627776 < 2 ^ (i * k) + p.1 - 1
        · rw [if_pos (by simp only [decide_eq_true_eq]; omega), if_pos h4]
        · rw [if_neg (by simp only [decide_eq_true_eq]; omega), if_neg h4]
theorem qmL {F i k : Nat} {l : List Int} (hF : 20000 ≤ F) (hl : Bit l) (hlm : l.length ≤ 8192) (hi : i ≤ l.length) (h1 : 1 ≤ k) (h2 : k ≤ 16) : qdr F l (i : Int) (k : Int) = some (zq k l i) := by
  unfold qdr zq
  rw [qg4 (by omega) hF hi]
  simp only [Option.bind_some]
  cases hz : fz (l.drop i) with
  | none => rfl
  | some h =>
    have hq := qnZ hz
    rw [List.length_drop] at hq
    simp only
    have hmul : h * k ≤ 8192 * 16 := Nat.mul_le_mul (by omega) h2
    have hhk : h ≤ h * k := Nat.le_mul_of_pos_right h (by omega)
    have e2 : imul .i64 (h : Int) (k : Int) = ((h * k : Nat) : Int) := by
      unfold imul
      rw [← Int.natCast_mul]
      generalize h * k = q at hmul
      exact q4 (by omega) (by omega)
    rw [if_neg (by simp; omega), vG (by omega), e2]
    by_cases h3 : 41 ≤ h * k
    · rw [if_pos (by simp only [Bool.or_eq_true, decide_eq_true_eq]; omega), if_pos h3]
    · rw [if_neg (by simp only [Bool.or_eq_true, decide_eq_true_eq]; omega), if_neg h3]
      have := qiL (F := F) (x := ((h : Int), ((i + h + 1 : Nat) : Int))) rfl rfl hF hl hlm (by omega) h1 h2 (by omega) F 0 (by omega) (by omega)
      rw [Nat.zero_mul, Nat.pow_zero] at this
      exact this
theorem qp4 {n m : Nat} (hm : m ≤ 9223372036854775808) : (le n m).length ≤ 63 := by
  have := qm9 n m; have := qgV hm; split at * <;> omega
theorem qnM {n k : Nat} (hn : n ≤ 1099511627776) (hk2 : k ≤ 16) : (ze n k).length ≤ 200 := by
  have hzl : zh n k ≤ lg n := Nat.div_le_self _ _
  have hl40 := qdg (n := n) (by omega)
  have a3 := (qkc (n := n) (by omega) hk2).2
  have hle := qp4 (n := n + 1 - zf n k) (m := zt n k - zf n k) (by omega)
  unfold ze; rw [List.length_append, qfF]; omega
def foldOf (x : Int) : Int := if x < 0 then 2 * (-(x + 1)) + 1 else 2 * x
theorem qlr {x : Int} (h1 : -9223372036854775808 ≤ x) (h2 : x < 0) : IntKind.wrap .u64 x = x + 18446744073709551616 := by
  rw [qg5]; omega
theorem qro (n : Nat) (h : n < 18446744073709551616) : ixor .u64 (n : Int) 18446744073709551615 = 18446744073709551615 - (n : Int) := by
  unfold ixor
  have h1 : (BitVec.ofInt (IntKind.bits .u64) (n : Int)) = BitVec.ofNat 64 n := by simp [IntKind.bits]
  have h2 : (BitVec.ofInt (IntKind.bits .u64) (18446744073709551615 : Int)) = BitVec.allOnes 64 := by show BitVec.ofInt 64 _ = _; decide
  rw [h1, h2]
  have h3 : (BitVec.ofNat 64 n ^^^ BitVec.allOnes 64) = ~~~ (BitVec.ofNat 64 n) := BitVec.xor_allOnes
  have h4 : (BitVec.ofNat 64 n ^^^ BitVec.allOnes 64).toNat = 18446744073709551615 - n := by
    rw [h3, BitVec.toNat_not, BitVec.toNat_ofNat]
    omega
  show IntKind.wrap .u64 ((BitVec.ofNat 64 n ^^^ BitVec.allOnes 64).toNat : Int) = _
  rw [h4, zr (by omega) (by omega)]
  omega
theorem qnJ (n : Nat) (h : n < 18446744073709551616) : ixor .u64 (n : Int) 0 = (n : Int) := by
  unfold ixor
  have h1 : (BitVec.ofInt (IntKind.bits .u64) (n : Int)) = BitVec.ofNat 64 n := by simp [IntKind.bits]
  have h2 : (BitVec.ofInt (IntKind.bits .u64) (0 : Int)) = 0#64 := by show BitVec.ofInt 64 _ = _; decide
  rw [h1, h2]
  show IntKind.wrap .u64 ((BitVec.ofNat 64 n ^^^ 0#64).toNat : Int) = _
  rw [BitVec.xor_zero, BitVec.toNat_ofNat, Nat.mod_eq_of_lt (by omega), zr (by omega) (by omega)]
theorem qnH (n : Nat) (h : n < 9223372036854775808) : ixor .i64 (n : Int) (-1) = -(n : Int) - 1 := by
  unfold ixor
  have h1 : (BitVec.ofInt (IntKind.bits .i64) (n : Int)) = BitVec.ofNat 64 n := by simp [IntKind.bits]
  have h2 : (BitVec.ofInt (IntKind.bits .i64) (-1 : Int)) = BitVec.allOnes 64 := by show BitVec.ofInt 64 _ = _; decide
  rw [h1, h2]
  have h3 : (BitVec.ofNat 64 n ^^^ BitVec.allOnes 64) = ~~~ (BitVec.ofNat 64 n) := BitVec.xor_allOnes
  have h4 : (BitVec.ofNat 64 n ^^^ BitVec.allOnes 64).toNat = 18446744073709551615 - n := by
    rw [h3, BitVec.toNat_not, BitVec.toNat_ofNat]
    omega
  show IntKind.wrap .i64 ((BitVec.ofNat 64 n ^^^ BitVec.allOnes 64).toNat : Int) = _
  rw [h4]
  unfold IntKind.wrap
  simp only [IntKind.bits, IntKind.signed, show (2 ^ 64 : Int) = 18446744073709551616 from by decide, show (2 ^ (64 - 1) : Int) = 9223372036854775808 from by decide]
  rw [if_pos (by simp; omega)]
  omega
theorem qnI (n : Nat) (h : n < 9223372036854775808) : ixor .i64 (n : Int) 0 = (n : Int) := by
  unfold ixor
  have h1 : (BitVec.ofInt (IntKind.bits .i64) (n : Int)) = BitVec.ofNat 64 n := by simp [IntKind.bits]
  have h2 : (BitVec.ofInt (IntKind.bits .i64) (0 : Int)) = 0#64 := by show BitVec.ofInt 64 _ = _; decide
  rw [h1, h2]
  show IntKind.wrap .i64 ((BitVec.ofNat 64 n ^^^ 0#64).toNat : Int) = _
  rw [BitVec.xor_zero, BitVec.toNat_ofNat, Nat.mod_eq_of_lt (by omega), q4 (by omega) (by omega)]
theorem qnX (F : Nat) {x : Int} (h1 : -9223372036854775808 ≤ x) (h2 : x < 9223372036854775808) : qbt F x = some (foldOf x) := by
  unfold qbt lett foldOf
  have hs : ishr .i64 x 63 = x / 9223372036854775808 := by
    have := qgK (k := .i64) (a := x) (m := 63) (by decide)
    rw [show ((63 : Nat) : Int) = 63 from rfl, show (2 : Int) ^ 63 = 9223372036854775808 from by decide] at this
    exact this
  have hl : ∀ y : Int, ishl .u64 y 1 = (y * 2) % 18446744073709551616 := fun y => qib (a := y) (m := 1) (by decide)
  rw [hs, hl]
  by_cases hx : x < 0
  · rw [if_pos hx, show x / 9223372036854775808 = -1 from by omega]
    have e1 : iconv .u64 x = x + 18446744073709551616 := qlr h1 hx
    have e2 : iconv .u64 (-1) = 18446744073709551615 := by decide
    rw [e1, e2, show (x + 18446744073709551616) * 2 % 18446744073709551616 = (((2 * x + 18446744073709551616).toNat : Nat) : Int) from by omega, qro _ (by omega)]
    congr 1
    omega
  · rw [if_neg hx, show x / 9223372036854775808 = 0 from by omega]
    have e1 : iconv .u64 x = x := zr (by omega) (by omega)
    have e2 : iconv .u64 0 = 0 := by decide
    rw [e1, e2, show x * 2 % 18446744073709551616 = ((2 * x).toNat : Int) from by omega, qnJ _ (by omega)]
    congr 1
    omega
theorem qjz (F : Nat) {x : Int} (h1 : -9223372036854775808 ≤ x) (h2 : x < 9223372036854775808) : qdG F x = some (foldOf x) := by
  unfold qdG lett foldOf
  by_cases hx : x < 0
  · simp only [hx, decide_true, if_true]
    have e1 : iadd .i64 x 1 = x + 1 := qr (by omega) (by omega)
    have e2 : isub .i64 0 (x + 1) = -(x + 1) := by rw [qx (by omega) (by omega)]; omega
    have e3 : iconv .u64 (-(x + 1)) = -(x + 1) := zr (by omega) (by omega)
    rw [e1, e2, e3]
    unfold imul iadd
    rw [zr (n := 2 * -(x + 1)) (by omega) (by omega), zr (by omega) (by omega)]
  · simp only [hx, decide_false, Bool.false_eq_true, if_false]
    have e3 : iconv .u64 x = x := zr (by omega) (by omega)
    rw [e3]
    unfold imul
    rw [zr (by omega) (by omega)]
def q6 (n : Int) : Int := if n % 2 = 0 then n / 2 else -(n / 2) - 1
theorem qj8 (F : Nat) {n : Int} (h1 : 0 ≤ n) (h2 : n < 18446744073709551616) : j2 F n = some (q6 n) := by
  unfold j2 lett q6
  have hs : ishr .u64 n 1 = n / 2 := by
    have := qgK (k := .u64) (a := n) (m := 1) (by decide)
    simpa using this
  have ha : iand .u64 n 1 = n % 2 := by
    have := qfK (k := .u64) (a := n) (m := 1) h1 (by simpa [IntKind.bits] using h2) (by decide) rfl
    simpa using this
  have e1 : iconv .i64 (n / 2) = n / 2 := q4 (by omega) (by omega)
  have e2 : iconv .i64 (n % 2) = n % 2 := q4 (by omega) (by omega)
  rw [hs, ha, e1, e2]
  by_cases h : n % 2 = 0
  · rw [if_pos h, h, show isub .i64 0 0 = 0 from by decide, show n / 2 = ((n / 2).toNat : Int) from by omega, qnI _ (by omega)]
  · rw [if_neg h, show n % 2 = 1 from by omega, show isub .i64 0 1 = -1 from by decide, show n / 2 = ((n / 2).toNat : Int) from by omega, qnH _ (by omega)]
theorem qfG (x : Int) : q6 (foldOf x) = x := by
  unfold q6 foldOf
  split <;> split <;> omega
theorem qk0 {F : Nat} {x : Int} : qdb F x = some (decide (0 ≤ x ∧ x ≤ 1048576)) := by
  unfold qdb
  congr 1
  by_cases h : 0 ≤ x <;> by_cases h2 : x ≤ 1048576 <;> simp [h, h2]
def gk : Int → List Int → Int
  | _, [] => 0
  | last, n :: l => if 0 ≤ n ∧ n ≤ 1048576 then (if n ≤ last then 4 else gk n l) else 3
def gkc (l : List Int) : Int := if 300 < l.length then 2 else gk (-1) l
theorem ql1 {F : Nat} {l : List Int} (hm : l.length ≤ 300) : ∀ (k i : Nat) (last : Int), l.length < k + i → i ≤ l.length →
    vf F l k (last, (i : Int)) = some (gk last (l.drop i))
  | 0, _, _, _, _ => by omega
  | k + 1, i, last, h, hi => by
    show qbJ F l (vf F l k) last (i : Int) = _
    unfold qbJ
    by_cases hlt : i < l.length
    · rw [if_pos (by simp; omega), qs, List.getElem?_eq_getElem hlt, List.drop_eq_getElem_cons hlt, gk]
      simp only [Option.bind_some]
      rw [qk0]
      simp only [Option.bind_some]
      by_cases h1 : 0 ≤ l[i] ∧ l[i] ≤ 1048576
      · rw [decide_eq_true h1, if_pos h1, if_neg (by simp)]
        by_cases h2 : l[i] ≤ last
        · rw [if_pos h2, if_pos (by simpa using h2)]
        · rw [if_neg h2, if_neg (by simpa using h2), qn (by omega)]
          exact ql1 hm k (i + 1) _ (by omega) (by omega)
      · rw [decide_eq_false h1, if_neg h1, if_pos (by simp)]
    · rw [if_neg (by simp; omega), List.drop_eq_nil_of_le (by omega)]
      rfl
theorem qeG {F : Nat} (hF : 20000 ≤ F) {l : List Int} : vA F l = some (gkc l) := by
  unfold vA gkc
  by_cases h : 300 < l.length
  · rw [if_pos (by simp; omega), if_pos h]
  · rw [if_neg (by simp; omega), if_neg h]
    exact ql1 (by omega) F 0 (-1) (by omega) (by omega)
theorem qmp {F : Nat} {l : List Int} (hm : l.length ≤ 300) : ∀ (k i : Nat) (last : Int), l.length < k + i → i ≤ l.length → (i = 0 ∧ last = -1 ∨ 0 < i ∧ l[i - 1]? = some last) →
    zD F l k (i : Int) = some (gk last (l.drop i))
  | 0, _, _, _, _, _ => by omega
  | k + 1, i, last, h, hi, hlast => by
    show vT F l (zD F l k) (i : Int) = _
    unfold vT
    by_cases hlt : i < l.length
    · rw [if_pos (by simp; omega), qs, List.getElem?_eq_getElem hlt, List.drop_eq_getElem_cons hlt, gk]
      simp only [Option.bind_some]
      rw [qdT]
      simp only [Option.bind_some]
      by_cases h1 : 0 ≤ l[i] ∧ l[i] ≤ 1048576
      · rw [decide_eq_true h1, if_pos h1, if_neg (by simp)]
        have hrec : zD F l k ((i + 1 : Nat) : Int) = some (gk l[i] (l.drop (i + 1))) :=
          qmp hm k (i + 1) _ (by omega) (by omega) (.inr ⟨by omega, by rw [Nat.add_sub_cancel, List.getElem?_eq_getElem hlt]⟩)
        rcases hlast with ⟨rfl, rfl⟩ | ⟨h0, hl⟩
        · rw [if_neg (by simp)]
          unfold yu
          rw [if_neg (by simp), if_neg (show ¬ l[0] ≤ -1 by omega), qn (by omega)]
          exact hrec
        · rw [if_pos (by simp; omega), vU (by omega) (by omega), qs, hl]
          simp only [Option.bind_some, yu]
          by_cases h2 : l[i] ≤ last
          · rw [if_pos h2, if_pos (by simpa using h2)]
          · rw [if_neg h2, if_neg (by simpa using h2), qn (by omega)]
            exact hrec
      · rw [decide_eq_false h1, if_neg h1, if_pos (by simp)]
    · rw [if_neg (by simp; omega), List.drop_eq_nil_of_le (by omega)]
      rfl
theorem qfQ {F : Nat} (hF : 20000 ≤ F) {l : List Int} : y9 F l = some (gkc l) := by
  unfold y9 gkc
  by_cases h : 300 < l.length
  · rw [if_pos (by simp; omega), if_pos h]
  · rw [if_neg (by simp; omega), if_neg h]
    exact qmp (by omega) F 0 (-1) (by omega) (by omega) (.inl ⟨rfl, rfl⟩)
def Ris : Int → List Int → Prop
  | _, [] => True
  | last, n :: l => (0 ≤ n ∧ n ≤ 1048576) ∧ last < n ∧ Ris n l
theorem qpW : ∀ {last : Int} {l : List Int}, gk last l = 0 ↔ Ris last l
  | _, [] => by simp [gk, Ris]
  | last, n :: l => by
    unfold gk Ris
    by_cases h1 : 0 ≤ n ∧ n ≤ 1048576
    · rw [if_pos h1]
      by_cases h2 : n ≤ last
      · rw [if_pos h2]; simp; omega
      · rw [if_neg h2, qpW]; simp [h1]; omega
    · rw [if_neg h1]; simp; omega
theorem zA {l : List Int} : gkc l = 0 ↔ (l.length ≤ 300 ∧ Ris (-1) l) := by
  unfold gkc
  by_cases h : 300 < l.length
  · rw [if_pos h]; simp; omega
  · rw [if_neg h, qpW]; simp; omega
def Nd (x : Int) : Prop := 0 ≤ x ∧ x ≤ 1048576
instance ndDec (x : Int) : Decidable (Nd x) := inferInstanceAs (Decidable (_ ∧ _))
def gp : Bool → Int → List Int → List Int
  | _, _, [] => []
  | b, a, n :: l => (if b then n - a - 1 else foldOf (n - a)) :: gp true n l
theorem qha : ∀ (b : Bool) (a : Int) (l : List Int), (gp b a l).length = l.length
  | _, _, [] => rfl
  | b, a, n :: l => by rw [gp, List.length_cons, List.length_cons, qha]
theorem qsW {F : Nat} {a n : Int} {b : Bool} (ha : Nd a) (hn : Nd n) (hb : b = true → a < n) : qak F a b n = some (if b then n - a - 1 else foldOf (n - a), n, true) := by
  unfold qak
  have h1 := ha.1; have h2 := ha.2; have h3 := hn.1; have h4 := hn.2
  cases b with
  | true =>
    have := hb rfl
    rw [if_pos rfl, if_pos rfl, qx (a := n) (b := a) (by omega) (by omega), qx (a := n - a) (by omega) (by omega)]
    have e : iconv .u64 (n - a - 1) = n - a - 1 := zr (by omega) (by omega)
    rw [e]; rfl
  | false =>
    rw [if_neg (by simp), if_neg (by simp), qx (by omega) (by omega), qnX F (by omega) (by omega)]
    rfl
theorem qpY {F : Nat} {l : List Int} (hm : l.length ≤ 300) : ∀ (k i : Nat) (a : Int) (b : Bool) (o : List Int), l.length < k + i → i ≤ l.length → Nd a → (b = true → Ris a (l.drop i)) → (b = false → ∃ q, Ris q (l.drop i)) → o.length + (l.length - i) ≤ 1000 →
    j9 F l k (o, (i : Int), a, b) = some (o ++ gp b a (l.drop i))
  | 0, _, _, _, _, _, _, _, _, _, _ => by omega
  | k + 1, i, a, b, o, h, hi, ha, hb, hb2, ho => by
    show qc0 F l (j9 F l k) o (i : Int) a b = _
    unfold qc0
    by_cases hlt : i < l.length
    · rw [List.drop_eq_getElem_cons hlt] at hb hb2 ⊢
      have hx : Nd l[i] ∧ Ris l[i] (l.drop (i + 1)) := by
        cases b with
        | true => have := hb rfl; exact ⟨this.1, this.2.2⟩
        | false => obtain ⟨q, hq⟩ := hb2 rfl; exact ⟨hq.1, hq.2.2⟩
      rw [if_pos (by simp; omega), qs, List.getElem?_eq_getElem hlt]
      simp only [Option.bind_some]
      rw [qsW ha hx.1 (fun h => (hb h).2.1)]
      simp only [Option.bind_some]
      rw [qQ (by simp; omega), qn (by omega)]
      simp only [Option.bind_some]
      rw [qpY hm k (i + 1) _ _ _ (by omega) (by omega) hx.1 (fun _ => hx.2) (fun h => by cases h) (by simp; omega)]
      rw [gp]
      simp
    · rw [if_neg (by simp; omega), List.drop_eq_nil_of_le (by omega)]
      simp [qes, gp]
theorem qrI {F : Nat} (hF : 20000 ≤ F) {l : List Int} {a q : Int} (hm : l.length ≤ 300) (ha : Nd a) (hr : Ris q l) : qdN F l a = some (gp false a l) := by
  unfold qdN
  have := qpY (F := F) hm F 0 a false [] (by omega) (by omega) ha (fun h => by cases h) (fun _ => ⟨q, by rw [List.drop_zero]; exact hr⟩) (by simp; omega)
  rw [List.drop_zero, List.nil_append] at this
  exact this
theorem qh8 {F : Nat} {l : List Int} {at_ q : Int} (hm : l.length ≤ 300) (ha : Nd at_) (hr : Ris q l) : ∀ (k i : Nat) (a : Int) (o : List Int), l.length < k + i → i ≤ l.length → (i = 0 ∧ a = at_ ∨ 0 < i ∧ l[i - 1]? = some a ∧ Nd a ∧ Ris a (l.drop i)) → o.length + (l.length - i) ≤ 1000 →
    vJ F l at_ k (o, (i : Int)) = some (o ++ gp (decide (0 < i)) a (l.drop i))
  | 0, _, _, _, _, _, _, _ => by omega
  | k + 1, i, a, o, h, hi, hinv, ho => by
    show qcN F l at_ (vJ F l at_ k) o (i : Int) = _
    unfold qcN
    by_cases hlt : i < l.length
    · rw [if_pos (by simp; omega)]
      rcases hinv with ⟨rfl, rfl⟩ | ⟨h0, h1, h2, h3⟩
      · obtain ⟨n, l', rfl⟩ : ∃ n l', l = n :: l' := by cases l with | nil => simp at hlt | cons n l' => exact ⟨n, l', rfl⟩
        have hn := hr.1
        rw [if_pos (by simp)]
        have hix : idx (n :: l') 0 = some n := rfl
        rw [hix]
        simp only [Option.bind_some]
        have b1 := ha.1; have b2 := ha.2; have b3 := hn.1; have b4 := hn.2
        rw [qx (by omega) (by omega), qjz F (by omega) (by omega)]
        simp only [Option.bind_some]
        rw [qQ (by simp; omega)]
        simp only [Option.bind_some, qbl]
        rw [qn (by omega), qh8 hm ha hr k 1 n _ (by omega) (by simp) (.inr ⟨by omega, rfl, hn, hr.2.2⟩) (by simp at ho ⊢; omega)]
        simp [gp]
      · rw [List.drop_eq_getElem_cons hlt] at h3 ⊢
        have hx := h3.1
        have b1 := h2.1; have b2 := h2.2; have b3 := hx.1; have b4 := hx.2; have b5 := h3.2.1
        rw [if_neg (by simp; omega), qs, List.getElem?_eq_getElem hlt]
        simp only [Option.bind_some]
        rw [vU (by omega) (by omega), qs, h1]
        simp only [Option.bind_some]
        rw [qx (a := l[i]) (b := a) (by omega) (by omega), qx (a := l[i] - a) (by omega) (by omega)]
        have e : iconv .u64 (l[i] - a - 1) = l[i] - a - 1 := zr (by omega) (by omega)
        rw [e, qQ (by simp; omega)]
        simp only [Option.bind_some, qbl]
        rw [qn (by omega), qh8 hm ha hr k (i + 1) l[i] _ (by omega) (by omega) (.inr ⟨by omega, by rw [Nat.add_sub_cancel, List.getElem?_eq_getElem hlt], hx, h3.2.2⟩) (by simp; omega)]
        have hd : decide (0 < i) = true := decide_eq_true h0
        rw [hd, gp]
        simp
    · rw [if_neg (by simp; omega), List.drop_eq_nil_of_le (by omega)]
      simp [qen, gp]
theorem qoY {F : Nat} (hF : 20000 ≤ F) {l : List Int} {a q : Int} (hm : l.length ≤ 300) (ha : Nd a) (hr : Ris q l) : qeR F l a = some (gp false a l) := by
  unfold qeR
  have := qh8 (F := F) hm ha hr F 0 a [] (by omega) (by omega) (.inl ⟨rfl, rfl⟩) (by simp; omega)
  rw [List.drop_zero, List.nil_append] at this
  exact this
def st (b : Bool) (a g : Int) : Option Int := if 2097152 < g then none else if Nd (if b then a + g + 1 else a + q6 g) then some (if b then a + g + 1 else a + q6 g) else none
theorem qsQ {b : Bool} {a g n : Int} (h : st b a g = some n) : Nd n ∧ g ≤ 2097152 ∧ n = (if b then a + g + 1 else a + q6 g) := by
  unfold st at h
  by_cases h1 : 2097152 < g
  · rw [if_pos h1] at h; simp at h
  · rw [if_neg h1] at h
    by_cases h2 : Nd (if b then a + g + 1 else a + q6 g)
    · rw [if_pos h2] at h
      have := Option.some.inj h
      exact ⟨this ▸ h2, by omega, this.symm⟩
    · rw [if_neg h2] at h; simp at h
theorem qsf {F : Nat} {a g : Int} {b : Bool} (ha : Nd a) (hg : U64 g) : match st b a g with
    | none => ∃ x y, kg F a b g = some (false, x, y)
    | some n => kg F a b g = some (true, n, true) := by
  have h1 := ha.1; have h2 := ha.2; have h3 := hg.1; have h4 := hg.2
  by_cases h : 2097152 < g
  · have e : st b a g = none := by unfold st; rw [if_pos h]
    rw [e]
    unfold kg
    rw [if_pos (by simpa using h)]
    exact ⟨_, _, rfl⟩
  · have hu : -1048577 ≤ q6 g ∧ q6 g ≤ 1048577 := by unfold q6; split <;> omega
    have hM : kg F a b g = some (decide (Nd (if b then a + g + 1 else a + q6 g)), (if b then a + g + 1 else a + q6 g), true) := by
      unfold kg
      rw [if_neg (by simpa using h)]
      cases b with
      | true =>
        have e : iconv .i64 g = g := q4 (by omega) (by omega)
        rw [if_pos rfl, e, qr (a := g) (by omega) (by omega), qr (by omega) (by omega)]
        unfold kM
        rw [qk0, show a + (g + 1) = a + g + 1 from by omega]
        rfl
      | false =>
        rw [if_neg (by simp), qj8 F h3 h4]
        simp only [Option.bind_some]
        rw [qr (by omega) (by omega)]
        unfold kM
        rw [qk0]
        rfl
    rw [hM]
    unfold st
    rw [if_neg h]
    by_cases h5 : Nd (if b then a + g + 1 else a + q6 g)
    · rw [if_pos h5]
      simp only
      rw [decide_eq_true h5]
    · rw [if_neg h5, decide_eq_false h5]
      exact ⟨_, _, rfl⟩
theorem qoa {g : Int} (h : 0 ≤ g) : irem g 2 = g % 2 := by unfold irem; rw [Int.tmod_eq_emod_of_nonneg h]
theorem qh6 {F : Nat} {a g : Int} {b : Bool} (ha : Nd a) (hg : U64 g) : qb2 F g a (!b) = some (match st b a g with | none => -1 | some n => n) := by
  have h1 := ha.1; have h2 := ha.2; have h3 := hg.1; have h4 := hg.2
  unfold qb2
  have hj : ∀ n : Int, v7 F n = some (if Nd n then n else -1) := by
    intro n
    unfold v7
    rw [qdT]
    simp only [Option.bind_some]
    by_cases h : Nd n
    · have : decide (0 ≤ n ∧ n ≤ 1048576) = true := decide_eq_true h
      rw [this, if_pos h]; rfl
    · have : decide (0 ≤ n ∧ n ≤ 1048576) = false := decide_eq_false h
      rw [this, if_neg h]; rfl
  by_cases h : 4194304 < g
  · have e : st b a g = none := by unfold st; rw [if_pos (by omega)]
    rw [if_pos (by simpa using h), e]
  · have e : iconv .i64 g = g := q4 (by omega) (by omega)
    have eq : iquo .i64 g 2 = g / 2 := by unfold iquo; rw [Int.tdiv_eq_ediv_of_nonneg h3, q4 (by omega) (by omega)]
    have hst : st b a g = if Nd (if b then a + g + 1 else a + q6 g) then some (if b then a + g + 1 else a + q6 g) else none := by
      unfold st
      by_cases h5 : 2097152 < g
      · rw [if_pos h5, if_neg]
        intro hn
        have hn1 := hn.1; have hn2 := hn.2
        cases b with
        | true => simp only [if_true] at hn2; omega
        | false =>
          simp only [Bool.false_eq_true, if_false] at hn1 hn2
          unfold q6 at hn1 hn2
          split at hn1 <;> omega
      · rw [if_neg h5]
    rw [if_neg (by simpa using h), e, eq, hst, qoa h3]
    simp only [lett]
    cases b with
    | true =>
      rw [qr (a := a) (b := g) (by omega) (by omega), qr (a := a + g) (b := 1) (by omega) (by omega)]
      simp only [Bool.not_true, Bool.false_eq_true, if_false, if_true]
      rw [hj]
      by_cases h6 : Nd (a + g + 1) <;> simp [h6]
    | false =>
      simp only [Bool.not_false, if_true, Bool.false_eq_true, if_false]
      by_cases h7 : g % 2 = 1
      · have hun : q6 g = -(g / 2) - 1 := by unfold q6; rw [if_neg (by omega)]
        rw [if_pos (by simpa using h7), qx (a := a) (b := g / 2) (by omega) (by omega), qx (a := a - g / 2) (b := 1) (by omega) (by omega), hj, hun, show a - g / 2 - 1 = a + (-(g / 2) - 1) from by omega]
        by_cases h6 : Nd (a + (-(g / 2) - 1)) <;> simp [h6]
      · have hun : q6 g = g / 2 := by unfold q6; rw [if_pos (by omega)]
        rw [if_neg (by simpa using h7), qr (by omega) (by omega), hj, hun]
        by_cases h6 : Nd (a + g / 2) <;> simp [h6]
def bk : Bool → Int → List Int → Option (List Int)
  | _, _, [] => some []
  | b, a, g :: l => (st b a g).bind fun n => (bk true n l).map (n :: ·)
def zes (k : Nat) (g : List Int) : List Int := g.flatMap fun x => ze x.toNat k
theorem qeN (k : Nat) (x : Int) (g : List Int) : zes k (x :: g) = ze x.toNat k ++ zes k g := rfl
theorem qoL (k : Nat) (g : List Int) : Bit (zes k g) := by
  induction g with
  | nil => intro x hx; simp [zes] at hx
  | cons x g ih => rw [qeN]; exact yX (qnL _ _) ih
def L40 (g : List Int) : Prop := ∀ x ∈ g, 0 ≤ x ∧ x ≤ 1099511627776
theorem qsM {F k : Nat} (hF : 20000 ≤ F) (h1 : 1 ≤ k) (h2 : k ≤ 16) {g : List Int} (hg : L40 g) (hgm : g.length ≤ 10000) : ∀ (j i : Nat) (l : List Int), g.length < j + i → i ≤ g.length → Bit l → l.length ≤ 8192 →
    j8 F g (k : Int) j ((i : Int), (l.length : Int), pk l) = some (if (l ++ zes k (g.drop i)).length ≤ 8192 then (((l ++ zes k (g.drop i)).length : Int), pk (l ++ zes k (g.drop i)), true) else (0, [], false))
  | 0, _, _, _, _, _, _ => by omega
  | j + 1, i, l, h, hi, hl, hlm => by
    show qcZ F g (k : Int) (j8 F g (k : Int) j) (i : Int) (l.length : Int) (pk l) = _
    unfold qcZ
    by_cases hlt : i < g.length
    · have hx := hg _ (List.getElem_mem hlt)
      obtain ⟨x, hxe⟩ := Int.eq_ofNat_of_zero_le hx.1
      rw [if_pos (by simp; omega), qs, List.getElem?_eq_getElem hlt, List.drop_eq_getElem_cons hlt, qeN, hxe, Int.toNat_natCast]
      simp only [Option.bind_some]
      have hk : Zk (k : Int) := ⟨by omega, by omega⟩
      rw [qsH hF ⟨by omega, by omega⟩, qn6 hk (by omega)]
      simp only [Option.bind_some, ok3]
      have hz := qnM (n := x) (k := k) (by omega) h2
      rw [vL (by omega)]
      by_cases h3 : l.length + (ze x k).length ≤ 8192
      · rw [if_neg (by simp; omega), qnQ hF hl (qnL _ _) hlm (by omega)]
        simp only [Option.bind_some]
        rw [qn (by omega), qsM hF h1 h2 hg hgm j (i + 1) (l ++ ze x k) (by omega) (by omega) (yX hl (qnL _ _)) (by rw [List.length_append]; omega)]
        rw [List.append_assoc]
      · rw [if_pos (by simp; omega), if_neg (by simp only [List.length_append]; omega)]
    · rw [if_neg (by simp; omega), List.drop_eq_nil_of_le (by omega)]
      have : zes k [] = [] := rfl
      rw [this, List.append_nil, if_pos hlm]
      rfl
theorem qrH {F k : Nat} (hF : 20000 ≤ F) (h1 : 1 ≤ k) (h2 : k ≤ 16) {g l : List Int} (hg : L40 g) (hgm : g.length ≤ 10000) (hl : Bit l) (hlm : l.length ≤ 8192) :
    qbU F (l.length : Int) (pk l) g (k : Int) = some (if (l ++ zes k g).length ≤ 8192 then (((l ++ zes k g).length : Int), pk (l ++ zes k g), true) else (0, [], false)) := by
  unfold qbU
  have := qsM hF h1 h2 hg hgm F 0 l (by omega) (by omega) hl hlm
  rw [List.drop_zero] at this
  exact this
theorem qjB : ∀ {b : Bool} {a q : Int} {l : List Int}, Nd a → Ris q l → (b = true → Ris a l) → ∀ x ∈ gp b a l, 0 ≤ x ∧ x ≤ 2097153
  | _, _, _, [], _, _, _ => by intro x hx; simp [gp] at hx
  | b, a, q, n :: l, ha, hr, hb => by
    intro x hx
    rw [gp] at hx
    have h1 := ha.1; have h2 := ha.2; have h3 := hr.1.1; have h4 := hr.1.2
    rcases List.mem_cons.1 hx with rfl | hx
    · cases b with
      | true => have := (hb rfl).2.1; simp only [if_true]; omega
      | false => simp only [Bool.false_eq_true, if_false]; unfold foldOf; split <;> omega
    · exact qjB hr.1 hr.2.2 (fun _ => hr.2.2) x hx
def gfr (l : List Int) (k : Nat) : Nat → Bool → Int → Nat → Int ⊕ (List Int × Nat)
  | 0, _, _, p => .inr ([], p)
  | m + 1, b, a, p => if (zq k l p).2.2 ≠ 0 then .inl (zq k l p).2.2 else match st b a (zq k l p).1 with
    | none => .inl 3
    | some n => match gfr l k m true n (zq k l p).2.1.toNat with
      | .inl e => .inl e
      | .inr r => .inr (n :: r.1, r.2)
def gfI (o : List Int) (r : Int ⊕ (List Int × Nat)) : List Int × Int × Int := match r with | .inl e => ([], 0, e) | .inr r => (o ++ r.1, (r.2 : Int), 0)
theorem qrq {k : Nat} {l : List Int} (hl : Bit l) {p : Nat} (h1 : 1 ≤ k) : (zq k l p).2.2 ≠ 0 ∨ ∃ g q : Nat, zq k l p = ((g : Int), (q : Int), 0) ∧ g ≤ 1099511627776 ∧ q ≤ l.length := by
  unfold zq
  cases hz : fz (l.drop p) with
  | none => left; simp
  | some h =>
    simp only
    by_cases h3 : 41 ≤ h * k
    · left; rw [if_pos h3]; simp
    · rw [if_neg h3]
      have p3 := qk5 (a := h * k) h1
      have p0 : 0 < 2 ^ (h * k) := Nat.pow_pos (by decide)
      cases hf : flOf l (p + h + 1) (2 ^ (h * k + k) - 2 ^ (h * k)) with
      | none => left; simp [en]
      | some r =>
        have := qpM hl (n := r.1) (q := r.2) (by omega) hf
        simp only [Option.map_some, en]
        by_cases h4 : 1099511627776 < 2 ^ (h * k) + r.1 - 1
        · left; rw [if_pos h4]; simp
        · right; rw [if_neg h4]; exact ⟨_, _, rfl, by omega, this.2⟩
theorem qn3 {F k many : Nat} {l : List Int} (hF : 20000 ≤ F) (hl : Bit l) (hlm : l.length ≤ 8192) (h1 : 1 ≤ k) (h2 : k ≤ 16) (hm : many ≤ 300) : ∀ (j i p : Nat) (a : Int) (b : Bool) (o : List Int), many < j + i → i ≤ many → p ≤ l.length → Nd a → o.length + (many - i) ≤ 1000 →
    jk F (l.length : Int) (pk l) (k : Int) (many : Int) j ((p : Int), o, (i : Int), a, b) = some (gfI o (gfr l k (many - i) b a p))
  | 0, _, _, _, _, _, _, _, _, _, _ => by omega
  | j + 1, i, p, a, b, o, h, hi, hp, ha, ho => by
    show qch F (l.length : Int) (pk l) (k : Int) (many : Int) (jk F (l.length : Int) (pk l) (k : Int) (many : Int) j) (p : Int) o (i : Int) a b = _
    unfold qch
    by_cases hlt : i < many
    · rw [if_pos (by simp; omega), qlZ hF hl hlm hp h1 h2, show many - i = (many - (i + 1)) + 1 from by omega]
      simp only [Option.bind_some]
      unfold gfr
      rcases qrq hl (k := k) (p := p) h1 with hz | ⟨g, q, hz, hg, hq⟩
      · rw [if_pos hz, if_pos (by simpa using hz)]
        rfl
      · rw [hz]
        simp only [ne_eq, not_true_eq_false, if_false, bne_self_eq_false, Bool.false_eq_true, Int.toNat_natCast]
        have hs := qsf (F := F) (b := b) ha (g := (g : Int)) ⟨by omega, by omega⟩
        cases hst : st b a (g : Int) with
        | none =>
          rw [hst] at hs
          obtain ⟨x, y, e⟩ := hs
          rw [e]; rfl
        | some n =>
          rw [hst] at hs
          simp only at hs
          rw [hs]
          simp only [Option.bind_some, Bool.not_true, Bool.false_eq_true, if_false]
          rw [qQ (by simp; omega), qn (by omega)]
          simp only [Option.bind_some]
          rw [qn3 hF hl hlm h1 h2 hm j (i + 1) q n true _ (by omega) (by omega) hq (qsQ hst).1 (by simp; omega)]
          cases gfr l k (many - (i + 1)) true n q with
          | inl e => rfl
          | inr r => simp [gfI]
    · rw [if_neg (by simp; omega), show many - i = 0 from by omega]
      simp [qdM, gfr, gfI]
theorem qpV {F k many p : Nat} {l : List Int} {a : Int} (hF : 20000 ≤ F) (hl : Bit l) (hlm : l.length ≤ 8192) (h1 : 1 ≤ k) (h2 : k ≤ 16) (hm : many ≤ 300) (hp : p ≤ l.length) (ha : Nd a) :
    qd8 F (l.length : Int) (pk l) (p : Int) a (k : Int) (many : Int) = some (gfI [] (gfr l k many false a p)) := by
  unfold qd8
  exact qn3 hF hl hlm h1 h2 hm F 0 p a false [] (by omega) (by omega) hp ha (by simp; omega)
theorem qhA {F k : Nat} (hF : 20000 ≤ F) (h1 : 1 ≤ k) (h2 : k ≤ 16) {g : List Int} (hg : L40 g) (hgm : g.length ≤ 300) : ∀ (j i : Nat) (o : List Int), g.length < j + i → i ≤ g.length → o.length + 200 * (g.length - i) ≤ 100000 →
    kU F g (k : Int) j (o, (i : Int)) = some (o ++ zes k (g.drop i))
  | 0, _, _, _, _, _ => by omega
  | j + 1, i, o, h, hi, ho => by
    show qa9 F g (k : Int) (kU F g (k : Int) j) o (i : Int) = _
    unfold qa9
    by_cases hlt : i < g.length
    · have hx := hg _ (List.getElem_mem hlt)
      obtain ⟨x, hxe⟩ := Int.eq_ofNat_of_zero_le hx.1
      rw [if_pos (by simp; omega), qs, List.getElem?_eq_getElem hlt, List.drop_eq_getElem_cons hlt, qeN, hxe, Int.toNat_natCast]
      simp only [Option.bind_some]
      have hz := qnM (n := x) (k := k) (by omega) h2
      rw [qmK hF (by omega) h1 h2]
      simp only [Option.bind_some]
      rw [qQ (by omega), qn (by omega)]
      simp only [Option.bind_some]
      rw [qhA hF h1 h2 hg hgm j (i + 1) _ (by omega) (by omega) (by rw [List.length_append]; omega), List.append_assoc]
    · rw [if_neg (by simp; omega), List.drop_eq_nil_of_le (by omega)]
      simp [qcA, zes]
theorem qlt {k : Nat} (h2 : k ≤ 16) : ∀ {g : List Int}, L40 g → (zes k g).length ≤ 200 * g.length
  | [], _ => by simp [zes]
  | x :: g, hg => by
    have hx := hg x List.mem_cons_self
    have hz := qnM (n := x.toNat) (k := k) (by omega) h2
    have := qlt h2 (g := g) (fun y hy => hg y (List.mem_cons_of_mem _ hy))
    rw [qeN, List.length_append, List.length_cons]; omega
theorem qh7 {F k many : Nat} {l : List Int} (hF : 20000 ≤ F) (hl : Bit l) (hlm : l.length ≤ 8192) (h1 : 1 ≤ k) (h2 : k ≤ 16) (hm : many ≤ 300) : ∀ (j p : Nat) (a : Int) (o : List Int), many < j + o.length → o.length ≤ many → p ≤ l.length → Nd a →
    y8 F l (k : Int) (many : Int) j ((p : Int), a, o) = some (gfI o (gfr l k (many - o.length) (decide (0 < o.length)) a p))
  | 0, _, _, _, _, _, _, _ => by omega
  | j + 1, p, a, o, h, ho, hp, ha => by
    show qby F l (k : Int) (many : Int) (y8 F l (k : Int) (many : Int) j) (p : Int) a o = _
    unfold qby
    by_cases hlt : o.length < many
    · rw [if_pos (by simp; omega), qmL hF hl hlm hp h1 h2, show many - o.length = (many - (o.length + 1)) + 1 from by omega]
      simp only [Option.bind_some]
      unfold gfr
      rcases qrq hl (k := k) (p := p) h1 with hz | ⟨g, q, hz, hg, hq⟩
      · rw [if_pos hz, if_pos (by simpa using hz)]
        rfl
      · rw [hz]
        simp only [ne_eq, not_true_eq_false, if_false, bne_self_eq_false, Bool.false_eq_true, Int.toNat_natCast]
        have hbe : (((o.length : Int)) == 0) = !(decide (0 < o.length)) := by
          by_cases h0 : 0 < o.length
          · rw [decide_eq_true h0]; simp; intro hh; subst hh; simp at h0
          · rw [decide_eq_false h0]; simp; exact List.length_eq_zero_iff.1 (by omega)
        rw [hbe, qh6 ha ⟨by omega, by omega⟩]
        simp only [Option.bind_some]
        cases hst : st (decide (0 < o.length)) a (g : Int) with
        | none => rfl
        | some n =>
          have hnd := (qsQ hst).1
          simp only
          rw [if_neg (by simp; exact hnd.1), qQ (by simp; omega)]
          simp only [Option.bind_some]
          have hol : (o ++ [n]).length = o.length + 1 := by simp
          rw [qh7 hF hl hlm h1 h2 hm j q n (o ++ [n]) (by omega) (by omega) hq hnd, hol, decide_eq_true (show 0 < o.length + 1 by omega)]
          cases gfr l k (many - (o.length + 1)) true n q with
          | inl e => rfl
          | inr r => simp [gfI]
    · rw [if_neg (by simp; omega), show many - o.length = 0 from by omega]
      simp [qdj, gfr, gfI]
theorem qoh {a : Int} : ((decide (a < 0)) || (decide (1048576 < a))) = !decide (Nd a) := by
  by_cases h : Nd a
  · rw [decide_eq_true h]; have := h.1; have := h.2; simp; omega
  · rw [decide_eq_false h]
    unfold Nd at h
    simp; omega
theorem qkO {l : List Int} {k : Nat} : ∀ {m : Nat} {b : Bool} {a : Int} {p : Nat} {r : List Int × Nat}, gfr l k m b a p = .inr r → r.1.length = m
  | 0, _, _, _, r, h => by simp [gfr] at h; subst h; rfl
  | m + 1, b, a, p, r, h => by
    unfold gfr at h
    split at h
    · simp at h
    · split at h
      · simp at h
      · split at h
        · simp at h
        · rename_i r' hr
          simp only [Sum.inr.injEq] at h
          rw [← h]
          simp [qkO hr]
theorem qte {b : Bool} {a n : Int} (ha : Nd a) (hn : Nd n) (hb : b = true → a < n) : st b a (if b then n - a - 1 else foldOf (n - a)) = some n := by
  have h1 := ha.1; have h2 := ha.2; have h3 := hn.1; have h4 := hn.2
  unfold st
  cases b with
  | true =>
    have := hb rfl
    simp only [if_true]
    rw [if_neg (by omega), show a + (n - a - 1) + 1 = n from by omega, if_pos hn]
  | false =>
    simp only [Bool.false_eq_true, if_false]
    rw [qfG, show a + (n - a) = n from by omega, if_pos hn, if_neg]
    unfold foldOf; split <;> omega
theorem qpB : ∀ {b : Bool} {a q : Int} {l : List Int}, Nd a → Ris q l → (b = true → Ris a l) → bk b a (gp b a l) = some l
  | _, _, _, [], _, _, _ => rfl
  | b, a, q, n :: l, ha, hr, hb => by
    rw [gp, bk, qte ha hr.1 (fun h => (hb h).2.1)]
    simp only [Option.bind_some]
    rw [qpB hr.1 hr.2.2 (fun _ => hr.2.2)]
    rfl
theorem qgp : ∀ {q : Int} {l : List Int}, Ris q l → ∀ x ∈ l, Nd x
  | _, [], _ => by intro x hx; simp at hx
  | _, n :: l, h => by
    intro x hx
    rcases List.mem_cons.1 hx with rfl | hx
    · exact h.1
    · exact qgp h.2.2 x hx
theorem qtC {n k : Nat} (hk : 1 ≤ k) (hk2 : k ≤ 16) (hn : n ≤ 1099511627776) (p r : List Int) : zq k (p ++ ze n k ++ r) p.length = ((n : Int), ((p.length + (ze n k).length : Nat) : Int), 0) := by
  unfold zq
  have a1 := qoM n k
  have a2 := qoO (n := n) hk
  have h40 := (qkc hn hk2).1
  have hd : (p ++ ze n k ++ r).drop p.length = un (zh n k) ++ (le (n + 1 - zf n k) (zt n k - zf n k) ++ r) := by
    rw [List.append_assoc, List.drop_left]; unfold ze; rw [List.append_assoc]
  rw [hd, qsK]
  simp only
  rw [if_neg (by omega)]
  have := qtu (n := n + 1 - zf n k) (m := zt n k - zf n k) (by omega) (p ++ un (zh n k)) r
  rw [List.length_append, qfF] at this
  have e : p ++ ze n k ++ r = p ++ un (zh n k) ++ le (n + 1 - zf n k) (zt n k - zf n k) ++ r := by unfold ze; simp [List.append_assoc]
  have e2 : 2 ^ (zh n k * k + k) - 2 ^ (zh n k * k) = zt n k - zf n k := rfl
  rw [e, e2, Nat.add_assoc, this]
  have hdm : 2 ^ (zh n k * k) + (n + 1 - zf n k) - 1 = n := by
    have : 2 ^ (zh n k * k) = zf n k := rfl
    omega
  simp only [Option.map_some, en, hdm]
  rw [if_neg (by omega)]
  unfold ze
  rw [List.length_append, qfF, Nat.add_assoc]
theorem qkP {k : Nat} (hk : 1 ≤ k) (hk2 : k ≤ 16) : ∀ {g rs : List Int} {b : Bool} {a : Int} (p r : List Int), L40 g → bk b a g = some rs → gfr (p ++ zes k g ++ r) k g.length b a p.length = .inr (rs, p.length + (zes k g).length)
  | [], rs, b, a, p, r, _, h => by simp [bk] at h; subst h; simp [gfr, zes]
  | x :: g, rs, b, a, p, r, hg, h => by
    have hx := hg x List.mem_cons_self
    obtain ⟨n, hn⟩ := Int.eq_ofNat_of_zero_le hx.1
    unfold bk at h
    cases hs : st b a x with
    | none => rw [hs] at h; simp at h
    | some y =>
      rw [hs] at h
      simp only [Option.bind_some] at h
      cases hb : bk true y g with
      | none => rw [hb] at h; simp at h
      | some rs' =>
        rw [hb] at h
        simp only [Option.map_some, Option.some.injEq] at h
        have hz := qtC hk hk2 (n := n) (by omega) p (zes k g ++ r)
        have e : p ++ zes k (x :: g) ++ r = p ++ ze n k ++ (zes k g ++ r) := by rw [qeN, hn, Int.toNat_natCast]; simp [List.append_assoc]
        have ih := qkP hk hk2 (p ++ ze n k) r (fun y hy => hg y (List.mem_cons_of_mem _ hy)) hb
        have e2 : p ++ ze n k ++ zes k g ++ r = p ++ ze n k ++ (zes k g ++ r) := by simp [List.append_assoc]
        rw [e2, List.length_append] at ih
        rw [e, List.length_cons, gfr, hz]
        simp only [ne_eq, not_true_eq_false, if_false, Int.toNat_natCast]
        rw [← hn, hs]
        simp only
        rw [ih, ← h, qeN, hn, Int.toNat_natCast, List.length_append, Nat.add_assoc]
theorem qiB (l : List Int) : (srt l).Perm l := List.mergeSort_perm l _
theorem qnt (l : List Int) : (srt l).Pairwise (· ≤ ·) := by
  have h := List.pairwise_mergeSort (le := fun x y : Int => decide (x ≤ y)) (fun a b c h1 h2 => by simp only [decide_eq_true_eq] at *; omega) (fun a b => by simp only [Bool.or_eq_true, decide_eq_true_eq]; omega) l
  exact h.imp (fun h => by simpa using h)
theorem qfC {l m : List Int} (hp : l.Perm m) (hm : m.Pairwise (· ≤ ·)) : srt l = m :=
  List.Perm.eq_of_pairwise (le := fun x y : Int => x ≤ y) (fun a b _ _ h1 h2 => by omega) (qnt l) hm ((qiB l).trans hp)
theorem qin {l : List Int} (h : l.Pairwise (· < ·)) : l.Pairwise (· ≤ ·) := h.imp (fun h => by omega)
theorem qio {l : List Int} (h : l.Pairwise (· < ·)) : l.Nodup := h.imp (fun h => by omega)
theorem qml {l : List Int} (h : l.Pairwise (· ≤ ·)) (hn : l.Nodup) : l.Pairwise (· < ·) := by
  have := List.Pairwise.and h hn
  exact this.imp (fun h => by have h1 := h.1; have h2 := h.2; omega)
theorem qhp (xs : List Int) : (Go.Lib.compact xs).length ≤ xs.length := by
  unfold Go.Lib.compact Go.Lib.compactUpTo
  rw [List.length_map]
  exact Nat.le_trans (List.length_filter_le _ _) (by simp)
theorem qjC {xs : List Int} {j : Nat} (h0 : 0 < j) (hj : j < xs.length) : Go.Lib.keeps xs.toArray j = decide (xs[j] ≠ xs[j - 1]) := by
  unfold Go.Lib.keeps
  have e1 : xs.toArray[j]! = xs[j] := by rw [getElem!_pos xs.toArray j (by simpa using hj)]; simp
  have e2 : xs.toArray[j - 1]! = xs[j - 1] := by rw [getElem!_pos xs.toArray (j - 1) (by simp; omega)]; simp
  rw [e1, e2]
  have : j ≠ 0 := by omega
  simp [this]
theorem qh1 {xs : List Int} (h : xs.Pairwise (· < ·)) : Go.Lib.compact xs = xs := by
  refine Go.Lib.compact_all _ fun j hj => ?_
  by_cases h0 : j = 0
  · subst h0; simp [Go.Lib.keeps]
  · rw [qjC (by omega) hj]
    have := List.pairwise_iff_getElem.1 h (j - 1) j (by omega) hj (by omega)
    simp; omega
theorem qkI {xs : List Int} (h : xs.Pairwise (· ≤ ·)) (he : (Go.Lib.compact xs).length = xs.length) : xs.Pairwise (· < ·) := by
  unfold Go.Lib.compact Go.Lib.compactUpTo at he
  rw [List.length_map] at he
  have he' : ((List.range xs.length).filter (Go.Lib.keeps xs.toArray)).length = (List.range xs.length).length := by rw [he]; simp
  have hk := List.length_filter_eq_length_iff.1 he'
  rw [List.pairwise_iff_getElem]
  intro i j hi hj hij
  have h1 := hk j (by simpa using hj)
  rw [qjC (by omega) hj] at h1
  have h2 : xs[j] ≠ xs[j - 1] := by simpa using h1
  have h3 := List.pairwise_iff_getElem.1 h (j - 1) j (by omega) hj (by omega)
  have h4 : xs[i] ≤ xs[j - 1] := by
    by_cases e : i = j - 1
    · subst e; omega
    · exact List.pairwise_iff_getElem.1 h i (j - 1) hi (by omega) (by omega)
  omega
theorem vM : ∀ {q : Int} {l : List Int}, Ris q l → l.Pairwise (· < ·) ∧ ∀ z ∈ l, q < z
  | _, [], _ => by simp
  | q, x :: l, h => by
    obtain ⟨h1, h2⟩ := vM h.2.2
    have h3 := h.2.1
    refine ⟨List.pairwise_cons.2 ⟨h2, h1⟩, fun z hz => ?_⟩
    rcases List.mem_cons.1 hz with rfl | hz
    · exact h3
    · have := h2 z hz; omega
theorem qk7 : ∀ {q : Int} {l : List Int}, l.Pairwise (· < ·) → (∀ z ∈ l, q < z) → (∀ z ∈ l, Nd z) → Ris q l
  | _, [], _, _, _ => trivial
  | q, x :: l, h, hq, hn => ⟨hn x (by simp), hq x (by simp), qk7 (List.pairwise_cons.1 h).2 (List.pairwise_cons.1 h).1 fun z hz => hn z (by simp [hz])⟩
def cmn (l r : List Int) : Bool := l.any fun x => r.contains x
theorem qnV {l r : List Int} : cmn l r = false ↔ ∀ x ∈ l, x ∉ r := by simp [cmn]
def mrg (l r : List Int) : List Int × Int := if cmn l r then ([], 6) else if 300 < l.length + r.length then ([], 2) else (srt (l ++ r), 0)
theorem qn5 {F n : Nat} (h : n ≤ 1000000) : yT F ([] : List Int) 0 (n : Int) = some [] := by
  unfold yT lett
  rw [if_neg (by simp)]
  have e1 : isub .i64 ((0 : Nat) : Int) (([] : List Int).length : Int) = 0 := by decide
  rw [e1, qx (by omega) (by omega), Int.sub_zero]
  by_cases h0 : n = 0
  · subst h0; rfl
  · simp only
    rw [if_pos (by simp; omega)]
    have e2 : sub ([] : List Int) 0 ((0 : Nat) : Int) = some [] := by decide
    have e3 : appz 8796093022208 ([] : List Int) 0 (n : Int) = some (List.replicate n 0) := by
      unfold appz
      rw [if_pos (by simp; omega)]
      simp
    rw [e2]
    simp only [Option.bind_some]
    rw [e3]
    simp only [Option.bind_some]
    have e4 : sub (List.replicate n (0 : Int)) 0 ((([] : List Int).length : Nat) : Int) = some [] := by
      have := qgZ (l := List.replicate n (0 : Int)) (i := 0) (j := 0) (by omega) (by omega)
      simpa using this
    rw [e4]
    rfl
theorem qoU {F : Nat} (hF : 20000 ≤ F) {a b : List Int} (h : a.length + b.length ≤ 1000000) : zo F [a, b] = some (a ++ b) := by
  obtain ⟨k, rfl⟩ : ∃ k, F = k + 3 := ⟨F - 3, by omega⟩
  have i0 : idx [a, b] (0 : Int) = some a := rfl
  have i1 : idx [a, b] (1 : Int) = some b := rfl
  have e0 : iadd .i64 0 (a.length : Int) = (a.length : Int) := by rw [qr (by omega) (by omega)]; omega
  have e1 : iadd .i64 (a.length : Int) (b.length : Int) = ((a.length + b.length : Nat) : Int) := vL (by omega)
  have o1 : iadd .i64 0 1 = 1 := by decide
  have o2 : iadd .i64 1 1 = 2 := by decide
  have hs : zO (k + 3) [a, b] ((a.length + b.length : Nat) : Int) = some (a ++ b) := by
    unfold zO
    rw [qn5 h]
    simp only [Option.bind_some]
    show qE (k + 3) [a, b] (qL (k + 3) [a, b] (k + 2)) [] 0 = _
    unfold qE
    rw [if_pos (by simp), i0]
    simp only [Option.bind_some]
    rw [qQ (by simp; omega), o1]
    simp only [Option.bind_some, List.nil_append]
    show qE (k + 3) [a, b] (qL (k + 3) [a, b] (k + 1)) a 1 = _
    unfold qE
    rw [if_pos (by simp), i1]
    simp only [Option.bind_some]
    rw [qQ (by omega), o2]
    simp only [Option.bind_some]
    show qE (k + 3) [a, b] (qL (k + 3) [a, b] k) (a ++ b) 2 = _
    unfold qE
    rw [if_neg (by simp)]
    rfl
  unfold zo
  show qF (k + 3) [a, b] (qM (k + 3) [a, b] (k + 2)) 0 0 = _
  unfold qF
  rw [if_pos (by simp), i0]
  simp only [Option.bind_some]
  rw [e0, if_neg (by simp), o1]
  show qF (k + 3) [a, b] (qM (k + 3) [a, b] (k + 1)) (a.length : Int) 1 = _
  unfold qF
  rw [if_pos (by simp), i1]
  simp only [Option.bind_some]
  rw [e1, if_neg (by simp; omega), o2]
  show qF (k + 3) [a, b] (qM (k + 3) [a, b] k) ((a.length + b.length : Nat) : Int) 2 = _
  unfold qF
  rw [if_neg (by simp)]
  exact hs
theorem qoF {l r : List Int} (hl : l.Pairwise (· < ·)) (hr : r.Pairwise (· < ·)) : (srt (l ++ r)).Pairwise (· < ·) ↔ cmn l r = false := by
  rw [qnV]
  constructor
  · intro h x hx hx'
    have hn : (l ++ r).Nodup := (qiB _).nodup_iff.1 (qio h)
    exact (List.nodup_append.1 hn).2.2 x hx x hx' rfl
  · intro h
    refine qml (qnt _) ((qiB _).nodup_iff.2 (List.nodup_append.2 ⟨qio hl, qio hr, fun a ha b hb e => ?_⟩))
    subst e
    exact h a ha hb
theorem qoZ {F : Nat} (hF : 20000 ≤ F) {l r : List Int} (hl : l.Pairwise (· < ·)) (hr : r.Pairwise (· < ·)) (hm : l.length + r.length ≤ 1000000) :
    ((zo F ([l, r] : List (List Int))).bind fun x16 => ((zg F x16).bind fun x19 => (chk (decide (x19.length = x16.length)) (((yx F x19).bind fun x29 => ((ka F x29).bind fun x32 => (if (decide ((x32.length : Int) < (x19.length : Int))) then some (([] : List Int), (6 : Int)) else (if (decide (300 < (x19.length : Int))) then some (([] : List Int), 2) else some (x19, 0))))))))) = some (mrg l r) := by
  rw [qoU hF hm]
  simp only [Option.bind_some]
  have hsl : (srt (l ++ r)).length = l.length + r.length := by rw [qgW, List.length_append]
  unfold zg
  rw [if_pos (by rw [List.length_append]; omega)]
  simp only [Option.bind_some]
  unfold chk
  rw [if_pos (by rw [qgW]; simp)]
  unfold yx
  rw [qQ (by rw [hsl]; simp; omega)]
  simp only [Option.bind_some, List.nil_append]
  unfold ka
  rw [if_pos (qhp _)]
  simp only [Option.bind_some]
  unfold mrg
  have hc := qhp (srt (l ++ r))
  cases h : cmn l r
  · have hp := (qoF hl hr).2 h
    rw [qh1 hp, if_neg (by simp), hsl, if_neg (show ¬ (false = true) by simp)]
    by_cases h3 : 300 < l.length + r.length
    · rw [if_pos (by simp; omega), if_pos h3]
    · rw [if_neg (by simp; omega), if_neg h3]
  · have hne : (Go.Lib.compact (srt (l ++ r))).length ≠ (srt (l ++ r)).length := by
      intro he
      have := (qoF hl hr).1 (qkI (qnt _) he)
      rw [h] at this
      simp at this
    rw [if_pos (by simp only [decide_eq_true_eq]; omega), if_pos rfl]
def cr : Int → List Int → Nat
  | _, [] => 0
  | v, y :: t => if y = v then 1 + cr (v + 1) t else 0
def rs : List Int → List (Int × Int)
  | [] => []
  | x :: t => match rs t with
    | (y, n) :: r => if y = x + 1 then (x, n + 1) :: r else (x, 1) :: (y, n) :: r
    | [] => [(x, 1)]
def rng : Int → Nat → List Int
  | _, 0 => []
  | a, n + 1 => a :: rng (a + 1) n
def flat (R : List (Int × Int)) : List Int := R.flatMap fun r => rng r.1 r.2.toNat
theorem qrB (v y : Int) (t : List Int) : cr v (y :: t) = if y = v then 1 + cr (v + 1) t else 0 := rfl
theorem qr8 (x : Int) (t : List Int) : rs (x :: t) = match rs t with
    | (y, n) :: r => if y = x + 1 then (x, n + 1) :: r else (x, 1) :: (y, n) :: r
    | [] => [(x, 1)] := rfl
theorem qpL : ∀ (v : Int) (t : List Int), cr v t ≤ t.length
  | _, [] => Nat.le_refl _
  | v, y :: t => by
    unfold cr
    have := qpL (v + 1) t
    split
    · rw [List.length_cons]; omega
    · omega
theorem qpK : ∀ (v : Int) (t : List Int) {j : Nat}, j < cr v t → t[j]? = some (v + j)
  | _, [], _, h => by simp [cr] at h
  | v, y :: t, j, h => by
    unfold cr at h
    split at h
    · rename_i he
      cases j with
      | zero => simp [he]
      | succ j =>
        rw [List.getElem?_cons_succ, qpK (v + 1) t (by omega)]
        congr 1; omega
    · omega
theorem qpJ : ∀ (v : Int) (t : List Int) {y : Int}, t[cr v t]? = some y → y ≠ v + cr v t
  | _, [], _, h => by simp [cr] at h
  | v, x :: t, y, h => by
    unfold cr at h ⊢
    split at h
    · rename_i he
      rw [if_pos he]
      rw [Nat.add_comm 1, List.getElem?_cons_succ] at h
      have := qpJ (v + 1) t h
      omega
    · rename_i he
      rw [if_neg he]
      simp at h
      omega
theorem qoA : ∀ (x : Int) (t : List Int), rs (x :: t) = (x, 1 + (cr (x + 1) t : Int)) :: rs (t.drop (cr (x + 1) t))
  | x, [] => rfl
  | x, y :: t => by
    have ih := qoA y t
    rw [qr8, ih, qrB]
    simp only
    by_cases h : y = x + 1
    · subst h
      rw [if_pos rfl, if_pos rfl, Nat.add_comm 1, List.drop_succ_cons]
      congr 2
    · rw [if_neg h, if_neg h, List.drop_zero, ih]
      simp
theorem yk : ∀ (a : Int) (n : Nat), (rng a n).length = n
  | _, 0 => rfl
  | a, n + 1 => by rw [rng, List.length_cons, yk]
theorem qfz : ∀ (a : Int) (n : Nat), rng a (n + 1) = rng a n ++ [a + n]
  | a, 0 => by simp [rng]
  | a, n + 1 => by
    rw [rng, qfz (a + 1) n, rng, List.cons_append, show a + 1 + (n : Int) = a + ((n + 1 : Nat) : Int) from by omega]
theorem qov : ∀ {a : Int} {n j : Nat}, j < n → (rng a n)[j]? = some (a + j)
  | _, 0, _, h => by omega
  | a, n + 1, 0, _ => by simp [rng]
  | a, n + 1, j + 1, h => by
    rw [rng, List.getElem?_cons_succ, qov (Nat.lt_of_succ_lt_succ h), show a + 1 + (j : Int) = a + ((j + 1 : Nat) : Int) from by omega]
theorem qcp : ∀ {a z : Int} {n : Nat}, z ∈ rng a n ↔ a ≤ z ∧ z < a + n
  | a, z, 0 => by simp [rng]
  | a, z, n + 1 => by
    rw [rng, List.mem_cons, qcp]
    omega
theorem zp (r : Int × Int) (R : List (Int × Int)) : flat (r :: R) = rng r.1 r.2.toNat ++ flat R := rfl
theorem qh4 (A B : List (Int × Int)) : flat (A ++ B) = flat A ++ flat B := by unfold flat; rw [List.flatMap_append]
theorem qh5 {R : List (Int × Int)} {z : Int} : z ∈ flat R ↔ ∃ r ∈ R, r.1 ≤ z ∧ z < r.1 + r.2.toNat := by
  unfold flat
  rw [List.mem_flatMap]
  constructor
  · rintro ⟨r, h1, h2⟩; exact ⟨r, h1, qcp.1 h2⟩
  · rintro ⟨r, h1, h2⟩; exact ⟨r, h1, qcp.2 h2⟩
def Sep : Int → List (Int × Int) → Prop
  | _, [] => True
  | e, r :: R => e < r.1 ∧ 1 ≤ r.2 ∧ Sep (r.1 + r.2) R
theorem qqL {e e' : Int} {R : List (Int × Int)} (h : Sep e R) (he : e' ≤ e) : Sep e' R := by
  cases R with
  | nil => trivial
  | cons r R => exact ⟨by have := h.1; omega, h.2⟩
theorem qc8 : ∀ (l : List Int), flat (rs l) = l
  | [] => rfl
  | x :: t => by
    have ih := qc8 t
    unfold rs
    cases h : rs t with
    | nil =>
      rw [h] at ih
      simp only [zp]
      rw [ih]
      simp [rng]
    | cons p r =>
      obtain ⟨y, n⟩ := p
      rw [h] at ih
      simp only
      by_cases he : y = x + 1
      · rw [if_pos he]
        subst he
        rw [zp] at ih ⊢
        simp only at ih ⊢
        by_cases hn : 0 ≤ n
        · rw [show (n + 1).toNat = n.toNat + 1 from by omega, rng, List.cons_append, ih]
        · exfalso
          have : ∀ (l : List Int), ∀ r ∈ rs l, 1 ≤ r.2 := by
            intro l
            induction l with
            | nil => intro r hr; simp [rs] at hr
            | cons x t ih =>
              intro r hr
              unfold rs at hr
              cases h : rs t with
              | nil => rw [h] at hr; simp at hr; rw [hr]; simp
              | cons p q =>
                obtain ⟨y, n⟩ := p
                rw [h] at hr ih
                have hn := ih (y, n) (by simp)
                simp only at hr hn
                split at hr
                · rcases List.mem_cons.1 hr with rfl | hr
                  · simp only; omega
                  · exact ih r (by simp [hr])
                · rcases List.mem_cons.1 hr with rfl | hr
                  · simp
                  · exact ih r hr
          have := this t (x + 1, n) (by rw [h]; simp)
          simp only at this
          omega
      · rw [if_neg he, zp, ih]
        simp [rng]
theorem qgq : ∀ {q : Int} {l : List Int}, l.Pairwise (· < ·) → (∀ z ∈ l, q < z) → Sep q (rs l)
  | _, [], _, _ => trivial
  | q, x :: t, h, hq => by
    have h' := List.pairwise_cons.1 h
    have ih : Sep x (rs t) := qgq h'.2 h'.1
    have hx := hq x (by simp)
    unfold rs
    cases hr : rs t with
    | nil => exact ⟨hx, by simp, trivial⟩
    | cons p r =>
      obtain ⟨y, n⟩ := p
      rw [hr] at ih
      obtain ⟨i1, i2, i3⟩ := ih
      simp only at i1 i2 i3 ⊢
      by_cases he : y = x + 1
      · rw [if_pos he]
        subst he
        refine ⟨hx, by simp only; omega, ?_⟩
        simp only
        rw [show x + (n + 1) = x + 1 + n from by omega]
        exact i3
      · rw [if_neg he]
        exact ⟨hx, by simp, by simp only; omega, i2, i3⟩
theorem qno : ∀ {e : Int} {R : List (Int × Int)}, Sep e R → ∀ z ∈ flat R, e < z
  | _, [], _ => by simp [flat]
  | e, r :: R, h => by
    intro z hz
    rw [zp] at hz
    rcases List.mem_append.1 hz with hz | hz
    · have := qcp.1 hz; have := h.1; omega
    · have := qno h.2.2 z hz; have := h.1; have := h.2.1; omega
theorem qqz : ∀ (a : Int) (n : Nat), (rng a n).Pairwise (· < ·)
  | _, 0 => List.Pairwise.nil
  | a, n + 1 => List.pairwise_cons.2 ⟨fun z hz => by have := qcp.1 hz; omega, qqz (a + 1) n⟩
theorem qnq : ∀ {e : Int} {R : List (Int × Int)}, Sep e R → (flat R).Pairwise (· < ·)
  | _, [], _ => by simp [flat]
  | e, r :: R, h => by
    rw [zp, List.pairwise_append]
    refine ⟨qqz _ _, qnq h.2.2, fun x hx y hy => ?_⟩
    have h1 := qcp.1 hx
    have h2 := qno h.2.2 y hy
    have := h.2.1
    omega
theorem qb0 : ∀ {e : Int} {R : List (Int × Int)} (p : Int × Int → Bool), Sep e R → Sep e (R.filter p)
  | _, [], _, _ => trivial
  | e, r :: R, p, h => by
    have ih := qb0 p h.2.2
    rw [List.filter_cons]
    split
    · exact ⟨h.1, h.2.1, ih⟩
    · exact qqL ih (by have := h.1; have := h.2.1; omega)
theorem qhw (F : Nat) {xs : List Int} (hm : xs.length ≤ 1000000) : ∀ (k i : Nat), xs.length < k + i → i ≤ xs.length → kI F xs xs k (i : Int) = some true
  | 0, _, _, _ => by omega
  | k + 1, i, h, hi => by
    show va F xs xs (kI F xs xs k) (i : Int) = _
    unfold va
    by_cases hlt : i < xs.length
    · rw [if_pos (by simp; omega), qs, List.getElem?_eq_getElem hlt]
      simp only [Option.bind_some]
      rw [if_neg (by simp), qn (by omega)]
      exact qhw F hm k (i + 1) (by omega) (by omega)
    · rw [if_neg (by simp; omega)]; rfl
theorem qix {F : Nat} {xs : List Int} (hF : xs.length < F) (hm : xs.length ≤ 1000000) : kV F xs xs = some true := by
  unfold kV
  rw [if_neg (by simp)]
  exact qhw F hm F 0 (by omega) (by omega)
theorem ql4 (F : Nat) {l : List Int} {v : Int} (hm : l.length ≤ 1000000) : ∀ (k i : Nat), l.length < k + i → i ≤ l.length → j6 F l v k (i : Int) = some (decide (v ∈ l.drop i))
  | 0, _, _, _ => by omega
  | k + 1, i, h, hi => by
    show qcO F l v (j6 F l v k) (i : Int) = _
    unfold qcO
    by_cases hlt : i < l.length
    · rw [if_pos (by simp; omega), qs, List.getElem?_eq_getElem hlt, List.drop_eq_getElem_cons hlt]
      simp only [Option.bind_some]
      by_cases he : l[i] = v
      · rw [if_pos (by simpa using he)]
        simp [he]
      · rw [if_neg (by simpa using he), qn (by omega), ql4 F hm k (i + 1) (by omega) (by omega)]
        have : (v ∈ l[i] :: l.drop (i + 1)) ↔ v ∈ l.drop (i + 1) := ⟨fun hv => (List.mem_cons.1 hv).resolve_left (fun e => he e.symm), fun hv => List.mem_cons_of_mem _ hv⟩
        rw [decide_eq_decide.2 this]
    · rw [if_neg (by simp; omega), List.drop_eq_nil_of_le (by omega)]
      simp [qeo]
theorem qcE {F : Nat} {l : List Int} {v : Int} (hF : l.length < F) (hm : l.length ≤ 1000000) : qaE F l v = some (decide (v ∈ l)) := by
  unfold qaE
  have := ql4 F (v := v) hm F 0 (by omega) (by omega)
  simpa using this
def qfS {σ τ : Type} (yy : σ → (Int × Int) → Option (σ ⊕ τ)) : List (Int × Int) → σ → Option (σ ⊕ τ)
  | [], s => some (.inl s)
  | r :: R, s => (yy s r).bind (Sum.elim (fun s' => qfS yy R s') (fun t => some (.inr t)))
def Mid (l : List Int) : Prop := ∀ x ∈ l, -4611686018427387904 ≤ x ∧ x ≤ 4611686018427387904
theorem qqG {σ τ : Type} {F : Nat} {yy : σ → (Int × Int) → Option (σ ⊕ τ)} {rec31 : (Int × σ) → Option (σ ⊕ τ)} {l : List Int} {i : Nat} {x : Int} {s : σ} (hl : l.length ≤ 1000000) (hm : Mid l) (hx : l[i]? = some x) :
    ∀ (k j : Nat), cr (x + 1) (l.drop (i + 1)) < k + j → j ≤ cr (x + 1) (l.drop (i + 1)) →
      ky F yy rec31 l (i : Int) s k ((1 + j : Nat) : Int) = qav F yy rec31 l (i : Int) s ((1 + cr (x + 1) (l.drop (i + 1)) : Nat) : Int)
  | 0, _, _, _ => by omega
  | k + 1, j, h, hj => by
    have hi := (List.getElem?_eq_some_iff.1 hx).1
    have hcl := qpL (x + 1) (l.drop (i + 1))
    rw [List.length_drop] at hcl
    have hxm := hm x (List.mem_of_getElem? hx)
    show qau F yy rec31 l (i : Int) s (ky F yy rec31 l (i : Int) s k) ((1 + j : Nat) : Int) = _
    unfold qau
    rw [vL (by omega)]
    by_cases hlt : i + (1 + j) < l.length
    · have hg : l[i + (1 + j)]? = some l[i + (1 + j)] := List.getElem?_eq_getElem hlt
      have hd : (l.drop (i + 1))[j]? = some l[i + (1 + j)] := by rw [List.getElem?_drop, show i + 1 + j = i + (1 + j) from by omega]; exact hg
      rw [if_pos (by simp; omega), qs, qs, hx, hg]
      simp only [Option.bind_some]
      rw [qr (by omega) (by omega)]
      unfold qaw
      by_cases hjc : j < cr (x + 1) (l.drop (i + 1))
      · have := qpK (x + 1) (l.drop (i + 1)) hjc
        rw [hd, Option.some.injEq] at this
        rw [if_pos (by rw [this]; simp; omega), qn (by omega), show 1 + j + 1 = 1 + (j + 1) from by omega]
        exact qqG hl hm hx k (j + 1) (by omega) (by omega)
      · obtain rfl : j = cr (x + 1) (l.drop (i + 1)) := by omega
        have := qpJ (x + 1) (l.drop (i + 1)) hd
        rw [if_neg (by simp; omega)]
    · obtain rfl : j = cr (x + 1) (l.drop (i + 1)) := by omega
      rw [if_neg (by simp; omega)]
      rfl
theorem qqH {σ τ : Type} {F : Nat} {yy : σ → (Int × Int) → Option (σ ⊕ τ)} {l : List Int} (hl : l.length ≤ 1000000) (hF : l.length + 1 < F) (hm : Mid l) :
    ∀ (k i : Nat) (s : σ), l.length < k + i → i ≤ l.length → qS F yy l k ((i : Int), s) = qfS yy (rs (l.drop i)) s
  | 0, _, _, _, _ => by omega
  | k + 1, i, s, h, hi => by
    show qat F yy l (qS F yy l k) (i : Int) s = _
    unfold qat
    by_cases hlt : i < l.length
    · have hcl := qpL (l[i] + 1) (l.drop (i + 1))
      rw [List.length_drop] at hcl
      have h1 := qqG (F := F) (yy := yy) (rec31 := qS F yy l k) (s := s) hl hm (List.getElem?_eq_getElem hlt) F 0 (by omega) (by omega)
      rw [show ((1 + 0 : Nat) : Int) = 1 from rfl] at h1
      rw [if_pos (by simp; omega), h1, List.drop_eq_getElem_cons hlt, qoA]
      unfold qav qfS
      rw [qs, List.getElem?_eq_getElem hlt]
      simp only [Option.bind_some]
      rw [vL (by omega), show ((1 + cr (l[i] + 1) (l.drop (i + 1)) : Nat) : Int) = 1 + (cr (l[i] + 1) (l.drop (i + 1)) : Int) from by omega]
      congr 2
      funext s'
      rw [qqH hl hF hm k _ s' (by omega) (by omega), List.drop_drop]
      congr 3
      omega
    · rw [if_neg (by simp; omega), List.drop_eq_nil_of_le (by omega)]
      rfl
theorem qr9 {σ τ : Type} {F : Nat} {yy : σ → (Int × Int) → Option (σ ⊕ τ)} {l : List Int} {s : σ} (hl : l.length ≤ 1000000) (hF : l.length + 1 < F) (hm : Mid l) : qbr F yy l s = qfS yy (rs l) s := by
  unfold qbr
  exact qqH hl hF hm F 0 s (by omega) (by omega)
def spO (least : Int) (R : List (Int × Int)) : List (Int × Int) := R.filter fun r => decide (least ≤ r.2)
def spS (least : Int) (R : List (Int × Int)) : List (Int × Int) := R.filter fun r => decide (r.2 < least)
theorem qqQ {least : Int} {r : Int × Int} {R : List (Int × Int)} (h : least ≤ r.2) : spO least (r :: R) = r :: spO least R := by unfold spO; rw [List.filter_cons, if_pos (by simpa using h)]
theorem qqP {least : Int} {r : Int × Int} {R : List (Int × Int)} (h : ¬ least ≤ r.2) : spO least (r :: R) = spO least R := by unfold spO; rw [List.filter_cons, if_neg (by simpa using h)]
theorem qqS {least : Int} {r : Int × Int} {R : List (Int × Int)} (h : ¬ least ≤ r.2) : spS least (r :: R) = r :: spS least R := by unfold spS; rw [List.filter_cons, if_pos (by simpa using h)]
theorem qqR {least : Int} {r : Int × Int} {R : List (Int × Int)} (h : least ≤ r.2) : spS least (r :: R) = spS least R := by unfold spS; rw [List.filter_cons, if_neg (by simpa using h)]
theorem qjT {F : Nat} {o : List (Int × Int)} {a n : Int} (ha : -4611686018427387904 ≤ a ∧ a ≤ 4611686018427387904) (hn : 0 ≤ n ∧ n ≤ 1000000) {rest : List Int} (hr : rest.length ≤ 1000000) : ∀ (k j : Nat), n.toNat < k + j → j ≤ n.toNat →
    qaa F o a n k ((j : Int), rest ++ rng a j) = some (.inl (rest ++ rng a n.toNat, o))
  | 0, _, _, _ => by omega
  | k + 1, j, h, hj => by
    show qc6 F o a n (qaa F o a n k) (j : Int) (rest ++ rng a j) = _
    unfold qc6
    by_cases hlt : j < n.toNat
    · rw [if_pos (by simp; omega), qQ (by simp [yk]; omega), qr (by omega) (by omega), qn (by omega)]
      simp only [Option.bind_some]
      rw [List.append_assoc, ← qfz]
      exact qjT ha hn hr k (j + 1) (by omega) (by omega)
    · rw [if_neg (by simp; omega)]
      obtain rfl : j = n.toNat := by omega
      rfl
def Small (R : List (Int × Int)) : Prop := ∀ r ∈ R, (-4611686018427387904 ≤ r.1 ∧ r.1 ≤ 4611686018427387904) ∧ 0 ≤ r.2 ∧ r.2 ≤ 1000000
def rawY (F : Nat) (least : Int) (s : List Int × List (Int × Int)) (r : Int × Int) : Option ((List Int × List (Int × Int)) ⊕ Empty) := qbq F least s.1 s.2 r.1 r.2
theorem qhj {F : Nat} {least : Int} (hF : 1000001 < F) : ∀ (R : List (Int × Int)) (rest : List Int) (o : List (Int × Int)), Small R → rest.length + (flat R).length ≤ 1000000 → o.length + R.length ≤ 1000000 →
    qfS (rawY F least) R (rest, o) = some (.inl (rest ++ flat (spS least R), o ++ spO least R))
  | [], rest, o, _, _, _ => by simp [qfS, spS, spO, flat]
  | (a, n) :: R, rest, o, hs, h1, h2 => by
    have hr := hs (a, n) (by simp)
    have hs' : Small R := fun r hr => hs r (by simp [hr])
    rw [zp, List.length_append, yk] at h1
    rw [List.length_cons] at h2
    simp only at hr h1
    show ((qbq F least rest o a n).bind _) = _
    unfold qbq
    by_cases h : least ≤ n
    · rw [if_pos (by simpa using h), qQ (by simp; omega)]
      simp only [Option.bind_some, Sum.elim_inl]
      rw [qhj hF R _ _ hs' (by omega) (by simp; omega)]
      rw [qqQ (by exact h), qqR (by exact h), List.append_assoc]
      rfl
    · rw [if_neg (by simpa using h)]
      have hl := qjT (F := F) (o := o) hr.1 hr.2 (rest := rest) (by omega) F 0 (by omega) (by omega)
      rw [rng, List.append_nil] at hl
      rw [show ((0 : Nat) : Int) = 0 from rfl] at hl
      rw [hl]
      simp only [Option.bind_some, Sum.elim_inl]
      rw [qhj hF R _ _ hs' (by rw [List.length_append, yk]; omega) (by omega)]
      rw [qqP (by exact h), qqS (by exact h), zp, List.append_assoc]
theorem qqD : ∀ {q : Int} {R : List (Int × Int)}, Sep q R → ∀ r ∈ R, 1 ≤ r.2
  | _, [], _ => by simp
  | q, r :: R, h => by
    intro r' hr
    rcases List.mem_cons.1 hr with rfl | hr
    · exact h.2.1
    · exact qqD h.2.2 r' hr
theorem qfJ {R : List (Int × Int)} {r : Int × Int} (hr : r ∈ R) : r.2.toNat ≤ (flat R).length := by
  obtain ⟨A, B, rfl⟩ := List.append_of_mem hr
  rw [qh4, zp, List.length_append, List.length_append, yk]
  omega
theorem qeF {q : Int} {R : List (Int × Int)} (h : Sep q R) : R.length ≤ (flat R).length := by
  induction R generalizing q with
  | nil => simp
  | cons r R ih =>
    have := ih h.2.2
    have := h.2.1
    rw [zp, List.length_append, yk, List.length_cons]
    omega
theorem qoq {q : Int} {l : List Int} (h : Ris q l) : Mid l := fun x hx => by have := qgp h x hx; unfold Nd at this; omega
theorem qqE {q : Int} {l : List Int} (hl : l.length ≤ 1000000) (h : Ris q l) : Small (rs l) := by
  intro r hr
  have hs := qgq (vM h).1 (vM h).2
  have h1 := qqD hs r hr
  have h2 := qfJ hr
  have hf : r.1 ∈ flat (rs l) := qh5.2 ⟨r, hr, by omega, by omega⟩
  rw [qc8] at h2 hf
  have h3 := qoq h _ hf
  exact ⟨h3, by omega, by omega⟩
theorem qnn {F : Nat} (hF : 2000000 ≤ F) {q : Int} {l : List Int} {least : Int} (hl : l.length ≤ 300) (h : Ris q l) : qeY F l least = some (spO least (rs l), flat (spS least (rs l))) := by
  unfold qeY qfn
  simp only [Option.bind_some]
  have hs := qgq (vM h).1 (vM h).2
  have hlong := qeF hs
  rw [qc8] at hlong
  have hf := qhj (F := F) (least := least) (by omega) (rs l) [] [] (qqE (by omega) h) (by rw [qc8]; simp; omega) (by simp; omega)
  have he := qr9 (yy := rawY F least) (s := (([] : List Int), ([] : List (Int × Int)))) (by omega) (by omega : l.length + 1 < F) (qoq h)
  rw [hf] at he
  show ((qbr F (rawY F least) l ([], [])).bind _) = _
  rw [he]
  simp
theorem qqn : ∀ {A B : List Int}, A.Pairwise (· < ·) → B.Pairwise (· < ·) → (∀ z, z ∈ A ↔ z ∈ B) → A = B
  | [], [], _, _, _ => rfl
  | [], s :: B, _, _, h => by have := (h s).2 (by simp); simp at this
  | r :: A, [], _, _, h => by have := (h r).1 (by simp); simp at this
  | r :: A, s :: B, hA, hB, h => by
    obtain ⟨fA, pA⟩ := List.pairwise_cons.1 hA
    obtain ⟨fB, pB⟩ := List.pairwise_cons.1 hB
    have hrs : r = s := by
      rcases List.mem_cons.1 ((h r).1 (by simp)) with h1 | h1
      · exact h1
      · rcases List.mem_cons.1 ((h s).2 (by simp)) with h2 | h2
        · exact h2.symm
        · have := fA s h2; have := fB r h1; omega
    subst hrs
    congr 1
    refine qqn pA pB fun x => ⟨fun hx => ?_, fun hx => ?_⟩
    · rcases List.mem_cons.1 ((h x).1 (by simp [hx])) with h1 | h1
      · subst h1; have := fA x hx; omega
      · exact h1
    · rcases List.mem_cons.1 ((h x).2 (by simp [hx])) with h1 | h1
      · subst h1; have := fB x hx; omega
      · exact h1
theorem qrP {F : Nat} {x y : Int} : qcg F x y = some (decide (x < y)) := by
  unfold qcg qbI
  simp [qaj]
theorem qrJ {i j : Nat} (h : i + j < 1000000000) : iconv .i64 (ishr .u64 (iconv .u64 (iadd .i64 (i : Int) (j : Int))) 1) = (((i + j) / 2 : Nat) : Int) := by
  rw [vL (by omega)]
  have e1 : iconv .u64 ((i + j : Nat) : Int) = ((i + j : Nat) : Int) := zr (by omega) (by omega)
  have e2 := qgK (k := .u64) (a := ((i + j : Nat) : Int)) (m := 1) (by decide)
  rw [show ((1 : Nat) : Int) = 1 from rfl, show (2 : Int) ^ 1 = 2 from rfl] at e2
  rw [e1, e2]
  have e3 : ((i + j : Nat) : Int) / 2 = (((i + j) / 2 : Nat) : Int) := by omega
  rw [e3]
  exact q4 (by omega) (by omega)
theorem qiy {F : Nat} {l : List Int} {v : Int} (hl : l.Pairwise (· < ·)) (hm : l.length ≤ 100000) : ∀ (k i j : Nat), j < k + i → i ≤ j → j ≤ l.length → (∀ z ∈ l.take i, z < v) → (∀ z ∈ l.drop j, v ≤ z) →
    ∃ p, qR F l v k ((i : Int), (j : Int)) = some (p, decide (v ∈ l))
  | 0, _, _, _, _, _, _, _ => by omega
  | k + 1, i, j, h, hij, hj, h1, h2 => by
    show ∃ p, zC F l v (qR F l v k) (i : Int) (j : Int) = _
    unfold zC
    by_cases hlt : i < j
    · have hh : (i + j) / 2 < l.length := by omega
      rw [if_pos (by simp; omega)]
      unfold lett
      rw [qrJ (by omega)]
      simp only
      rw [qs, List.getElem?_eq_getElem hh]
      simp only [Option.bind_some]
      rw [qrP]
      simp only [Option.bind_some]
      by_cases hc : l[(i + j) / 2] < v
      · rw [decide_eq_true hc, if_pos rfl, qn (by omega)]
        refine qiy hl hm k ((i + j) / 2 + 1) j (by omega) (by omega) hj (fun z hz => ?_) h2
        obtain ⟨q, hq⟩ := List.getElem?_of_mem hz
        have hq1 := (List.getElem?_eq_some_iff.1 hq).1
        rw [List.length_take] at hq1
        rw [List.getElem?_take_of_lt (by omega), List.getElem?_eq_getElem (by omega)] at hq
        simp only [Option.some.injEq] at hq
        subst hq
        by_cases e : q = (i + j) / 2
        · subst e; exact hc
        · have := List.pairwise_iff_getElem.1 hl q ((i + j) / 2) (by omega) hh (by omega)
          omega
      · rw [decide_eq_false hc, if_neg (by simp)]
        refine qiy hl hm k i ((i + j) / 2) (by omega) (by omega) (by omega) h1 (fun z hz => ?_)
        obtain ⟨q, hq⟩ := List.getElem?_of_mem hz
        rw [List.getElem?_drop] at hq
        have hq1 := (List.getElem?_eq_some_iff.1 hq).1
        rw [List.getElem?_eq_getElem hq1] at hq
        simp only [Option.some.injEq] at hq
        subst hq
        by_cases e : q = 0
        · subst e; simp only [Nat.add_zero]; omega
        · have := List.pairwise_iff_getElem.1 hl ((i + j) / 2) ((i + j) / 2 + q) hh (by omega) (by omega)
          omega
    · obtain rfl : i = j := by omega
      rw [if_neg (by simp)]
      unfold kA
      by_cases hi : i < l.length
      · have hd : l.drop i = l[i] :: l.drop (i + 1) := List.drop_eq_getElem_cons hi
        have hmem : v ∈ l ↔ l[i] = v := by
          constructor
          · intro hv
            rw [← List.take_append_drop i l] at hv
            rcases List.mem_append.1 hv with hv | hv
            · have := h1 v hv; omega
            · rw [hd] at hv
              rcases List.mem_cons.1 hv with hv | hv
              · exact hv.symm
              · have hp := hl.sublist (List.drop_sublist i l)
                rw [hd] at hp
                have := (List.pairwise_cons.1 hp).1 v hv
                have := h2 l[i] (by rw [hd]; exact List.mem_cons_self ..)
                omega
          · intro hv; rw [← hv]; exact List.getElem_mem hi
        rw [if_pos (by simp; omega), qs, List.getElem?_eq_getElem hi]
        simp only [Option.bind_some]
        by_cases he : l[i] = v
        · rw [if_pos (by simpa using he), decide_eq_true (hmem.2 he)]
          exact ⟨_, rfl⟩
        · rw [if_neg (by simpa using he), decide_eq_false (fun h => he (hmem.1 h))]
          unfold jK
          simp only [Option.bind_some, bne_self_eq_false, Bool.false_eq_true, if_false]
          exact ⟨_, rfl⟩
      · rw [if_neg (by simp; omega)]
        have hn : v ∉ l := by
          intro hv
          rw [List.take_of_length_le (by omega)] at h1
          have := h1 v hv
          omega
        rw [decide_eq_false hn]
        exact ⟨_, rfl⟩
theorem qjV {F : Nat} (hF : 200000 ≤ F) {l : List Int} {v : Int} (hl : l.Pairwise (· < ·)) (hm : l.length ≤ 100000) : ∃ p, zu F l v = some (p, decide (v ∈ l)) := by
  unfold zu
  exact qiy hl hm F 0 l.length (by omega) (by omega) (Nat.le_refl _) (by simp) (by simp)
def tb : Bool → Int → List Bool → List Int
  | _, _, [] => []
  | c, m, b :: bs => if b != c then m :: tb b 1 bs else tb c (m + 1) bs
theorem qfV (c : Bool) (m : Int) (bs : List Bool) : tb c m (c :: bs) = tb c (m + 1) bs := by
  show (if c != c then _ else _) = _
  rw [if_neg (by simp)]
theorem qfW {c b : Bool} (h : b ≠ c) (m : Int) (bs : List Bool) : tb c m (b :: bs) = m :: tb b 1 bs := by
  show (if b != c then _ else _) = _
  rw [if_pos (by simpa using h)]
theorem qnE : ∀ (c : Bool) (m : Int) (bs : List Bool), (tb c m bs).length ≤ bs.length
  | _, _, [] => Nat.le_refl _
  | c, m, b :: bs => by
    by_cases h : b = c
    · subst h
      rw [qfV]
      have := qnE b (m + 1) bs
      rw [List.length_cons]; omega
    · rw [qfW h, List.length_cons, List.length_cons]
      have := qnE b 1 bs
      omega
def hasB (l : List Int) (x : Int) : Bool := decide (x ∈ l)
def tbs (fr0 l : List Int) : List Int := tb true 0 (fr0.map (hasB l))
def rst (fr0 l : List Int) : List Int := l.filter fun x => !hasB fr0 x
theorem qtb {F : Nat} {o : List Int} {c b : Bool} {m : Int} (ho : o.length ≤ 1000000) (hm : 0 ≤ m ∧ m ≤ 1000000) : jJ F o c m b = some (if b != c then (o ++ [m], b, 1) else (o, c, m + 1)) := by
  unfold jJ
  by_cases h : b = c
  · subst h
    rw [if_neg (by simp), if_neg (by simp)]
    unfold yS
    rw [qr (by omega) (by omega)]
  · rw [if_pos (by simpa using h), if_pos (by simpa using h), qQ (by simp; omega)]
    rfl
theorem qhg {F : Nat} (hF : 200000 ≤ F) {fr0 l o : List Int} (hf : fr0.Pairwise (· < ·)) (hfm : fr0.length ≤ 300) (hm : l.length ≤ 300) : ∀ (k i : Nat) (r : List Int), l.length < k + i → i ≤ l.length → r.length ≤ i →
    yo F fr0 l o k (r, (i : Int)) = some (o, r ++ rst fr0 (l.drop i))
  | 0, _, _, _, _, _ => by omega
  | k + 1, i, r, h, hi, hr => by
    show qbN F fr0 l o (yo F fr0 l o k) r (i : Int) = _
    unfold qbN
    by_cases hlt : i < l.length
    · obtain ⟨p, hp⟩ := qjV hF (v := l[i]) hf (by omega)
      rw [if_pos (by simp; omega), qs, List.getElem?_eq_getElem hlt, List.drop_eq_getElem_cons hlt]
      simp only [Option.bind_some]
      rw [hp]
      simp only [Option.bind_some]
      unfold qbP rst
      rw [List.filter_cons, qn (by omega)]
      by_cases hc : l[i] ∈ fr0
      · rw [if_neg (by simp [hc]), if_neg (by simp [hasB, hc])]
        exact qhg hF hf hfm hm k (i + 1) r (by omega) (by omega) (by omega)
      · rw [if_pos (by simp [hc]), if_pos (by simp [hasB, hc]), qQ (by simp; omega)]
        simp only [Option.bind_some]
        rw [qhg hF hf hfm hm k (i + 1) _ (by omega) (by omega) (by simp; omega), List.append_assoc]
        rfl
    · rw [if_neg (by simp; omega), List.drop_eq_nil_of_le (by omega)]
      simp [qdQ, rst]
theorem qni {F : Nat} (hF : 200000 ≤ F) {fr0 l : List Int} (hf : fr0.Pairwise (· < ·)) (hl : l.Pairwise (· < ·)) (hfm : fr0.length ≤ 300) (hm : l.length ≤ 300) : ∀ (k i : Nat) (o : List Int) (c : Bool) (m : Int), fr0.length < k + i → i ≤ fr0.length → o.length ≤ i → 0 ≤ m ∧ m ≤ i →
    vg F fr0 l k ((i : Int), o, c, m) = some (o ++ tb c m ((fr0.drop i).map (hasB l)), rst fr0 l)
  | 0, _, _, _, _, _, _, _, _ => by omega
  | k + 1, i, o, c, m, h, hi, ho, hmm => by
    show qbO F fr0 l (vg F fr0 l k) (i : Int) o c m = _
    unfold qbO
    by_cases hlt : i < fr0.length
    · obtain ⟨p, hp⟩ := qjV hF (v := fr0[i]) hl (by omega)
      rw [if_pos (by simp; omega), qs, List.getElem?_eq_getElem hlt, List.drop_eq_getElem_cons hlt, List.map_cons]
      simp only [Option.bind_some]
      rw [hp]
      simp only [Option.bind_some]
      rw [qtb (by omega) (by omega)]
      simp only [Option.bind_some]
      rw [qn (by omega)]
      have hb : hasB l fr0[i] = decide (fr0[i] ∈ l) := rfl
      rw [← hb]
      by_cases hc : hasB l fr0[i] = c
      · rw [if_neg (by simp [hc])]
        simp only
        rw [qni hF hf hl hfm hm k (i + 1) o c (m + 1) (by omega) (by omega) (by omega) (by omega), hc, qfV]
      · rw [if_pos (by simpa using hc)]
        simp only
        rw [qni hF hf hl hfm hm k (i + 1) _ _ 1 (by omega) (by omega) (by simp; omega) (by omega), qfW hc, List.append_assoc]
        rfl
    · rw [if_neg (by simp; omega), List.drop_eq_nil_of_le (by omega)]
      unfold qdP
      have := qhg hF (o := o) hf hfm hm F 0 [] (by omega) (by omega) (by simp)
      rw [List.drop_zero, List.nil_append] at this
      rw [show ((0 : Nat) : Int) = 0 from rfl] at this
      rw [this]
      simp [tb]
theorem qit {F : Nat} (hF : 200000 ≤ F) {fr0 l o : List Int} (hfm : fr0.length ≤ 300) (hm : l.length ≤ 300) : ∀ (k i : Nat) (r : List Int), l.length < k + i → i ≤ l.length → r.length ≤ i →
    zX F fr0 l o k (r, (i : Int)) = some (o, r ++ rst fr0 (l.drop i))
  | 0, _, _, _, _, _ => by omega
  | k + 1, i, r, h, hi, hr => by
    show vP F fr0 l o (zX F fr0 l o k) r (i : Int) = _
    unfold vP
    by_cases hlt : i < l.length
    · rw [if_pos (by simp; omega), qs, List.getElem?_eq_getElem hlt, List.drop_eq_getElem_cons hlt]
      simp only [Option.bind_some]
      rw [qcE (by omega) (by omega)]
      simp only [Option.bind_some]
      unfold vR rst
      rw [List.filter_cons, qn (by omega)]
      by_cases hc : l[i] ∈ fr0
      · rw [if_neg (by simp [hc]), if_neg (by simp [hasB, hc])]
        exact qit hF hfm hm k (i + 1) r (by omega) (by omega) (by omega)
      · rw [if_pos (by simp [hc]), if_pos (by simp [hasB, hc]), qQ (by simp; omega)]
        simp only [Option.bind_some]
        rw [qit hF hfm hm k (i + 1) _ (by omega) (by omega) (by simp; omega), List.append_assoc]
        rfl
    · rw [if_neg (by simp; omega), List.drop_eq_nil_of_le (by omega)]
      simp [qbi, rst]
theorem qsO {F : Nat} (hF : 200000 ≤ F) {fr0 l : List Int} (hfm : fr0.length ≤ 300) (hm : l.length ≤ 300) : ∀ (k i : Nat) (o : List Int) (b : Nat), fr0.length < k + i → i ≤ fr0.length → o.length ≤ i → b ≤ i →
    zk F fr0 l k (o, (b : Int), (i : Int)) = some (o ++ tb (if 0 < i then hasB l (fr0.getD (i - 1) 0) else true) ((i : Int) - b) ((fr0.drop i).map (hasB l)), rst fr0 l)
  | 0, _, _, _, _, _, _, _ => by omega
  | k + 1, i, o, b, h, hi, ho, hb => by
    show vQ F fr0 l (zk F fr0 l k) o (b : Int) (i : Int) = _
    unfold vQ
    by_cases hlt : i < fr0.length
    · have hrec := fun o b h1 h2 => qsO hF hfm hm (l := l) k (i + 1) o b (by omega) (by omega) h1 h2
      rw [if_pos (show 0 < i + 1 by omega)] at hrec
      have hg : fr0.getD (i + 1 - 1) 0 = fr0[i] := by simp [List.getD, List.getElem?_eq_getElem hlt]
      rw [hg] at hrec
      have hj : ∀ w : Bool, yr F (zk F fr0 l k) fr0 l o (b : Int) (i : Int) w = some (o ++ tb w ((i : Int) - b) ((fr0.drop i).map (hasB l)), rst fr0 l) := by
        intro w
        unfold yr
        rw [qs, List.getElem?_eq_getElem hlt]
        simp only [Option.bind_some]
        rw [qcE (by omega) (by omega)]
        simp only [Option.bind_some]
        have hb' : decide (fr0[i] ∈ l) = hasB l fr0[i] := rfl
        rw [hb', List.drop_eq_getElem_cons hlt, List.map_cons]
        unfold vS
        by_cases hc : hasB l fr0[i] = w
        · rw [if_neg (by simp [hc]), qn (by omega), hrec o b (by omega) (by omega), hc, qfV]
          congr 4; omega
        · rw [if_pos (by simpa using hc), qm6 (by omega) (by omega), qQ (by simp; omega)]
          simp only [Option.bind_some]
          rw [qn (by omega), hrec _ i (by simp; omega) (by omega), qfW hc, List.append_assoc]
          rw [show ((i + 1 : Nat) : Int) - (i : Int) = 1 from by omega, show ((i - b : Nat) : Int) = (i : Int) - b from by omega]
          rfl
      rw [if_pos (by simp; omega)]
      by_cases h0 : 0 < i
      · have hp : i - 1 < fr0.length := by omega
        rw [if_pos (by simp; omega), vU (by omega) (by omega), qs, List.getElem?_eq_getElem hp]
        simp only [Option.bind_some]
        rw [qcE (by omega) (by omega)]
        simp only [Option.bind_some]
        rw [hj, if_pos h0]
        have : fr0.getD (i - 1) 0 = fr0[i - 1] := by simp [List.getD, List.getElem?_eq_getElem hp]
        rw [this]; rfl
      · rw [if_neg (by simp; omega), hj, if_neg h0]
    · rw [if_neg (by simp; omega), List.drop_eq_nil_of_le (by omega)]
      unfold qbh
      have := qit hF (fr0 := fr0) (o := o) hfm hm F 0 [] (by omega) (by omega) (by simp)
      rw [List.drop_zero, List.nil_append, show ((0 : Nat) : Int) = 0 from rfl] at this
      rw [this]
      simp [tb]
theorem qnj {F : Nat} (hF : 200000 ≤ F) {fr0 l : List Int} (hfm : fr0.length ≤ 300) (hm : l.length ≤ 300) : qbB F fr0 l = some (tbs fr0 l, rst fr0 l) := by
  unfold qbB
  have := qsO hF hfm hm F 0 [] 0 (by omega) (by omega) (by simp) (by omega)
  rw [List.drop_zero, List.nil_append, if_neg (by omega), show ((0 : Nat) : Int) = 0 from rfl] at this
  exact this
def okB : Bool → List Int → Bool
  | _, [] => true
  | f, n :: bs => decide (0 ≤ n) && (f || decide (1 ≤ n)) && okB false bs
def bsum : List Int → Int
  | [] => 0
  | n :: bs => n + bsum bs
theorem qeI (f : Bool) (n : Int) (bs : List Int) : okB f (n :: bs) = (decide (0 ≤ n) && (f || decide (1 ≤ n)) && okB false bs) := rfl
theorem qii : ∀ {f : Bool} {bs : List Int}, okB f bs = true → (∀ n ∈ bs, 0 ≤ n) ∧ 0 ≤ bsum bs
  | _, [], _ => by simp [bsum]
  | f, n :: bs, h => by
    unfold okB at h
    simp only [Bool.and_eq_true, decide_eq_true_eq] at h
    obtain ⟨h1, h2⟩ := qii h.2
    refine ⟨fun m hm => ?_, ?_⟩
    · rcases List.mem_cons.1 hm with rfl | hm
      · exact h.1.1
      · exact h1 m hm
    · unfold bsum; have := h.1.1; omega
def ccE (L : Int) (f : Bool) (t : Int) (bs : List Int) : Int := if okB f bs then (if L < t + bsum bs then 8 else 0) else 3
theorem qnT (L : Int) (f : Bool) (t : Int) : ccE L f t [] = if L < t then 8 else 0 := by simp [ccE, okB, bsum]
theorem qhI {L : Int} {f : Bool} {t n : Int} {bs : List Int} (h : n < 0 ∨ (n < 1 ∧ f = false)) : ccE L f t (n :: bs) = 3 := by
  unfold ccE okB
  rw [if_neg]
  simp only [Bool.and_eq_true, Bool.or_eq_true, decide_eq_true_eq]
  rcases h with h | ⟨h, rfl⟩
  · omega
  · simp; omega
theorem qpE {L : Int} {f : Bool} {t n : Int} {bs : List Int} (h : ¬ (n < 0 ∨ (n < 1 ∧ f = false))) : ccE L f t (n :: bs) = ccE L false (t + n) bs := by
  have e : okB f (n :: bs) = okB false bs := by
    rw [qeI]
    cases f
    · have h1 : 0 ≤ n := by omega
      have h2 : 1 ≤ n := by
        rcases Int.lt_or_le n 1 with h3 | h3
        · exact absurd (.inr ⟨h3, rfl⟩) h
        · exact h3
      simp [h1, h2]
    · have h1 : 0 ≤ n := by omega
      simp [h1]
  unfold ccE
  rw [e]
  have : t + bsum (n :: bs) = t + n + bsum bs := by show t + (n + bsum bs) = _; omega
  rw [this]
theorem qkG {L : Int} {f : Bool} {t t' : Int} {bs : List Int} (h : L < t) (h' : L < t') : ccE L f t bs = ccE L f t' bs := by
  unfold ccE
  by_cases ho : okB f bs = true
  · have := (qii ho).2
    rw [if_pos ho, if_pos ho, if_pos (by omega), if_pos (by omega)]
  · rw [if_neg ho, if_neg ho]
theorem qme {F : Nat} {bs : List Int} {L : Nat} (hL : L ≤ 300) (hb : bs.length ≤ 301) : ∀ (k i : Nat) (s : Int), bs.length < k + i → i ≤ bs.length → 0 ≤ s ∧ s ≤ L + 1 →
    kx F bs (L : Int) k (s, (i : Int)) = some (ccE L (decide (i = 0)) s (bs.drop i))
  | 0, _, _, _, _, _ => by omega
  | k + 1, i, s, h, hi, hs => by
    show qaq F bs (L : Int) (kx F bs (L : Int) k) s (i : Int) = _
    unfold qaq
    by_cases hlt : i < bs.length
    · rw [if_pos (by simp; omega), qs, List.getElem?_eq_getElem hlt, List.drop_eq_getElem_cons hlt]
      simp only [Option.bind_some]
      have hrec := fun s hs => qme (F := F) hL hb k (i + 1) s (by omega) (by omega) hs
      rw [decide_eq_false (show ¬ i + 1 = 0 by omega)] at hrec
      generalize bs[i] = n at hrec ⊢
      generalize bs.drop (i + 1) = R at hrec ⊢
      unfold qar
      by_cases h1 : n < 0
      · rw [if_pos (by simpa using h1), if_pos rfl, qhI (.inl h1)]
      · rw [if_neg (by simpa using h1)]
        by_cases h2 : n < 1 ∧ 0 < i
        · rw [if_pos (by simp; omega), qhI (.inr ⟨h2.1, decide_eq_false (by omega)⟩)]
        · have h3 : ¬ (n < 0 ∨ (n < 1 ∧ decide (i = 0) = false)) := by
            rintro (h | ⟨h, hd⟩)
            · exact h1 h
            · have := of_decide_eq_false hd; omega
          rw [if_neg (by simp; omega), qpE h3]
          unfold lett
          have em : imin n (iadd .i64 (L : Int) 1) = if n ≤ L then n else (L : Int) + 1 := by
            rw [qr (by omega) (by omega)]
            unfold imin
            by_cases hn : n ≤ L
            · rw [if_pos hn, if_neg (by omega)]
            · rw [if_neg hn]
              by_cases hn2 : (L : Int) + 1 < n
              · rw [if_pos hn2]
              · rw [if_neg hn2]; omega
          rw [em, qn (by omega)]
          by_cases hn : n ≤ L
          · rw [if_pos hn, qr (a := s) (by omega) (by omega), qr (by omega) (by omega)]
            unfold imin
            by_cases hc : (L : Int) + 1 < s + n
            · rw [if_pos hc]
              simp only
              rw [hrec _ (by omega), qkG (t' := s + n) (by omega) (by omega)]
            · rw [if_neg hc]
              simp only
              rw [hrec _ (by omega)]
          · rw [if_neg hn, qr (a := s) (by omega) (by omega), qr (by omega) (by omega)]
            unfold imin
            by_cases hc : (L : Int) + 1 < s + (L + 1)
            · rw [if_pos hc]
              simp only
              rw [hrec _ (by omega), qkG (t' := s + n) (by omega) (by omega)]
            · rw [if_neg hc]
              simp only
              rw [hrec _ (by omega), qkG (t' := s + n) (by omega) (by omega)]
    · rw [if_neg (by simp; omega), List.drop_eq_nil_of_le (by omega), qnT]
      unfold qcm
      by_cases h8 : (L : Int) < s
      · rw [if_pos (by simpa using h8), if_pos h8]
      · rw [if_neg (by simpa using h8), if_neg h8]
def bkE (L : Nat) (bs : List Int) : Int := if L + 1 < bs.length then 2 else ccE L true 0 bs
theorem qo4 {F : Nat} (hF : 200000 ≤ F) {bs : List Int} {L : Nat} (hL : L ≤ 300) : qc5 F bs (L : Int) = some (bkE L bs) := by
  unfold qc5 bkE
  rw [qn (by omega)]
  by_cases h : L + 1 < bs.length
  · rw [if_pos (by simp; omega), if_pos h]
  · rw [if_neg (by simp; omega), if_neg h]
    exact qme hL (by omega) F 0 0 (by omega) (by omega) (by omega)
theorem qsS {L : Nat} {bs : List Int} : bkE L bs = 0 ↔ bs.length ≤ L + 1 ∧ okB true bs = true ∧ bsum bs ≤ L := by
  unfold bkE ccE
  by_cases h : L + 1 < bs.length
  · rw [if_pos h]; simp; omega
  · rw [if_neg h]
    by_cases h2 : okB true bs = true
    · rw [if_pos h2]
      by_cases h3 : (L : Int) < 0 + bsum bs
      · rw [if_pos h3]; simp; omega
      · rw [if_neg h3]; simp [h2]; omega
    · rw [if_neg h2]; simp [h2]
def cp : List Int → List Int → Bool → List Int
  | l, [], c => if c then l else []
  | l, n :: bs, c => (if c then l.take n.toNat else []) ++ cp (l.drop n.toNat) bs (!c)
theorem qlW {F : Nat} {bs : List Int} (hbm : bs.length ≤ 1000) : ∀ (k i : Nat) (l o : List Int) (c : Bool), bs.length < k + i → i ≤ bs.length → l.length ≤ 300 → o.length ≤ 300 * i → (∀ n ∈ bs.drop i, 0 ≤ n) → bsum (bs.drop i) ≤ l.length →
    kh F bs k (l, o, c, (i : Int)) = some (o ++ cp l (bs.drop i) c)
  | 0, _, _, _, _, _, _, _, _, _, _ => by omega
  | k + 1, i, l, o, c, h, hi, hl, ho, hn, hs => by
    show jH F bs (kh F bs k) l o c (i : Int) = _
    unfold jH
    by_cases hlt : i < bs.length
    · rw [List.drop_eq_getElem_cons hlt] at hn hs ⊢
      have hrec := fun l o c h1 h2 h3 => qlW (F := F) hbm k (i + 1) l o c (by omega) (by omega) h1 h2 (fun n hn' => hn n (List.mem_cons_of_mem _ hn')) h3
      have hg : idx bs (i : Int) = some bs[i] := by rw [qs, List.getElem?_eq_getElem hlt]
      rw [if_pos (by simp; omega), hg]
      have h0 := hn bs[i] (List.mem_cons_self ..)
      have hsum : 0 ≤ bsum (bs.drop (i + 1)) := by
        have : ∀ (R : List Int), (∀ n ∈ R, 0 ≤ n) → 0 ≤ bsum R := by
          intro R
          induction R with
          | nil => intro _; simp [bsum]
          | cons x R ih => intro h; unfold bsum; have := h x (by simp); have := ih (fun n hn => h n (by simp [hn])); omega
        exact this _ fun n hn' => hn n (List.mem_cons_of_mem _ hn')
      unfold bsum at hs
      generalize bs[i] = n at hrec h0 hs ⊢
      obtain ⟨m, rfl⟩ := Int.eq_ofNat_of_zero_le h0
      have hml : m ≤ l.length := by omega
      have s1 := qgZ (l := l) (i := 0) (j := m) (by omega) hml
      have s2 := qgZ (l := l) (i := m) (j := l.length) hml (Nat.le_refl _)
      rw [List.take_length] at s2
      rw [show ((0 : Nat) : Int) = 0 from rfl, List.drop_zero] at s1
      simp only [Option.bind_some]
      unfold jI cp
      simp only [Int.toNat_natCast]
      cases c
      · rw [if_neg (by simp), if_neg (by simp), s2, qn (by omega)]
        simp only [Option.bind_some, List.nil_append]
        exact hrec _ _ _ (by simp; omega) (by omega) (by rw [List.length_drop]; omega)
      · rw [if_pos rfl, if_pos rfl, s1]
        simp only [Option.bind_some]
        rw [qQ (by simp; omega), s2, qn (by omega)]
        simp only [Option.bind_some]
        rw [hrec _ _ _ (by simp; omega) (by simp; omega) (by rw [List.length_drop]; omega), List.append_assoc]
    · rw [if_neg (by simp; omega), List.drop_eq_nil_of_le (by omega)]
      unfold qcn qas cp
      cases c
      · simp
      · rw [if_pos rfl, qQ (by omega)]; simp
def cpE (l bs : List Int) : Int := if gkc l ≠ 0 then gkc l else bkE l.length bs
def cpy (l bs : List Int) : List Int × Int := if cpE l bs ≠ 0 then ([], cpE l bs) else (cp l bs true, 0)
theorem qm2 {l bs : List Int} : cpE l bs = 0 ↔ (l.length ≤ 300 ∧ Ris (-1) l) ∧ bs.length ≤ l.length + 1 ∧ okB true bs = true ∧ bsum bs ≤ l.length := by
  unfold cpE
  rw [← zA, ← qsS]
  by_cases h : gkc l = 0
  · rw [if_neg (by simp [h])]; simp [h]
  · rw [if_pos h]; simp [h]
theorem qm3 {l bs : List Int} (h : cpE l bs = 0) : cpy l bs = (cp l bs true, 0) := by unfold cpy; rw [if_neg (by simp [h])]
theorem qhJ {l bs : List Int} (h : cpE l bs ≠ 0) : cpy l bs = ([], cpE l bs) := by unfold cpy; rw [if_pos h]
theorem qn4 {l : List Int} (h : gkc l = 0) : l.length ≤ 300 := (zA.1 h).1
theorem qrz {F : Nat} (hF : 200000 ≤ F) {l bs : List Int} : qdw F l bs = some (cpy l bs) := by
  unfold qdw
  rw [qeG (by omega)]
  simp only [Option.bind_some]
  have hj : jX F l bs (cpE l bs) = some (cpy l bs) := by
    unfold jX
    by_cases h : cpE l bs = 0
    · obtain ⟨⟨h1, h2⟩, h3, h4, h5⟩ := qm2.1 h
      have := qlW (F := F) (bs := bs) (by omega) F 0 l [] true (by omega) (by omega) h1 (by simp) (by rw [List.drop_zero]; exact (qii h4).1) (by rw [List.drop_zero]; exact h5)
      rw [List.drop_zero, List.nil_append, show ((0 : Nat) : Int) = 0 from rfl] at this
      rw [if_neg (by simp [h]), qm3 h]
      unfold qdR
      rw [this]; rfl
    · rw [if_pos (by simpa using h), qhJ h]
  by_cases h : gkc l = 0
  · have e : cpE l bs = bkE l.length bs := by unfold cpE; rw [if_neg (by simp [h])]
    rw [if_pos (by simpa using h), qo4 hF (qn4 h)]
    simp only [Option.bind_some]
    rw [← e]; exact hj
  · have e : cpE l bs = gkc l := by unfold cpE; rw [if_pos h]
    rw [if_neg (by simpa using h)]
    rw [e] at hj; exact hj
def bo : List Int → Int → Nat
  | [], _ => 0
  | n :: bs, i => if n ≤ i then 1 + bo bs (i - n) else 0
theorem qtr {F : Nat} {rec181 : (List Int × Int) → Option (List Int × Int)} {l bs o : List Int} {i : Nat} (hi : i ≤ 1000) (hbm : bs.length ≤ 1000) (hn : ∀ n ∈ bs, 0 ≤ n ∧ n ≤ 1000) : ∀ (k b : Nat) (e : Int), bs.length < k + b → b ≤ bs.length → 0 ≤ e ∧ e ≤ i →
    kf F rec181 l bs o (i : Int) k ((b : Int), e) = jB F rec181 l o (i : Int) ((b + bo (bs.drop b) (i - e) : Nat) : Int)
  | 0, _, _, _, _, _ => by omega
  | k + 1, b, e, h, hb, he => by
    show jy F rec181 l bs o (i : Int) (kf F rec181 l bs o (i : Int) k) (b : Int) e = _
    unfold jy
    by_cases hlt : b < bs.length
    · have h0 := hn bs[b] (List.getElem_mem hlt)
      have hg : idx bs (b : Int) = some bs[b] := by rw [qs, List.getElem?_eq_getElem hlt]
      have hrec := fun e he => qtr (F := F) (rec181 := rec181) (l := l) (o := o) hi hbm hn k (b + 1) e (by omega) (by omega) he
      rw [if_pos (by simp; omega), hg, List.drop_eq_getElem_cons hlt]
      generalize bs[b] = n at h0 hg ⊢
      simp only [Option.bind_some]
      unfold yN bo
      rw [qr (by omega) (by omega), hg]
      by_cases hc : e + n ≤ i
      · rw [if_pos (by simpa using hc), if_pos (by omega)]
        simp only [Option.bind_some]
        rw [qn (by omega), qr (a := e) (by omega) (by omega), hrec (e + n) (by omega)]
        rw [show b + 1 + bo (bs.drop (b + 1)) (i - (e + n)) = b + (1 + bo (bs.drop (b + 1)) (i - e - n)) from by rw [show (i : Int) - (e + n) = i - e - n from by omega]; omega]
      · rw [if_neg (by simpa using hc), if_neg (by omega)]
        rfl
    · rw [if_neg (by simp; omega), List.drop_eq_nil_of_le (by omega)]
      unfold yN
      rw [if_neg (by simp)]
      rfl
def kp (p : Nat → Bool) : Nat → List Int → List Int
  | _, [] => []
  | i, x :: t => if p i then x :: kp p (i + 1) t else kp p (i + 1) t
theorem qp1 (p : Nat → Bool) : ∀ (i : Nat) (a b : List Int), kp p i (a ++ b) = kp p i a ++ kp p (i + a.length) b
  | i, [], b => rfl
  | i, x :: a, b => by
    show (if p i then x :: kp p (i + 1) (a ++ b) else kp p (i + 1) (a ++ b)) = _
    rw [qp1 p (i + 1) a b, List.length_cons, show i + 1 + a.length = i + (a.length + 1) from by omega]
    show _ = (if p i then x :: kp p (i + 1) a else kp p (i + 1) a) ++ _
    split <;> rfl
theorem ql7 {p q : Nat → Bool} : ∀ (i d : Nat) (l : List Int), (∀ j, i ≤ j → j < i + l.length → p (j + d) = q j) → kp p (i + d) l = kp q i l
  | _, _, [], _ => rfl
  | i, d, x :: t, h => by
    show (if p (i + d) then _ else _) = (if q i then _ else _)
    have h1 := h i (Nat.le_refl _) (by simp)
    have h2 := ql7 (i + 1) d t (fun j hj1 hj2 => h j (by omega) (by rw [List.length_cons]; omega))
    rw [h1, show i + d + 1 = i + 1 + d from by omega, h2]
theorem qid {p : Nat → Bool} {c : Bool} : ∀ (i : Nat) (l : List Int), (∀ j, i ≤ j → j < i + l.length → p j = c) → kp p i l = if c then l else []
  | _, [], _ => by cases c <;> rfl
  | i, x :: t, h => by
    have h1 := h i (Nat.le_refl _) (by simp)
    have h2 := qid (p := p) (c := c) (i + 1) t (fun j hj1 hj2 => h j (by omega) (by rw [List.length_cons]; omega))
    show (if p i then _ else _) = _
    rw [h1, h2]
    cases c <;> simp
theorem qsJ : ∀ (bs l : List Int) (c : Bool), (∀ n ∈ bs, 0 ≤ n) → bsum bs ≤ l.length → cp l bs c = kp (fun i => ((bo bs (i : Int)) % 2 == 0) == c) 0 l
  | [], l, c, _, _ => by
    rw [qid (c := c) 0 l (fun j _ _ => by cases c <;> rfl)]
    rfl
  | n :: bs, l, c, hn, hs => by
    have h0 := hn n (by simp)
    have hnn : 0 ≤ bsum bs := by
      have : ∀ (R : List Int), (∀ n ∈ R, 0 ≤ n) → 0 ≤ bsum R := by
        intro R
        induction R with
        | nil => intro _; simp [bsum]
        | cons x R ih => intro h; unfold bsum; have := h x (by simp); have := ih (fun n hn => h n (by simp [hn])); omega
      exact this _ fun m hm => hn m (by simp [hm])
    obtain ⟨m, rfl⟩ := Int.eq_ofNat_of_zero_le h0
    unfold bsum at hs
    have hml : m ≤ l.length := by omega
    have ih := qsJ bs (l.drop m) (!c) (fun k hk => hn k (by simp [hk])) (by rw [List.length_drop]; omega)
    unfold cp
    simp only [Int.toNat_natCast]
    conv => rhs; rw [← List.take_append_drop m l, qp1]
    have hlt : (l.take m).length = m := by rw [List.length_take]; omega
    congr 1
    · rw [qid (c := c) 0 (l.take m) (fun j _ hj => by
        rw [hlt] at hj
        have : bo ((m : Int) :: bs) (j : Int) = 0 := by unfold bo; rw [if_neg (by omega)]
        rw [this]; cases c <;> rfl)]
    · rw [ih, hlt]
      refine (ql7 0 m (l.drop m) fun j _ _ => ?_).symm
      have : bo ((m : Int) :: bs) ((j + m : Nat) : Int) = 1 + bo bs (j : Int) := by
        show (if (m : Int) ≤ ((j + m : Nat) : Int) then 1 + bo bs (((j + m : Nat) : Int) - m) else 0) = _
        rw [if_pos (by omega), show ((j + m : Nat) : Int) - m = (j : Int) from by omega]
      rw [this]
      generalize bo bs (j : Int) = q
      rcases Nat.mod_two_eq_zero_or_one q with h | h
      · rw [h, show (1 + q) % 2 = 1 from by omega]; cases c <;> rfl
      · rw [h, show (1 + q) % 2 = 0 from by omega]; cases c <;> rfl
theorem qop {F : Nat} (hF : 200000 ≤ F) {l bs : List Int} (hlm : l.length ≤ 300) (hbm : bs.length ≤ 1000) (hn : ∀ n ∈ bs, 0 ≤ n ∧ n ≤ 1000) : ∀ (k i : Nat) (o : List Int), l.length < k + i → i ≤ l.length → o.length ≤ i →
    qH F l bs k (o, (i : Int)) = some (o ++ kp (fun i => ((bo bs (i : Int)) % 2 == 0) == true) i (l.drop i), 0)
  | 0, _, _, _, _, _ => by omega
  | k + 1, i, o, h, hi, ho => by
    show jx F l bs (qH F l bs k) o (i : Int) = _
    unfold jx
    by_cases hlt : i < l.length
    · have hb := qtr (F := F) (rec181 := qH F l bs k) (l := l) (o := o) (i := i) (by omega) hbm hn F 0 0 (by omega) (by omega) (by omega)
      rw [List.drop_zero, Nat.zero_add, Int.sub_zero, show ((0 : Nat) : Int) = 0 from rfl] at hb
      have hrec := fun o h => qop hF hlm hbm hn k (i + 1) o (by omega) (by omega) h
      rw [if_pos (by simp; omega), hb, List.drop_eq_getElem_cons hlt]
      unfold jB jA kp
      rw [qoa (by omega), qs, List.getElem?_eq_getElem hlt, qn (by omega)]
      simp only [Option.bind_some]
      generalize bo bs (i : Int) = q
      rcases Nat.mod_two_eq_zero_or_one q with hq | hq
      · rw [if_pos (by simp; omega), qQ (by simp; omega), if_pos (by rw [hq]; rfl)]
        simp only [Option.bind_some]
        rw [hrec _ (by simp; omega), List.append_assoc]
        rfl
      · rw [if_neg (by simp; omega), if_neg (by rw [hq]; decide), hrec _ (by omega)]
    · rw [if_neg (by simp; omega), List.drop_eq_nil_of_le (by omega)]
      simp [qbT, kp]
theorem qqt {F : Nat} {l bs : List Int} (hlm : l.length ≤ 300) (hbm : bs.length ≤ 301) : ∀ (k i : Nat) (s t : Int), bs.length < k + i → i ≤ bs.length → (0 ≤ t ∧ (s = t ∧ t ≤ 2000 ∨ 1000 ≤ s ∧ s ≤ 2000 ∧ (l.length : Int) < t)) →
    zz F l bs k (s, (i : Int)) = if ccE l.length (decide (i = 0)) t (bs.drop i) ≠ 0 then some ([], ccE l.length (decide (i = 0)) t (bs.drop i)) else qH F l bs F ([], 0)
  | 0, _, _, _, _, _, _ => by omega
  | k + 1, i, s, t, h, hi, hs => by
    show jz F l bs (zz F l bs k) s (i : Int) = _
    unfold jz
    by_cases hlt : i < bs.length
    · have hg : idx bs (i : Int) = some bs[i] := by rw [qs, List.getElem?_eq_getElem hlt]
      have hrec := fun s t hs => qqt (F := F) hlm hbm k (i + 1) s t (by omega) (by omega) hs
      rw [decide_eq_false (show ¬ i + 1 = 0 by omega)] at hrec
      rw [if_pos (by simp; omega), hg, List.drop_eq_getElem_cons hlt]
      generalize bs[i] = n at hg ⊢
      generalize bs.drop (i + 1) = R at hrec ⊢
      simp only [Option.bind_some]
      unfold jD
      by_cases h1 : n < 0
      · rw [if_pos (by simpa using h1), if_pos rfl, qhI (.inl h1), if_pos (by decide)]
      · rw [if_neg (by simpa using h1)]
        by_cases h2 : n < 1 ∧ 0 < i
        · rw [if_pos (by simp; omega), qhI (.inr ⟨h2.1, decide_eq_false (by omega)⟩), if_pos (by decide)]
        · have h3 : ¬ (n < 0 ∨ (n < 1 ∧ decide (i = 0) = false)) := by
            rintro (h | ⟨h, hd⟩)
            · exact h1 h
            · have := of_decide_eq_false hd; omega
          rw [if_neg (by simp; omega), qpE h3, hg]
          simp only [Option.bind_some]
          unfold jE jC
          rw [hg, qn (by omega)]
          by_cases hL : (l.length : Int) < n
          · rw [if_pos (by simpa using hL), if_neg (by decide)]
            exact hrec 1000 (t + n) ⟨by omega, .inr ⟨by omega, by omega, by omega⟩⟩
          · rw [if_neg (by simpa using hL)]
            by_cases hs1 : s < 1000
            · rw [if_pos (by simpa using hs1)]
              simp only [Option.bind_some]
              rw [qr (by omega) (by omega)]
              exact hrec (s + n) (t + n) ⟨by omega, .inl ⟨by omega, by omega⟩⟩
            · rw [if_neg (by simpa using hs1)]
              exact hrec s (t + n) ⟨by omega, .inr ⟨by omega, by omega, by omega⟩⟩
    · rw [if_neg (by simp; omega), List.drop_eq_nil_of_le (by omega), qnT]
      unfold qb7
      by_cases h8 : (l.length : Int) < s
      · rw [if_pos (by simpa using h8), if_pos (show (l.length : Int) < t by omega), if_pos (by decide)]
      · rw [if_neg (by simpa using h8), if_neg (show ¬ (l.length : Int) < t by omega), if_neg (by simp)]
theorem qqu {F : Nat} (hF : 200000 ≤ F) {l bs : List Int} : qcS F l bs = some (cpy l bs) := by
  unfold qcS
  rw [qfQ (by omega)]
  simp only [Option.bind_some]
  by_cases h : gkc l = 0
  · have hlm := qn4 h
    have e : cpE l bs = bkE l.length bs := by unfold cpE; rw [if_neg (by simp [h])]
    rw [if_neg (by simp [h]), qn (by omega)]
    by_cases h2 : l.length + 1 < bs.length
    · have e2 : bkE l.length bs = 2 := by unfold bkE; rw [if_pos h2]
      rw [if_pos (by simp; omega), qhJ (by rw [e, e2]; decide), e, e2]
    · have e2 : bkE l.length bs = ccE l.length true 0 bs := by unfold bkE; rw [if_neg h2]
      have hc := qqt (F := F) (l := l) (bs := bs) hlm (by omega) F 0 0 0 (by omega) (by omega) ⟨by omega, .inl ⟨rfl, by omega⟩⟩
      rw [List.drop_zero, show ((0 : Nat) : Int) = 0 from rfl, decide_eq_true (rfl : 0 = 0), ← e2, ← e] at hc
      rw [if_neg (by simp; omega), hc]
      by_cases h3 : cpE l bs = 0
      · obtain ⟨_, q1, q2, q3⟩ := qm2.1 h3
        obtain ⟨n1, n2⟩ := qii q2
        have hle : ∀ (R : List Int), (∀ n ∈ R, 0 ≤ n) → ∀ n ∈ R, n ≤ bsum R := by
          intro R
          induction R with
          | nil => intro _ n hn; simp at hn
          | cons x R ih =>
            intro h n hn
            have hx := h x (by simp)
            have hR : 0 ≤ bsum R := by
              have : ∀ (R : List Int), (∀ n ∈ R, 0 ≤ n) → 0 ≤ bsum R := by
                intro R
                induction R with
                | nil => intro _; simp [bsum]
                | cons x R ih => intro h; unfold bsum; have := h x (by simp); have := ih (fun n hn => h n (by simp [hn])); omega
              exact this R fun n hn => h n (by simp [hn])
            unfold bsum
            rcases List.mem_cons.1 hn with rfl | hn
            · omega
            · have := ih (fun n hn => h n (by simp [hn])) n hn; omega
        have := qop hF hlm (bs := bs) (by omega) (fun n hn => ⟨n1 n hn, by have := hle bs n1 n hn; omega⟩) F 0 [] (by omega) (by omega) (by simp)
        rw [List.drop_zero, List.nil_append, show ((0 : Nat) : Int) = 0 from rfl] at this
        rw [if_neg (by simp [h3]), this, qm3 h3, qsJ bs l true n1 q3]
      · rw [if_pos h3, qhJ h3]
  · have e : cpE l bs = gkc l := by unfold cpE; rw [if_pos h]
    rw [if_pos (by simpa using h), qhJ (by rw [e]; exact h), e]
theorem qoC : ∀ {e : Int} {R : List (Int × Int)}, Sep e R → ∀ r ∈ R, e < r.1
  | _, [], _ => by simp
  | e, r :: R, h => by
    intro r' hr
    rcases List.mem_cons.1 hr with rfl | hr
    · exact h.1
    · have := qoC h.2.2 r' hr; have := h.1; have := h.2.1; omega
def Mx (l : List Int) (r : Int × Int) : Prop := 1 ≤ r.2 ∧ r.1 - 1 ∉ l ∧ r.1 + r.2 ∉ l ∧ ∀ z, r.1 ≤ z → z < r.1 + r.2 → z ∈ l
theorem qnp : ∀ {e : Int} {R : List (Int × Int)}, Sep e R → ∀ r ∈ R, Mx (flat R) r
  | _, [], _ => by simp
  | e, r :: R, h => by
    intro r' hr
    have h1 := h.2.1
    have hlt := qno h.2.2
    rcases List.mem_cons.1 hr with rfl | hr
    · refine ⟨h1, fun hm => ?_, fun hm => ?_, fun z h2 h3 => ?_⟩
      · rw [zp] at hm
        rcases List.mem_append.1 hm with hm | hm
        · have := qcp.1 hm; omega
        · have := hlt _ hm; omega
      · rw [zp] at hm
        rcases List.mem_append.1 hm with hm | hm
        · have := qcp.1 hm; omega
        · have := hlt _ hm; omega
      · rw [zp]
        exact List.mem_append.2 (.inl (qcp.2 (by omega)))
    · obtain ⟨i1, i2, i3, i4⟩ := qnp h.2.2 r' hr
      have hf := qoC h.2.2 r' hr
      refine ⟨i1, fun hm => ?_, fun hm => ?_, fun z h2 h3 => ?_⟩
      · rw [zp] at hm
        rcases List.mem_append.1 hm with hm | hm
        · have := qcp.1 hm; omega
        · exact i2 hm
      · rw [zp] at hm
        rcases List.mem_append.1 hm with hm | hm
        · have := qcp.1 hm; omega
        · exact i3 hm
      · rw [zp]
        exact List.mem_append.2 (.inr (i4 z h2 h3))
theorem rdown {x a : Int} (hF : 1000000 < F) (hl : l.length ≤ 1000000) (ha : -1000000000 ≤ a ∧ a ≤ 1000000000) (h0 : a - 1 ∉ l) : ∀ (j k : Nat), j < k → j ≤ 1000000 → (∀ z, a ≤ z → z < a + j → z ∈ l) →
    kr F rec68 l least o rest i x k (a + j) = qae F rec68 l least o rest i x a
  | _, 0, h, _, _ => by omega
  | 0, k + 1, _, _, _ => by
    show yc F rec68 l least o rest i x (kr F rec68 l least o rest i x k) (a + ((0 : Nat) : Int)) = _
    unfold yc
    rw [show a + ((0 : Nat) : Int) = a from by omega, qx (by omega) (by omega), qcE (by omega) hl, decide_eq_false h0]
    rfl
  | j + 1, k + 1, h, hj, hz => by
    show yc F rec68 l least o rest i x (kr F rec68 l least o rest i x k) (a + ((j + 1 : Nat) : Int)) = _
    unfold yc
    rw [qx (by omega) (by omega), show a + ((j + 1 : Nat) : Int) - 1 = a + (j : Int) from by omega, qcE (by omega) hl, decide_eq_true (hz _ (by omega) (by omega))]
    exact rdown hF hl ha h0 j k (by omega) (by omega) (fun z h1 h2 => hz z h1 (by omega))
theorem rup {b fr0 : Int} (hF : 1000000 < F) (hl : l.length ≤ 1000000) (hb : -1000000000 ≤ b ∧ b ≤ 1000000000) (h0 : b + 1 ∉ l) : ∀ (j k : Nat), j < k → j ≤ 1000000 → (∀ z, b - j < z → z ≤ b → z ∈ l) →
    kq F rec68 l least o rest i fr0 k (b - j) = qaf F rec68 l least o rest i fr0 b
  | _, 0, h, _, _ => by omega
  | 0, k + 1, _, _, _ => by
    show yb F rec68 l least o rest i fr0 (kq F rec68 l least o rest i fr0 k) (b - ((0 : Nat) : Int)) = _
    unfold yb
    rw [show b - ((0 : Nat) : Int) = b from by omega, qr (by omega) (by omega), qcE (by omega) hl, decide_eq_false h0]
    rfl
  | j + 1, k + 1, h, hj, hz => by
    show yb F rec68 l least o rest i fr0 (kq F rec68 l least o rest i fr0 k) (b - ((j + 1 : Nat) : Int)) = _
    unfold yb
    rw [qr (by omega) (by omega), show b - ((j + 1 : Nat) : Int) + 1 = b - (j : Int) from by omega, qcE (by omega) hl, decide_eq_true (hz _ (by omega) (by omega))]
    exact rup hF hl hb h0 j k (by omega) (by omega) (fun z h1 h2 => hz z (by omega) h2)
def oj (least : Int) (o : List (Int × Int)) (r : Int × Int) (j : Nat) : List (Int × Int) := if least ≤ r.2 ∧ 0 < j then o ++ [r] else o
def rj (least : Int) (rest : List Int) (r : Int × Int) (j : Nat) : List Int := if least ≤ r.2 then rest else rest ++ rng r.1 j
theorem rstep {F : Nat} {l : List Int} {least : Int} {o : List (Int × Int)} {rest : List Int} {r : Int × Int} (hF : 1000000 < F) (hl : l.length ≤ 300) (hr : Mx l r) (ha : -1000000 ≤ r.1 ∧ r.1 ≤ 10000000) (hn : r.2 ≤ 300) (hlm : o.length + rest.length ≤ 1000000) {i j k : Nat} (hj : j < r.2.toNat) (hi : l[i]? = some (r.1 + j)) :
    qv F l least (k + 1) (oj least o r j, rj least rest r j, (i : Int)) = qv F l least k (oj least o r (j + 1), rj least rest r (j + 1), ((i + 1 : Nat) : Int)) := by
  obtain ⟨h1, h2, h3, h4⟩ := hr
  obtain ⟨a, n⟩ := r
  simp only at h1 h2 h3 h4 ha hn hj hi
  have hil := (List.getElem?_eq_some_iff.1 hi).1
  show ya F l least (qv F l least k) (oj least o (a, n) j) (rj least rest (a, n) j) (i : Int) = _
  unfold ya
  rw [if_pos (by simp; omega), qs, hi]
  simp only [Option.bind_some]
  rw [rdown hF (by omega) (by omega) h2 j F (by omega) (by omega) (fun z z1 z2 => h4 z z1 (by omega))]
  unfold qae
  rw [show a + (j : Int) = (a + n - 1) - ((n.toNat - 1 - j : Nat) : Int) from by omega, rup hF (by omega) (by omega) (by rw [show a + n - 1 + 1 = a + n from by omega]; exact h3) _ F (by omega) (by omega) (fun z z1 z2 => h4 z (by omega) (by omega))]
  unfold qaf
  rw [qx (by omega) (by omega), qr (by omega) (by omega), show a + n - 1 - a + 1 = n from by omega, qs, hi]
  simp only [Option.bind_some]
  unfold oj rj vo
  simp only
  by_cases hc : least ≤ n
  · rw [if_neg (by simp; omega)]
    by_cases hj0 : j = 0
    · subst hj0
      rw [if_pos (by simp), if_pos hc, if_neg (by simp), if_pos ⟨hc, by omega⟩, if_pos hc, qQ (by simp; omega), qn (by omega)]
      rfl
    · rw [if_neg (by simp; omega), if_pos hc, if_pos ⟨hc, by omega⟩, if_pos ⟨hc, by omega⟩, if_pos hc, qn (by omega)]
  · rw [if_pos (by simp; omega), if_neg hc, if_neg (by omega), if_neg (by omega), if_neg hc, qQ (by simp [yk]; omega), qn (by omega)]
    simp only [Option.bind_some]
    rw [List.append_assoc, ← qfz]
theorem rrun {F : Nat} {l : List Int} {least : Int} {o : List (Int × Int)} {rest : List Int} {r : Int × Int} (hF : 1000000 < F) (hl : l.length ≤ 300) (hr : Mx l r) (ha : -1000000 ≤ r.1 ∧ r.1 ≤ 10000000) (hn : r.2 ≤ 300) (hlm : o.length + rest.length ≤ 1000000) {i k : Nat} (hi : ∀ j, j < r.2.toNat → l[i + j]? = some (r.1 + j)) :
    ∀ (m j : Nat), j + m = r.2.toNat → qv F l least (k + m) (oj least o r j, rj least rest r j, ((i + j : Nat) : Int)) = qv F l least k (oj least o r r.2.toNat, rj least rest r r.2.toNat, ((i + r.2.toNat : Nat) : Int))
  | 0, j, h => by rw [← h]; rfl
  | m + 1, j, h => by
    rw [← Nat.add_assoc, rstep hF hl hr ha hn hlm (by omega) (hi j (by omega))]
    exact rrun hF hl hr ha hn hlm hi m (j + 1) (by omega)
theorem rall {F : Nat} {l : List Int} {least : Int} (hF : 1000000 < F) (hl : l.length ≤ 300) : ∀ (R : List (Int × Int)) (o : List (Int × Int)) (rest : List Int) (i k : Nat), (∀ r ∈ R, Mx l r ∧ (-1000000 ≤ r.1 ∧ r.1 ≤ 10000000) ∧ r.2 ≤ 300) → l.drop i = flat R → i ≤ l.length → o.length + R.length + (rest.length + (flat R).length) ≤ 1000000 →
    qv F l least (k + 1 + (flat R).length) (o, rest, (i : Int)) = some (o ++ spO least R, rest ++ flat (spS least R))
  | [], o, rest, i, k, _, hd, hi, _ => by
    have : l.length ≤ i := by
      have := congrArg List.length hd
      rw [List.length_drop] at this
      simp [flat] at this
      omega
    show ya F l least (qv F l least k) o rest (i : Int) = _
    unfold ya
    rw [if_neg (by simp; omega)]
    simp [qca, spO, spS, flat]
  | r :: R, o, rest, i, k, hR, hd, hi, hlm => by
    obtain ⟨h1, h2, h3⟩ := hR r (by simp)
    have hn := h1.1
    rw [zp, List.length_append, yk, List.length_cons] at hlm
    rw [zp] at hd
    have hget : ∀ j, j < r.2.toNat → l[i + j]? = some (r.1 + j) := by
      intro j hj
      rw [← List.getElem?_drop, hd, List.getElem?_append_left (by rw [yk]; exact hj), qov hj]
    have hrun := rrun (least := least) (o := o) (rest := rest) (k := k + 1 + (flat R).length) hF hl h1 h2 h3 (by omega) hget r.2.toNat 0 (by omega)
    have e1 : oj least o r 0 = o := by unfold oj; rw [if_neg (by omega)]
    have e2 : rj least rest r 0 = rest := by unfold rj; split <;> simp [rng]
    rw [e1, e2, show i + 0 = i from rfl] at hrun
    rw [zp, List.length_append, yk, show k + 1 + (r.2.toNat + (flat R).length) = k + 1 + (flat R).length + r.2.toNat from by omega, hrun]
    have hd' : l.drop (i + r.2.toNat) = flat R := by
      rw [← List.drop_drop, hd, List.drop_left' (yk _ _)]
    have hlen : i + r.2.toNat ≤ l.length := by
      have := congrArg List.length hd
      rw [List.length_drop, List.length_append, yk] at this
      omega
    have hlo : (oj least o r r.2.toNat).length + R.length + ((rj least rest r r.2.toNat).length + (flat R).length) ≤ 1000000 := by
      unfold oj rj
      by_cases hc : least ≤ r.2
      · rw [if_pos ⟨hc, by omega⟩, if_pos hc]; simp; omega
      · rw [if_neg (by omega), if_neg hc]; simp [yk]; omega
    rw [rall hF hl R _ _ _ k (fun r' hr' => hR r' (by simp [hr'])) hd' hlen hlo]
    unfold oj rj
    by_cases hc : least ≤ r.2
    · rw [if_pos ⟨hc, by omega⟩, if_pos hc, qqQ hc, qqR hc, List.append_assoc]; rfl
    · rw [if_neg (by omega), if_neg hc, qqP hc, qqS hc, zp, List.append_assoc]
theorem qpa {F : Nat} (hF : 2000000 ≤ F) {q : Int} {l : List Int} {least : Int} (hl : l.length ≤ 300) (h : Ris q l) : qcT F l least = some (spO least (rs l), flat (spS least (rs l))) := by
  unfold qcT
  have hs := qgq (vM h).1 (vM h).2
  have hfl := qc8 l
  have hlong := qeF hs
  rw [hfl] at hlong
  have hR : ∀ r ∈ rs l, Mx l r ∧ (-1000000 ≤ r.1 ∧ r.1 ≤ 10000000) ∧ r.2 ≤ 300 := by
    intro r hr
    have hm := qnp hs r hr
    rw [hfl] at hm
    have h2 := qfJ hr
    rw [hfl] at h2
    have hx := qgp h _ (hm.2.2.2 r.1 (by omega) (by have := hm.1; omega))
    unfold Nd at hx
    exact ⟨hm, by omega, by omega⟩
  have := rall (F := F) (l := l) (least := least) (by omega) hl (rs l) [] [] 0 (F - l.length - 1) hR (by rw [hfl]; rfl) (by omega) (by rw [hfl]; simp; omega)
  rw [hfl, show F - l.length - 1 + 1 + l.length = F from by omega] at this
  simpa using this
theorem qka {F : Nat} {x a b : Int} : qbs F x a b = some (decide (a ≤ x ∧ x ≤ b)) := by
  unfold qbs
  congr 1
  by_cases h : a ≤ x <;> by_cases h2 : x ≤ b <;> simp [h, h2]
def RunOk (r : Int × Int) : Prop := (0 ≤ r.1 ∧ r.1 ≤ 1048576) ∧ (1 ≤ r.2 ∧ r.2 ≤ 300) ∧ r.1 + r.2 - 1 ≤ 1048576
instance runOkDec (r : Int × Int) : Decidable (RunOk r) := inferInstanceAs (Decidable (_ ∧ _ ∧ _))
def sk : Int → List (Int × Int) → Int
  | _, [] => 0
  | e, r :: R => if RunOk r then (if r.1 < e + 2 then 4 else sk (r.1 + r.2 - 1) R) else 3
theorem qqO : ∀ {e : Int} {R : List (Int × Int)}, sk e R = 0 ↔ (∀ r ∈ R, RunOk r) ∧ Sep (e + 1) R
  | _, [] => by simp [sk, Sep]
  | e, r :: R => by
    unfold sk Sep
    by_cases h : RunOk r
    · rw [if_pos h]
      by_cases h2 : r.1 < e + 2
      · rw [if_pos h2]; simp; omega
      · rw [if_neg h2, qqO]
        rw [show r.1 + r.2 - 1 + 1 = r.1 + r.2 from by omega]
        have h3 : 1 ≤ r.2 := h.2.1.1
        constructor
        · rintro ⟨h4, h5⟩
          exact ⟨fun r' hr => by rcases List.mem_cons.1 hr with rfl | hr; exact h; exact h4 r' hr, by omega, h3, h5⟩
        · rintro ⟨h4, _, _, h5⟩
          exact ⟨fun r' hr => h4 r' (by simp [hr]), h5⟩
    · rw [if_neg h]
      constructor
      · intro h3; simp at h3
      · rintro ⟨h4, _⟩; exact absurd (h4 r (by simp)) h
theorem qg9 : ∀ {R : List (Int × Int)}, (∀ r ∈ R, RunOk r) → (flat R).length ≤ 300 * R.length
  | [], _ => by simp [flat]
  | r :: R, h => by
    have h1 := qg9 (R := R) fun r hr => h r (by simp [hr])
    have h2 := h r (by simp)
    unfold RunOk at h2
    rw [zp, List.length_append, yk, List.length_cons]
    omega
theorem qjX {F : Nat} {rec32 : (List Int × Int) → Option (List Int × Int)} {i : Int} {r : Int × Int} {acc : List Int} (hr : RunOk r) (ha : acc.length ≤ 1000000) : ∀ (k j : Nat), r.2.toNat < k + j → j ≤ r.2.toNat →
    yf F rec32 i r k (acc ++ rng r.1 j, (j : Int)) = qaB F rec32 i (acc ++ rng r.1 r.2.toNat)
  | 0, _, _, _ => by omega
  | k + 1, j, h, hj => by
    unfold RunOk at hr
    show qay F rec32 i r (yf F rec32 i r k) (acc ++ rng r.1 j) (j : Int) = _
    unfold qay
    by_cases hlt : j < r.2.toNat
    · rw [if_pos (by simp; omega), qr (by omega) (by omega), qQ (by simp [yk]; omega), qn (by omega)]
      simp only [Option.bind_some]
      rw [List.append_assoc, ← qfz]
      exact qjX hr ha k (j + 1) (by omega) (by omega)
    · rw [if_neg (by simp; omega)]
      obtain rfl : j = r.2.toNat := by omega
      rfl
theorem qoW {R : List (Int × Int)} {i : Nat} (h : i < R.length) : flat (R.take (i + 1)) = flat (R.take i) ++ rng R[i].1 R[i].2.toNat := by
  rw [List.take_add_one, List.getElem?_eq_getElem h, qh4]
  simp [flat]
theorem qiA {F : Nat} (hF : 1000 < F) {R : List (Int × Int)} (hR : ∀ r ∈ R, RunOk r) (hl : R.length ≤ 300) : ∀ (k i : Nat), R.length < k + i → i ≤ R.length →
    q8 F R k (flat (R.take i), (i : Int)) = some (flat R, 0)
  | 0, _, _, _ => by omega
  | k + 1, i, h, hi => by
    show qax F R (q8 F R k) (flat (R.take i)) (i : Int) = _
    unfold qax
    by_cases hlt : i < R.length
    · have hok := hR _ (List.getElem_mem hlt)
      have hsz := qg9 (R := R.take i) fun r hr => hR r (List.mem_of_mem_take hr)
      rw [List.length_take] at hsz
      have hsp := qjX (F := F) (rec32 := q8 F R k) (i := (i : Int)) (acc := flat (R.take i)) hok (by omega) F 0 (by unfold RunOk at hok; omega) (by omega)
      rw [rng, List.append_nil, show ((0 : Nat) : Int) = 0 from rfl] at hsp
      rw [if_pos (by simp; omega), qs, List.getElem?_eq_getElem hlt]
      simp only [Option.bind_some]
      rw [hsp, ← qoW hlt]
      unfold qaB
      rw [qn (by omega)]
      exact qiA hF hR hl k (i + 1) (by omega) (by omega)
    · rw [if_neg (by simp; omega)]
      obtain rfl : i = R.length := by omega
      rw [List.take_length]; rfl
theorem qic {a b : Int} (h1 : -1000000000 ≤ a ∧ a ≤ 1000000000) (h2 : -1000000000 ≤ b ∧ b ≤ 1000000000) : isub .i64 (iadd .i64 a b) 1 = a + b - 1 := by
  rw [qr (by omega) (by omega), qx (by omega) (by omega)]
theorem qiz {F : Nat} {R : List (Int × Int)} (hl : R.length ≤ 300) : ∀ (k i : Nat) (e : Int), R.length < k + i → i ≤ R.length → -2 ≤ e ∧ e ≤ 1048576 →
    kz F R k (e, (i : Int)) = if sk e (R.drop i) ≠ 0 then some ([], sk e (R.drop i)) else qaA F R
  | 0, _, _, _, _, _ => by omega
  | k + 1, i, e, h, hi, he => by
    show qaz F R (kz F R k) e (i : Int) = _
    unfold qaz
    by_cases hlt : i < R.length
    · rw [if_pos (by simp; omega), qs, List.getElem?_eq_getElem hlt, List.drop_eq_getElem_cons hlt, sk]
      generalize R[i] = r
      simp only [Option.bind_some]
      rw [qka, qka]
      simp only [Option.bind_some]
      by_cases h1 : 0 ≤ r.1 ∧ r.1 ≤ 1048576
      · rw [decide_eq_true h1, if_neg (by simp)]
        by_cases h2 : 1 ≤ r.2 ∧ r.2 ≤ 300
        · rw [decide_eq_true h2, if_neg (by simp), qic (by omega) (by omega)]
          unfold vC
          by_cases h3 : r.1 + r.2 - 1 ≤ 1048576
          · have hok : RunOk r := ⟨h1, h2, h3⟩
            rw [if_neg (by simp; omega), if_pos hok, qr (by omega) (by omega)]
            by_cases h4 : r.1 < e + 2
            · rw [if_pos (by simpa using h4), if_pos h4, if_pos (by decide)]
            · rw [if_neg (by simpa using h4), if_neg h4, qic (by omega) (by omega), qn (by omega)]
              exact qiz hl k (i + 1) _ (by omega) (by omega) (by omega)
          · have hok : ¬ RunOk r := fun h => h3 h.2.2
            rw [if_pos (by simp; omega), if_neg hok, if_pos (by decide)]
        · have hok : ¬ RunOk r := fun h => h2 h.2.1
          rw [decide_eq_false h2, if_pos (by simp), if_neg hok, if_pos (by decide)]
          rfl
      · have hok : ¬ RunOk r := fun h => h1 h.1
        rw [decide_eq_false h1, if_pos (by simp), if_neg hok, if_pos (by decide)]
        rfl
    · rw [if_neg (by simp; omega), List.drop_eq_nil_of_le (by omega), sk, if_neg (by simp)]
def skc (R : List (Int × Int)) : Int := if 300 < R.length then 2 else sk (-2) R
def spd (R : List (Int × Int)) : List Int × Int := if skc R ≠ 0 then ([], skc R) else (flat R, 0)
theorem qnr {R : List (Int × Int)} : skc R = 0 ↔ R.length ≤ 300 ∧ (∀ r ∈ R, RunOk r) ∧ Sep (-1) R := by
  unfold skc
  by_cases h : 300 < R.length
  · rw [if_pos h]; simp; omega
  · rw [if_neg h, qqO]
    simp
    omega
theorem qpf {F : Nat} (hF : 20000 ≤ F) {R : List (Int × Int)} : qc7 F R = some (spd R) := by
  unfold qc7 spd
  by_cases h : 300 < R.length
  · have e : skc R = 2 := by unfold skc; rw [if_pos h]
    rw [if_pos (by simp; omega), e, if_pos (by decide)]
  · have e : skc R = sk (-2) R := by unfold skc; rw [if_neg h]
    have hc := qiz (F := F) (R := R) (by omega) F 0 (-2) (by omega) (by omega) (by omega)
    rw [List.drop_zero] at hc
    rw [if_neg (by simp; omega), e]
    refine hc.trans ?_
    by_cases h2 : sk (-2) R = 0
    · rw [if_neg (by simp [h2]), if_neg (by simp [h2])]
      unfold qaA
      have hok := qnr.1 (e.trans h2)
      exact qiA (by omega) hok.2.1 hok.1 F 0 (by omega) (by omega)
    · rw [if_pos h2, if_pos h2]
def rm (R : List (Int × Int)) (rest : List Int) : List Int × Int := if skc R ≠ 0 then ([], skc R) else if gkc rest ≠ 0 then ([], gkc rest) else mrg (flat R) rest
theorem qtF {R : List (Int × Int)} {rest : List Int} (h : skc R ≠ 0) : rm R rest = ([], skc R) := by unfold rm; rw [if_pos h]
theorem qtG {R : List (Int × Int)} {rest : List Int} (h : skc R = 0) (h2 : gkc rest ≠ 0) : rm R rest = ([], gkc rest) := by unfold rm; rw [if_neg (by simp [h]), if_pos h2]
theorem qty {R : List (Int × Int)} {rest : List Int} (h : skc R = 0) (h2 : gkc rest = 0) : rm R rest = mrg (flat R) rest := by unfold rm; rw [if_neg (by simp [h]), if_neg (by simp [h2])]
theorem qtc {R : List (Int × Int)} (h : skc R = 0) : spd R = (flat R, 0) := by unfold spd; rw [if_neg (by simp [h])]
theorem qsc {R : List (Int × Int)} (h : skc R ≠ 0) : spd R = ([], skc R) := by unfold spd; rw [if_pos h]
theorem qp5 {F : Nat} (hF : 20000 ≤ F) {R : List (Int × Int)} {rest : List Int} : qdx F R rest = some (rm R rest) := by
  unfold qdx
  rw [qpf hF, qeG hF]
  simp only [Option.bind_some]
  by_cases h : skc R = 0
  · rw [qtc h, if_pos (by simp)]
    unfold jY
    by_cases h2 : gkc rest = 0
    · rw [qty h h2, if_neg (by simp [h2])]
      obtain ⟨k1, k2, k3⟩ := qnr.1 h
      have k4 := zA.1 h2
      have k5 := qg9 k2
      exact qoZ hF (qnq k3) (vM k4.2).1 (by show (flat R).length + rest.length ≤ _; omega)
    · rw [qtG h h2, if_pos (by simpa using h2)]
  · rw [qsc h, qtF h, if_neg (by simpa using h)]
    unfold jY
    rw [if_pos (by simpa using h)]
theorem qo7 {R : List (Int × Int)} {rest w : List Int} (h1 : skc R = 0) (h2 : gkc rest = 0) (h3 : cmn (flat R) rest = false) (h4 : (flat R ++ rest).Perm w) (h5 : w.Pairwise (· ≤ ·)) (h6 : w.length ≤ 300) : rm R rest = (w, 0) := by
  have hl := h4.length_eq
  rw [List.length_append] at hl
  rw [qty h1 h2]
  unfold mrg
  rw [h3, if_neg (by simp), if_neg (by omega), qfC h4 h5]
theorem qrS {l r : List Int} : (mrg l r).1.length ≤ 300 := by
  unfold mrg
  split
  · simp
  · split
    · simp
    · simp; omega
theorem qta {R : List (Int × Int)} {rest : List Int} : (rm R rest).1.length ≤ 300 := by
  unfold rm
  split
  · simp
  · split
    · simp
    · exact qrS
theorem qh3 {R : List (Int × Int)} (p : Int × Int → Bool) : (R.filter p).length ≤ R.length := List.length_filter_le _ _
theorem qo5 {A B : List (Int × Int)} (h : A.Perm B) : (flat A).Perm (flat B) := h.flatMap_right _
theorem qgo (least : Int) : ∀ (R : List (Int × Int)), (spO least R ++ spS least R).Perm R
  | [] => List.Perm.refl _
  | r :: R => by
    by_cases h : least ≤ r.2
    · rw [qqQ h, qqR h]; exact (qgo least R).cons r
    · rw [qqP h, qqS h]; exact List.perm_middle.trans ((qgo least R).cons r)
theorem qmy (least : Int) (l : List Int) : (flat (spO least (rs l)) ++ flat (spS least (rs l))).Perm l := by
  rw [← qh4]
  have := qo5 (qgo least (rs l))
  rwa [qc8] at this
theorem qle {q : Int} {least : Int} {l : List Int} (hl : l.length ≤ 300) (h : Ris q l) : (spO least (rs l)).length ≤ 300 ∧ (flat (spS least (rs l))).length ≤ 300 := by
  have h1 := qeF (qgq (vM h).1 (vM h).2)
  rw [qc8] at h1
  have h2 := (qmy least l).length_eq
  rw [List.length_append] at h2
  have h3 : (spO least (rs l)).length ≤ (rs l).length := qh3 _
  omega
theorem qjR {l : List Int} (hl : l.length ≤ 300) (h : Ris (-1) l) : Sep (-1) (rs l) ∧ ∀ r ∈ rs l, RunOk r := by
  have hs := qgq (vM h).1 (vM h).2
  refine ⟨hs, fun r hr => ?_⟩
  have hm := qnp hs r hr
  have h2 := qfJ hr
  rw [qc8] at hm h2
  have h1 := hm.1
  have a1 := qgp h _ (hm.2.2.2 r.1 (by omega) (by omega))
  have a2 := qgp h _ (hm.2.2.2 (r.1 + r.2 - 1) (by omega) (by omega))
  unfold Nd at a1 a2
  exact ⟨by omega, by omega, by omega⟩
theorem qsh {l : List Int} (hl : l.length ≤ 300) (h : Ris (-1) l) (p : Int × Int → Bool) : skc ((rs l).filter p) = 0 := by
  obtain ⟨h1, h2⟩ := qjR hl h
  have h3 := qeF h1
  rw [qc8] at h3
  exact qnr.2 ⟨Nat.le_trans (qh3 p) (by omega), fun r hr => h2 r (List.mem_filter.1 hr).1, qb0 p h1⟩
theorem qpN {R : List (Int × Int)} (p : Int × Int → Bool) : ∀ z ∈ flat (R.filter p), z ∈ flat R := by
  intro z hz
  obtain ⟨r, h1, h2⟩ := qh5.1 hz
  exact qh5.2 ⟨r, (List.mem_filter.1 h1).1, h2⟩
theorem qhP {l : List Int} (h : Ris (-1) l) (p : Int × Int → Bool) : Ris (-1) (flat ((rs l).filter p)) := by
  have hs := qgq (vM h).1 (vM h).2
  have hsub : ∀ z ∈ flat ((rs l).filter p), z ∈ l := fun z hz => by have := qpN p z hz; rwa [qc8] at this
  exact qk7 (qnq (qb0 p hs)) (fun z hz => (vM h).2 z (hsub z hz)) (fun z hz => qgp h z (hsub z hz))
theorem qpI (f : Int → Bool) : ∀ (l pre : List Int) (c : Bool), cp (pre ++ l) (tb c pre.length (l.map f)) c = (if c then pre else []) ++ l.filter f
  | [], pre, c => by
    show cp (pre ++ []) [] c = _
    unfold cp
    simp
  | x :: l, pre, c => by
    rw [List.map_cons, List.filter_cons]
    by_cases h : f x = c
    · have ih := qpI f l (pre ++ [x]) c
      rw [List.append_assoc, List.length_append, show ((pre.length + [x].length : Nat) : Int) = (pre.length : Int) + 1 from by simp] at ih
      rw [h, qfV]
      refine ih.trans ?_
      cases c
      · simp
      · simp
    · have ih := qpI f l [x] (f x)
      rw [qfW h]
      unfold cp
      have hc : (!c) = f x := by cases c <;> cases hx : f x <;> simp_all
      rw [hc, show ((1 : Int)) = (([x] : List Int).length : Int) from rfl, Int.toNat_natCast, List.take_left, List.drop_left]
      have ih' : cp (x :: l) (tb (f x) (([x] : List Int).length : Int) (l.map f)) (f x) = (if f x then [x] else []) ++ l.filter f := ih
      rw [ih']
      cases f x <;> simp
theorem qsU (l m : List Int) : cp l (tbs l m) true = l.filter (hasB m) := by
  have := qpI (hasB m) l [] true
  simpa [tbs] using this
theorem qft : ∀ (bs : List Bool) (f c : Bool) (m : Int), 0 ≤ m → (f = true ∨ 1 ≤ m) → okB f (tb c m bs) = true
  | [], _, _, _, _, _ => rfl
  | b :: bs, f, c, m, h, hf => by
    by_cases hb : b = c
    · subst hb
      rw [qfV]
      exact qft bs f b (m + 1) (by omega) (.inr (by omega))
    · rw [qfW hb, qeI, qft bs false b 1 (by omega) (.inr (by omega))]
      rcases hf with hf | hf
      · simp [h, hf]
      · simp [h, hf]
theorem qed : ∀ (bs : List Bool) (c : Bool) (m : Int), 0 ≤ m → bsum (tb c m bs) ≤ m + bs.length
  | [], _, _, h => by show (0 : Int) ≤ _; simp; omega
  | b :: bs, c, m, h => by
    by_cases hb : b = c
    · subst hb
      rw [qfV]
      have := qed bs b (m + 1) (by omega)
      rw [List.length_cons]; omega
    · rw [qfW hb]
      have := qed bs b 1 (by omega)
      show m + bsum _ ≤ _
      rw [List.length_cons]; omega
theorem qfX (l m : List Int) : (tbs l m).length ≤ l.length := by
  have := qnE true 0 (l.map (hasB m))
  rwa [List.length_map] at this
theorem qrA {l m : List Int} (h : gkc l = 0) : cpE l (tbs l m) = 0 := by
  refine qm2.2 ⟨zA.1 h, ?_, qft _ _ _ _ (by omega) (.inl rfl), ?_⟩
  · have := qfX l m; omega
  · have := qed (l.map (hasB m)) true 0 (by omega)
    rw [List.length_map] at this
    unfold tbs; omega
theorem qnW {l m : List Int} (h : gkc l = 0) : cpy l (tbs l m) = (l.filter (hasB m), 0) := by
  rw [qm3 (qrA h), qsU]
theorem qsg {l m : List Int} (h : gkc l = 0) (hs : m.Sublist l) : gkc m = 0 := by
  obtain ⟨h1, h2⟩ := zA.1 h
  have := hs.length_le
  exact zA.2 ⟨by omega, qk7 ((vM h2).1.sublist hs) (fun z hz => (vM h2).2 z (hs.subset hz)) (fun z hz => qgp h2 z (hs.subset hz))⟩
theorem qfq {l : List Int} (h : gkc l = 0) : l.Pairwise (· < ·) := (vM (zA.1 h).2).1
theorem ql3 {l : List Int} {x : Int} : hasB l x = true ↔ x ∈ l := by unfold hasB; simp
theorem qmd {a b : List Int} (ha : gkc a = 0) (hb : gkc b = 0) : a.filter (hasB b) = b.filter (hasB a) := by
  refine qqn ((qfq ha).sublist (List.filter_sublist ..)) ((qfq hb).sublist (List.filter_sublist ..)) fun z => ?_
  rw [List.mem_filter, List.mem_filter, ql3, ql3]
  exact And.comm
theorem qjy (p : Int → Bool) (l : List Int) : (l.filter p ++ l.filter fun x => !p x).Perm l := by
  induction l with
  | nil => exact List.Perm.refl _
  | cons x l ih =>
    rw [List.filter_cons, List.filter_cons]
    cases p x
    · simp only [Bool.false_eq_true, if_false, Bool.not_false, if_true]
      exact List.perm_middle.trans (ih.cons x)
    · simp only [if_true, Bool.not_true, Bool.false_eq_true, if_false]
      exact ih.cons x
structure Rep (l : List Int) (f : Bool) (S : List Int) : Prop where
  bit : Bit l
  len : l.length ≤ 8192
  ok : f = false → l = S
  full : f = true → 8192 < S.length
def Wr (m : Option (Int × List Int × Bool)) (S : List Int) : Prop := ∃ l f, m = some ((l.length : Int), pk l, f) ∧ Rep l f S
theorem qr6 : Rep [] false [] := ⟨by intro x hx; simp at hx, by simp, fun _ => rfl, by simp⟩
theorem qqw {l S : List Int} {f : Bool} (h : Rep l f S) {k : List Int} (hk : 8192 < (S ++ k).length) : Rep l true (S ++ k) := ⟨h.bit, h.len, by simp, fun _ => hk⟩
theorem qlq {F : Nat} (hF : 20000 ≤ F) {l k S : List Int} {f : Bool} (h : Rep l f S) (hk : Bit k) (hkm : k.length ≤ 8192) : Wr (yh F (l.length : Int) (pk l) f (k.length : Int) (pk k)) (S ++ k) := by
  have hl := h.len
  unfold yh
  cases f with
  | true =>
    have := h.full rfl
    refine ⟨l, true, by simp [k9], h.bit, h.len, by simp, fun _ => by simp; omega⟩
  | false =>
    obtain rfl := h.ok rfl
    rw [if_neg (by simp), vL (by omega)]
    unfold k9
    by_cases hb : 8192 < l.length + k.length
    · rw [if_neg (by simp; omega)]
      refine ⟨l, true, by simp; omega, h.bit, h.len, by simp, fun _ => by simp; omega⟩
    · rw [if_pos (by simp; omega), qnQ hF h.bit hk h.len hkm]
      refine ⟨l ++ k, false, by simp; omega, yX h.bit hk, by simp; omega, fun _ => rfl, by simp⟩
theorem qcK {F : Nat} (hF : 20000 ≤ F) {l S : List Int} {f : Bool} (h : Rep l f S) {n : Int} (h0 : 0 ≤ n) (hn : n ≤ 1099511627776) : Wr (qV F (l.length : Int) (pk l) f n) (S ++ ga n.toNat) := by
  obtain ⟨m, rfl⟩ := Int.eq_ofNat_of_zero_le h0
  unfold qV
  rw [zP (by omega), qhv hF (by omega)]
  simp only [Option.bind_some, Int.toNat_natCast]
  obtain ⟨l', f', e, h'⟩ := qlq hF h (qe0 m) (by have := qct (n := m) (by omega); omega)
  rw [e]
  exact ⟨l', f', rfl, h'⟩
theorem qhn {m : Option (Int × List Int × Bool)} {S T : List Int} (h : Wr m S) (e : S = T) : Wr m T := e ▸ h
def encBs : Bool → List Int → List Int
  | _, [] => []
  | b, n :: bs => ga (n - if b then 1 else 0).toNat ++ encBs true bs
def encB (bs : List Int) : List Int := ga bs.length ++ encBs false bs
theorem qp0 (i : Nat) : imin (i : Int) 1 = if 0 < i then 1 else 0 := by
  unfold imin
  by_cases h : 0 < i
  · rw [if_pos h]
    by_cases h2 : i = 1
    · subst h2; simp
    · rw [if_pos (by omega)]
  · rw [if_neg h, if_neg (by omega)]; omega
theorem qj9 {F : Nat} (hF : 20000 ≤ F) {bs : List Int} (hm : bs.length ≤ 1000) : ∀ (k i : Nat) (l : List Int) (f : Bool) (S : List Int), bs.length < k + i → i ≤ bs.length → Rep l f S → okB (!decide (0 < i)) (bs.drop i) = true → (∀ n ∈ bs, n ≤ 1000000) →
    Wr (zL F bs k ((i : Int), (l.length : Int), pk l, f)) (S ++ encBs (decide (0 < i)) (bs.drop i))
  | 0, _, _, _, _, _, _, _, _, _ => by omega
  | k + 1, i, l, f, S, h, hi, hr, hok, hb => by
    show Wr (yi F bs (zL F bs k) (i : Int) (l.length : Int) (pk l) f) _
    unfold yi
    by_cases hlt : i < bs.length
    · rw [List.drop_eq_getElem_cons hlt, qeI] at hok
      simp only [Bool.and_eq_true, Bool.or_eq_true, decide_eq_true_eq, Bool.not_eq_true', decide_eq_false_iff_not] at hok
      have hn := hb bs[i] (List.getElem_mem hlt)
      rw [if_pos (by simp; omega), qs, List.getElem?_eq_getElem hlt, List.drop_eq_getElem_cons hlt, qp0]
      simp only [Option.bind_some]
      have e1 : isub .i64 bs[i] (if 0 < i then 1 else 0) = bs[i] - (if decide (0 < i) = true then 1 else 0) := by
        by_cases h0 : 0 < i
        · rw [if_pos h0, if_pos (by simpa using h0), qx (by omega) (by omega)]
        · rw [if_neg h0, if_neg (by simpa using h0), qx (by omega) (by omega)]
      rw [e1]
      obtain ⟨l', f', e, h'⟩ := qcK hF hr (n := bs[i] - (if decide (0 < i) = true then 1 else 0)) (by split <;> rename_i h0 <;> simp at h0 <;> omega) (by split <;> omega)
      rw [e]
      simp only [Option.bind_some]
      rw [qn (by omega)]
      refine qhn (qj9 hF hm k (i + 1) l' f' _ (by omega) (by omega) h' (by simpa using hok.2) hb) ?_
      rw [List.append_assoc]
      simp [encBs]
    · rw [if_neg (by simp; omega), List.drop_eq_nil_of_le (by omega)]
      exact ⟨l, f, rfl, by simpa [encBs] using hr⟩
theorem qnF {F : Nat} (hF : 20000 ≤ F) {bs l S : List Int} {f : Bool} (hm : bs.length ≤ 1000) (hr : Rep l f S) (hok : okB true bs = true) (hb : ∀ n ∈ bs, n ≤ 1000000) : Wr (vE F (l.length : Int) (pk l) f bs) (S ++ encB bs) := by
  unfold vE
  obtain ⟨l', f', e, h'⟩ := qcK hF hr (n := (bs.length : Int)) (by omega) (by omega)
  rw [e]
  simp only [Option.bind_some]
  refine qhn (qj9 hF hm F 0 l' f' _ (by omega) (by omega) h' (by simpa using hok) hb) ?_
  simp [encB]
def encRs (least : Int) : Bool → Int → List (Int × Int) → List Int
  | _, _, [] => []
  | b, a, r :: R => ga (if b then r.1 - a - 2 else foldOf (r.1 - a)).toNat ++ (ga (r.2 - least).toNat ++ encRs least true (r.1 + r.2 - 1) R)
def encR (least node : Int) (R : List (Int × Int)) : List Int := ga R.length ++ encRs least false node R
theorem qdV {x : Int} (h : -2000000 ≤ x ∧ x ≤ 2000000) : 0 ≤ foldOf x ∧ foldOf x ≤ 4000001 := by unfold foldOf; split <;> omega
end Go.Proofs.YtpnfijegoepiaaaGreat
