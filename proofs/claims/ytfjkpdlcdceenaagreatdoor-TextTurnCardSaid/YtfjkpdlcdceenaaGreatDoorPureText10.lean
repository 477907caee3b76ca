/- Plain facts of what the functions of this seat compute. -/
import Derived.Test.YtfjkpdlcdceenaaGreatDoorModels
import Derived.KernelRfl
import Derived.Lib.SlicesCompact
import Derived.Lib.SplitLaws
namespace Go.Proofs.YtfjkpdlcdceenaaGreatDoor
open Go SX
def Bit (l : List Int) : Prop := ∀ x ∈ l, x = 0 ∨ x = 1
theorem Bit.getD {l : List Int} (h : Bit l) (i : Nat) : l.getD i 0 = 0 ∨ l.getD i 0 = 1 := by
  by_cases hi : i < l.length
  · have := h l[i] (List.getElem_mem hi)
    simpa [List.getD, hi] using this
  · left
    simp [List.getD, List.getElem?_eq_none (Nat.le_of_not_lt hi)]
theorem qfY {a b : Nat} (h : a + b < 9223372036854775808) : iadd .i64 (a : Int) (b : Int) = ((a + b : Nat) : Int) := by rw [qa5 (by omega) (by omega)]; omega
theorem zS {a : Nat} (h : a + 1 < 9223372036854775808) : iadd .i64 (a : Int) 1 = ((a + 1 : Nat) : Int) := by rw [qa5 (by omega) (by omega)]; omega
theorem qe8 {a : Nat} (h : 1 ≤ a) (h2 : a < 9223372036854775808) : isub .i64 (a : Int) 1 = ((a - 1 : Nat) : Int) := by rw [qd4 (by omega) (by omega)]; omega
def nb (n : Nat) : Nat → List Int
  | 0 => []
  | w + 1 => ((n / 2 ^ w % 2 : Nat) : Int) :: nb n w
theorem qh4 {α : Type} {l : List α} {i j : Nat} (h1 : i ≤ j) (h2 : j ≤ l.length) : sub l (i : Int) (j : Int) = some ((l.take j).drop i) := by
  unfold sub
  rw [if_pos ⟨by omega, by omega, by omega⟩, Int.toNat_natCast, Int.toNat_natCast]
def len (x : Nat) : Nat := if x = 0 then 0 else x.log2 + 1
def sh (m : Nat) : Nat := len (m - 1)
def dd (m : Nat) : Nat := 2 ^ sh m - m
def le (n m : Nat) : List Int := if n < dd m then nb n (sh m - 1) else nb (n + dd m) (sh m)
theorem qbB (F : Nat) {xs : List Int} (hm : xs.length ≤ 1000000) : ∀ (k i : Nat), xs.length < k + i → i ≤ xs.length → kr F xs xs k (i : Int) = some true
  | 0, _, _, _ => by omega
  | k + 1, i, h, hi => by
    show yE F xs xs (kr F xs xs k) (i : Int) = _
    unfold yE
    by_cases hlt : i < xs.length
    · rw [if_pos (by simp; omega), zO, List.getElem?_eq_getElem hlt]
      simp only [Option.bind_some]
      rw [if_neg (by simp), zS (by omega)]
      exact qbB F hm k (i + 1) (by omega) (by omega)
    · rw [if_neg (by simp; omega)]; rfl
theorem qaP {F : Nat} {xs : List Int} (hF : xs.length < F) (hm : xs.length ≤ 1000000) : yg F xs xs = some true := by
  unfold yg
  rw [if_neg (by simp)]
  exact qbB F hm F 0 (by omega) (by omega)
def kD {σ τ : Type} (yy : σ → (Int × Int) → Option (σ ⊕ τ)) : List (Int × Int) → σ → Option (σ ⊕ τ)
  | [], s => some (.inl s)
  | r :: R, s => (yy s r).bind (Sum.elim (fun s' => kD yy R s') (fun t => some (.inr t)))
def rowE (n : Int) : Int → List Int → Int
  | _, [] => 0
  | last, x :: l => if x < 0 ∨ n ≤ x then 3 else if x ≤ last then 4 else rowE n x l
def gE (n : Int) : List (List Int) → Int
  | [] => 0
  | l :: g => if rowE n (-1) l ≠ 0 then rowE n (-1) l else gE n g
def gtot : List (List Int) → Nat
  | [] => 0
  | l :: g => l.length + gtot g
def gchk (g : List (List Int)) : Int := if 100 < g.length then 2 else if gE g.length g ≠ 0 then gE g.length g else if 600 < gtot g then 2 else 0
theorem qbN : ∀ {n last : Int} {l : List Int}, rowE n last l = 0 ↔ (l.Pairwise (· < ·) ∧ ∀ x ∈ l, last < x) ∧ ∀ x ∈ l, 0 ≤ x ∧ x < n
  | n, last, [] => by simp [rowE]
  | n, last, x :: l => by
    unfold rowE
    by_cases h1 : x < 0 ∨ n ≤ x
    · rw [if_pos h1]
      constructor
      · intro h; simp at h
      · rintro ⟨_, h⟩; have := h x (by simp); omega
    · rw [if_neg h1]
      by_cases h2 : x ≤ last
      · rw [if_pos h2]
        constructor
        · intro h; simp at h
        · rintro ⟨⟨_, h⟩, _⟩; have := h x (by simp); omega
      · rw [if_neg h2, qbN, List.pairwise_cons]
        constructor
        · rintro ⟨⟨a1, a2⟩, a3⟩
          refine ⟨⟨⟨a2, a1⟩, fun y hy => ?_⟩, fun y hy => ?_⟩
          · rcases List.mem_cons.1 hy with rfl | hy
            · omega
            · have := a2 y hy; omega
          · rcases List.mem_cons.1 hy with rfl | hy
            · omega
            · exact a3 y hy
        · rintro ⟨⟨⟨a1, a2⟩, a3⟩, a4⟩
          exact ⟨⟨a2, a1⟩, fun y hy => a4 y (by simp [hy])⟩
theorem qdC {n last : Int} : ∀ {l : List Int}, -1 ≤ last → last < n → rowE n last l = 0 → last + 1 + l.length ≤ n
  | [], h1, h2, _ => by simp; omega
  | x :: l, h1, h2, h => by
    unfold rowE at h
    split at h
    · simp at h
    · split at h
      · simp at h
      · have := qdC (l := l) (by omega) (by omega) h
        rw [List.length_cons]; omega
theorem qfV {n : Int} : ∀ {g : List (List Int)}, gE n g = 0 ↔ ∀ l ∈ g, rowE n (-1) l = 0
  | [] => by simp [gE]
  | l :: g => by
    unfold gE
    by_cases h : rowE n (-1) l = 0
    · rw [if_neg (by simp [h]), qfV]; simp [h]
    · rw [if_pos h]; simp [h]
def Gr (g : List (List Int)) : Prop := g.length ≤ 100 ∧ (∀ l ∈ g, l.Pairwise (· < ·) ∧ ∀ x ∈ l, 0 ≤ x ∧ x < g.length) ∧ gtot g ≤ 600
theorem jy {g : List (List Int)} : gchk g = 0 ↔ Gr g := by
  unfold gchk Gr
  by_cases h1 : 100 < g.length
  · rw [if_pos h1]; simp; omega
  · rw [if_neg h1]
    by_cases h2 : gE g.length g = 0
    · rw [if_neg (by simp [h2])]
      have h3 := qfV.1 h2
      have h4 : ∀ l ∈ g, l.Pairwise (· < ·) ∧ ∀ x ∈ l, 0 ≤ x ∧ x < (g.length : Int) := fun l hl => by
        have := qbN.1 (h3 l hl)
        exact ⟨this.1.1, this.2⟩
      by_cases h5 : 600 < gtot g
      · rw [if_pos h5]; simp; omega
      · rw [if_neg h5]
        exact ⟨fun _ => ⟨by omega, h4, by omega⟩, fun _ => rfl⟩
    · rw [if_pos h2]
      refine ⟨fun h => absurd h h2, fun h => absurd (qfV.2 fun l hl => qbN.2 ⟨⟨(h.2.1 l hl).1, fun x hx => ?_⟩, (h.2.1 l hl).2⟩) h2⟩
      have := (h.2.1 l hl).2 x hx; omega
theorem qbW {g : List (List Int)} (h : Gr g) {l : List Int} (hl : l ∈ g) : l.length ≤ 100 := by
  have h1 := (h.2.1 l hl).2
  have h2 : rowE g.length (-1) l = 0 := qbN.2 ⟨⟨(h.2.1 l hl).1, fun x hx => by have := h1 x hx; omega⟩, h1⟩
  have := qdC (by omega) (by omega) h2
  have := h.1
  omega
theorem qdV {F : Nat} {rec38 : (Int × Int) → Option Int} {g : List (List Int)} {m i : Int} {l : List Int} (hg : g.length ≤ 100) : ∀ (k j : Nat) (last : Int), 102 < k + j → (j : Int) ≤ last + 1 → last < g.length → -1 ≤ last →
    zR F rec38 g m i l k (last, (j : Int)) = if rowE g.length last (l.drop j) ≠ 0 then some (rowE g.length last (l.drop j)) else k7 F rec38 m i l
  | 0, j, last, h, h1, h2, h3 => by omega
  | k + 1, j, last, h, h1, h2, h3 => by
    show k6 F rec38 g m i l (zR F rec38 g m i l k) last (j : Int) = _
    unfold k6
    by_cases hlt : j < l.length
    · rw [if_pos (by simp; omega), zO, List.getElem?_eq_getElem hlt, List.drop_eq_getElem_cons hlt]
      simp only [Option.bind_some]
      unfold rowE
      by_cases c1 : l[j] < 0 ∨ (g.length : Int) ≤ l[j]
      · rw [if_pos (by simpa using c1), if_pos c1, if_pos (by decide)]
      · rw [if_neg (by simpa using c1), if_neg c1]
        by_cases c2 : l[j] ≤ last
        · rw [if_pos (by simpa using c2), if_pos c2, if_pos (by decide)]
        · rw [if_neg (by simpa using c2), if_neg c2, zS (by omega)]
          exact qdV hg k (j + 1) l[j] (by omega) (by omega) (by omega) (by omega)
    · rw [if_neg (by simp; omega), List.drop_eq_nil_of_le (by omega)]
      rw [if_neg (by simp [rowE])]
theorem qcH {F : Nat} (hF : 1000 ≤ F) {g : List (List Int)} (hg : g.length ≤ 100) : ∀ (k i : Nat) (m : Nat), g.length < k + i → i ≤ g.length → m ≤ 100 * i →
    qL F g k ((m : Int), (i : Int)) = if gE g.length (g.drop i) ≠ 0 then some (gE g.length (g.drop i)) else if 600 < m + gtot (g.drop i) then some 2 else some 0
  | 0, _, _, _, _, _ => by omega
  | k + 1, i, m, h, hi, hm => by
    show k5 F g (qL F g k) (m : Int) (i : Int) = _
    unfold k5
    by_cases hlt : i < g.length
    · rw [if_pos (by simp; omega), zO, List.getElem?_eq_getElem hlt, List.drop_eq_getElem_cons hlt]
      simp only [Option.bind_some]
      have hin := qdV (F := F) (rec38 := qL F g k) (m := (m : Int)) (i := (i : Int)) (l := g[i]) hg F 0 (-1) (by omega) (by omega) (by omega) (by omega)
      rw [List.drop_zero, show ((0 : Nat) : Int) = 0 from rfl] at hin
      rw [hin]
      unfold gE gtot
      by_cases hr : rowE g.length (-1) g[i] = 0
      · have hlen := qdC (by omega) (by omega) hr
        have e : (if rowE (g.length : Int) (-1) g[i] ≠ 0 then rowE (g.length : Int) (-1) g[i] else gE (g.length : Int) (g.drop (i + 1))) = gE (g.length : Int) (g.drop (i + 1)) := if_neg (by simp [hr])
        rw [if_neg (show ¬ rowE (g.length : Int) (-1) g[i] ≠ 0 by simp [hr]), e]
        unfold k7 y7
        rw [qfY (by omega), zS (by omega), qcH hF hg k (i + 1) (m + g[i].length) (by omega) (by omega) (by omega), Nat.add_assoc]
      · rw [if_pos (by simpa using hr)]
        have e : (if rowE (g.length : Int) (-1) g[i] ≠ 0 then rowE (g.length : Int) (-1) g[i] else gE (g.length : Int) (g.drop (i + 1))) = rowE (g.length : Int) (-1) g[i] := if_pos hr
        rw [e, if_pos hr]
    · rw [if_neg (by simp; omega), List.drop_eq_nil_of_le (by omega)]
      unfold y6
      rw [if_neg (show ¬ gE (g.length : Int) [] ≠ 0 by simp [gE])]
      by_cases h6 : 600 < m
      · rw [if_pos (by simp; omega), if_pos (by simpa [gtot] using h6)]
      · rw [if_neg (by simp; omega), if_neg (by simpa [gtot] using h6)]
theorem kU {F : Nat} (hF : 1000 ≤ F) {g : List (List Int)} : zN F g = some (gchk g) := by
  unfold zN gchk
  by_cases h : 100 < g.length
  · rw [if_pos (by simp; omega), if_pos h]
  · have := qcH hF (g := g) (by omega) F 0 0 (by omega) (by omega) (by omega)
    rw [List.drop_zero, Nat.zero_add, show ((0 : Nat) : Int) = 0 from rfl] at this
    rw [if_neg (by simp; omega), if_neg h, this]
    split
    · rfl
    · split <;> rfl
def af (i : Nat) : List (List Int) → List (Int × Int)
  | [] => []
  | l :: g => l.map (fun x => ((i : Int), x)) ++ af (i + 1) g
theorem qby {σ τ : Type} {yy : σ → (Int × Int) → Option (σ ⊕ τ)} : ∀ (A B : List (Int × Int)) (s : σ), kD yy (A ++ B) s = (kD yy A s).bind (Sum.elim (fun s' => kD yy B s') (fun t => some (.inr t)))
  | [], B, s => rfl
  | p :: A, B, s => by
    show (yy s p).bind _ = ((yy s p).bind _).bind _
    cases yy s p with
    | none => rfl
    | some r =>
      cases r with
      | inl s' => exact qby A B s'
      | inr t => rfl
theorem qfJ {σ τ : Type} {F : Nat} {yy : σ → (Int × Int) → Option (σ ⊕ τ)} {rec7 : (Int × σ) → Option (σ ⊕ τ)} {i : Int} {l : List Int} (hm : l.length ≤ 1000000) : ∀ (k j : Nat) (s : σ), l.length < k + j → j ≤ l.length →
    zQ F yy rec7 i l k ((j : Int), s) = (kD yy ((l.drop j).map fun x => (i, x)) s).bind (Sum.elim (fun s' => yk F yy rec7 i s') (fun t => some (.inr t)))
  | 0, _, _, _, _ => by omega
  | k + 1, j, s, h, hj => by
    show k4 F yy rec7 i l (zQ F yy rec7 i l k) (j : Int) s = _
    unfold k4
    by_cases hlt : j < l.length
    · rw [if_pos (by simp; omega), zO, List.getElem?_eq_getElem hlt, List.drop_eq_getElem_cons hlt, List.map_cons]
      simp only [Option.bind_some, kD]
      cases yy s (i, l[j]) with
      | none => rfl
      | some r =>
        cases r with
        | inl s' =>
          simp only [Option.bind_some, Sum.elim_inl]
          rw [zS (by omega)]
          exact qfJ hm k (j + 1) s' (by omega) (by omega)
        | inr t => rfl
    · rw [if_neg (by simp; omega), List.drop_eq_nil_of_le (by omega)]
      rfl
theorem qeW {σ τ : Type} {F : Nat} {yy : σ → (Int × Int) → Option (σ ⊕ τ)} {g : List (List Int)} (hm : g.length ≤ 1000000) (hr : ∀ l ∈ g, l.length ≤ 1000000 ∧ l.length < F) : ∀ (k i : Nat) (s : σ), g.length < k + i → i ≤ g.length →
    qY F yy g k ((i : Int), s) = kD yy (af i (g.drop i)) s
  | 0, _, _, _, _ => by omega
  | k + 1, i, s, h, hi => by
    show yj F yy g (qY F yy g k) (i : Int) s = _
    unfold yj
    by_cases hlt : i < g.length
    · have hrow := hr _ (List.getElem_mem hlt)
      rw [if_pos (by simp; omega), zO, List.getElem?_eq_getElem hlt, List.drop_eq_getElem_cons hlt]
      simp only [Option.bind_some]
      have := qfJ (F := F) (yy := yy) (rec7 := qY F yy g k) (i := (i : Int)) hrow.1 F 0 s (by omega) (by omega)
      rw [List.drop_zero, show ((0 : Nat) : Int) = 0 from rfl] at this
      rw [this]
      unfold af
      rw [qby]
      congr 1
      funext r
      cases r with
      | inl s' =>
        simp only [Sum.elim_inl]
        unfold yk
        rw [zS (by omega)]
        exact qeW hm hr k (i + 1) s' (by omega) (by omega)
      | inr t => rfl
    · rw [if_neg (by simp; omega), List.drop_eq_nil_of_le (by omega)]
      rfl
theorem qdl {σ τ : Type} {F : Nat} {yy : σ → (Int × Int) → Option (σ ⊕ τ)} {g : List (List Int)} {s : σ} (hF : g.length < F) (hm : g.length ≤ 1000000) (hr : ∀ l ∈ g, l.length ≤ 1000000 ∧ l.length < F) : z8 F yy g s = kD yy (af 0 g) s := by
  unfold z8
  have := qeW (yy := yy) hm hr F 0 s (by omega) (by omega)
  rw [List.drop_zero] at this
  exact this
theorem qfg {σ τ : Type} {F : Nat} {yy : σ → (Int × Int) → Option (σ ⊕ τ)} {l : List (Int × Int)} (hm : l.length ≤ 1000000) : ∀ (k i : Nat) (s : σ), l.length < k + i → i ≤ l.length →
    qx F yy l k ((i : Int), s) = kD yy (l.drop i) s
  | 0, _, _, _, _ => by omega
  | k + 1, i, s, h, hi => by
    show qV F yy l (qx F yy l k) (i : Int) s = _
    unfold qV
    by_cases hlt : i < l.length
    · rw [if_pos (by simp; omega), zO, List.getElem?_eq_getElem hlt, List.drop_eq_getElem_cons hlt]
      simp only [Option.bind_some, kD]
      cases yy s l[i] with
      | none => rfl
      | some r =>
        cases r with
        | inl s' =>
          simp only [Option.bind_some, Sum.elim_inl]
          rw [zS (by omega)]
          exact qfg hm k (i + 1) s' (by omega) (by omega)
        | inr t => rfl
    · rw [if_neg (by simp; omega), List.drop_eq_nil_of_le (by omega)]
      rfl
theorem qa2 {τ : Type} {lim : Nat} {f : Int × Int → Int × Int} {yy : List (Int × Int) → (Int × Int) → Option (List (Int × Int) ⊕ τ)} (hy : ∀ s p, yy s p = (app lim s [f p]).bind fun z => some (.inl z)) : ∀ (L s : List (Int × Int)), s.length + L.length ≤ lim → kD yy L s = some (.inl (s ++ L.map f))
  | [], s, _ => by simp [kD]
  | p :: L, s, h => by
    rw [List.length_cons] at h
    show (yy s p).bind _ = _
    rw [hy, kM (by simp; omega)]
    simp only [Option.bind_some, Sum.elim_inl]
    rw [qa2 hy L (s ++ [f p]) (by simp; omega)]
    simp
theorem qdk : ∀ (i : Nat) (g : List (List Int)), (af i g).length = gtot g
  | _, [] => rfl
  | i, l :: g => by unfold af gtot; rw [List.length_append, List.length_map, qdk (i + 1) g]
theorem qbq {F : Nat} {g : List (List Int)} (hF : 1000 ≤ F) (h : Gr g) : qG F g = some (af 0 g) := by
  unfold qG qQ
  have h1 := h.1
  have h2 := h.2.2
  rw [qdl (by omega) (by omega) (fun l hl => by have := qbW h hl; omega), qa2 (lim := 4398046511104) (f := fun p => p) ?hy (af 0 g) [] (by rw [qdk]; simp; omega)]
  · simp
  · exact fun s p => rfl
theorem qdp {F : Nat} {l : List (Int × Int)} (hF : l.length < F) (hm : l.length ≤ 1000000) : qq F l = some l := by
  unfold qq qu zB
  have := fun yy => qfg (σ := List (Int × Int)) (τ := Empty) (F := F) (yy := yy) hm F 0 [] (by omega) (by omega)
  rw [show ((0 : Nat) : Int) = 0 from rfl] at this
  rw [this, List.drop_zero, qa2 (lim := 4398046511104) (f := fun p => p) ?hy l [] (by simp; omega)]
  · simp
  · exact fun s p => rfl
theorem qc3 {F : Nat} {g : List (List Int)} (hF : 1000 ≤ F) (h : Gr g) : k8 F g = some ((af 0 g).map fun p => (p.2, p.1)) := by
  unfold k8 z7
  have h1 := h.1
  have h2 := h.2.2
  simp only [Option.bind_some]
  rw [qdl (by omega) (by omega) (fun l hl => by have := qbW h hl; omega), qa2 (lim := 4398046511104) (f := fun p => (p.2, p.1)) ?hy (af 0 g) [] (by rw [qdk]; simp; omega)]
  · simp
  · exact fun s p => rfl
def lexLt (p q : Int × Int) : Prop := p.1 < q.1 ∨ (p.1 = q.1 ∧ p.2 < q.2)
instance decLex (p q : Int × Int) : Decidable (lexLt p q) := by unfold lexLt; infer_instance
theorem qcR (a : Int × Int) : ¬ lexLt a a := by unfold lexLt; omega
theorem qf0 (a b d : Int × Int) : lexLt a b → lexLt b d → lexLt a d := by unfold lexLt; omega
theorem qbi (a b : Int × Int) : lexLt a b ∨ a = b ∨ lexLt b a := by
  obtain ⟨a1, a2⟩ := a
  obtain ⟨b1, b2⟩ := b
  simp only [lexLt, Prod.mk.injEq]; omega
theorem qbV {F : Nat} {x y : Int} : kw F x y = some (if x < y then -1 else if y < x then 1 else 0) := by
  unfold kw yF
  simp only [bne_self_eq_false, Option.bind_some, Bool.false_eq_true, if_false, decide_eq_true_eq]
  split
  · rfl
  · split <;> rfl
theorem qh2 {F : Nat} (hF : 3 ≤ F) {x y : Int} : vS F [x, y] = some (if x ≠ 0 then x else y) := by
  obtain ⟨k, rfl⟩ := Nat.exists_eq_add_of_le hF
  rw [Nat.add_comm]
  unfold vS
  show zG (k + 3) [x, y] (zW (k + 3) [x, y] (k + 2)) 0 = _
  unfold zG
  rw [if_pos (by simp)]
  show ((some x).bind _) = _
  simp only [Option.bind_some]
  by_cases hx : x = 0
  · rw [if_neg (by simp [hx]), if_neg (by simp [hx])]
    show zG (k + 3) [x, y] (zW (k + 3) [x, y] (k + 1)) 1 = _
    unfold zG
    rw [if_pos (by simp)]
    show ((some y).bind _) = _
    simp only [Option.bind_some]
    by_cases hy : y = 0
    · rw [if_neg (by simp [hy]), hy]
      show zG (k + 3) [x, y] (zW (k + 3) [x, y] k) 2 = _
      unfold zG
      rw [if_neg (by simp)]
      rfl
    · rw [if_pos (by simp [hy])]
  · rw [if_pos (by simp [hx]), if_pos hx]
theorem qf5 {F : Nat} (hF : 3 ≤ F) (a b : Int × Int) : ∃ z, vw F a.1 a.2 b.1 b.2 = some z ∧ (z < 0 ↔ lexLt a b) := by
  unfold vw
  rw [qbV, qbV]
  simp only [Option.bind_some]
  rw [qh2 hF]
  simp only [Option.bind_some]
  unfold lexLt
  by_cases h1 : a.1 < b.1
  · exact ⟨-1, by simp [h1], by simp [h1]⟩
  · by_cases h2 : b.1 < a.1
    · exact ⟨1, by simp [h1, h2], by omega⟩
    · refine ⟨if a.2 < b.2 then -1 else if b.2 < a.2 then 1 else 0, by simp [h1, h2], ?_⟩
      split
      · omega
      · split <;> omega
def srtA (l : List (Int × Int)) : List (Int × Int) := l.mergeSort fun a b => decide (¬ lexLt b a)
theorem yr (l : List (Int × Int)) : (srtA l).Perm l := List.mergeSort_perm l _
theorem qdF (l : List (Int × Int)) : (srtA l).Pairwise fun a b => ¬ lexLt b a := by
  have h := List.pairwise_mergeSort (le := fun a b : Int × Int => decide (¬ lexLt b a)) (fun a b c h1 h2 => by simp only [decide_eq_true_eq] at *; unfold lexLt at *; omega) (fun a b => by simp only [Bool.or_eq_true, decide_eq_true_eq]; unfold lexLt; omega) l
  exact h.imp (fun h => by simpa using h)
theorem y9 (l : List (Int × Int)) : (srtA l).length = l.length := (yr l).length_eq
theorem qdE {l m : List (Int × Int)} (hp : l.Perm m) (hm : m.Pairwise fun a b => ¬ lexLt b a) : srtA l = m :=
  List.Perm.eq_of_pairwise (le := fun a b : Int × Int => ¬ lexLt b a) (fun a b _ _ h1 h2 => by rcases qbi a b with h | h | h <;> simp_all) (qdF l) hm ((yr l).trans hp)
theorem qfp {l : List (Int × Int)} (h : l.Pairwise lexLt) : l.Nodup := List.Pairwise.imp (S := fun a b => a ≠ b) (fun {a b} h (he : a = b) => qcR a (by rw [← he] at h; exact h)) h
theorem qej {l : List (Int × Int)} (h : l.Nodup) : (srtA l).Pairwise lexLt := by
  have h1 : (srtA l).Nodup := (yr l).nodup_iff.2 h
  refine (List.Pairwise.and (qdF l) h1).imp fun {a b} h => ?_
  rcases qbi a b with h2 | h2 | h2
  · exact h2
  · exact absurd h2 h.2
  · exact absurd h2 h.1
theorem qbC {F : Nat} {l : List (Int × Int)} (hF : 3 ≤ F) (hl : l.length ≤ 1000000) : qt F l = some (srtA l) :=
  qgf (lt := lexLt) (fun a _ b _ => qf5 hF a b) qcR qf0 qbi (by omega) (yr l) (qdF l)
theorem qaI {F : Nat} {l : List (Int × Int)} (hF : 3 ≤ F) (hF2 : l.length < F) (hl : l.length ≤ 1000000) : qd F l = some (srtA l) := by
  unfold qd
  rw [qdp hF2 hl]
  simp only [Option.bind_some]
  rw [qbC hF hl]
  simp [chk, y9]
theorem pwx : ∀ {A B : List Int}, A.Pairwise (· < ·) → B.Pairwise (· < ·) → (∀ z, z ∈ A ↔ z ∈ B) → A = B := by
  intro A B hA hB h
  have nd : ∀ {C : List Int}, C.Pairwise (· < ·) → C.Nodup := fun hC => hC.imp fun h => by omega
  exact List.Perm.eq_of_pairwise (le := fun x y : Int => x < y) (fun a b _ _ h1 h2 => by omega) hA hB ((List.perm_ext_iff_of_nodup (nd hA) (nd hB)).2 h)
def rowOf (l : List (Int × Int)) (i : Int) : List Int := (l.filter fun p => decide (p.1 = i)).map (·.2)
def tab (n : Nat) (l : List (Int × Int)) : List (List Int) := (List.range n).map fun (i : Nat) => rowOf l (i : Int)
theorem qdJ (n : Nat) (l : List (Int × Int)) : (tab n l).length = n := by simp [tab]
theorem qdI {n i : Nat} {l : List (Int × Int)} (h : i < n) : (tab n l)[i]? = some (rowOf l i) := by simp [tab, h]
theorem qbm (l : List (Int × Int)) (i : Int) : (rowOf l i).length ≤ l.length := by
  unfold rowOf
  rw [List.length_map]
  exact List.length_filter_le _ _
theorem qer {n a : Nat} {l : List (Int × Int)} {b : Int} : tab n (l ++ [((a : Int), b)]) = (tab n l).set a (rowOf l a ++ [b]) := by
  apply List.ext_getElem (by simp [tab])
  intro i h1 h2
  rw [qdJ] at h1
  rw [List.getElem_set]
  simp only [tab, List.getElem_map, List.getElem_range]
  by_cases h : a = i
  · rw [if_pos h, ← h]; simp [rowOf]
  · rw [if_neg h]
    have : ¬ (a : Int) = (i : Int) := by omega
    simp [rowOf, this]
theorem qfd (n : Nat) : tab n [] = List.replicate n [] := by
  apply List.ext_getElem (by simp [tab])
  intro i h1 h2
  simp [tab, rowOf]
theorem qhP {n : Nat} {lim : Nat} (h : n ≤ lim) : mk lim ([] : List Int) (n : Int) = some (tab n []) := by
  unfold mk
  rw [if_pos ⟨by omega, by omega⟩, qfd]; simp
def InR (n : Nat) (l : List (Int × Int)) : Prop := ∀ p ∈ l, 0 ≤ p.1 ∧ p.1 < (n : Int) ∧ 0 ≤ p.2 ∧ p.2 < (n : Int)
theorem jd {α : Type} {l : List α} {j : Nat} (h : j < l.length) : l.take (j + 1) = l.take j ++ [l[j]] := by
  rw [List.take_add_one, List.getElem?_eq_getElem h]; rfl
theorem qe1 {F n : Nat} {l : List (Int × Int)} (hl : ∀ p ∈ l, 0 ≤ p.1 ∧ p.1 < (n : Int)) (hm : l.length ≤ 1000000) : ∀ (k j : Nat), l.length < k + j → j ≤ l.length →
    kd F l k ((j : Int), tab n (l.take j)) = some (tab n l)
  | 0, _, _, _ => by omega
  | k + 1, j, h, hj => by
    show yl F l (kd F l k) (j : Int) (tab n (l.take j)) = _
    unfold yl
    by_cases hlt : j < l.length
    · obtain ⟨h1, h2⟩ := hl _ (List.getElem_mem hlt)
      have hrec := qe1 (F := F) hl hm k (j + 1) (by omega) (by omega)
      obtain ⟨a, ha⟩ := Int.eq_ofNat_of_zero_le h1
      have e : l[j] = ((a : Int), l[j].2) := by rw [← ha]
      rw [jd hlt, e, qer] at hrec
      have hrl := qbm (l.take j) (a : Int)
      rw [List.length_take] at hrl
      rw [if_pos (by simp; omega), zO, List.getElem?_eq_getElem hlt]
      simp only [Option.bind_some]
      rw [ha, zO, qdI (by omega)]
      simp only [Option.bind_some]
      rw [kM (by simp; omega)]
      simp only [Option.bind_some, lett]
      rw [zS (by omega), Int.toNat_natCast]
      exact hrec
    · rw [if_neg (by simp; omega), List.take_of_length_le (by omega)]
      rfl
theorem qbT {F n : Nat} {l : List (Int × Int)} (hl : ∀ p ∈ l, 0 ≤ p.1 ∧ p.1 < (n : Int)) (hm : l.length ≤ 1000000) (hF : l.length < F) (hn : n ≤ 1000000) : kB F (n : Int) l = some (tab n l) := by
  unfold kB
  rw [qhP (by omega)]
  simp only [Option.bind_some]
  have := qe1 (F := F) hl hm F 0 (by omega) (by omega)
  rw [List.take_zero] at this
  exact this
def IsTab (n : Nat) (l : List (Int × Int)) (T : List (List Int)) : Prop :=
  T.length = n ∧ ∀ (i : Nat) (r : List Int), T[i]? = some r → r.Pairwise (· < ·) ∧ ∀ x, x ∈ r ↔ ((i : Int), x) ∈ l
theorem qb0 {n : Nat} {l l' : List (Int × Int)} {T T' : List (List Int)} (h : IsTab n l T) (h' : IsTab n l' T') (hm : ∀ p, p ∈ l ↔ p ∈ l') : T = T' := by
  apply List.ext_getElem (by rw [h.1, h'.1])
  intro i h1 h2
  have a := h.2 i _ (List.getElem?_eq_getElem h1)
  have b := h'.2 i _ (List.getElem?_eq_getElem h2)
  exact pwx a.1 b.1 fun z => by rw [a.2, b.2, hm]
theorem qfs {l : List (Int × Int)} {i x : Int} : x ∈ rowOf l i ↔ (i, x) ∈ l := by
  unfold rowOf
  rw [List.mem_map]
  constructor
  · rintro ⟨p, hp, rfl⟩
    obtain ⟨h1, h2⟩ := List.mem_filter.1 hp
    have : p.1 = i := by simpa using h2
    rw [← this]; exact h1
  · intro h
    exact ⟨(i, x), List.mem_filter.2 ⟨h, by simp⟩, rfl⟩
theorem qga {l : List (Int × Int)} {i : Int} (h : l.Pairwise lexLt) : (rowOf l i).Pairwise (· < ·) := by
  unfold rowOf
  rw [List.pairwise_map]
  refine (h.filter _).imp_of_mem fun {a b} ha hb hab => ?_
  have h1 := (List.mem_filter.1 ha).2
  have h2 := (List.mem_filter.1 hb).2
  simp only [decide_eq_true_eq] at h1 h2
  unfold lexLt at hab; omega
theorem qfH {n : Nat} {l : List (Int × Int)} (h : l.Pairwise lexLt) : IsTab n l (tab n l) := by
  refine ⟨qdJ n l, fun i r hr => ?_⟩
  have hi : i < n := by have := (List.getElem?_eq_some_iff.1 hr).1; rwa [qdJ] at this
  rw [qdI hi] at hr
  cases hr
  exact ⟨qga h, fun x => qfs⟩
theorem qd3 {n : Nat} {l l' : List (Int × Int)} {T : List (List Int)} (h : IsTab n l T) (hm : ∀ p, p ∈ l ↔ p ∈ l') : IsTab n l' T :=
  ⟨h.1, fun i r hr => ⟨(h.2 i r hr).1, fun x => by rw [(h.2 i r hr).2, hm]⟩⟩
theorem qdA : ∀ {g : List (List Int)} {k : Nat} {p : Int × Int}, p ∈ af k g ↔ ∃ i r, g[i]? = some r ∧ p.1 = ((k + i : Nat) : Int) ∧ p.2 ∈ r
  | [], k, p => by simp [af]
  | l :: g, k, p => by
    unfold af
    rw [List.mem_append, qdA (g := g), List.mem_map]
    constructor
    · rintro (⟨x, hx, rfl⟩ | ⟨i, r, h1, h2, h3⟩)
      · exact ⟨0, l, by simp, by simp, hx⟩
      · exact ⟨i + 1, r, by simpa using h1, by omega, h3⟩
    · rintro ⟨i, r, h1, h2, h3⟩
      cases i with
      | zero =>
        simp only [List.getElem?_cons_zero, Option.some.injEq] at h1
        subst h1
        exact .inl ⟨p.2, h3, by rw [Nat.add_zero] at h2; rw [← h2]⟩
      | succ i =>
        refine .inr ⟨i, r, by simpa using h1, by omega, h3⟩
theorem qhD : ∀ {g : List (List Int)} {k : Nat}, (∀ r ∈ g, r.Pairwise (· < ·)) → (af k g).Pairwise lexLt
  | [], k, _ => by simp [af]
  | l :: g, k, h => by
    unfold af
    rw [List.pairwise_append]
    refine ⟨?_, qhD fun r hr => h r (by simp [hr]), ?_⟩
    · rw [List.pairwise_map]
      exact (h l (by simp)).imp fun h => .inr ⟨rfl, h⟩
    · intro a ha b hb
      obtain ⟨x, _, rfl⟩ := List.mem_map.1 ha
      obtain ⟨i, r, _, h2, _⟩ := qdA.1 hb
      left
      show (k : Int) < b.1
      omega
theorem qdR {g : List (List Int)} (h : ∀ r ∈ g, r.Pairwise (· < ·)) : IsTab g.length (af 0 g) g := by
  refine ⟨rfl, fun i r hr => ⟨h r (List.mem_of_getElem? hr), fun x => ?_⟩⟩
  rw [qdA]
  constructor
  · intro hx; exact ⟨i, r, hr, by simp, hx⟩
  · rintro ⟨i', r', h1, h2, h3⟩
    have : i' = i := by simp at h2; omega
    subst this
    rw [hr] at h1
    cases h1
    exact h3
theorem qa3 {g : List (List Int)} (h : Gr g) : InR g.length (af 0 g) := fun p hp => by
  obtain ⟨i, r, h1, h2, h3⟩ := qdA.1 hp
  have h4 := (List.getElem?_eq_some_iff.1 h1).1
  have h5 := (h.2.1 r (List.mem_of_getElem? h1)).2 _ h3
  refine ⟨by omega, by omega, h5.1, h5.2⟩
theorem qfX {g : List (List Int)} (h : Gr g) : ∀ r ∈ g, r.Pairwise (· < ·) := fun r hr => (h.2.1 r hr).1
def ofE (n : Int) : List (Int × Int) → List (Int × Int) → Int
  | _, [] => 0
  | seen, p :: l => if p.1 < 0 ∨ n ≤ p.1 ∨ p.2 < 0 ∨ n ≤ p.2 then 3 else if p ∈ seen then 6 else ofE n (seen ++ [p]) l
theorem qf3 {n : Int} {seen : List (Int × Int)} {p : Int × Int} {l : List (Int × Int)} : ofE n seen (p :: l) = if p.1 < 0 ∨ n ≤ p.1 ∨ p.2 < 0 ∨ n ≤ p.2 then 3 else if p ∈ seen then 6 else ofE n (seen ++ [p]) l := rfl
theorem qeF {n : Nat} : ∀ {l seen : List (Int × Int)}, ofE n seen l = 0 ↔ InR n l ∧ l.Nodup ∧ ∀ p ∈ l, p ∉ seen
  | [], seen => by simp [ofE, InR]
  | p :: l, seen => by
    unfold ofE
    by_cases h1 : p.1 < 0 ∨ (n : Int) ≤ p.1 ∨ p.2 < 0 ∨ (n : Int) ≤ p.2
    · rw [if_pos h1]
      refine ⟨fun h => by simp at h, fun h => ?_⟩
      have := h.1 p (by simp); omega
    · rw [if_neg h1]
      by_cases h2 : p ∈ seen
      · rw [if_pos h2]
        refine ⟨fun h => by simp at h, fun h => ?_⟩
        exact absurd h2 (h.2.2 p (by simp))
      · rw [if_neg h2, qeF, List.nodup_cons]
        constructor
        · rintro ⟨a1, a2, a3⟩
          refine ⟨fun q hq => ?_, ⟨fun hp => a3 p hp (by simp), a2⟩, fun q hq => ?_⟩
          · rcases List.mem_cons.1 hq with rfl | hq
            · omega
            · exact a1 q hq
          · rcases List.mem_cons.1 hq with rfl | hq
            · exact h2
            · exact fun h => a3 q hq (by simp [h])
        · rintro ⟨a1, ⟨a2, a3⟩, a4⟩
          refine ⟨fun q hq => a1 q (by simp [hq]), a3, fun q hq h => ?_⟩
          rcases List.mem_append.1 h with h | h
          · exact a4 q (by simp [hq]) h
          · have : q = p := by simpa using h
            subst this; exact a2 hq
def ofM (n : Int) (l : List (Int × Int)) : List (List Int) × Int :=
  if n < 0 ∨ 100 < n then ([], 3) else if 600 < l.length then ([], 2) else if ofE n [] l ≠ 0 then ([], ofE n [] l) else (tab n.toNat (srtA l), 0)
theorem qh1 {F n : Nat} {l : List (Int × Int)} (hF : 1000 ≤ F) (hn : n ≤ 100) (hl : l.length ≤ 600) : ∀ (k j : Nat), l.length < k + j → j ≤ l.length → (ofE n [] l = ofE n (l.take j) (l.drop j)) →
    kT F (n : Int) l k ((j : Int), l.take j) = some (if ofE n [] l ≠ 0 then ([], ofE n [] l) else (tab n (srtA l), 0))
  | 0, _, _, _, _ => by omega
  | k + 1, j, h, hj, he => by
    show vv F (n : Int) l (kT F (n : Int) l k) (j : Int) (l.take j) = _
    unfold vv
    by_cases hlt : j < l.length
    · have hrec := qh1 (F := F) hF hn hl k (j + 1) (by omega) (by omega)
      rw [if_pos (by simp; omega), zO, List.getElem?_eq_getElem hlt]
      simp only [Option.bind_some]
      rw [List.drop_eq_getElem_cons hlt, qf3] at he
      by_cases h1 : l[j].1 < 0 ∨ (n : Int) ≤ l[j].1 ∨ l[j].2 < 0 ∨ (n : Int) ≤ l[j].2
      · rw [if_pos h1] at he
        rw [if_pos (by simp only [Bool.or_eq_true, decide_eq_true_eq]; omega), if_pos (by rw [he]; decide), he]
      · rw [if_neg h1] at he
        rw [if_neg (by simp only [Bool.or_eq_true, decide_eq_true_eq]; omega)]
        by_cases h2 : l[j] ∈ l.take j
        · rw [if_pos h2] at he
          rw [if_pos (by simpa using h2), if_pos (by rw [he]; decide), he]
        · rw [if_neg h2, ← jd hlt] at he
          rw [if_neg (by simpa using h2)]
          have : sins (l.take j) (l[j].1, l[j].2) = some (l.take (j + 1)) := by
            unfold sins
            rw [if_neg h2, jd hlt]
          rw [this]
          simp only [Option.bind_some]
          rw [zS (by omega)]
          exact hrec he
    · rw [List.drop_eq_nil_of_le (by omega)] at he
      have he : ofE n [] l = 0 := he
      obtain ⟨a1, a2, _⟩ := qeF.1 he
      rw [if_neg (by simp; omega), if_neg (by rw [he]; decide)]
      unfold jD qH
      simp only [Option.bind_some]
      rw [qaI (by omega) (by omega) (by omega)]
      simp only [Option.bind_some]
      rw [qbT (fun p hp => by have := a1 p ((yr l).mem_iff.1 hp); omega) (by rw [y9]; omega) (by rw [y9]; omega) (by omega)]
      rfl
theorem qf4 {F : Nat} {n : Int} {l : List (Int × Int)} (hF : 1000 ≤ F) : yU F n l = some (ofM n l) := by
  unfold yU ofM
  by_cases h1 : n < 0 ∨ 100 < n
  · rw [if_pos (by simpa using h1), if_pos h1]
  · rw [if_neg (by simpa using h1), if_neg h1]
    by_cases h2 : 600 < l.length
    · rw [if_pos (by simp; omega), if_pos h2]
    · rw [if_neg (by simp; omega), if_neg h2]
      obtain ⟨m, rfl⟩ := Int.eq_ofNat_of_zero_le (show 0 ≤ n by omega)
      have := qh1 (F := F) (n := m) (l := l) hF (by omega) (by omega) F 0 (by omega) (by omega) (by simp)
      rw [List.take_zero] at this
      exact this
theorem qe9 {n : Nat} {l : List (Int × Int)} (hn : n ≤ 100) (hl : l.length ≤ 600) (h1 : InR n l) (h2 : l.Nodup) : ofM n l = (tab n (srtA l), 0) := by
  have h3 : ofE n [] l = 0 := qeF.2 ⟨h1, h2, fun p _ => by simp⟩
  unfold ofM
  rw [if_neg (by omega), if_neg (by omega), if_neg (by rw [h3]; decide), Int.toNat_natCast]
theorem qbn {n : Nat} {l : List (Int × Int)} (h : l.Nodup) : IsTab n l (tab n (srtA l)) :=
  qd3 (qfH (qej h)) fun _ => (yr l).mem_iff
theorem qeY {F : Nat} {g : List (List Int)} (hF : 1000 ≤ F) : y5 F g = some (if gchk g ≠ 0 then ([], gchk g) else (af 0 g, 0)) := by
  unfold y5 z7
  rw [kU hF]
  simp only [Option.bind_some]
  by_cases h : gchk g = 0
  · rw [if_neg (by simp [h]), if_neg (by simp [h]), qbq hF (jy.1 h)]
    rfl
  · rw [if_pos (by simpa using h), if_pos h]
def gsw (l : List (Int × Int)) : List (Int × Int) := l.map fun p => (p.2, p.1)
theorem qaR (l : List (Int × Int)) : (gsw l).length = l.length := by simp [gsw]
theorem qhQ {l : List (Int × Int)} {p : Int × Int} : p ∈ gsw l ↔ (p.2, p.1) ∈ l := by
  unfold gsw
  rw [List.mem_map]
  constructor
  · rintro ⟨q, hq, rfl⟩; exact hq
  · intro h; exact ⟨_, h, rfl⟩
theorem qhE {n : Nat} {l : List (Int × Int)} (h : InR n l) : InR n (gsw l) := fun p hp => by
  have := h _ (qhQ.1 hp)
  exact ⟨this.2.2.1, this.2.2.2, this.1, this.2.1⟩
theorem qek {l : List (Int × Int)} (h : l.Nodup) : (gsw l).Nodup := by
  have h : l.Pairwise fun a b => a ≠ b := h
  show (gsw l).Pairwise fun a b => a ≠ b
  unfold gsw
  rw [List.pairwise_map]
  exact h.imp fun {a b} hab he => hab (by cases a; cases b; simp_all)
theorem jE {g : List (List Int)} (h : Gr g) : (af 0 g).length ≤ 600 := by rw [qdk]; exact h.2.2
theorem qam {g : List (List Int)} (h : Gr g) : (af 0 g).Nodup := qfp (qhD (qfX h))
def tn (g : List (List Int)) : List (List Int) := tab g.length (srtA (gsw (af 0 g)))
theorem qgI {g : List (List Int)} (h : Gr g) : IsTab g.length (gsw (af 0 g)) (tn g) := qbn (qek (qam h))
theorem qg6 {g T : List (List Int)} (h : Gr g) {l : List (Int × Int)} (hT : IsTab g.length l T) (hm : ∀ p, p ∈ l ↔ p ∈ af 0 g) : T = g :=
  qb0 hT (qdR (qfX h)) hm
theorem qhy {F : Nat} {g : List (List Int)} (hF : 1000 ≤ F) : vU F g = some (if gchk g ≠ 0 then ([], gchk g) else (tn g, 0)) := by
  unfold vU
  rw [kU hF]
  simp only [Option.bind_some]
  by_cases h : gchk g = 0
  · have hg := jy.1 h
    have h1 := hg.1
    have h2 := jE hg
    rw [if_neg (by simp [h]), if_neg (by simp [h]), qc3 hF hg]
    simp only [Option.bind_some]
    show (qH F (gsw (af 0 g))).bind _ = _
    unfold qH
    simp only [Option.bind_some]
    show (qd F (gsw (af 0 g))).bind _ = _
    rw [qaI (by omega) (by rw [qaR]; omega) (by rw [qaR]; omega)]
    simp only [Option.bind_some]
    rw [qbT (fun p hp => by have := qhE (qa3 hg) p ((yr _).mem_iff.1 hp); omega) (by rw [y9, qaR]; omega) (by rw [y9, qaR]; omega) (by omega)]
    rfl
  · rw [if_pos (by simpa using h), if_pos h]
theorem qhf (l : List (Int × Int)) (p : Int × Int) : gsw (l ++ [p]) = gsw l ++ [(p.2, p.1)] := by simp [gsw]
def ddA : Int × Int → List (Int × Int) → List (Int × Int)
  | _, [] => []
  | p, q :: l => if q = p then ddA p l else q :: ddA q l
def ddP : List (Int × Int) → List (Int × Int)
  | [] => []
  | p :: l => p :: ddA p l
theorem qds : ∀ {l : List (Int × Int)} {p x : Int × Int}, x ∈ p :: ddA p l ↔ x ∈ p :: l
  | [], p, x => by simp [ddA]
  | q :: l, p, x => by
    unfold ddA
    by_cases h : q = p
    · rw [if_pos h, qds, h]; simp
    · rw [if_neg h, List.mem_cons, qds, List.mem_cons (a := x) (b := p)]
theorem qg2 {l : List (Int × Int)} {x : Int × Int} : x ∈ ddP l ↔ x ∈ l := by
  cases l with
  | nil => simp [ddP]
  | cons p l => exact qds
theorem qdr : ∀ (l : List (Int × Int)) (p : Int × Int), (ddA p l).length ≤ l.length
  | [], p => by simp [ddA]
  | q :: l, p => by
    unfold ddA
    split
    · have := qdr l p; simp; omega
    · have := qdr l q; simp; omega
theorem qg1 (l : List (Int × Int)) : (ddP l).length ≤ l.length := by
  cases l with
  | nil => simp [ddP]
  | cons p l => have := qdr l p; simp [ddP]; omega
theorem qd0 {α : Type} {xs : List α} {a b : Nat} {v : α} (h : a < b) : (xs.set a v).drop b = xs.drop b := by
  apply List.ext_getElem (by simp)
  intro i h1 h2
  simp only [List.getElem_drop]
  rw [List.getElem_set, if_neg (by omega)]
theorem qbU {F K : Nat} {l : List (Int × Int)} (hm : l.length ≤ 1000000) (hK : K < l.length) : ∀ (n k2 k : Nat) (x : List (Int × Int)), l.length < n + (K + k2) → 1 ≤ k2 → K + k2 ≤ l.length → x.length = l.length → k < K + k2 → x.drop (K + k2 - 1) = l.drop (K + k2 - 1) → x.take k ++ ddA (l.getD (K + k2 - 1) (0, 0)) (l.drop (K + k2)) = ddP l →
    qm F l (K : Int) n (x, (k : Int), (k2 : Int)) = some (ddP l)
  | 0, _, _, _, _, _, _, _, _, _, _ => by omega
  | n + 1, k2, k, x, h, h1, h2, hx, hk, hd, he => by
    have hat : ∀ j, K + k2 - 1 ≤ j → x[j]? = l[j]? := fun j hj => by
      have := congrArg (fun z => z[j - (K + k2 - 1)]?) hd
      simp only [List.getElem?_drop] at this
      rwa [show K + k2 - 1 + (j - (K + k2 - 1)) = j from by omega] at this
    show qR F l (K : Int) (qm F l (K : Int) n) x (k : Int) (k2 : Int) = _
    unfold qR
    rw [Int.toNat_natCast]
    by_cases hlt : K + k2 < l.length
    · have hlt1 : K + k2 - 1 < l.length := by omega
      rw [if_pos (by simp; omega)]
      simp only [chk]
      rw [if_pos (by simp [hx]), zO, List.getElem?_drop, hat _ (by omega), List.getElem?_eq_getElem hlt]
      simp only [Option.bind_some]
      rw [if_pos (by simp [hx]), qe8 h1 (by omega), zO, List.getElem?_drop, show K + (k2 - 1) = K + k2 - 1 from by omega, hat _ (by omega), List.getElem?_eq_getElem hlt1]
      simp only [Option.bind_some]
      rw [List.drop_eq_getElem_cons hlt, show l.getD (K + k2 - 1) (0, 0) = l[K + k2 - 1] from by simp [List.getD, List.getElem?_eq_getElem hlt1]] at he
      unfold ddA at he
      have hgd : l.getD (K + (k2 + 1) - 1) (0, 0) = l[K + k2] := by rw [show K + (k2 + 1) - 1 = K + k2 from by omega]; simp [List.getD, List.getElem?_eq_getElem hlt]
      have hrec := qbU (F := F) hm hK n (k2 + 1)
      by_cases hc : l[K + k2] = l[K + k2 - 1]
      · rw [if_pos hc] at he
        rw [if_neg (by simp [hc])]
        unfold qD
        rw [zS (by omega)]
        refine hrec k x (by omega) (by omega) (by omega) hx (by omega) ?_ ?_
        · have := congrArg (fun z => z.drop 1) hd
          simp only [List.drop_drop] at this
          rwa [show K + k2 - 1 + 1 = K + (k2 + 1) - 1 from by omega] at this
        · rw [hgd, hc]; exact he
      · rw [if_neg hc] at he
        rw [if_pos (by simp only [Bool.not_eq_true', Bool.and_eq_false_iff, beq_eq_false_iff_ne, ne_eq]; by_cases h5 : l[K + k2].1 = l[K + k2 - 1].1
                       · exact .inr fun h6 => hc (Prod.ext h5 h6)
                       · exact .inl h5), if_pos (by simp [hx]), zO, List.getElem?_eq_getElem (by omega)]
        simp only [Option.bind_some, lett, Int.toNat_natCast]
        unfold qD
        rw [zS (by omega), zS (by omega)]
        refine hrec (k + 1) _ (by omega) (by omega) (by omega) (by simp [hx]) (by omega) ?_ ?_
        · rw [qd0 (by omega)]
          have := congrArg (fun z => z.drop 1) hd
          simp only [List.drop_drop] at this
          rwa [show K + k2 - 1 + 1 = K + (k2 + 1) - 1 from by omega] at this
        · have hkl : k < x.length := by omega
          rw [hgd, jd (by simp; omega), List.take_set_of_le (by omega), List.getElem_set_self, List.append_assoc]
          exact he
    · rw [if_neg (by simp; omega)]
      unfold zh
      rw [List.drop_eq_nil_of_le (by omega)] at he
      simp only [ddA, List.append_nil] at he
      simp only [chk, lett]
      rw [if_pos (by simp; omega), Int.toNat_natCast]
      have := qh4 (l := x.take k ++ List.replicate (x.length - k) ((0 : Int), (0 : Int))) (i := 0) (j := k) (by omega) (by simp; omega)
      rw [show ((0 : Nat) : Int) = 0 from rfl, List.drop_zero, List.take_append_of_le_length (by simp; omega), List.take_take, Nat.min_self] at this
      rw [this, he]
      rfl
theorem qbr {F : Nat} {l : List (Int × Int)} (hF : l.length < F) (hm : l.length ≤ 1000000) : ∀ (n k : Nat), l.length < n + k → 1 ≤ k → k ≤ l.length → l.take k ++ ddA (l.getD (k - 1) (0, 0)) (l.drop k) = ddP l →
    qp F l n (k : Int) = some (ddP l)
  | 0, _, _, _, _, _ => by omega
  | n + 1, k, h, h1, h2, he => by
    show qU F l (qp F l n) (k : Int) = _
    unfold qU
    by_cases hlt : k < l.length
    · have hlt1 : k - 1 < l.length := by omega
      have hgd0 : l.getD (k - 1) (0, 0) = l[k - 1] := by simp [List.getD, List.getElem?_eq_getElem hlt1]
      have hgd : l.getD (k + 1 - 1) (0, 0) = l[k] := by rw [show k + 1 - 1 = k from by omega]; simp [List.getD, List.getElem?_eq_getElem hlt]
      rw [List.drop_eq_getElem_cons hlt, hgd0] at he
      unfold ddA at he
      rw [if_pos (by simp; omega), zO, List.getElem?_eq_getElem hlt]
      simp only [Option.bind_some]
      rw [qe8 h1 (by omega), zO, List.getElem?_eq_getElem hlt1]
      simp only [Option.bind_some]
      by_cases hc : l[k] = l[k - 1]
      · rw [if_pos hc] at he
        rw [if_pos (by simp [hc])]
        simp only [chk]
        rw [if_pos (by simp; omega)]
        refine qbU (F := F) hm hlt F 1 k l (by omega) (by omega) (by omega) rfl (by omega) rfl ?_
        rw [hgd, hc]; exact he
      · rw [if_neg hc] at he
        rw [if_neg (by simp only [Bool.and_eq_true, beq_iff_eq]; exact fun h => hc (Prod.ext h.1 h.2))]
        unfold zg
        rw [zS (by omega)]
        refine qbr hF hm n (k + 1) (by omega) (by omega) (by omega) ?_
        rw [hgd, jd hlt, List.append_assoc]; exact he
    · rw [if_neg (by simp; omega)]
      unfold zl
      rw [List.drop_eq_nil_of_le (by omega), List.take_of_length_le (by omega)] at he
      simp only [ddA, List.append_nil] at he
      exact congrArg some he
theorem qdW {F : Nat} {l : List (Int × Int)} (hF : l.length < F) (hm : l.length ≤ 1000000) : zb F l = some (ddP l) := by
  unfold zb
  by_cases h : l.length < 2
  · rw [if_pos (by simp; omega)]
    match l, h with
    | [], _ => rfl
    | [p], _ => rfl
  · rw [if_neg (by simp; omega)]
    refine qbr hF hm F 1 (by omega) (by omega) (by omega) ?_
    cases l with
    | nil => simp at h
    | cons p l => rfl
def bw (g : List (List Int)) : List (Int × Int) := af 0 g ++ gsw (af 0 g)
def bd (g : List (List Int)) : List (Int × Int) := ddP (srtA (bw g))
def bt (g : List (List Int)) : List (List Int) := tab g.length (bd g)
theorem qhJ {g : List (List Int)} {p : Int × Int} : p ∈ bd g ↔ p ∈ bw g := by
  unfold bd
  rw [qg2, (yr _).mem_iff]
theorem qhY {g : List (List Int)} (h : Gr g) : InR g.length (bw g) := fun p hp => by
  rcases List.mem_append.1 hp with hp | hp
  · exact qa3 h p hp
  · exact qhE (qa3 h) p hp
theorem qhX {g : List (List Int)} (h : Gr g) : InR g.length (bd g) := fun p hp => qhY h p (qhJ.1 hp)
theorem qfO {g : List (List Int)} (h : Gr g) : (bw g).length ≤ 1200 := by
  have := jE h
  unfold bw
  rw [List.length_append, qaR]; omega
theorem qhI {g : List (List Int)} (h : Gr g) : (bd g).length ≤ 1200 := by
  have h1 := qg1 (srtA (bw g))
  rw [y9] at h1
  have := qfO h
  unfold bd; omega
def bothM (g : List (List Int)) : List (List Int) × Int := if 600 < (bd g).length then ([], 2) else (bt g, 0)
theorem qfW {F : Nat} {g : List (List Int)} (hF : 2000 ≤ F) : vT F g = some (if gchk g ≠ 0 then ([], gchk g) else bothM g) := by
  unfold vT z7
  rw [kU (by omega)]
  simp only [Option.bind_some]
  by_cases h : gchk g = 0
  · have hg := jy.1 h
    have h1 := hg.1
    have h2 := jE hg
    have h3 := qfO hg
    have h4 := qhI hg
    rw [if_neg (by simp [h]), if_neg (by simp [h]), qbq (by omega) hg]
    simp only [Option.bind_some]
    rw [qc3 (by omega) hg]
    simp only [Option.bind_some]
    show (app _ (af 0 g) (gsw (af 0 g))).bind _ = _
    rw [kM (by rw [qaR]; omega)]
    simp only [Option.bind_some]
    show (qt F (bw g)).bind _ = _
    rw [qbC (by omega) (by omega)]
    simp only [Option.bind_some, chk]
    rw [if_pos (by rw [y9]; simp [bw]), qdW (by rw [y9]; omega) (by rw [y9]; omega)]
    simp only [Option.bind_some]
    show (if decide (600 < ((bd g).length : Int)) then _ else (kB F (g.length : Int) (bd g)).bind _) = _
    unfold bothM
    by_cases h5 : 600 < (bd g).length
    · rw [if_pos (by simp; omega), if_pos h5]
    · rw [if_neg (by simp; omega), if_neg h5, qbT (fun p hp => by have := qhX hg p hp; omega) (by omega) (by omega) (by omega)]
      rfl
  · rw [if_pos (by simpa using h), if_pos h]
def lens (g : List (List Int)) : List Int := g.map fun r => (r.length : Int)
def deg (n : Nat) (l : List (Int × Int)) : List Int := lens (tab n l)
theorem qe5 {n i : Nat} {l : List (Int × Int)} (h : i < n) : (deg n l)[i]? = some ((rowOf l i).length : Int) := by
  unfold deg lens
  rw [List.getElem?_map, qdI h]; rfl
theorem qdZ {n a : Nat} {l : List (Int × Int)} {b : Int} : deg n (l ++ [((a : Int), b)]) = (deg n l).set a (((rowOf l a).length + 1 : Nat) : Int) := by
  unfold deg lens
  rw [qer, List.map_set, List.length_append, List.length_singleton]
theorem qfR {n : Nat} {l l' : List (Int × Int)} (h : l.Perm l') : deg n l = deg n l' := by
  unfold deg lens tab
  rw [List.map_map, List.map_map]
  refine List.map_congr_left fun i _ => ?_
  show ((rowOf l i).length : Int) = ((rowOf l' i).length : Int)
  unfold rowOf
  rw [List.length_map, List.length_map, (h.filter _).length_eq]
theorem qcL {n : Nat} {l : List (Int × Int)} {T : List (List Int)} (h : IsTab n l T) (hn : l.Nodup) : deg n l = lens T := by
  rw [qb0 h (qbn hn) fun p => Iff.rfl, ← qfR (yr l)]
  rfl
theorem qaZ {F n : Nat} {yy : (List Int × List Int) → (Int × Int) → Option ((List Int × List Int) ⊕ Empty)} (hy : ∀ s p, yy s p = kk F s.1 s.2 p.1 p.2) : ∀ (A acc : List (Int × Int)), InR n A → acc.length + A.length ≤ 1000000 →
    kD yy A (deg n (gsw acc), deg n acc) = some (.inl (deg n (gsw (acc ++ A)), deg n (acc ++ A)))
  | [], acc, _, _ => by rw [List.append_nil]; rfl
  | p :: A, acc, h, hm => by
    rw [List.length_cons] at hm
    obtain ⟨h1, h2, h3, h4⟩ := h p (by simp)
    have hrec := qaZ hy A (acc ++ [p]) (fun q hq => h q (by simp [hq])) (by simp; omega)
    rw [List.append_assoc] at hrec
    show (yy _ p).bind _ = _
    rw [hy]
    unfold kk
    obtain ⟨a, ha⟩ := Int.eq_ofNat_of_zero_le h1
    obtain ⟨b, hb⟩ := Int.eq_ofNat_of_zero_le h3
    have e : p = ((a : Int), (b : Int)) := Prod.ext ha hb
    have hl1 := qbm acc (a : Int)
    have hl2 := qbm (gsw acc) (b : Int)
    rw [qaR] at hl2
    subst e
    simp only at *
    rw [zO, qe5 (by omega)]
    simp only [Option.bind_some, lett]
    rw [zO, qe5 (by omega)]
    simp only [Option.bind_some]
    rw [zS (by omega), zS (by omega), Int.toNat_natCast, Int.toNat_natCast, ← qdZ (b := (a : Int)), ← qdZ (b := (b : Int))]
    rw [qhf] at hrec
    simp only [Sum.elim_inl]
    exact hrec
theorem qdz (n : Nat) : deg n [] = List.replicate n 0 := by
  unfold deg lens
  rw [qfd, List.map_replicate]; rfl
def degM (g : List (List Int)) : List Int × List Int × Int := if gchk g ≠ 0 then ([], [], gchk g) else (lens g, lens (tn g), 0)
theorem qeA {F : Nat} {g : List (List Int)} (hF : 1000 ≤ F) : yG F g = some (degM g) := by
  unfold yG degM
  rw [kU hF]
  simp only [Option.bind_some]
  by_cases h : gchk g = 0
  · have hg := jy.1 h
    have h1 := hg.1
    have h2 := jE hg
    rw [if_neg (by simp [h]), if_neg (by simp [h])]
    have hmk : mk 17592186044416 (0 : Int) (g.length : Int) = some (deg g.length []) := by
      unfold mk
      rw [if_pos ⟨by omega, by omega⟩, qdz, Int.toNat_natCast]
    rw [hmk]
    simp only [Option.bind_some]
    unfold zK z7
    simp only [Option.bind_some]
    rw [qdl (by omega) (by omega) (fun l hl => by have := qbW hg hl; omega)]
    have := qaZ (F := F) (n := g.length) (yy := fun x x_1 => kk F x.1 x.2 x_1.1 x_1.2) (fun _ _ => rfl) (af 0 g) [] (qa3 hg) (by simp; omega)
    rw [List.nil_append] at this
    refine (congrArg (fun z => Option.bind z _) this).trans ?_
    simp only [Option.bind_some, Sum.elim_inl]
    rw [qcL (qdR (qfX hg)) (qam hg), qcL (qgI hg) (qek (qam hg))]
  · rw [if_pos (by simpa using h), if_pos h]
theorem qbA {F : Nat} {xs : List (Int × Int)} (hm : xs.length ≤ 1000000) : ∀ (k i : Nat), xs.length < k + i → i ≤ xs.length → kq F xs xs k (i : Int) = some true
  | 0, _, _, _ => by omega
  | k + 1, i, h, hi => by
    show yD F xs xs (kq F xs xs k) (i : Int) = _
    unfold yD
    by_cases hlt : i < xs.length
    · rw [if_pos (by simp; omega), zO, List.getElem?_eq_getElem hlt]
      simp only [Option.bind_some]
      rw [if_neg (by simp), zS (by omega)]
      exact qbA hm k (i + 1) (by omega) (by omega)
    · rw [if_neg (by simp; omega)]
      rfl
theorem qfv {F : Nat} {xs : List (Int × Int)} (hF : xs.length < F) (hm : xs.length ≤ 1000000) : vR F xs xs = some true := by
  unfold vR
  rw [if_neg (by simp)]
  exact qbA hm F 0 (by omega) (by omega)
theorem qbb {F : Nat} {xs : List (List Int)} (hm : xs.length ≤ 1000000) (hr : ∀ r ∈ xs, r.length ≤ 1000000 ∧ r.length < F) : ∀ (k i : Nat), xs.length < k + i → i ≤ xs.length → kb F xs xs k (i : Int) = some true
  | 0, _, _, _ => by omega
  | k + 1, i, h, hi => by
    show yh F xs xs (kb F xs xs k) (i : Int) = _
    unfold yh
    by_cases hlt : i < xs.length
    · have := hr _ (List.getElem_mem hlt)
      rw [if_pos (by simp; omega), zO, List.getElem?_eq_getElem hlt]
      simp only [Option.bind_some]
      rw [qaP this.2 this.1]
      simp only [Option.bind_some]
      rw [if_neg (by simp), zS (by omega)]
      exact qbb hm hr k (i + 1) (by omega) (by omega)
    · rw [if_neg (by simp; omega)]
      rfl
theorem qaQ {F : Nat} {xs : List (List Int)} (hF : xs.length < F) (hm : xs.length ≤ 1000000) (hr : ∀ r ∈ xs, r.length ≤ 1000000 ∧ r.length < F) : zM F xs xs = some true := by
  unfold zM
  rw [if_neg (by simp)]
  exact qbb hm hr F 0 (by omega) (by omega)
def Sm (g : List (List Int)) : Prop := g.length ≤ 100 ∧ ∀ r ∈ g, r.length ≤ 1200
theorem qeH {F : Nat} {g : List (List Int)} (hF : 2000 ≤ F) (h : Sm g) : zC F g g = some true := by
  unfold zC
  have := h.1
  rw [qaQ (by omega) (by omega) (fun r hr => by have := h.2 r hr; omega)]
  rfl
theorem qh3 {g : List (List Int)} (h : Gr g) : Sm g := ⟨h.1, fun r hr => by have := qbW h hr; omega⟩
theorem qhM {F : Nat} (hF : 2000 ≤ F) : y0 F = some true := by
  have s1 : srtA [(2, 0), (0, 1), (0, 0)] = [(0, 0), (0, 1), (2, 0)] := qdE (by decide) (by decide)
  have o1 : ofM 3 [(2, 0), (0, 1), (0, 0)] = ([[0, 1], [], [0]], 0) := by
    rw [show (3 : Int) = ((3 : Nat) : Int) from rfl, qe9 (by decide) (by decide) (by unfold InR; decide) (by decide), s1]; rfl
  have c1 : gchk [[0, 1], [], [0]] = 0 := by decide
  have hg := jy.1 c1
  have a1 : af 0 [[0, 1], [], [0]] = [(0, 0), (0, 1), (2, 0)] := rfl
  have t1 : tn [[0, 1], [], [0]] = [[0, 2], [0], []] := by
    unfold tn
    rw [a1, show gsw [(0, 0), (0, 1), (2, 0)] = [(0, 0), (1, 0), (0, 2)] from rfl, qdE (m := [(0, 0), (0, 2), (1, 0)]) (by decide) (by decide)]; rfl
  have b0 : bd [[0, 1], [], [0]] = [(0, 0), (0, 1), (0, 2), (1, 0), (2, 0)] := by
    unfold bd bw
    rw [a1, show gsw [(0, 0), (0, 1), (2, 0)] = [(0, 0), (1, 0), (0, 2)] from rfl, qdE (m := [(0, 0), (0, 0), (0, 1), (0, 2), (1, 0), (2, 0)]) (by decide) (by decide)]; rfl
  have b1 : bothM [[0, 1], [], [0]] = ([[0, 1, 2], [0], [0]], 0) := by
    unfold bothM bt
    rw [b0]; rfl
  have d1 : degM [[0, 1], [], [0]] = ([2, 0, 1], [2, 1, 0], 0) := by
    unfold degM
    rw [c1, t1]; rfl
  have o2 : ofM 1 [(0, 0), (0, 0)] = ([], 6) := by decide
  unfold y0
  rw [qf4 (by omega), o1]
  simp only [Option.bind_some]
  rw [qeY (by omega), c1, if_neg (by decide), a1]
  simp only [Option.bind_some]
  rw [qhy (by omega), c1, if_neg (by decide), t1]
  simp only [Option.bind_some]
  rw [qfW hF, c1, if_neg (by decide), b1]
  simp only [Option.bind_some]
  rw [qeA (by omega), d1]
  simp only [Option.bind_some]
  rw [qf4 (by omega), o2]
  simp only [Option.bind_some]
  have sl : ∀ g : List (List Int), g.length ≤ 3 → (∀ r ∈ g, r.length ≤ 3) → zM F g g = some true := fun g h1 h2 => qaQ (by omega) (by omega) (fun r hr => by have := h2 r hr; omega)
  rw [sl _ (by decide) (by decide)]
  simp only [Option.bind_some]
  rw [if_pos (by decide), qfv (by simp; omega) (by decide)]
  simp only [Option.bind_some]
  unfold kV
  rw [if_pos (by decide), sl _ (by decide) (by decide)]
  simp only [Option.bind_some]
  unfold kW
  rw [if_pos (by decide), sl _ (by decide) (by decide)]
  simp only [Option.bind_some]
  unfold kX
  rw [if_pos (by decide), qaP (by simp; omega) (by decide)]
  simp only [Option.bind_some]
  unfold kY
  rw [if_pos (by decide), qaP (by simp; omega) (by decide)]
  simp only [Option.bind_some]
  unfold kZ
  rw [if_pos (by decide), kU (by omega)]
  simp only [Option.bind_some]
  rfl
theorem qhN {a b : Nat} : irem (a : Int) (b : Int) = ((a % b : Nat) : Int) := by
  unfold irem
  rw [Int.tmod_eq_emod_of_nonneg (by omega)]
  omega
theorem qhc (x : Int) : ∃ d : Nat, d < 1000 ∧ irem (iadd .i64 (irem x 1000) 1000) 1000 = (d : Int) := by
  unfold irem
  have h1 : -1000 < x.tmod 1000 ∧ x.tmod 1000 < 1000 := by
    constructor
    · have := Int.lt_tmod_of_pos x (b := 1000) (by decide); omega
    · exact Int.tmod_lt_of_pos x (by decide)
  rw [qa5 (by omega) (by omega), Int.tmod_eq_emod_of_nonneg (by omega)]
  exact ⟨((x.tmod 1000 + 1000) % 1000).toNat, by omega, by omega⟩
def By (s : List Int) : Prop := ∀ x ∈ s, 0 ≤ x ∧ x < 256
def cut8 (c : UInt8) : List UInt8 → List (List UInt8)
  | [] => [[]]
  | x :: t => if x = c then [] :: cut8 c t else match cut8 c t with | [] => [[x]] | h :: r => (x :: h) :: r
theorem qeD (t : List UInt8) (c : UInt8) : -1 ≤ Lib.index t [c] := Lib.index_ge t [c]
theorem qbu (x : UInt8) (t : List UInt8) (c : UInt8) : Lib.index (x :: t) [c] = if x = c then 0 else if Lib.index t [c] = -1 then -1 else Lib.index t [c] + 1 := by
  rw [show Lib.index (x :: t) [c] = if [c].isPrefixOf (x :: t) then 0 else if Lib.index t [c] == -1 then -1 else Lib.index t [c] + 1 from rfl]
  by_cases h : x = c
  · subst h
    simp [List.isPrefixOf]
  · have h2 : ([c].isPrefixOf (x :: t)) = false := by
      simp only [List.isPrefixOf, Bool.and_true, beq_eq_false_iff_ne]
      exact fun e => h e.symm
    rw [if_neg (by rw [h2]; simp), if_neg h]
    simp
theorem qcc (c : UInt8) (k : Nat) (s : List UInt8) : Lib.splitK [c] 0 (k + 1) s = if Lib.index s [c] == -1 then [s] else s.take ((Lib.index s [c]).toNat + 0) :: Lib.splitK [c] 0 k (s.drop ((Lib.index s [c]).toNat + 1)) := rfl
theorem qcb (c : UInt8) : ∀ (L : List UInt8), Lib.splitK [c] 0 (L.count c) L = cut8 c L
  | [] => rfl
  | x :: t => by
    have ih := qcb c t
    unfold cut8
    by_cases h : x = c
    · subst h
      rw [List.count_cons_self, if_pos rfl, ← ih]
      rw [qcc, qbu, if_pos rfl]
      simp
    · rw [if_neg h, ← ih, List.count_cons_of_ne (fun e => h e)]
      cases hk : t.count c with
      | zero => rfl
      | succ k =>
        rw [qcc, qcc, qbu, if_neg h]
        have hge := qeD t c
        by_cases hi : Lib.index t [c] = -1
        · simp [hi]
        · have e1 : ∃ i : Nat, Lib.index t [c] = i := ⟨(Lib.index t [c]).toNat, by omega⟩
          obtain ⟨i, hi2⟩ := e1
          rw [hi2]
          have n1 : ¬ ((i : Int) = -1) := by omega
          have n2 : ¬ ((i : Int) + 1 = -1) := by omega
          have e2 : ((i : Int) + 1).toNat = i + 1 := by omega
          simp [n1, n2, e2]
def cutI (c : Int) : List Int → List (List Int)
  | [] => [[]]
  | x :: t => if x = c then [] :: cutI c t else match cutI c t with | [] => [[x]] | h :: r => (x :: h) :: r
theorem qcJ (c x : Int) (t : List Int) : cutI c (x :: t) = if x = c then [] :: cutI c t else match cutI c t with | [] => [[x]] | h :: r => (x :: h) :: r := rfl
def u8 (n : Int) : UInt8 := UInt8.ofNat n.toNat
theorem qgM {a b : Int} (ha : 0 ≤ a ∧ a < 256) (hb : 0 ≤ b ∧ b < 256) : u8 a = u8 b ↔ a = b := by
  constructor
  · intro h
    have h1 : b8 a = b8 b := by
      show ((u8 a).toNat : Int) = ((u8 b).toNat : Int)
      rw [h]
    rw [qaG ha.1 ha.2, qaG hb.1 hb.2] at h1
    exact h1
  · rintro rfl; rfl
def toI (l : List UInt8) : List Int := l.map fun u => (u.toNat : Int)
theorem qfQ {c : Int} (hc : 0 ≤ c ∧ c < 256) : ∀ (s : List Int), By s → (cut8 (u8 c) (s.map u8)).map toI = cutI c s
  | [], _ => rfl
  | x :: t, h => by
    have hx := h x (List.mem_cons_self ..)
    have ih := qfQ hc t fun y hy => h y (List.mem_cons_of_mem _ hy)
    have hb : ((u8 x).toNat : Int) = x := qaG hx.1 hx.2
    rw [List.map_cons]
    unfold cut8 cutI
    by_cases e : x = c
    · subst e
      rw [if_pos rfl, if_pos rfl, List.map_cons, ih]
      rfl
    · rw [if_neg (fun e2 => e ((qgM hx hc).1 e2)), if_neg e, ← ih]
      cases cut8 (u8 c) (t.map u8) with
      | nil => show [toI [u8 x]] = [[x]]; simp [toI, hb]
      | cons a r =>
        show toI (u8 x :: a) :: r.map toI = (x :: toI a) :: r.map toI
        rw [show toI (u8 x :: a) = ((u8 x).toNat : Int) :: toI a from rfl, hb]
theorem qcd {c : Int} {s : List Int} (hc : 0 ≤ c ∧ c < 256) (hs : By s) (hl : s.length < 4294967281) : splitM s [c] = some (cutI c s) := by
  unfold splitM
  simp only [hl, if_true]
  congr 1
  have h1 := Lib.splitB_data (bstr [c]) 0 (Lib.countB (bstr s) (bstr [c])) (bstr s)
  have h2 : Lib.countB (bstr s) (bstr [c]) = (s.map u8).count (u8 c) := by
    show Lib.count (bstr s).data.toList (bstr [c]).data.toList = _
    rw [za, za]
    exact Lib.count_one _ _
  rw [h2] at h1 ⊢
  rw [za, za] at h1
  have h3 : Lib.splitK [u8 c] 0 ((s.map u8).count (u8 c)) (s.map u8) = cut8 (u8 c) (s.map u8) := qcb _ _
  have h4 : ([c].map fun n => UInt8.ofNat n.toNat) = [u8 c] := rfl
  have h5 : (s.map fun n => UInt8.ofNat n.toNat) = s.map u8 := rfl
  rw [h4, h5, h3] at h1
  rw [← qfQ hc s hs, ← h1, List.map_map]
  rfl
theorem qe3 (c : Int) (s : List Int) : cutI c s ≠ [] := by
  cases s with
  | nil => simp [cutI]
  | cons x t =>
    unfold cutI
    split
    · simp
    · split <;> simp
theorem qaY {c : Int} : ∀ {s : List Int}, By s → ∀ l ∈ cutI c s, By l
  | [], _, l, hl => by simp [cutI] at hl; subst hl; exact fun x hx => by simp at hx
  | x :: t, h, l, hl => by
    have ht : By t := fun y hy => h y (List.mem_cons_of_mem _ hy)
    have hx := h x (List.mem_cons_self ..)
    unfold cutI at hl
    split at hl
    · rcases List.mem_cons.1 hl with rfl | hl
      · exact fun x hx => by simp at hx
      · exact qaY ht l hl
    · have ih := fun l hl => qaY (c := c) ht l hl
      cases he : cutI c t with
      | nil => exact absurd he (qe3 c t)
      | cons a r =>
        rw [he] at hl ih
        rcases List.mem_cons.1 hl with rfl | hl
        · intro y hy
          rcases List.mem_cons.1 hy with rfl | hy
          · exact hx
          · exact ih a (List.mem_cons_self ..) y hy
        · exact ih l (List.mem_cons_of_mem _ hl)
theorem qdY {c : Int} : ∀ (s : List Int), (cutI c s).length ≤ s.length + 1
  | [] => by simp [cutI]
  | x :: t => by
    have ih := qdY (c := c) t
    unfold cutI
    split
    · simp; omega
    · cases he : cutI c t with
      | nil => simp
      | cons a r => rw [he] at ih; simp at ih ⊢; omega
theorem qdX {c : Int} {a s : List Int} (h : c ∉ a) : cutI c (a ++ c :: s) = a :: cutI c s := by
  induction a with
  | nil => simp [cutI]
  | cons x t ih =>
    have h1 : ¬ x = c := fun e => h (by rw [e]; exact List.mem_cons_self ..)
    have ih := ih fun e => h (List.mem_cons_of_mem _ e)
    rw [List.cons_append, qcJ, if_neg h1, ih]
theorem qfn {c : Int} {a : List Int} (h : c ∉ a) : cutI c a = [a] := by
  induction a with
  | nil => rfl
  | cons x t ih =>
    have h1 : ¬ x = c := fun e => h (by rw [e]; exact List.mem_cons_self ..)
    have ih := ih fun e => h (List.mem_cons_of_mem _ e)
    unfold cutI
    rw [if_neg h1, ih]
theorem qcK {c : Int} : ∀ (a : List Int), cutI c (a ++ [c]) = cutI c a ++ [[]]
  | [] => by simp [cutI]
  | x :: t => by
    have ih := qcK (c := c) t
    rw [List.cons_append]
    by_cases e : x = c
    · unfold cutI
      rw [if_pos e, if_pos e, ih]
      rfl
    · unfold cutI
      rw [if_neg e, if_neg e, ih]
      cases he : cutI c t with
      | nil => exact absurd he (qe3 c t)
      | cons a r => rfl
def linesI : List Int → List (List Int)
  | [] => []
  | x :: t => if x = 10 then [] :: linesI t else match linesI t with | [] => [[x]] | h :: r => (x :: h) :: r
theorem qbv (x : Int) (t : List Int) : linesI (x :: t) = if x = 10 then [] :: linesI t else match linesI t with | [] => [[x]] | h :: r => (x :: h) :: r := rfl
theorem qb2 (x : Int) (t : List Int) : linesI (x :: t) ≠ [] := by
  unfold linesI
  split
  · simp
  · split <;> simp
theorem j1 : ∀ (s : List Int), cutI 10 s = if s = [] ∨ s.getLast? = some 10 then linesI s ++ [[]] else linesI s
  | [] => rfl
  | [x] => by
    by_cases e : x = 10
    · subst e; rfl
    · simp [cutI, linesI, e]
  | x :: y :: t => by
    have ih := j1 (y :: t)
    have hg : (x :: y :: t).getLast? = (y :: t).getLast? := by simp [List.getLast?_cons_cons]
    have h0 : (x :: y :: t = [] ∨ (x :: y :: t).getLast? = some 10) ↔ (y :: t = [] ∨ (y :: t).getLast? = some 10) := by rw [hg]; simp
    rw [show cutI 10 (x :: y :: t) = if x = 10 then [] :: cutI 10 (y :: t) else match cutI 10 (y :: t) with | [] => [[x]] | h :: r => (x :: h) :: r from rfl, ih,
      show linesI (x :: y :: t) = if x = 10 then [] :: linesI (y :: t) else match linesI (y :: t) with | [] => [[x]] | h :: r => (x :: h) :: r from rfl]
    have hne := qb2 y t
    by_cases hq : y :: t = [] ∨ (y :: t).getLast? = some 10
    · rw [if_pos hq, if_pos (h0.2 hq)]
      by_cases e : x = 10
      · rw [if_pos e, if_pos e]; rfl
      · rw [if_neg e, if_neg e]
        cases he : linesI (y :: t) with
        | nil => exact absurd he hne
        | cons a r => rfl
    · rw [if_neg hq, if_neg (fun h => hq (h0.1 h))]
theorem qd5 (a : List Int) : linesI (a ++ [10]) = cutI 10 a := by
  have h := j1 (a ++ [10])
  rw [if_pos (Or.inr (by simp)), qcK] at h
  exact (List.append_cancel_right h).symm
theorem qfq {s : List Int} (h : By s) : ∀ l ∈ linesI s, By l := fun l hl => by
  have h1 := j1 s
  have h2 : l ∈ cutI 10 s := by rw [h1]; split <;> simp [hl]
  exact qaY h l h2
theorem qa7 : ∀ (s : List Int), ∀ l ∈ linesI s, l.length ≤ s.length
  | [], l, h => by simp [linesI] at h
  | x :: t, l, h => by
    have ih := qa7 t
    rw [qbv] at h
    split at h
    · rcases List.mem_cons.1 h with rfl | h
      · simp
      · have := ih l h; simp; omega
    · cases he : linesI t with
      | nil => rw [he] at h; simp at h; subst h; simp
      | cons a r =>
        rw [he] at h ih
        rcases List.mem_cons.1 h with rfl | h
        · have := ih a (List.mem_cons_self ..); simp; omega
        · have := ih l (List.mem_cons_of_mem _ h); simp; omega
theorem qb1 {a s : List Int} (h : (10 : Int) ∉ a) : linesI (a ++ 10 :: s) = a :: linesI s := by
  induction a with
  | nil => simp [linesI]
  | cons x t ih =>
    have h1 : ¬ x = 10 := fun e => h (by rw [e]; exact List.mem_cons_self ..)
    have ih := ih fun e => h (List.mem_cons_of_mem _ e)
    rw [List.cons_append, qbv, if_neg h1, ih]
theorem qfM {a b : ByteArray} (h : (a == b) = true) : a = b := by
  obtain ⟨x⟩ := a
  obtain ⟨y⟩ := b
  have h2 : (x == y) = true := h
  rw [beq_iff_eq.1 h2]
theorem qfL (a b : ByteArray) : (a == b) = decide (a = b) := by
  rw [← qdm]
  by_cases h : a = b
  · subst h; simp
  · rw [decide_eq_false h]
    rw [beq_eq_false_iff_ne]
    intro e
    have h2 := qdm a b
    rw [beq_iff_eq.2 e] at h2
    exact h (qfM h2.symm)
theorem bq {a b : List Int} (ha : By a) (hb : By b) : (bstr a == bstr b) = decide (a = b) := by
  rw [qfL]
  by_cases e : a = b
  · subst e; simp
  · rw [decide_eq_false e, decide_eq_false fun h => e (qfN ha hb h)]
theorem qhK : By [] := fun x hx => by simp at hx
theorem qbg {c : Int} (h : 0 ≤ c ∧ c < 256) : By [c] := fun y hy => by simp at hy; subst hy; exact h
theorem qdU {s : List Int} (h : By s) : (bstr s == bstr []) = decide (s = []) := bq h qhK
theorem qfy {F : Nat} {s : List Int} (h : By s) (hl : s.length ≤ 1000000000) : kx F s [10] = some (if s.getLast? = some 10 then s.dropLast else s) := by
  unfold kx zA zF
  rcases List.eq_nil_or_concat s with rfl | ⟨a, x, rfl⟩
  · simp [qJ]
  · have hx := h x (by simp)
    rw [List.concat_eq_append] at *
    have hln : (a ++ [x]).length = a.length + 1 := by simp
    have e1 : isub .i64 (((a ++ [x]).length : Int)) (([10] : List Int).length : Int) = (a.length : Int) := by
      rw [qd4 (by rw [hln]; simp) (by rw [hln] at hl ⊢; simp; omega)]
      simp
    have e2 : decide ((([10] : List Int).length : Int) ≤ ((a ++ [x]).length : Int)) = true := by simp; omega
    have e3 : sub (a ++ [x]) (a.length : Int) ((a ++ [x]).length : Int) = some [x] := by
      unfold sub
      rw [if_pos ⟨by omega, by omega, by omega⟩]
      simp only [Int.toNat_natCast, hln]
      rw [List.take_of_length_le (by rw [hln]; omega)]
      simp
    have e4 : sub (a ++ [x]) 0 (a.length : Int) = some a := by
      unfold sub
      rw [if_pos ⟨by omega, by omega, by omega⟩]
      simp
    have e5 : (bstr [x] == bstr [10]) = decide (x = 10) := by
      rw [bq (qbg hx) (qbg (by decide))]
      simp
    rw [e1, e2, e3]
    simp only [if_true, Option.bind_some, qJ, e5, e4]
    by_cases e : x = 10
    · simp [e]
    · simp [e]
theorem qf1 {F : Nat} {s : List Int} (h : By s) (hl : s.length ≤ 1000000000) : vV F s = some (linesI s) := by
  unfold vV
  rw [qdU h]
  by_cases e : s = []
  · subst e; rfl
  · rw [qfy h hl]
    simp only [e, decide_false, Bool.false_eq_true, if_false, Option.bind_some]
    by_cases h10 : s.getLast? = some 10
    · rw [if_pos h10]
      rcases List.eq_nil_or_concat s with rfl | ⟨a, x, rfl⟩
      · exact absurd rfl e
      · have hx : x = 10 := by simpa using h10
        subst hx
        have ha : By a := fun y hy => h y (by simp [hy])
        simp only [List.concat_eq_append, List.dropLast_concat]
        rw [qcd (by decide) ha (by simp at hl; omega), Option.bind_some, qd5]
    · rw [if_neg h10, qcd (by decide) h (by omega), Option.bind_some]
      have := j1 s
      rw [if_neg (fun hq => by rcases hq with hq | hq; exact e hq; exact h10 hq)] at this
      rw [this]
def ne0 (w : List Int) : Bool := decide (w ≠ [])
def wordsI (s : List Int) : List (List Int) := (cutI 32 s).filter ne0
def hsh (ws : List (List Int)) : Bool := match ws with | (x :: _) :: _ => decide (x = 35) | _ => false
def wdsI (s : List Int) : List (List Int) := if hsh (wordsI s) then [] else wordsI s
theorem qc4 {s : List Int} (h : By s) : ∀ w ∈ wordsI s, By w ∧ w ≠ [] := fun w hw => by
  obtain ⟨h1, h2⟩ := List.mem_filter.1 hw
  exact ⟨qaY h w h1, by simpa [ne0] using h2⟩
theorem qhA {s : List Int} (h : By s) : ∀ w ∈ wdsI s, By w ∧ w ≠ [] := fun w hw => by
  unfold wdsI at hw
  split at hw
  · simp at hw
  · exact qc4 h w hw
theorem qhU {F : Nat} {ws : List (List Int)} (h : ∀ w ∈ ws, By w ∧ w ≠ []) : kR F ws = some (if hsh ws then [] else ws) := by
  unfold kR
  cases ws with
  | nil => rfl
  | cons w r =>
    obtain ⟨h1, h2⟩ := h w (List.mem_cons_self ..)
    cases w with
    | nil => exact absurd rfl h2
    | cons x t =>
      have hx := h1 x (List.mem_cons_self ..)
      rw [if_pos (by simp)]
      simp only [show idx ((x :: t) :: r) 0 = some (x :: t) from rfl, show idx (x :: t) 0 = some x from rfl, Option.bind_some, yJ, qaG hx.1 hx.2, hsh]
      by_cases e : x = 35
      · simp [e]
      · simp [e]
theorem qgN {F : Nat} {L : List (List Int)} (hb : ∀ l ∈ L, By l) (hm : L.length ≤ 1000000000) : ∀ (k i : Nat) (acc : List (List Int)), L.length < k + i → i ≤ L.length → acc.length ≤ i →
    zL F L k (acc, (i : Int)) = kR F (acc ++ (L.drop i).filter ne0)
  | 0, _, _, _, _, _ => by omega
  | k + 1, i, acc, h, hi, ha => by
    show yn F L (zL F L k) acc (i : Int) = _
    unfold yn
    by_cases hlt : i < L.length
    · rw [if_pos (by simp; omega), zO, List.getElem?_eq_getElem hlt, List.drop_eq_getElem_cons hlt]
      simp only [Option.bind_some]
      have hl := hb L[i] (List.getElem_mem hlt)
      rw [qdU hl]
      unfold yo
      by_cases e : L[i] = []
      · rw [List.filter_cons_of_neg (by simp [ne0, e])]
        simp only [e, decide_true, Bool.not_true, Bool.false_eq_true, if_false]
        rw [zS (by omega)]
        exact qgN hb hm k (i + 1) acc (by omega) (by omega) (by omega)
      · rw [List.filter_cons_of_pos (by simp [ne0, e])]
        simp only [e, decide_false, Bool.not_false, if_true]
        rw [kM (by simp; omega), Option.bind_some]
        rw [zS (by omega), qgN hb hm k (i + 1) (acc ++ [L[i]]) (by omega) (by omega) (by simp; omega), List.append_assoc]
        rfl
    · rw [if_neg (by simp; omega), List.drop_eq_nil_of_le (by omega)]
      simp
theorem qgP {F : Nat} {s : List Int} (h : By s) (hl : s.length ≤ 900000000) (hF : s.length + 1 < F) : vW F s = some (wdsI s) := by
  unfold vW
  rw [qcd (by decide) h (by omega), Option.bind_some]
  have hlen := qdY (c := 32) s
  have := qgN (F := F) (L := cutI 32 s) (qaY h) (by omega) F 0 [] (by omega) (by omega) (by simp)
  rw [show (((0 : Nat) : Int)) = 0 from rfl, List.drop_zero, List.nil_append] at this
  rw [this]
  exact qhU (qc4 h)
def dgt (x : Int) : Bool := decide (48 ≤ x ∧ x ≤ 57)
def valI (n : Int) : List Int → Int
  | [] => n
  | x :: t => valI (10 * n + (x - 48)) t
def numI (w : List Int) : Int := if w.length ≤ 6 ∧ w.all dgt = true then valI 0 w else -1
theorem qeB {α : Type} {p : α → Bool} : ∀ {l : List α}, l.dropWhile p = [] ↔ ∀ x ∈ l, p x = true
  | [] => by simp
  | x :: t => by
    rw [List.dropWhile_cons]
    by_cases h : p x = true
    · rw [if_pos h, qeB (l := t)]
      simp [h]
    · rw [if_neg h]
      simp [h]
theorem qgL {α : Type} {p : α → Bool} {x : α} : ∀ {l : List α}, x ∈ l.takeWhile p → p x = true
  | [], h => by simp at h
  | y :: t, h => by
    rw [List.takeWhile_cons] at h
    by_cases hy : p y = true
    · rw [if_pos hy] at h
      rcases List.mem_cons.1 h with rfl | h
      · exact hy
      · exact qgL h
    · rw [if_neg hy] at h
      simp at h
theorem qgK (l cs : List UInt8) : (Lib.trimS l cs = []) ↔ l.all (fun x => cs.contains x) = true := by
  unfold Lib.trimS Lib.trimLeftS Lib.trimRightS
  constructor
  · intro h
    rw [qeB] at h
    rw [List.all_eq_true]
    intro x hx
    by_cases hc : cs.contains x = true
    · exact hc
    · have hm : x ∈ l.reverse.dropWhile (cs.contains ·) := by
        have h1 : x ∈ l.reverse := List.mem_reverse.2 hx
        rw [← List.takeWhile_append_dropWhile (p := (cs.contains ·)) (l := l.reverse)] at h1
        rcases List.mem_append.1 h1 with h1 | h1
        · exact absurd (qgL h1) hc
        · exact h1
      exact h x (List.mem_reverse.2 hm)
  · intro h
    have h1 : l.reverse.dropWhile (cs.contains ·) = [] := by
      rw [qeB]
      intro x hx
      exact List.all_eq_true.1 h x (List.mem_reverse.1 hx)
    rw [h1]
    rfl
theorem qhL {x : Int} (hx : 0 ≤ x ∧ x < 256) : (([48, 49, 50, 51, 52, 53, 54, 55, 56, 57] : List Int).map u8).contains (u8 x) = dgt x := by
  have h1 : ∀ y : Int, 0 ≤ y → y < 256 → (u8 x = u8 y ↔ x = y) := fun y h0 h1 => qgM hx ⟨h0, h1⟩
  rw [Bool.eq_iff_iff]
  simp only [List.contains_iff_mem, List.map_cons, List.map_nil, List.mem_cons, List.not_mem_nil, or_false, dgt, decide_eq_true_eq]
  rw [h1 48 (by decide) (by decide), h1 49 (by decide) (by decide), h1 50 (by decide) (by decide), h1 51 (by decide) (by decide), h1 52 (by decide) (by decide), h1 53 (by decide) (by decide), h1 54 (by decide) (by decide), h1 55 (by decide) (by decide), h1 56 (by decide) (by decide), h1 57 (by decide) (by decide)]
  omega
theorem qgJ {w : List Int} (h : By w) (hl : w.length ≤ 1000) : ∃ y, trimM w [48, 49, 50, 51, 52, 53, 54, 55, 56, 57] = some y ∧ (!(bstr y == bstr [])) = !(w.all dgt) := by
  unfold trimM
  rw [if_pos ⟨by decide, by decide, by decide, by omega⟩]
  refine ⟨_, rfl, ?_⟩
  rw [qaX, qfL]
  congr 1
  rw [Bool.eq_iff_iff, decide_eq_true_eq]
  have h1 : ∀ l : List UInt8, (({ data := l.toArray } : ByteArray) = bstr []) ↔ l = [] := fun l => by
    constructor
    · intro e
      have := congrArg (fun b => b.data.toList) e
      simpa [za] using this
    · rintro rfl; rfl
  rw [h1, qgK, za, za, List.all_map]
  rw [← Bool.eq_iff_iff]
  rw [Bool.eq_iff_iff, List.all_eq_true, List.all_eq_true]
  refine forall₂_congr fun x hx => ?_
  rw [← qhL (h x hx)]
  rfl
theorem qe4 : ∀ (w : List Int) (n : Nat), w.all dgt = true → Lib.decFrom n (w.map u8) = some (valI n w).toNat
  | [], n, _ => by simp [Lib.decFrom, valI]
  | x :: t, n, hd => by
    rw [List.all_cons, Bool.and_eq_true] at hd
    obtain ⟨hx, ht⟩ := hd
    have hx : 48 ≤ x ∧ x ≤ 57 := by simpa [dgt] using hx
    have h1 : ((u8 x).toNat : Int) = x := qaG (by omega) (by omega)
    rw [List.map_cons]
    unfold Lib.decFrom Lib.digitVal
    rw [if_pos (by omega)]
    show Lib.decFrom (n * 10 + ((u8 x).toNat - 48)) (t.map u8) = _
    rw [qe4 t _ ht]
    show _ = some (valI (10 * (n : Int) + (x - 48)) t).toNat
    congr 3
    omega
theorem qff : ∀ (w : List Int) (n : Int), w.all dgt = true → 0 ≤ n → 0 ≤ valI n w
  | [], _, _, h => h
  | x :: t, n, hd, h => by
    rw [List.all_cons, Bool.and_eq_true] at hd
    have hx : 48 ≤ x ∧ x ≤ 57 := by simpa [dgt] using hd.1
    exact qff t _ hd.2 (by omega)
theorem qfK {w : List Int} (hd : w.all dgt = true) (h0 : w ≠ []) (hl : w.length ≤ 6) : atoiM w = some (valI 0 w) := by
  unfold atoiM
  rw [if_pos (by omega), za]
  cases w with
  | nil => exact absurd rfl h0
  | cons x t =>
    have hx : 48 ≤ x ∧ x ≤ 57 := by
      rw [List.all_cons, Bool.and_eq_true] at hd
      simpa [dgt] using hd.1
    have h1 : ((u8 x).toNat : Int) = x := qaG (by omega) (by omega)
    have n45 : ¬ u8 x = 45 := fun e => by rw [e] at h1; simp at h1; omega
    have n43 : ¬ u8 x = 43 := fun e => by rw [e] at h1; simp at h1; omega
    have hv := qe4 (x :: t) 0 hd
    have hnn := qff (x :: t) 0 hd (by decide)
    show Lib.atoi (u8 x :: t.map u8) = _
    unfold Lib.atoi Lib.decNat
    simp only [beq_iff_eq, n45, n43, if_false]
    rw [List.map_cons] at hv
    simp only [List.isEmpty_cons, Bool.false_eq_true, if_false, hv, Option.map_some]
    congr 1
    rw [show (((0 : Nat) : Int)) = 0 from rfl]
    omega
theorem qbj {F : Nat} {w : List Int} (h : By w) (h0 : w ≠ []) : zD F w = some (numI w) := by
  unfold zD
  by_cases hl : w.length ≤ 6
  · rw [if_neg (by simp; omega)]
    obtain ⟨y, e1, e2⟩ := qgJ h (by omega)
    rw [e1, Option.bind_some, e2]
    unfold kF numI
    cases hd : w.all dgt with
    | false => simp
    | true => simp [qfK hd h0 hl, hl]
  · rw [if_pos (by simp; omega)]
    unfold kF numI
    rw [if_pos rfl, if_neg (by omega)]
def stepI (n : Int) (A : List (Int × Int)) (ws : List (List Int)) : Int × Int × List (Int × Int) :=
  if n < 0 then
    match ws with
    | [w] => if numI w < 0 then (1, n, A) else if 100 < numI w then (3, n, A) else (0, numI w, A)
    | _ => (1, n, A)
  else
    match ws with
    | [u, v] => if numI u < 0 ∨ numI v < 0 then (1, n, A) else if n ≤ numI u ∨ n ≤ numI v then (3, n, A) else if (numI u, numI v) ∈ A then (6, n, A) else if A.length = 600 then (2, n, A) else (0, n, A ++ [(numI u, numI v)])
    | _ => (1, n, A)
def goI : List (List Int) → Int → Int → List (Int × Int) → (Int × Int) ⊕ (Int × List (Int × Int))
  | [], _, n, A => .inr (n, A)
  | l :: L, i, n, A => if wdsI l = [] then goI L (i + 1) n A else if (stepI n A (wdsI l)).1 ≠ 0 then .inl (i + 1, (stepI n A (wdsI l)).1) else goI L (i + 1) (stepI n A (wdsI l)).2.1 (stepI n A (wdsI l)).2.2
def endI (n : Int) (A : List (Int × Int)) : List (List Int) × Int × Int := if n < 0 then ([], 0, 5) else ((ofM n A).1, 0, (ofM n A).2)
def outI : (Int × Int) ⊕ (Int × List (Int × Int)) → List (List Int) × Int × Int := Sum.elim (fun p => ([], p.1, p.2)) (fun q => endI q.1 q.2)
def parseI (s : List Int) : List (List Int) × Int × Int := if 20000 < s.length ∨ 1000 < (linesI s).length then ([], 0, 2) else outI (goI (linesI s) 0 (-1) [])
theorem qg7 {F : Nat} {n : Int} {A : List (Int × Int)} {ws : List (List Int)} (hn : n < 0) (h : ∀ w ∈ ws, By w ∧ w ≠ []) :
    kK F n A A ws = some ((stepI n A ws).1, (stepI n A ws).2.1, (stepI n A ws).2.2, (stepI n A ws).2.2) := by
  unfold kK km stepI
  rw [if_pos hn]
  match ws, h with
  | [], _ => simp
  | [w], h =>
    obtain ⟨h1, h2⟩ := h w (List.mem_cons_self ..)
    simp only [show idx [w] 0 = some w from rfl, Option.bind_some, qbj h1 h2]
    by_cases e1 : numI w < 0
    · simp [e1]
    · by_cases e2 : 100 < numI w
      · simp [e1, e2]
      · simp [e1, e2]
  | _ :: _ :: r, _ =>
    rw [if_pos (by simp; omega)]
    simp
theorem qge {A : List (Int × Int)} {p : Int × Int} (h : p ∉ A) : sins A p = some (A ++ [p]) := by unfold sins; rw [if_neg h]
theorem qf7 {F : Nat} {n : Int} {A : List (Int × Int)} {ws : List (List Int)} (hA : A.length ≤ 600) (h : ∀ w ∈ ws, By w ∧ w ≠ []) :
    kL F n A A ws = some ((stepI n A ws).1, (stepI n A ws).2.1, (stepI n A ws).2.2, (stepI n A ws).2.2) := by
  unfold kL
  by_cases hn : n < 0
  · rw [if_pos (by simpa using hn), qg7 hn h]
    rfl
  · rw [if_neg (by simpa using hn)]
    unfold stepI
    rw [if_neg hn]
    match ws, h with
    | [], _ => simp
    | [w], _ => simp
    | [u, v], h =>
      obtain ⟨u1, u2⟩ := h u (by simp)
      obtain ⟨v1, v2⟩ := h v (by simp)
      simp only [show idx [u, v] 0 = some u from rfl, show idx [u, v] 1 = some v from rfl, Option.bind_some, qbj u1 u2, qbj v1 v2]
      rw [if_neg (by simp)]
      unfold zH kn ko
      by_cases e1 : numI u < 0
      · simp [e1]
      by_cases e2 : numI v < 0
      · simp [e1, e2]
      by_cases e3 : n ≤ numI u
      · simp [e1, e2, e3]
      by_cases e4 : n ≤ numI v
      · simp [e1, e2, e3, e4]
      by_cases e5 : (numI u, numI v) ∈ A
      · simp [e1, e2, e3, e4, e5]
      by_cases e6 : A.length = 600
      · simp [e1, e2, e3, e4, e5, e6]
      · have e7 : ¬ ((A.length : Int) = 600) := by omega
        simp only [e1, e2, e3, e4, e5, e6, e7, decide_false, Bool.or_false, Bool.false_eq_true, if_false, or_self, beq_iff_eq, kM (show A.length + [(numI u, numI v)].length ≤ 4398046511104 by simp; omega), qge e5, Option.bind_some]
    | _ :: _ :: _ :: r, _ =>
      rw [if_pos (by simp; omega)]
theorem qgg {n : Int} {A : List (Int × Int)} {ws : List (List Int)} (hA : A.length ≤ 600) : (stepI n A ws).2.2.length ≤ 600 := by
  unfold stepI
  split
  · split
    · split
      · exact hA
      · split <;> exact hA
    · exact hA
  · split
    · split
      · exact hA
      · split
        · exact hA
        · split
          · exact hA
          · split
            · exact hA
            · simp; omega
    · exact hA
theorem qdB {F : Nat} {L : List (List Int)} (hF : 1000 ≤ F) (hb : ∀ l ∈ L, By l ∧ l.length ≤ 900000000 ∧ l.length + 1 < F) (hm : L.length ≤ 1000) : ∀ (k i : Nat) (n : Int) (A : List (Int × Int)), L.length < k + i → i ≤ L.length → A.length ≤ 600 →
    zX F L k ((i : Int), n, A, A) = some (outI (goI (L.drop i) i n A))
  | 0, _, _, _, _, _, _ => by omega
  | k + 1, i, n, A, h, hi, hA => by
    show yH F L (zX F L k) (i : Int) n A A = _
    unfold yH
    by_cases hlt : i < L.length
    · rw [if_pos (by simp; omega), zO, List.getElem?_eq_getElem hlt, List.drop_eq_getElem_cons hlt]
      obtain ⟨b1, b2, b3⟩ := hb L[i] (List.getElem_mem hlt)
      simp only [Option.bind_some, qgP b1 b2 b3]
      unfold ym goI
      rw [zS (by omega)]
      by_cases e : wdsI L[i] = []
      · rw [if_pos (by simp [e]), if_pos e, qdB hF hb hm k (i + 1) n A (by omega) (by omega) hA]
        rfl
      · have hl : (wdsI L[i]).length ≠ 0 := fun h => e (List.length_eq_zero_iff.1 h)
        rw [if_neg (by simp; exact e), if_neg e, qf7 hA (qhA b1)]
        simp only [Option.bind_some]
        by_cases e2 : (stepI n A (wdsI L[i])).1 = 0
        · rw [if_neg (by simp [e2]), if_neg (by simp [e2]), qdB hF hb hm k (i + 1) _ _ (by omega) (by omega) (qgg hA)]
          rfl
        · rw [if_pos (by simpa using e2), if_pos e2]
          rfl
    · rw [if_neg (by simp; omega), List.drop_eq_nil_of_le (by omega)]
      unfold vN yI
      show _ = some (endI n A)
      unfold endI
      by_cases e : n < 0
      · rw [if_pos (by simpa using e), if_pos e]
      · rw [if_neg (by simpa using e), if_neg e, qf4 hF]
        rfl
theorem qao {F : Nat} {s : List Int} (h : By s) (hl : s.length ≤ 900000000) (hF : 100000 ≤ F) : qP F s = some (parseI s) := by
  unfold qP
  rw [qf1 h (by omega), Option.bind_some]
  unfold parseI
  by_cases e : 20000 < s.length ∨ 1000 < (linesI s).length
  · rw [if_pos (by simp only [Bool.or_eq_true, decide_eq_true_eq]; omega), if_pos e]
  · rw [if_neg (by simp only [Bool.or_eq_true, decide_eq_true_eq]; omega), if_neg e]
    have hsh : ∀ l ∈ linesI s, l.length ≤ s.length := qa7 s
    have := qdB (F := F) (L := linesI s) (by omega) (fun l hl => ⟨qfq h l hl, by have := hsh l hl; omega, by have := hsh l hl; omega⟩) (by omega) F 0 (-1) [] (by omega) (by omega) (by simp)
    rw [List.drop_zero] at this
    exact this
def dcI (n : Int) : List Int := if n < 10 then [48 + n] else if n < 100 then [48 + n / 10, 48 + n % 10] else [48 + n / 100, 48 + n / 10 % 10, 48 + n % 10]
theorem qaN {n : Int} (h : 0 ≤ n ∧ n < 1000) : By (dcI n) := fun x hx => by
  unfold dcI at hx
  split at hx
  · simp at hx; omega
  · split at hx
    · simp at hx; omega
    · simp at hx; omega
theorem qbK {n : Int} (h : 0 ≤ n ∧ n < 1000) : (dcI n).all dgt = true := by
  rw [List.all_eq_true]
  intro x hx
  unfold dgt
  rw [decide_eq_true_eq]
  unfold dcI at hx
  split at hx
  · simp at hx; omega
  · split at hx
    · simp at hx; omega
    · simp at hx; omega
theorem yp (n : Int) : 1 ≤ (dcI n).length ∧ (dcI n).length ≤ 3 := by
  unfold dcI
  split
  · simp
  · split <;> simp
theorem qg0 {n : Int} (h : 0 ≤ n ∧ n < 1000) : valI 0 (dcI n) = n := by
  unfold dcI
  split
  · simp [valI]; omega
  · split
    · simp [valI]; omega
    · simp [valI]; omega
theorem qdq {n : Int} (h : 0 ≤ n ∧ n < 1000) : numI (dcI n) = n := by
  unfold numI
  have := yp n
  rw [if_pos ⟨by omega, qbK h⟩, qg0 h]
theorem dg1 {u : Nat} (h : u < 10) : Lib.decDigits u = [UInt8.ofNat (48 + u)] := by
  unfold Lib.decDigits
  rw [dif_pos h]
theorem dg2 {u : Nat} (h : ¬ u < 10) : Lib.decDigits u = Lib.decDigits (u / 10) ++ [UInt8.ofNat (48 + u % 10)] := by
  rw [Lib.decDigits, dif_neg h]
theorem qes {u : Nat} (h : u < 10) : toI [UInt8.ofNat (48 + u)] = [48 + (u : Int)] := by
  have : ((48 + u) % 256 : Nat) = 48 + u := by omega
  simp [toI, this]
theorem qfe (a b : List UInt8) : toI (a ++ b) = toI a ++ toI b := by simp [toI]
theorem qhZ {n : Int} (h : 0 ≤ n ∧ n < 1000) : toI (Lib.decDigits n.toNat) = dcI n := by
  unfold dcI
  by_cases h1 : n < 10
  · rw [if_pos h1, dg1 (by omega), qes (by omega)]
    congr 1; omega
  · rw [if_neg h1, dg2 (by omega), qfe, qes (by omega)]
    by_cases h2 : n < 100
    · rw [if_pos h2, dg1 (by omega), qes (by omega)]
      simp only [List.cons_append, List.nil_append, List.cons.injEq, and_true]
      omega
    · rw [if_neg h2, dg2 (by omega), qfe, qes (by omega), dg1 (by omega), qes (by omega)]
      simp only [List.cons_append, List.nil_append, List.cons.injEq, and_true]
      omega
theorem qdx {n : Int} (h : 0 ≤ n ∧ n < 1000) : itoaB n = some (dcI n) := by
  unfold itoaB
  rw [if_pos h, ← qhZ h]
  unfold Lib.itoa
  rw [if_neg (by omega)]
  rfl
theorem quo10 {n : Int} (h : 0 ≤ n ∧ n < 1000) : iquo .i64 n 10 = n / 10 := by
  have h1 : n.tdiv 10 = n / 10 := Int.tdiv_eq_ediv_of_nonneg h.1
  unfold iquo
  rw [h1]
  exact qcq (by omega) (by omega)
theorem rem10 {n : Int} (h : 0 ≤ n ∧ n < 1000) : irem n 10 = n % 10 := by
  unfold irem
  exact Int.tmod_eq_emod_of_nonneg h.1
theorem qez {F : Nat} {n : Int} {acc : List Int} {rec : (Int × List Int) → Option (List Int)} (h : 0 ≤ n ∧ n < 1000) (ha : acc.length ≤ 10) : ke F rec n acc = if n / 10 = 0 then some ((48 + n % 10) :: acc) else rec (n / 10, (48 + n % 10) :: acc) := by
  unfold ke
  rw [quo10 h, rem10 h, qa5 (by omega) (by omega), show iconv .u8 (48 + n % 10) = 48 + n % 10 from qhB (by omega) (by omega), kM (by simp; omega)]
  simp only [Option.bind_some, List.cons_append, List.nil_append, beq_iff_eq]
theorem qdt {F : Nat} {n : Int} (hF : 10 ≤ F) (h : 0 ≤ n ∧ n < 1000) : qS F n = some (dcI n) := by
  unfold qS
  obtain ⟨k, rfl⟩ : ∃ k, F = k + 3 := ⟨F - 3, by omega⟩
  show ke (k + 3) (kf (k + 3) (k + 2)) n [] = _
  rw [qez h (by simp)]
  unfold dcI
  by_cases h1 : n < 10
  · rw [if_pos (by omega), if_pos h1]
    congr 2; omega
  · rw [if_neg (by omega), if_neg h1]
    show ke (k + 3) (kf (k + 3) (k + 1)) (n / 10) _ = _
    rw [qez (by omega) (by simp)]
    by_cases h2 : n < 100
    · rw [if_pos (by omega), if_pos h2]
      congr 2; omega
    · rw [if_neg (by omega), if_neg h2]
      show ke (k + 3) (kf (k + 3) k) (n / 10 / 10) _ = _
      rw [qez (by omega) (by simp), if_pos (by omega)]
      congr 2; omega
def arcI (p : Int × Int) : List Int := dcI p.1 ++ 32 :: (dcI p.2 ++ [10])
def txtI (n : Int) (A : List (Int × Int)) : List Int := dcI n ++ 10 :: A.flatMap arcI
def Sml (A : List (Int × Int)) : Prop := ∀ p ∈ A, (0 ≤ p.1 ∧ p.1 < 1000) ∧ (0 ≤ p.2 ∧ p.2 < 1000)
theorem qal {a b : List Int} (ha : By a) (hb : By b) : By (a ++ b) := fun x hx => by
  rcases List.mem_append.1 hx with h | h
  · exact ha x h
  · exact hb x h
theorem y8 {x : Int} {b : List Int} (ha : 0 ≤ x ∧ x < 256) (hb : By b) : By (x :: b) := fun y hy => by
  rcases List.mem_cons.1 hy with rfl | h
  · exact ha
  · exact hb y h
theorem qeX {p : Int × Int} (h : (0 ≤ p.1 ∧ p.1 < 1000) ∧ (0 ≤ p.2 ∧ p.2 < 1000)) : By (arcI p) := qal (qaN h.1) (y8 (by decide) (qal (qaN h.2) (qbg (by decide))))
theorem qdS (p : Int × Int) : (arcI p).length ≤ 8 := by
  have h1 := yp p.1
  have h2 := yp p.2
  unfold arcI
  simp
  omega
theorem qg4 {A : List (Int × Int)} (h : Sml A) : By (A.flatMap arcI) := fun x hx => by
  obtain ⟨p, hp, hx⟩ := List.mem_flatMap.1 hx
  exact qeX (h p hp) x hx
theorem qhz {n : Int} {A : List (Int × Int)} (hn : 0 ≤ n ∧ n < 1000) (h : Sml A) : By (txtI n A) := qal (qaN hn) (y8 (by decide) (qg4 h))
theorem qf2 {a : List Int} (h : By a) : a.map b8 = a := by
  conv => rhs; rw [← List.map_id a]
  exact List.map_congr_left fun x hx => qaG (h x hx).1 (h x hx).2
theorem qhb {F : Nat} {acc : List Int} {p : Int × Int} (h : (0 ≤ p.1 ∧ p.1 < 1000) ∧ (0 ≤ p.2 ∧ p.2 < 1000)) (ha : acc.length ≤ 1000000) : kQ F acc p.1 p.2 = some (.inl (acc ++ arcI p)) := by
  unfold kQ
  have h1 := yp p.1
  have h2 := yp p.2
  rw [qdx h.1, qdx h.2]
  simp only [Option.bind_some]
  rw [kM (by simp; omega), Option.bind_some, kM (by simp; omega), Option.bind_some, kM (by simp; omega), Option.bind_some]
  have e : dcI p.1 ++ [32] ++ dcI p.2 ++ [10] = arcI p := by simp [arcI]
  rw [e, qf2 (qeX h), kM (by have := qdS p; omega), Option.bind_some]
theorem qb6 {F : Nat} {yy : List Int → (Int × Int) → Option (List Int ⊕ Empty)} (hy : ∀ s p, yy s p = kQ F s p.1 p.2) : ∀ (L : List (Int × Int)) (acc : List Int), Sml L → acc.length + 8 * L.length ≤ 1000000 → kD yy L acc = some (.inl (acc ++ L.flatMap arcI))
  | [], acc, _, _ => by simp [kD]
  | p :: L, acc, h, hl => by
    have hp := qdS p
    rw [List.length_cons] at hl
    show (yy acc p).bind _ = _
    rw [hy, qhb (h p (List.mem_cons_self ..)) (by omega)]
    show kD yy L (acc ++ arcI p) = _
    rw [qb6 hy L (acc ++ arcI p) (fun q hq => h q (List.mem_cons_of_mem _ hq)) (by simp; omega), List.append_assoc]
    rfl
theorem qeI {g : List (List Int)} (h : Gr g) : Sml (af 0 g) := fun p hp => by
  have := qa3 h p hp
  have h1 := h.1
  omega
theorem qf8 {F : Nat} {g : List (List Int)} (hF : 1000 ≤ F) : kJ F g = some (if gchk g ≠ 0 then ([], gchk g) else (txtI g.length (af 0 g), 0)) := by
  unfold kJ
  rw [kU hF, Option.bind_some]
  by_cases e : gchk g = 0
  · rw [if_neg (by simp [e]), if_neg (by simp [e])]
    have hg := jy.1 e
    have h1 := hg.1
    have hn : (0 : Int) ≤ (g.length : Int) ∧ (g.length : Int) < 1000 := by omega
    have hd := yp (g.length : Int)
    rw [qdx hn, Option.bind_some, kM (by simp; omega), Option.bind_some]
    have hby : By (dcI (g.length : Int) ++ [10]) := qal (qaN hn) (qbg (by decide))
    rw [qf2 hby, kM (by simp; omega), Option.bind_some]
    show ((z8 F _ g _).bind _) = _
    rw [qdl (by omega) (by omega) (fun l hl => by have := qbW hg hl; omega), qb6 (F := F) (fun _ _ => rfl) _ _ (qeI hg) (by have := jE hg; simp; omega)]
    simp only [Option.bind_some, Sum.elim_inl]
    have e2 : [] ++ (dcI (g.length : Int) ++ [10]) ++ (af 0 g).flatMap arcI = txtI (g.length : Int) (af 0 g) := by simp [txtI]
    rw [e2]
    unfold bstrM
    rw [if_pos ⟨by simp [txtI], by rw [List.all_eq_true]; exact fun x hx => decide_eq_true (qhz hn (qeI hg) x hx)⟩]
    rfl
  · rw [if_pos (by simpa using e), if_pos e]
theorem qcM {g : List (List Int)} {A : List (Int × Int)} (h : Gr g) (hp : A.Perm (af 0 g)) : endI g.length A = (g, 0, 0) := by
  have hl := hp.length_eq
  have h600 := jE h
  have hnd : A.Nodup := hp.nodup_iff.2 (qam h)
  have e := qe9 (n := g.length) (l := A) h.1 (by omega) (fun p hq => qa3 h p (hp.mem_iff.1 hq)) hnd
  unfold endI
  rw [if_neg (by omega), e, qg6 h (qbn hnd) fun p => hp.mem_iff]
theorem qgX (a : List Int) : (bstr a == bstr a) = true := by rw [qfL]; simp
def g01 : List (List Int) := [[1], [0]]
theorem qfU : gchk g01 = 0 := by decide
theorem tb1 : parseI [35, 32, 116, 119, 111, 10, 32, 50, 32, 10, 10, 49, 32, 48, 10, 48, 32, 32, 49] = (g01, 0, 0) := by
  have e : goI (linesI [35, 32, 116, 119, 111, 10, 32, 50, 32, 10, 10, 49, 32, 48, 10, 48, 32, 32, 49]) 0 (-1) [] = .inr (2, [(1, 0), (0, 1)]) := by decide +kernel
  unfold parseI
  rw [if_neg (by decide), e]
  have h : Gr g01 := jy.1 qfU
  exact qcM (g := g01) h (List.Perm.swap _ _ _)
theorem tb2 : parseI [50, 10, 48, 32, 48, 10, 48, 32, 48, 48, 10] = ([], 3, 6) := by
  have e : goI (linesI [50, 10, 48, 32, 48, 10, 48, 32, 48, 48, 10]) 0 (-1) [] = .inl (3, 6) := by decide +kernel
  unfold parseI
  rw [if_neg (by decide), e]
  rfl
theorem tb3 : parseI [50, 10, 48, 32, 50] = ([], 2, 3) := by
  have e : goI (linesI [50, 10, 48, 32, 50]) 0 (-1) [] = .inl (2, 3) := by decide +kernel
  unfold parseI
  rw [if_neg (by decide), e]
  rfl
theorem tb4 : parseI [35] = ([], 0, 5) := by
  have e : goI (linesI [35]) 0 (-1) [] = .inr (-1, []) := by decide +kernel
  unfold parseI
  rw [if_neg (by decide), e]
  rfl
theorem tb5 : txtI ((g01.length : Nat) : Int) (af 0 g01) = [50, 10, 48, 32, 49, 10, 49, 32, 48, 10] := by decide +kernel
theorem tbegun {F : Nat} (hF : 100000 ≤ F) : z6 F = some true := by
  unfold z6
  rw [qao (by unfold By; decide) (by decide) hF, qao (by unfold By; decide) (by decide) hF, qao (by unfold By; decide) (by decide) hF, qao (by unfold By; decide) (by decide) hF]
  simp only [Option.bind_some, tb1, tb2, tb3, tb4]
  rw [qf8 (by omega), if_neg (by rw [qfU]; decide), tb5]
  simp only [Option.bind_some]
  rw [show ([([1] : List Int), ([0] : List Int)] : List (List Int)) = g01 from rfl, qaQ (by show 2 < F; omega) (by decide) (fun r hr => by simp [g01] at hr; rcases hr with rfl | rfl <;> simp <;> omega)]
  simp only [Option.bind_some, if_true]
  unfold yf
  rw [qgX]
  rfl
theorem qaO {u : List Int} (h : u.all dgt = true) {c : Int} (hc : c < 48) : c ∉ u := fun hm => by
  have := List.all_eq_true.1 h c hm
  simp [dgt] at this
  omega
theorem qg8 {u : List Int} {r : List (List Int)} (h : u.all dgt = true) : hsh (u :: r) = false := by
  cases u with
  | nil => rfl
  | cons x t =>
    have := qaO h (c := 35) (by decide)
    simp only [hsh, decide_eq_false_iff_not]
    intro e
    exact this (by rw [e]; exact List.mem_cons_self ..)
theorem qgO {l u : List Int} {r : List (List Int)} (h : wordsI l = u :: r) (hu : u.all dgt = true) : wdsI l = u :: r := by
  unfold wdsI
  rw [h, qg8 hu]
  simp
theorem wds1 {u : List Int} (hu : u.all dgt = true) (h0 : u ≠ []) : wdsI u = [u] := by
  refine qgO ?_ hu
  unfold wordsI
  rw [qfn (qaO hu (by decide))]
  simp [ne0, h0]
def Tells (ln : Int × Int → List Int) (n : Nat) : Prop := ∀ p : Int × Int, 0 ≤ p.1 → p.1 < n → 0 ≤ p.2 → p.2 < n → (10 : Int) ∉ ln p ∧ (ln p).length ≤ 20 ∧ ∃ u v, wdsI (ln p) = [u, v] ∧ numI u = p.1 ∧ numI v = p.2
theorem qe6 {ln : Int × Int → List Int} {n : Nat} (ht : Tells ln n) : ∀ (A B : List (Int × Int)) (i : Int), InR n A → (B ++ A).Nodup → (B ++ A).length ≤ 600 → goI (A.map ln) i n B = .inr ((n : Int), B ++ A)
  | [], B, i, _, _, _ => by simp [goI]
  | p :: A, B, i, hr, hn, hl => by
    obtain ⟨a0, a1, a2, a3⟩ := hr p (List.mem_cons_self ..)
    obtain ⟨_, _, u, v, e1, e2, e3⟩ := ht p a0 a1 a2 a3
    have hpB : p ∉ B := fun hm => by
      rw [List.nodup_append] at hn
      exact hn.2.2 p hm p (List.mem_cons_self ..) rfl
    have hs : stepI (n : Int) B [u, v] = (0, (n : Int), B ++ [p]) := by
      unfold stepI
      rw [if_neg (by omega)]
      simp only [e2, e3]
      rw [if_neg (by omega), if_neg (by omega), if_neg hpB, if_neg (by simp at hl; omega)]
    rw [List.map_cons]
    unfold goI
    rw [e1, hs, if_neg (by simp), if_neg (by simp)]
    have e4 : B ++ p :: A = (B ++ [p]) ++ A := by simp
    rw [e4] at hn hl ⊢
    exact qe6 ht A (B ++ [p]) (i + 1) (fun q hq => hr q (List.mem_cons_of_mem _ hq)) hn hl
theorem qbw {ln : Int × Int → List Int} {n : Nat} (ht : Tells ln n) : ∀ (A : List (Int × Int)), InR n A → linesI (A.flatMap fun p => ln p ++ [10]) = A.map ln
  | [], _ => rfl
  | p :: A, hr => by
    obtain ⟨a0, a1, a2, a3⟩ := hr p (List.mem_cons_self ..)
    rw [List.flatMap_cons, List.append_assoc, List.map_cons, List.singleton_append, qb1 (ht p a0 a1 a2 a3).1, qbw ht A fun q hq => hr q (List.mem_cons_of_mem _ hq)]
theorem qax {ln : Int × Int → List Int} {n : Nat} (ht : Tells ln n) : ∀ (A : List (Int × Int)), InR n A → (A.flatMap fun p => ln p ++ [10]).length ≤ 21 * A.length
  | [], _ => by simp
  | p :: A, hr => by
    obtain ⟨a0, a1, a2, a3⟩ := hr p (List.mem_cons_self ..)
    have h1 := (ht p a0 a1 a2 a3).2.1
    have h2 := qax ht A fun q hq => hr q (List.mem_cons_of_mem _ hq)
    rw [List.flatMap_cons, List.length_append, List.length_append, List.length_cons]
    simp only [List.length_cons, List.length_nil]
    omega
theorem qeG {ln : Int × Int → List Int} {g : List (List Int)} {A : List (Int × Int)} {hd w : List Int} (hg : Gr g) (ht : Tells ln g.length) (hp : A.Perm (af 0 g)) (h10 : (10 : Int) ∉ hd) (hlen : hd.length ≤ 20) (hw : wdsI hd = [w]) (hnum : numI w = g.length) :
    parseI (hd ++ 10 :: A.flatMap fun p => ln p ++ [10]) = (g, 0, 0) := by
  have hr : InR g.length A := fun p hq => qa3 hg p (hp.mem_iff.1 hq)
  have h600 := jE hg
  have hl := hp.length_eq
  have hnd : A.Nodup := hp.nodup_iff.2 (qam hg)
  have e1 : linesI (hd ++ 10 :: A.flatMap fun p => ln p ++ [10]) = hd :: A.map ln := by rw [qb1 h10, qbw ht A hr]
  have e2 := qax ht A hr
  have h100 := hg.1
  unfold parseI
  rw [e1, if_neg (by simp only [List.length_append, List.length_cons, List.length_map]; omega)]
  have hs : stepI (-1) [] [w] = (0, (g.length : Int), []) := by
    unfold stepI
    rw [if_pos (by decide)]
    simp only [hnum]
    rw [if_neg (by omega), if_neg (by omega)]
  unfold goI
  rw [hw, hs, if_neg (by simp), if_neg (by simp)]
  have e3 := qe6 ht A [] (0 + 1) hr (by simpa using hnd) (by simp; omega)
  show outI (goI (A.map ln) (0 + 1) (g.length : Int) []) = _
  rw [e3]
  exact qcM hg (by simpa using hp)
def lnT (p : Int × Int) : List Int := 32 :: ((48 :: 48 :: dcI p.1) ++ 32 :: 32 :: 32 :: ((48 :: dcI p.2) ++ [32]))
theorem num0 {w : List Int} (h : w.all dgt = true) (hl : w.length ≤ 5) : numI (48 :: w) = numI w := by
  unfold numI
  rw [if_pos ⟨by simp; omega, by rw [List.all_cons, h]; decide⟩, if_pos ⟨by omega, h⟩]
  rfl
theorem dg0 {w : List Int} (h : w.all dgt = true) : (48 :: w).all dgt = true := by rw [List.all_cons, h]; decide
theorem qay {n : Nat} (hn : n ≤ 100) : Tells lnT n := fun p a0 a1 a2 a3 => by
  have d1 := qbK (n := p.1) (by omega)
  have d2 := qbK (n := p.2) (by omega)
  have l1 := yp p.1
  have l2 := yp p.2
  have c1 := dg0 (dg0 d1)
  have c2 := dg0 d2
  refine ⟨?_, by unfold lnT; simp; omega, 48 :: 48 :: dcI p.1, 48 :: dcI p.2, ?_, ?_, ?_⟩
  · intro hm
    unfold lnT at hm
    rcases List.mem_cons.1 hm with hm | hm
    · exact absurd hm (by decide)
    rcases List.mem_append.1 hm with hm | hm
    · exact qaO c1 (by decide) hm
    rcases List.mem_cons.1 hm with hm | hm
    · exact absurd hm (by decide)
    rcases List.mem_cons.1 hm with hm | hm
    · exact absurd hm (by decide)
    rcases List.mem_cons.1 hm with hm | hm
    · exact absurd hm (by decide)
    rcases List.mem_append.1 hm with hm | hm
    · exact qaO c2 (by decide) hm
    · exact absurd hm (by decide)
  · refine qgO ?_ c1
    have e1 : ∀ X, cutI 32 (32 :: X) = [] :: cutI 32 X := fun X => by rw [qcJ, if_pos rfl]
    unfold wordsI lnT
    rw [e1, qdX (qaO c1 (by decide)), e1, e1, show (48 :: dcI p.2) ++ [32] = (48 :: dcI p.2) ++ 32 :: [] from rfl, qdX (qaO c2 (by decide))]
    simp [ne0, cutI]
  · rw [num0 (dg0 d1) (by simp; omega), num0 d1 (by omega), qdq (by omega)]
  · rw [num0 d2 (by omega), qdq (by omega)]
theorem qhO {p : Int × Int} (h : (0 ≤ p.1 ∧ p.1 < 1000) ∧ (0 ≤ p.2 ∧ p.2 < 1000)) : By (lnT p ++ [10]) := by
  have h1 := qaN h.1
  have h2 := qaN h.2
  unfold lnT
  exact qal (y8 (by decide) (qal (y8 (by decide) (y8 (by decide) h1)) (y8 (by decide) (y8 (by decide) (y8 (by decide) (qal (y8 (by decide) h2) (qbg (by decide)))))))) (qbg (by decide))
theorem qfS {A : List (Int × Int)} (h : Sml A) : By (A.flatMap fun p => lnT p ++ [10]) := fun x hx => by
  obtain ⟨p, hp, hx⟩ := List.mem_flatMap.1 hx
  exact qhO (h p hp) x hx
theorem qfI {F : Nat} {g : List (List Int)} {B : List (Int × Int)} (hF : 100000 ≤ F) (hg : Gr g) (hp : B.Perm (af 0 g)) : yC F g ((48 :: dcI g.length) ++ 10 :: B.flatMap fun p => lnT p ++ [10]) = some true := by
  have h1 := hg.1
  have hd := qbK (n := (g.length : Int)) (by omega)
  have hl := yp (g.length : Int)
  have hs : Sml B := fun p hq => qeI hg p (hp.mem_iff.1 hq)
  have hby : By ((48 :: dcI g.length) ++ 10 :: B.flatMap fun p => lnT p ++ [10]) := qal (y8 (by decide) (qaN (by omega))) (y8 (by decide) (qfS hs))
  have hr : InR g.length B := fun p hq => qa3 hg p (hp.mem_iff.1 hq)
  have h600 := jE hg
  have hBl := hp.length_eq
  have hlen := qax (qay h1) B hr
  unfold yC
  rw [qao hby (by rw [List.length_append, List.length_cons, List.length_cons]; omega) hF, qeG hg (qay h1) hp (qaO (dg0 hd) (by decide)) (by rw [List.length_cons]; omega) (wds1 (dg0 hd) (by simp)) (by rw [num0 hd (by omega), qdq (by omega)])]
  simp only [Option.bind_some]
  rw [if_neg (by simp), if_pos (by simp), qeH (F := F) (by omega) (qh3 hg)]
  rfl
theorem qc2 {F d e : Nat} {x : Int} {g : List (List Int)} {A : List (Int × Int)} (hF : 100000 ≤ F) (hg : Gr g) (hA : A = af 0 g) (hd : irem (iadd .i64 (irem x 1000) 1000) 1000 = (d : Int)) (hdd : d < 1000) (he : e = d % A.length) : ∀ (k j : Nat), A.length < k + j → j ≤ A.length →
    qX F g x (A, 0) k (((48 :: dcI g.length) ++ 10 :: ((A.drop e ++ A.take e).take j).flatMap fun p => lnT p ++ [10]), (j : Int)) = some true
  | 0, _, _, _ => by omega
  | k + 1, j, h, hj => by
    have hAl : A.length ≤ 600 := by rw [hA]; exact jE hg
    have h1 := hg.1
    have hl0 := yp (g.length : Int)
    have hrA : InR g.length (A.drop e ++ A.take e) := fun p hq => by
      refine qa3 hg p ?_
      rw [← hA]
      rcases List.mem_append.1 hq with hq | hq
      · exact List.mem_of_mem_drop hq
      · exact List.mem_of_mem_take hq
    show ye F g x (A, 0) (qX F g x (A, 0) k) ((48 :: dcI g.length) ++ 10 :: ((A.drop e ++ A.take e).take j).flatMap fun p => lnT p ++ [10]) (j : Int) = _
    unfold ye
    by_cases hlt : j < A.length
    · have hrec := qc2 (F := F) hF hg hA hd hdd he k (j + 1) (by omega) (by omega)
      have hel : e < A.length := by rw [he]; exact Nat.mod_lt _ (by omega)
      have hrl : j < (A.drop e ++ A.take e).length := by simp; omega
      rw [jd hrl] at hrec
      have hq : (j + d) % A.length = if j + e < A.length then j + e else j + e - A.length := by
        rw [Nat.add_mod, ← he, Nat.mod_eq_of_lt hlt]
        split
        · rw [Nat.mod_eq_of_lt (by omega)]
        · rw [Nat.mod_eq_sub_mod (by omega), Nat.mod_eq_of_lt (by omega)]
      have hql : (j + d) % A.length < A.length := Nat.mod_lt _ (by omega)
      have hget : (A.drop e ++ A.take e)[j] = A[(j + d) % A.length]'hql := by
        rw [List.getElem_append]
        split
        · rename_i h5
          simp at h5
          rw [List.getElem_drop]
          congr 1
          rw [hq, if_pos (by omega)]; omega
        · rename_i h5
          simp at h5
          rw [List.getElem_take]
          congr 1
          rw [hq, if_neg (by omega)]
          simp
          omega
      have hlen := qax (qay h1) ((A.drop e ++ A.take e).take j) (fun p hq => hrA p (List.mem_of_mem_take hq))
      have htl : ((A.drop e ++ A.take e).take j).length ≤ 600 := by simp; omega
      obtain ⟨q0, q1, q2, q3⟩ := hrA _ (List.getElem_mem hrl)
      rw [if_pos (by simp; omega), hd, qfY (by omega)]
      simp only [chk]
      rw [if_pos (by simp; intro h0; rw [h0] at hlt; simp at hlt), qhN, zO, List.getElem?_eq_getElem (by omega)]
      simp only [Option.bind_some]
      rw [← hget]
      generalize hP : (A.drop e ++ A.take e)[j] = P at hrec q0 q1 q2 q3 ⊢
      have l1 := yp P.1
      have l2 := yp P.2
      have hT := (qay h1 P q0 q1 q2 q3).2.1
      generalize hX : (48 :: dcI g.length) ++ 10 :: ((A.drop e ++ A.take e).take j).flatMap (fun p => lnT p ++ [10]) = X
      have hXl : X.length ≤ 20000 := by
        rw [← hX, List.length_append, List.length_cons, List.length_cons]
        omega
      rw [qdt (by omega) (by omega), qdt (by omega) (by omega)]
      simp only [Option.bind_some]
      rw [kM (by simp; omega), Option.bind_some, kM (by simp; omega), Option.bind_some, kM (by simp; omega), Option.bind_some, kM (by simp; omega), Option.bind_some, kM (by simp; omega), Option.bind_some]
      unfold zI
      rw [zS (by omega)]
      have e2 : X ++ ([32, 48, 48] ++ dcI P.1 ++ [32, 32, 32, 48] ++ dcI P.2 ++ [32, 10]) = (48 :: dcI g.length) ++ 10 :: ((A.drop e ++ A.take e).take j ++ [P]).flatMap (fun p => lnT p ++ [10]) := by
        rw [← hX, List.flatMap_append]
        simp [lnT]
      rw [e2]
      exact hrec
    · rw [if_neg (by simp; omega), List.take_of_length_le (by simp; omega)]
      refine qfI hF hg ?_
      rw [← hA]
      refine (List.perm_append_comm).trans ?_
      rw [List.take_append_drop]
theorem qcE {F : Nat} {g : List (List Int)} {x : Int} (hF : 100000 ≤ F) : jX F g x = some true := by
  unfold jX
  rw [qeY (by omega), tbegun hF, qhM (by omega)]
  simp only [Option.bind_some, Bool.not_true, Bool.false_eq_true, if_false]
  unfold yB
  rw [if_neg (by simp)]
  by_cases h : gchk g = 0
  · have hg := jy.1 h
    have h1 := hg.1
    have hl := yp (g.length : Int)
    have hn : ¬ gchk g ≠ 0 := by simp [h]
    rw [if_neg hn, if_neg (by simp), qdt (by omega) (by omega), Option.bind_some, kM (by simp; omega), Option.bind_some, kM (by simp; omega), Option.bind_some]
    obtain ⟨d, h2, h3⟩ := qhc x
    have := qc2 (F := F) (A := af 0 g) hF hg rfl h3 h2 rfl F 0 (by have := jE hg; omega) (by omega)
    rw [List.take_zero] at this
    exact this
  · rw [if_pos h, if_pos (by simpa using h)]
end Go.Proofs.YtfjkpdlcdceenaaGreatDoor
