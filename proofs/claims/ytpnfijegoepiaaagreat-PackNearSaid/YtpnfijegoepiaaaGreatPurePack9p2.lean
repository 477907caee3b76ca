/- Plain facts of what the functions of this seat compute, part 2. -/
import Derived.Test.YtpnfijegoepiaaaGreatPurePack9
import Derived.KernelRfl
import Derived.Lib.SlicesCompact
namespace Go.Proofs.YtpnfijegoepiaaaGreat
open Go SX
variable {F : Nat} {rec68 : (List (Int × Int) × List Int × Int) → Option (List (Int × Int) × List Int)} {l : List Int} {least : Int} {o : List (Int × Int)} {rest : List Int} {i : Int}
def Gr (g : List (List Int)) : Prop := g.length ≤ 100 ∧ (∀ l ∈ g, l.Pairwise (· < ·) ∧ ∀ x ∈ l, 0 ≤ x ∧ x < g.length) ∧ gtot g ≤ 600
theorem qeg {g : List (List Int)} : gchk g = 0 ↔ Gr g := by
  unfold gchk Gr
  by_cases h1 : 100 < g.length
  · rw [if_pos h1]; simp; omega
  · rw [if_neg h1]
    by_cases h2 : gE g.length g = 0
    · rw [if_neg (by simp [h2])]
      have h3 := qkR.1 h2
      have h4 : ∀ l ∈ g, l.Pairwise (· < ·) ∧ ∀ x ∈ l, 0 ≤ x ∧ x < (g.length : Int) := fun l hl => by
        have := qei.1 (h3 l hl)
        exact ⟨this.1.1, this.2⟩
      by_cases h5 : 600 < gtot g
      · rw [if_pos h5]; simp; omega
      · rw [if_neg h5]
        exact ⟨fun _ => ⟨by omega, h4, by omega⟩, fun _ => rfl⟩
    · rw [if_pos h2]
      refine ⟨fun h => absurd h h2, fun h => absurd (qkR.2 fun l hl => qei.2 ⟨⟨(h.2.1 l hl).1, fun x hx => ?_⟩, (h.2.1 l hl).2⟩) h2⟩
      have := (h.2.1 l hl).2 x hx; omega
theorem qkZ {g : List (List Int)} (h : Gr g) {l : List Int} (hl : l ∈ g) : l.length ≤ 100 := by
  have h1 := (h.2.1 l hl).2
  have h2 : rowE g.length (-1) l = 0 := qei.2 ⟨⟨(h.2.1 l hl).1, fun x hx => by have := h1 x hx; omega⟩, h1⟩
  have := qgT (by omega) (by omega) h2
  have := h.1
  omega
theorem qhv {F : Nat} {rec38 : (Int × Int) → Option Int} {g : List (List Int)} {m i : Int} {l : List Int} (hg : g.length ≤ 100) : ∀ (k j : Nat) (last : Int), 102 < k + j → (j : Int) ≤ last + 1 → last < g.length → -1 ≤ last →
    kr F rec38 g m i l k (last, (j : Int)) = if rowE g.length last (l.drop j) ≠ 0 then some (rowE g.length last (l.drop j)) else vC F rec38 m i l
  | 0, j, last, h, h1, h2, h3 => by omega
  | k + 1, j, last, h, h1, h2, h3 => by
    show vB F rec38 g m i l (kr F rec38 g m i l k) last (j : Int) = _
    unfold vB
    by_cases hlt : j < l.length
    · rw [if_pos (by simp; omega), qQ, List.getElem?_eq_getElem hlt, List.drop_eq_getElem_cons hlt]
      simp only [Option.bind_some]
      unfold rowE
      by_cases c1 : l[j] < 0 ∨ (g.length : Int) ≤ l[j]
      · rw [if_pos (by simpa using c1), if_pos c1, if_pos (by decide)]
      · rw [if_neg (by simpa using c1), if_neg c1]
        by_cases c2 : l[j] ≤ last
        · rw [if_pos (by simpa using c2), if_pos c2, if_pos (by decide)]
        · rw [if_neg (by simpa using c2), if_neg c2, qN (by omega)]
          exact qhv hg k (j + 1) l[j] (by omega) (by omega) (by omega) (by omega)
    · rw [if_neg (by simp; omega), List.drop_eq_nil_of_le (by omega)]
      rw [if_neg (by simp [rowE])]
theorem qfI {F : Nat} (hF : 1000 ≤ F) {g : List (List Int)} (hg : g.length ≤ 100) : ∀ (k i : Nat) (m : Nat), g.length < k + i → i ≤ g.length → m ≤ 100 * i →
    qM F g k ((m : Int), (i : Int)) = if gE g.length (g.drop i) ≠ 0 then some (gE g.length (g.drop i)) else if 600 < m + gtot (g.drop i) then some 2 else some 0
  | 0, _, _, _, _, _ => by omega
  | k + 1, i, m, h, hi, hm => by
    show vA F g (qM F g k) (m : Int) (i : Int) = _
    unfold vA
    by_cases hlt : i < g.length
    · rw [if_pos (by simp; omega), qQ, List.getElem?_eq_getElem hlt, List.drop_eq_getElem_cons hlt]
      simp only [Option.bind_some]
      have hin := qhv (F := F) (rec38 := qM F g k) (m := (m : Int)) (i := (i : Int)) (l := g[i]) hg F 0 (-1) (by omega) (by omega) (by omega) (by omega)
      rw [List.drop_zero, show ((0 : Nat) : Int) = 0 from rfl] at hin
      rw [hin]
      unfold gE gtot
      by_cases hr : rowE g.length (-1) g[i] = 0
      · have hlen := qgT (by omega) (by omega) hr
        have e : (if rowE (g.length : Int) (-1) g[i] ≠ 0 then rowE (g.length : Int) (-1) g[i] else gE (g.length : Int) (g.drop (i + 1))) = gE (g.length : Int) (g.drop (i + 1)) := if_neg (by simp [hr])
        rw [if_neg (show ¬ rowE (g.length : Int) (-1) g[i] ≠ 0 by simp [hr]), e]
        unfold vC jW
        rw [j4 (by omega), qN (by omega), qfI hF hg k (i + 1) (m + g[i].length) (by omega) (by omega) (by omega), Nat.add_assoc]
      · rw [if_pos (by simpa using hr)]
        have e : (if rowE (g.length : Int) (-1) g[i] ≠ 0 then rowE (g.length : Int) (-1) g[i] else gE (g.length : Int) (g.drop (i + 1))) = rowE (g.length : Int) (-1) g[i] := if_pos hr
        rw [e, if_pos hr]
    · rw [if_neg (by simp; omega), List.drop_eq_nil_of_le (by omega)]
      unfold jV
      rw [if_neg (show ¬ gE (g.length : Int) [] ≠ 0 by simp [gE])]
      by_cases h6 : 600 < m
      · rw [if_pos (by simp; omega), if_pos (by simpa [gtot] using h6)]
      · rw [if_neg (by simp; omega), if_neg (by simpa [gtot] using h6)]
theorem qfx {F : Nat} (hF : 1000 ≤ F) {g : List (List Int)} : qaA F g = some (gchk g) := by
  unfold qaA gchk
  by_cases h : 100 < g.length
  · rw [if_pos (by simp; omega), if_pos h]
  · have := qfI hF (g := g) (by omega) F 0 0 (by omega) (by omega) (by omega)
    rw [List.drop_zero, Nat.zero_add, show ((0 : Nat) : Int) = 0 from rfl] at this
    rw [if_neg (by simp; omega), if_neg h, this]
    split
    · rfl
    · split <;> rfl
def pkH (B : Int) (r : Nat) : List Int := if 0 < B then ga r else []
def pkF (g : List (List Int)) (i r : Nat) : List Int := if 0 < r then g.getD (i - r) [] else []
def pkW (g : List (List Int)) (B least : Int) (k i r : Nat) : List Int := pkH B r ++ enc (i : Int) (g.getD i []) (pkF g i r) (r : Int) least k
def bwy (f : Nat → List Int) : Nat → Nat × List Int
  | 0 => (0, f 0)
  | n + 1 => if (f (n + 1)).length < (bwy f n).2.length then (n + 1, f (n + 1)) else bwy f n
theorem qkF (f : Nat → List Int) : ∀ n : Nat, (bwy f n).1 ≤ n ∧ (bwy f n).2 = f (bwy f n).1
  | 0 => ⟨Nat.le_refl _, rfl⟩
  | n + 1 => by
    have := qkF f n
    unfold bwy
    split
    · exact ⟨Nat.le_refl _, rfl⟩
    · exact ⟨by omega, this.2⟩
theorem qgw (f : Nat → List Int) : ∀ {n r : Nat}, r ≤ n → (bwy f n).2.length ≤ (f r).length
  | 0, r, h => by
    have : r = 0 := by omega
    subst this; exact Nat.le_refl _
  | n + 1, r, h => by
    unfold bwy
    by_cases hr : r = n + 1
    · subst hr
      split
      · exact Nat.le_refl _
      · omega
    · have := qgw f (n := n) (r := r) (by omega)
      split
      · simp only; omega
      · exact this
theorem qfH (f : Nat → List Int) : ∀ {n r : Nat}, r < (bwy f n).1 → (bwy f n).2.length < (f r).length
  | 0, r, h => by simp [bwy] at h
  | n + 1, r, h => by
    unfold bwy at h ⊢
    split at h
    · rename_i hc
      rw [if_pos hc]
      simp only at h ⊢
      have := qgw f (n := n) (r := r) (by omega)
      omega
    · rename_i hc
      rw [if_neg hc]
      exact qfH f h
def pkN (g : List (List Int)) (B least : Int) (k i : Nat) : Nat × List Int := bwy (pkW g B least k i) (min B.toNat i)
def pkA (g : List (List Int)) (B least : Int) (k : Nat) : Nat → List Int × List Int × List Int
  | 0 => ([], [], [])
  | n + 1 => ((pkA g B least k n).1 ++ (pkN g B least k n).2, (pkA g B least k n).2.1 ++ [((pkN g B least k n).1 : Int)], (pkA g B least k n).2.2 ++ [((pkA g B least k n).1.length : Int)])
def pkE (g : List (List Int)) (B least k : Int) : Int := if gchk g ≠ 0 then gchk g else if hcE B least k ≠ 0 then hcE B least k else if 8192 < (pkA g B least k.toNat g.length).1.length then 8 else 0
theorem qeO {g : List (List Int)} {B least k : Int} (h : pkE g B least k = 0) : gchk g = 0 ∧ hcE B least k = 0 ∧ (pkA g B least k.toNat g.length).1.length ≤ 8192 := by
  unfold pkE at h
  by_cases h1 : gchk g = 0
  · rw [if_neg (by simp [h1])] at h
    by_cases h2 : hcE B least k = 0
    · rw [if_neg (by simp [h2])] at h
      by_cases h3 : 8192 < (pkA g B least k.toNat g.length).1.length
      · rw [if_pos h3] at h; simp at h
      · exact ⟨h1, h2, by omega⟩
    · rw [if_pos h2] at h; exact absurd h h2
  · rw [if_pos h1] at h; exact absurd h h1
theorem qod {g : List (List Int)} {B least k : Int} (h1 : gchk g = 0) (h2 : hcE B least k = 0) (h3 : (pkA g B least k.toNat g.length).1.length ≤ 8192) : pkE g B least k = 0 := by
  unfold pkE
  rw [if_neg (by simp [h1]), if_neg (by simp [h2]), if_neg (by omega)]
theorem qeh {g : List (List Int)} {B least : Int} {k : Nat} : ∀ {n i : Nat}, i ≤ n → ∃ R, (pkA g B least k n).1 = (pkA g B least k i).1 ++ R
  | 0, i, h => by
    have : i = 0 := by omega
    subst this; exact ⟨[], by simp⟩
  | n + 1, i, h => by
    by_cases hi : i = n + 1
    · subst hi; exact ⟨[], by simp⟩
    · obtain ⟨R, hR⟩ := qeh (g := g) (B := B) (least := least) (k := k) (n := n) (i := i) (by omega)
      exact ⟨R ++ (pkN g B least k n).2, by rw [pkA, hR]; simp⟩
theorem qcp {g : List (List Int)} {B least : Int} {k : Nat} : ∀ n : Nat, (pkA g B least k n).2.1.length = n ∧ (pkA g B least k n).2.2.length = n
  | 0 => ⟨rfl, rfl⟩
  | n + 1 => by
    have := qcp (g := g) (B := B) (least := least) (k := k) n
    simp only [pkA, List.length_append, List.length_singleton]
    omega
theorem qeN {g : List (List Int)} {B least : Int} {k n i : Nat} (h : i ≤ n) : (pkA g B least k i).1.length ≤ (pkA g B least k n).1.length := by
  obtain ⟨R, hR⟩ := qeh (g := g) (B := B) (least := least) (k := k) h
  rw [hR, List.length_append]; omega
theorem qeP {g : List (List Int)} {B least : Int} {k i : Nat} : (pkN g B least k i).1 ≤ min B.toNat i ∧ (pkN g B least k i).2 = pkW g B least k i (pkN g B least k i).1 := qkF _ _
theorem qll {g : List (List Int)} {B least : Int} {k n i : Nat} (h : i < n) : ∃ R, (pkA g B least k n).1 = (pkA g B least k i).1 ++ ((pkH B (pkN g B least k i).1 ++ enc (i : Int) (g.getD i []) (pkF g i (pkN g B least k i).1) ((pkN g B least k i).1 : Int) least k) ++ R) := by
  obtain ⟨R, hR⟩ := qeh (g := g) (B := B) (least := least) (k := k) (n := n) (i := i + 1) h
  refine ⟨R, ?_⟩
  rw [hR, pkA]
  have := (qeP (g := g) (B := B) (least := least) (k := k) (i := i)).2
  unfold pkW at this
  rw [this]
  simp only [List.append_assoc]
theorem qn5 {g : List (List Int)} (h : Gr g) {l : List Int} (hl : l ∈ g) : gkc l = 0 := by
  have h1 := h.2.1 l hl
  have h2 := qkZ h hl
  have h3 := h.1
  refine kz.2 ⟨by omega, qgR h1.1 (fun z hz => ?_) fun z hz => ?_⟩
  · have := h1.2 z hz; omega
  · have := h1.2 z hz; unfold Nd; omega
theorem qeD {g : List (List Int)} (h : Gr g) (i : Nat) : gkc (g.getD i []) = 0 := by
  by_cases hi : i < g.length
  · rw [List.getD_eq_getElem?_getD, List.getElem?_eq_getElem hi]
    exact qn5 h (List.getElem_mem hi)
  · rw [List.getD_eq_getElem?_getD, List.getElem?_eq_none (by omega)]
    decide
theorem qgN {g : List (List Int)} (h : Gr g) (i r : Nat) : gkc (pkF g i r) = 0 := by
  unfold pkF
  split
  · exact qeD h _
  · decide
def pkO (l : List Int) (B : Int) (node p : Nat) : Option (Int × Nat) := if B = 0 then some (0, p) else rgam l p (min B (node : Int))
def pkR (l : List Int) (B least : Int) (k : Nat) : Nat → List (List Int) → Nat → Option (List (List Int) × Nat)
  | 0, out, p => some (out, p)
  | m + 1, out, p => (pkO l B out.length p).bind fun o => (rdl l o.2 (out.length : Int) (pkF out out.length o.1.toNat) o.1 least k).bind fun r => pkR l B least k m (out ++ [r.1]) r.2
theorem qiY {g : List (List Int)} {i : Nat} (h : i < g.length) : g.take i ++ [g.getD i []] = g.take (i + 1) := by
  rw [List.take_add_one, List.getD_eq_getElem?_getD, List.getElem?_eq_getElem h]
  rfl
theorem qlm {g : List (List Int)} {i r : Nat} (h : r ≤ i) (_hi : i ≤ g.length) : pkF (g.take i) i r = pkF g i r := by
  unfold pkF
  split
  · rw [List.getD_eq_getElem?_getD, List.getD_eq_getElem?_getD, List.getElem?_take, if_pos (by omega)]
  · rfl
theorem qju {g : List (List Int)} (hg : Gr g) {B least : Int} {k : Nat} (hh : hcE B least (k : Int) = 0) (hl : (pkA g B least k g.length).1.length ≤ 8192) (T : List Int) : ∀ (m i : Nat), i + m = g.length →
    pkR ((pkA g B least k g.length).1 ++ T) B least k m (g.take i) (pkA g B least k i).1.length = some (g, (pkA g B least k g.length).1.length)
  | 0, i, h => by
    have : i = g.length := by omega
    subst this
    simp [pkR]
  | m + 1, i, h => by
    have hi : i < g.length := by omega
    obtain ⟨k1, k2, k', hk, k3, k4⟩ := qba hh
    have hkk : k = k' := by omega
    subst hkk
    obtain ⟨hr, _⟩ := qeP (g := g) (B := B) (least := least) (k := k) (i := i)
    have hgl := hg.1
    have hti : (g.take i).length = i := by rw [List.length_take]; omega
    obtain ⟨R, hR⟩ := qll (g := g) (B := B) (least := least) (k := k) hi
    have hnext := qju hg hh hl T m (i + 1) (by omega)
    have hA : (pkA g B least k (i + 1)).1.length = (pkA g B least k i).1.length + (pkH B (pkN g B least k i).1).length + (enc (i : Int) (g.getD i []) (pkF g i (pkN g B least k i).1) ((pkN g B least k i).1 : Int) least k).length := by
      have := (qeP (g := g) (B := B) (least := least) (k := k) (i := i)).2
      rw [pkA, this]
      unfold pkW
      simp only [List.length_append]; omega
    have hO : pkO ((pkA g B least k g.length).1 ++ T) B i (pkA g B least k i).1.length = some (((pkN g B least k i).1 : Int), (pkA g B least k i).1.length + (pkH B (pkN g B least k i).1).length) := by
      unfold pkO pkH
      by_cases hB : B = 0
      · have : (pkN g B least k i).1 = 0 := by rw [hB] at hr ⊢; simp at hr; exact hr
        rw [if_pos hB, this, if_neg (by omega)]
        simp
      · rw [if_neg hB, if_pos (by omega)]
        rw [hR]
        unfold pkH
        rw [if_pos (by omega)]
        simp only [List.append_assoc]
        exact qdw (by omega) (by omega) _ _
    unfold pkR
    rw [hti, hO]
    simp only [Option.bind_some, Int.toNat_natCast]
    rw [qlm (by omega) (by omega)]
    have hE : (enc (i : Int) (g.getD i []) (pkF g i (pkN g B least k i).1) ((pkN g B least k i).1 : Int) least k).length ≤ 8192 := by
      have := qeN (g := g) (B := B) (least := least) (k := k) (show i + 1 ≤ g.length from hi)
      omega
    have hD := qjC (k := k) k3 k4 (node := (i : Int)) (back := ((pkN g B least k i).1 : Int)) (least := least) (x := g.getD i []) (fr := pkF g i (pkN g B least k i).1) (by unfold Nd; omega) k2 (qeD hg i) (fun _ => qgN hg _ _) ((pkA g B least k i).1 ++ pkH B (pkN g B least k i).1) (R ++ T) hE
    rw [hR]
    simp only [List.append_assoc, List.length_append] at hD ⊢
    rw [hD]
    simp only [Option.bind_some]
    rw [qiY hi]
    rw [hR] at hnext
    simp only [List.append_assoc, List.length_append] at hnext
    rw [← hnext, hA]
theorem qk1 {B least k : Int} {r : Nat} (h : hcE B least k = 0) (hr : (r : Int) ≤ B) : hcE (r : Int) least k = 0 := by
  unfold hcE at h ⊢
  by_cases hb : hcB B least k
  · rw [if_pos hb] at h; simp at h
  · rw [if_neg (by unfold hcB at hb ⊢; omega)]
theorem qjS {F : Nat} (hF : 2000000 ≤ F) {A : List (List Int)} {x fr H : List Int} {r i k : Nat} {least : Int} (hA : A.length = i) (hi : i ≤ 100) (hx : gkc x = 0) (hfr : gkc fr = 0) (hh : hcE (r : Int) least (k : Int) = 0) (hH : Bit H) (hHl : H.length ≤ 100) :
    vY F A x (r : Int) least (k : Int) (H.length : Int) (pk H) fr = some (if (H ++ enc (i : Int) x fr (r : Int) least k).length ≤ 8192 then ((r : Int), ((H ++ enc (i : Int) x fr (r : Int) least k).length : Int), pk (H ++ enc (i : Int) x fr (r : Int) least k), true) else (0, 0, [], false)) := by
  unfold vY
  rw [qcB hF, hA]
  simp only [Option.bind_some]
  have hE : swE (i : Int) x fr (r : Int) least (k : Int) = 0 := qiM hh (by unfold Nd; omega) hx (fun _ => hfr)
  rw [List.length_append]
  by_cases h1 : (enc (i : Int) x fr (r : Int) least k).length ≤ 8192
  · have hs := qlR hE (by rw [Int.toNat_natCast]; exact h1)
    rw [Int.toNat_natCast] at hs
    rw [hs]
    simp only
    rw [qC (by omega) (by omega)]
    by_cases h2 : H.length + (enc (i : Int) x fr (r : Int) least k).length ≤ 8192
    · rw [if_neg (by simp; omega), if_pos h2, qgu (by omega) (qce hH) (qce qef) (qcL (by omega)) (qcL h1), qbI hH, qbI qef]
      rfl
    · rw [if_pos (by simp; omega), if_neg h2]
  · have hs : sw (i : Int) x fr (r : Int) least (k : Int) = (0, [], 8) := by
      unfold sw
      rw [if_neg (by simp [hE]), Int.toNat_natCast, if_pos (by omega)]
    rw [hs, if_pos (by simp), if_neg (by omega)]
theorem qnD {F : Nat} (hF : 2000000 ≤ F) {g : List (List Int)} (hg : Gr g) {B least : Int} {k i r : Nat} (hh : hcE B least (k : Int) = 0) (hi : i ≤ g.length) (hr : r ≤ min B.toNat i) :
    qbm F (g.take i) (g.getD i []) (r : Int) B least (k : Int) = some (if (pkW g B least k i r).length ≤ 8192 then ((r : Int), ((pkW g B least k i r).length : Int), pk (pkW g B least k i r), true) else (0, 0, [], false)) := by
  have hgl := hg.1
  have hti : (g.take i).length = i := by rw [List.length_take]; omega
  obtain ⟨k1, -, -⟩ := qba hh
  have hh' : hcE (r : Int) least (k : Int) = 0 := qk1 hh (by omega)
  have hj : ∀ H : List Int, Bit H → H.length ≤ 100 → vX F (g.take i) (g.getD i []) (r : Int) least (k : Int) (H.length : Int) (pk H) = some (if (H ++ enc (i : Int) (g.getD i []) (pkF g i r) (r : Int) least k).length ≤ 8192 then ((r : Int), ((H ++ enc (i : Int) (g.getD i []) (pkF g i r) (r : Int) least k).length : Int), pk (H ++ enc (i : Int) (g.getD i []) (pkF g i r) (r : Int) least k), true) else (0, 0, [], false)) := by
    intro H hH hHl
    unfold vX
    by_cases h0 : 0 < r
    · rw [if_pos (by simpa using h0), hti, q7 (by omega) (by omega), show ((i : Int) - (r : Int)) = ((i - r : Nat) : Int) from by omega, qQ, List.getElem?_take, if_pos (by omega), List.getElem?_eq_getElem (show i - r < g.length by omega)]
      simp only [Option.bind_some]
      have e : g[i - r]'(by omega) = pkF g i r := by
        unfold pkF
        rw [if_pos h0, List.getD_eq_getElem?_getD, List.getElem?_eq_getElem (show i - r < g.length by omega)]
        rfl
      rw [e]
      exact qjS hF hti (by omega) (qeD hg i) (qgN hg i r) hh' hH hHl
    · rw [if_neg (by simpa using h0)]
      have e : pkF g i r = [] := by unfold pkF; rw [if_neg h0]
      rw [e]
      exact qjS hF hti (by omega) (qeD hg i) (by decide) hh' hH hHl
  unfold qbm pkW pkH
  by_cases hB : 0 < B
  · have hga := qkS (n := r) (by omega)
    rw [if_pos (by simpa using hB), if_pos hB, kK (by omega), qd7 (by omega) (by omega)]
    simp only [Option.bind_some]
    exact hj (ga r) (qbZ r) (by omega)
  · rw [if_neg (by simpa using hB), if_neg hB]
    exact hj [] (by intro z hz; simp at hz) (by simp)
def bst (f : Nat → List Int) (j : Nat) : Bool × Int × Int × List Int := if j = 0 then (false, 0, 0, []) else if (bwy f (j - 1)).2.length ≤ 8192 then (true, ((bwy f (j - 1)).1 : Int), ((bwy f (j - 1)).2.length : Int), pk (bwy f (j - 1)).2) else (false, 0, 0, [])
theorem qkC {F : Nat} (hF : 2000000 ≤ F) {g : List (List Int)} (hg : Gr g) {B least : Int} {k i : Nat} (hh : hcE B least (k : Int) = 0) (hi : i ≤ g.length) : ∀ (n j : Nat), min B.toNat i + 1 < n + j → j ≤ min B.toNat i + 1 →
    zu F (g.take i) (g.getD i []) B least (k : Int) n ((bst (pkW g B least k i) j).1, (j : Int), (bst (pkW g B least k i) j).2.1, (bst (pkW g B least k i) j).2.2.1, (bst (pkW g B least k i) j).2.2.2) = some (if (pkN g B least k i).2.length ≤ 8192 then (((pkN g B least k i).1 : Int), ((pkN g B least k i).2.length : Int), pk (pkN g B least k i).2, true) else (0, 0, [], false))
  | 0, _, _, _ => by omega
  | n + 1, j, h, hj => by
    have hgl := hg.1
    have hti : (g.take i).length = i := by rw [List.length_take]; omega
    obtain ⟨k1, -, -⟩ := qba hh
    show jG F (g.take i) (g.getD i []) B least (k : Int) (zu F (g.take i) (g.getD i []) B least (k : Int) n) (bst (pkW g B least k i) j).1 (j : Int) (bst (pkW g B least k i) j).2.1 (bst (pkW g B least k i) j).2.2.1 (bst (pkW g B least k i) j).2.2.2 = _
    unfold jG
    have hmin : imin B ((g.take i).length : Int) = ((min B.toNat i : Nat) : Int) := by
      rw [hti]; unfold imin; split <;> omega
    rw [hmin, qC (by omega) (by omega)]
    by_cases hlt : j < min B.toNat i + 1
    · rw [if_pos (by simp; omega), qnD hF hg hh hi (by omega)]
      simp only [Option.bind_some]
      have hrec := qkC hF hg hh hi n (j + 1) (by omega) (by omega)
      have hnew : (pkW g B least k i j).length ≤ 8192 → bwy (pkW g B least k i) j = (j, pkW g B least k i j) → kB F (zu F (g.take i) (g.getD i []) B least (k : Int) n) (j : Int) true (j : Int) ((pkW g B least k i j).length : Int) (pk (pkW g B least k i j)) = some (if (pkN g B least k i).2.length ≤ 8192 then (((pkN g B least k i).1 : Int), ((pkN g B least k i).2.length : Int), pk (pkN g B least k i).2, true) else (0, 0, [], false)) := by
        intro h1 h2
        unfold kB
        rw [qN (by omega), ← hrec]
        unfold bst
        rw [if_neg (by omega), Nat.add_sub_cancel, h2, if_pos h1]
      have hold : bst (pkW g B least k i) (j + 1) = bst (pkW g B least k i) j → kB F (zu F (g.take i) (g.getD i []) B least (k : Int) n) (j : Int) (bst (pkW g B least k i) j).1 (bst (pkW g B least k i) j).2.1 (bst (pkW g B least k i) j).2.2.1 (bst (pkW g B least k i) j).2.2.2 = some (if (pkN g B least k i).2.length ≤ 8192 then (((pkN g B least k i).1 : Int), ((pkN g B least k i).2.length : Int), pk (pkN g B least k i).2, true) else (0, 0, [], false)) := by
        intro h1
        unfold kB
        rw [qN (by omega), ← hrec, h1]
      unfold jH
      by_cases hl : (pkW g B least k i j).length ≤ 8192
      · rw [if_pos hl]
        simp only [if_true]
        by_cases h0 : j = 0
        · subst h0
          rw [if_pos (by simp [bst])]
          exact hnew hl rfl
        · obtain ⟨q, rfl⟩ : ∃ q, j = q + 1 := ⟨j - 1, by omega⟩
          by_cases hb : (bwy (pkW g B least k i) q).2.length ≤ 8192
          · have e : bst (pkW g B least k i) (q + 1) = (true, ((bwy (pkW g B least k i) q).1 : Int), ((bwy (pkW g B least k i) q).2.length : Int), pk (bwy (pkW g B least k i) q).2) := by
              unfold bst
              rw [if_neg (by omega), Nat.add_sub_cancel, if_pos hb]
            by_cases hc : (pkW g B least k i (q + 1)).length < (bwy (pkW g B least k i) q).2.length
            · rw [if_pos (by rw [e]; simp; omega)]
              exact hnew hl (by rw [bwy, if_pos hc])
            · rw [if_neg (by rw [e]; simp; omega)]
              refine hold ?_
              rw [e]
              unfold bst
              rw [if_neg (by omega), Nat.add_sub_cancel, bwy, if_neg hc, if_pos hb]
          · have e : bst (pkW g B least k i) (q + 1) = (false, 0, 0, []) := by
              unfold bst
              rw [if_neg (by omega), Nat.add_sub_cancel, if_neg hb]
            rw [if_pos (by rw [e]; simp)]
            exact hnew hl (by rw [bwy, if_pos (by omega)])
      · rw [if_neg hl]
        simp only [Bool.false_eq_true, if_false]
        refine hold ?_
        unfold bst
        rw [if_neg (by omega), Nat.add_sub_cancel]
        by_cases h0 : j = 0
        · subst h0
          rw [if_pos rfl, bwy, if_neg hl]
        · obtain ⟨q, rfl⟩ : ∃ q, j = q + 1 := ⟨j - 1, by omega⟩
          rw [if_neg (show ¬ q + 1 = 0 by omega), Nat.add_sub_cancel, bwy]
          by_cases hc : (pkW g B least k i (q + 1)).length < (bwy (pkW g B least k i) q).2.length
          · rw [if_pos hc, if_neg hl, if_neg (by omega)]
          · rw [if_neg hc]
    · rw [if_neg (by simp; omega)]
      have : j = min B.toNat i + 1 := by omega
      subst this
      unfold qa5 bst pkN
      rw [if_neg (by omega), Nat.add_sub_cancel]
      split <;> rfl
theorem qmr {F : Nat} (hF : 2000000 ≤ F) {g : List (List Int)} (hg : Gr g) {B least : Int} {k i : Nat} (hh : hcE B least (k : Int) = 0) (hi : i ≤ g.length) :
    qbl F (g.take i) (g.getD i []) B least (k : Int) = some (if (pkN g B least k i).2.length ≤ 8192 then (((pkN g B least k i).1 : Int), ((pkN g B least k i).2.length : Int), pk (pkN g B least k i).2, true) else (0, 0, [], false)) := by
  have hgl := hg.1
  have := qkC hF hg hh hi F 0 (by omega) (Nat.zero_le _)
  exact this
theorem qmW {g : List (List Int)} {B least : Int} {k i r : Nat} : Bit (pkW g B least k i r) := by
  unfold pkW pkH
  refine yr ?_ qef
  split
  · exact qbZ r
  · intro z hz; simp at hz
theorem qgO {g : List (List Int)} {B least : Int} {k i : Nat} : Bit (pkN g B least k i).2 := by
  rw [qeP.2]; exact qmW
theorem qb6 {g : List (List Int)} {B least : Int} {k : Nat} : ∀ n : Nat, Bit (pkA g B least k n).1
  | 0 => by intro z hz; simp [pkA] at hz
  | n + 1 => by unfold pkA; exact yr (qb6 n) qgO
theorem qdo {g : List (List Int)} {i : Nat} (h : i < g.length) : idx g (i : Int) = some (g.getD i []) := by
  rw [qQ, List.getD_eq_getElem?_getD, List.getElem?_eq_getElem h]
  rfl
theorem qjx {F : Nat} (hF : 2000000 ≤ F) {g : List (List Int)} (hg : Gr g) {N B least : Int} {k : Nat} (hh : hcE B least (k : Int) = 0) : ∀ (j i : Nat), g.length < j + i → i ≤ g.length → (pkA g B least k i).1.length ≤ 8192 →
    ∃ z, qq F N B least (k : Int) g j ((i : Int), ((pkA g B least k i).1.length : Int), pk (pkA g B least k i).1, (pkA g B least k i).2.1, (pkA g B least k i).2.2) = some z ∧ z.1 = decide ((pkA g B least k g.length).1.length ≤ 8192) ∧
      (z.1 = true → z = (true, N, B, least, (k : Int), ((pkA g B least k g.length).1.length : Int), pk (pkA g B least k g.length).1, (pkA g B least k g.length).2.1, (pkA g B least k g.length).2.2))
  | 0, _, _, _, _ => by omega
  | j + 1, i, h, hi, hA => by
    have hgl := hg.1
    show ∃ z, kG F N B least (k : Int) g (qq F N B least (k : Int) g j) (i : Int) ((pkA g B least k i).1.length : Int) (pk (pkA g B least k i).1) (pkA g B least k i).2.1 (pkA g B least k i).2.2 = some z ∧ _
    unfold kG
    by_cases hlt : i < g.length
    · have e0 : sub g 0 (i : Int) = some (g.take i) := by
        have := qjQ (l := g) (i := 0) (j := i) (by omega) hi
        simpa using this
      have hstep : (pkA g B least k (i + 1)).1.length = (pkA g B least k i).1.length + (pkN g B least k i).2.length := by rw [pkA, List.length_append]
      have hmono := qeN (g := g) (B := B) (least := least) (k := k) (show i + 1 ≤ g.length from hlt)
      rw [if_pos (by simp; omega), qdo hlt, e0]
      simp only [Option.bind_some]
      rw [qmr hF hg hh hi]
      simp only [Option.bind_some]
      unfold kH
      by_cases h1 : (pkN g B least k i).2.length ≤ 8192
      · rw [if_pos h1]
        simp only [Bool.not_true, Bool.false_eq_true, if_false]
        rw [qC (by omega) (by omega)]
        unfold zH
        by_cases h2 : (pkA g B least k i).1.length + (pkN g B least k i).2.length ≤ 8192
        · rw [if_neg (by simp; omega)]
          have hl := qcp (g := g) (B := B) (least := least) (k := k) i
          rw [yx (by rw [hl.1]; simp; omega)]
          simp only [Option.bind_some]
          rw [yx (by rw [hl.2]; simp; omega)]
          simp only [Option.bind_some]
          unfold zI
          rw [qgu (by omega) (qce (qb6 i)) (qce qgO) (qcL hA) (qcL h1), qbI (qb6 i), qbI qgO]
          simp only [Option.bind_some]
          have := qjx hF hg (N := N) hh j (i + 1) (by omega) (by omega) (by omega)
          rw [qN (by omega), ← hstep]
          exact this
        · rw [if_pos (by simp; omega)]
          exact ⟨_, rfl, by simp only; rw [decide_eq_false (by omega)], fun h => by simp at h⟩
      · rw [if_neg h1]
        simp only [Bool.not_false, if_true]
        unfold zH
        rw [if_pos rfl]
        exact ⟨_, rfl, by simp only; rw [decide_eq_false (by omega)], fun h => by simp at h⟩
    · rw [if_neg (by simp; omega)]
      have : i = g.length := by omega
      subst this
      unfold yR
      exact ⟨_, rfl, by simp only; rw [decide_eq_true hA], fun _ => rfl⟩
theorem qfS {F : Nat} (hF : 2000000 ≤ F) {g : List (List Int)} {B least k : Int} :
    ∃ z1 z2 z3 z4 z5 z6 z7 z8, jv F g B least k = some (z1, z2, z3, z4, z5, z6, z7, z8, pkE g B least k) ∧
      (pkE g B least k = 0 → (z1, z2, z3, z4, z5, z6, z7, z8) = ((g.length : Int), B, least, k, ((pkA g B least k.toNat g.length).1.length : Int), pk (pkA g B least k.toNat g.length).1, (pkA g B least k.toNat g.length).2.1, (pkA g B least k.toNat g.length).2.2)) := by
  unfold jv
  rw [qfx (by omega)]
  simp only [Option.bind_some]
  by_cases h1 : gchk g = 0
  · rw [if_pos (by simpa using h1), qbM]
    simp only [Option.bind_some]
    unfold yF
    by_cases h2 : hcE B least k = 0
    · rw [if_pos (by simpa using h2)]
      obtain ⟨_, _, k', rfl, _, _⟩ := qba h2
      have hg := qeg.1 h1
      have hgl := hg.1
      obtain ⟨z, hz, hz1, hz2⟩ := qjx hF hg (N := (g.length : Int)) h2 F 0 (by omega) (Nat.zero_le _) (by simp [pkA])
      have hz' : jO F (g.length : Int) B least (k' : Int) 0 [] [] [] g = some z := by
        have e : pk ([] : List Int) = [] := by simp [pk]
        simp only [pkA, List.length_nil, e] at hz
        exact hz
      rw [hz']
      simp only [Option.bind_some]
      unfold kO kN
      rw [Int.toNat_natCast]
      by_cases h3 : (pkA g B least k' g.length).1.length ≤ 8192
      · rw [decide_eq_true h3] at hz1
        have := hz2 hz1
        have hE : pkE g B least (k' : Int) = 0 := qod h1 h2 (by rw [Int.toNat_natCast]; exact h3)
        rw [hE, h2]
        subst this
        exact ⟨_, _, _, _, _, _, _, _, rfl, fun _ => rfl⟩
      · rw [decide_eq_false h3] at hz1
        have hE : pkE g B least (k' : Int) = 8 := by
          unfold pkE
          rw [if_neg (by simp [h1]), if_neg (by simp [h2]), if_pos (by rw [Int.toNat_natCast]; omega)]
        rw [hE, hz1]
        exact ⟨_, _, _, _, _, _, _, _, rfl, fun h => by simp at h⟩
    · have hE : pkE g B least k = hcE B least k := by
        unfold pkE
        rw [if_neg (by simp [h1]), if_pos h2]
      rw [if_neg (by simpa using h2), hE]
      unfold kO kN
      exact ⟨_, _, _, _, _, _, _, _, rfl, fun h => absurd h h2⟩
  · have hE : pkE g B least k = gchk g := by
      unfold pkE
      rw [if_pos h1]
    rw [if_neg (by simpa using h1), hE]
    unfold yF kO kN
    rw [if_neg (by simpa using h1)]
    exact ⟨_, _, _, _, _, _, _, _, rfl, fun h => absurd h h1⟩
def pwr (g : List (List Int)) (B least k : Int) : Int × Int × Int × Int × Int × List Int × Int :=
  if pkE g B least k ≠ 0 then (0, 0, 0, 0, 0, [], pkE g B least k) else ((g.length : Int), B, least, k, ((pkA g B least k.toNat g.length).1.length : Int), pk (pkA g B least k.toNat g.length).1, 0)
def ptl (g : List (List Int)) (B least k : Int) : List Int × List Int × Int :=
  if pkE g B least k ≠ 0 then ([], [], pkE g B least k) else ((pkA g B least k.toNat g.length).2.1, (pkA g B least k.toNat g.length).2.2, 0)
theorem qdT {F : Nat} (hF : 2000000 ≤ F) {g : List (List Int)} {B least k : Int} : yl F g B least k = some (pwr g B least k) := by
  obtain ⟨z1, z2, z3, z4, z5, z6, z7, z8, hz, hz2⟩ := qfS hF (g := g) (B := B) (least := least) (k := k)
  unfold yl pwr
  rw [hz]
  simp only [Option.bind_some]
  by_cases h : pkE g B least k = 0
  · rw [if_neg (by simp [h]), if_neg (by simp [h])]
    have := hz2 h
    simp only [Prod.mk.injEq] at this
    obtain ⟨rfl, rfl, rfl, rfl, rfl, rfl, -, -⟩ := this
    rfl
  · rw [if_pos (by simpa using h), if_pos h]
theorem qhO {F : Nat} (hF : 2000000 ≤ F) {g : List (List Int)} {B least k : Int} : qaI F g B least k = some (ptl g B least k) := by
  obtain ⟨z1, z2, z3, z4, z5, z6, z7, z8, hz, hz2⟩ := qfS hF (g := g) (B := B) (least := least) (k := k)
  unfold qaI ptl
  rw [hz]
  simp only [Option.bind_some]
  by_cases h : pkE g B least k = 0
  · rw [if_neg (by simp [h]), if_neg (by simp [h])]
    have := hz2 h
    simp only [Prod.mk.injEq] at this
    obtain ⟨-, -, -, -, -, -, rfl, rfl⟩ := this
    rfl
  · rw [if_pos (by simpa using h), if_pos h]
theorem qlj {F : Nat} {xs ys : List Int} (he : xs.length = ys.length) (hm : xs.length ≤ 1000000) : ∀ (k i : Nat), xs.length < k + i → i ≤ xs.length → qV F xs ys k (i : Int) = some (decide (xs.drop i = ys.drop i))
  | 0, _, _, _ => by omega
  | k + 1, i, h, hi => by
    show zF F xs ys (qV F xs ys k) (i : Int) = _
    unfold zF
    by_cases hlt : i < xs.length
    · have hlt' : i < ys.length := by omega
      rw [if_pos (by simp; omega), qQ, List.getElem?_eq_getElem hlt, qQ, List.getElem?_eq_getElem hlt']
      simp only [Option.bind_some]
      rw [List.drop_eq_getElem_cons hlt, List.drop_eq_getElem_cons hlt']
      by_cases hc : xs[i] = ys[i]
      · rw [if_neg (by simp [hc]), qN (by omega), qlj he hm k (i + 1) (by omega) (by omega)]
        congr 1
        rw [decide_eq_decide, List.cons.injEq]
        exact ⟨fun h => ⟨hc, h⟩, fun h => h.2⟩
      · rw [if_pos (by simpa using hc), decide_eq_false (fun e => hc (List.cons.inj e).1)]
    · rw [if_neg (by simp; omega), List.drop_eq_nil_of_le (by omega), List.drop_eq_nil_of_le (by omega)]
      rfl
theorem peqb {F : Nat} {xs ys : List Int} (hF : xs.length < F) (hm : xs.length ≤ 1000000) : kg F xs ys = some (decide (xs = ys)) := by
  unfold kg
  by_cases h : xs.length = ys.length
  · rw [if_neg (by simp [h])]
    have := qlj (F := F) h hm F 0 (by omega) (Nat.zero_le _)
    rw [List.drop_zero, List.drop_zero] at this
    exact this
  · rw [if_pos (by simp; omega), decide_eq_false (fun e => h (by rw [e]))]
theorem qkf {l : List Int} {p : Nat} {most : Int} (h : rgam l p most = none) : (fg l p).2.2 ≠ 0 ∨ most < (fg l p).1 := by
  unfold rgam at h
  by_cases h1 : (fg l p).2.2 = 0
  · right
    by_cases h2 : (fg l p).1 ≤ most
    · rw [if_pos ⟨h1, h2⟩] at h; simp at h
    · omega
  · left; exact h1
theorem qm3 {l : List Int} {p : Nat} {most : Int} {x : Int × Nat} (h : rgam l p most = some x) : fg l p = (x.1, (x.2 : Int), 0) ∧ x.1 ≤ most := by
  unfold rgam at h
  split at h
  · rename_i hc
    simp only [Option.some.injEq] at h
    rw [← h]
    have h3 : 0 ≤ (fg l p).2.1 := by
      rcases qkN (l := l) (a := p) with h1 | ⟨n, q, h1, h2, h3⟩
      · exact absurd hc.1 h1
      · rw [h1]; simp
    refine ⟨?_, hc.2⟩
    simp only
    rw [Int.toNat_of_nonneg h3, ← hc.1]
  · simp at h
theorem qoe {l : List Int} {B : Int} (_hB : 0 ≤ B) {node p : Nat} (hp : p ≤ l.length) {o : Int × Nat} (h : pkO l B node p = some o) : 0 ≤ o.1 ∧ o.1 ≤ min B (node : Int) ∧ o.2 ≤ l.length := by
  unfold pkO at h
  split at h
  · simp only [Option.some.injEq] at h
    subst h
    simp only
    omega
  · have := yY h
    omega
theorem qmX {F : Nat} (hF : 20000 ≤ F) {l : List Int} (hl : Bit l) (hm : l.length ≤ 8192) {N B least k : Int} (hB : 0 ≤ B ∧ B ≤ 7) {node p : Nat} (hn : node ≤ 1000) (hp : p ≤ l.length) :
    qbV F N B least k (l.length : Int) (pk l) (p : Int) (node : Int) = some (match pkO l B node p with | none => (0, 0, false) | some o => (o.1, (o.2 : Int), true)) := by
  unfold qbV pkO
  by_cases h0 : B = 0
  · rw [if_pos (by simpa using h0), if_pos h0]
  · rw [if_neg (by simpa using h0), if_neg h0, qdn hF hl hm hp]
    simp only [Option.bind_some]
    have hmin : imin B (node : Int) = min B (node : Int) := by unfold imin; split <;> omega
    have hcv : iconv .u64 (min B (node : Int)) = min B (node : Int) := by
      obtain ⟨q, hq⟩ := Int.eq_ofNat_of_zero_le (a := min B (node : Int)) (by omega)
      rw [hq]; exact kK (by omega)
    unfold qaB
    rw [hmin, hcv]
    cases hr : rgam l p (min B (node : Int)) with
    | none =>
      rcases qkf hr with h1 | h1
      · rw [if_pos (by simpa using h1), if_pos rfl]
      · by_cases h2 : (fg l p).2.2 = 0
        · rw [if_neg (by simp [h2]), if_pos (by simpa using h1)]
        · rw [if_pos (by simpa using h2), if_pos rfl]
    | some x =>
      obtain ⟨h1, h2⟩ := qm3 hr
      have hok := yY hr
      rw [h1]
      simp only
      rw [if_neg (by simp), if_neg (by simp; omega)]
      have e : iconv .i64 x.1 = x.1 := kT (by omega) (by omega)
      rw [e]
theorem qhK {F k : Nat} (hF : 2000000 ≤ F) {l : List Int} (hl : Bit l) (hm : l.length ≤ 8192) {B least : Int} (hh : hcE B least (k : Int) = 0) {n : Nat} (hn : n ≤ 100) : ∀ (j p : Nat) (out : List (List Int)), n < j + out.length → out.length ≤ n → p ≤ l.length → (∀ x ∈ out, gkc x = 0) →
    zT F (n : Int) B least (k : Int) (l.length : Int) (pk l) j (out, (p : Int), (out.length : Int)) = some (match pkR l B least k (n - out.length) out p with | none => ([], false) | some r => (r.1, decide (r.2 = l.length)))
  | 0, _, _, _, _, _, _ => by omega
  | j + 1, p, out, h, ho, hp, hg => by
    obtain ⟨k1, k2, k', hk, k3, k4⟩ := qba hh
    have hkk : k = k' := by omega
    subst hkk
    show jI F (n : Int) B least (k : Int) (l.length : Int) (pk l) (zT F (n : Int) B least (k : Int) (l.length : Int) (pk l) j) out (p : Int) (out.length : Int) = _
    unfold jI
    by_cases hlt : out.length < n
    · rw [if_pos (by simp; omega), qmX (by omega) hl hm k1 (by omega) hp, show n - out.length = (n - (out.length + 1)) + 1 from by omega]
      simp only [Option.bind_some, pkR]
      cases hO : pkO l B out.length p with
      | none => rfl
      | some o =>
        obtain ⟨o1, o2, o3⟩ := qoe k1.1 hp hO
        simp only [Bool.not_true, Bool.false_eq_true, if_false, Option.bind_some]
        have hfr : gkc (pkF out out.length o.1.toNat) = 0 := by
          unfold pkF
          split
          · rw [List.getD_eq_getElem?_getD]
            by_cases hq : out.length - o.1.toNat < out.length
            · rw [List.getElem?_eq_getElem hq]; exact hg _ (List.getElem_mem hq)
            · rw [List.getElem?_eq_none (by omega)]; decide
          · decide
        have hstep : ∀ fr : List Int, fr = pkF out out.length o.1.toNat → ((vZ F (l.length : Int) (pk l) (o.2 : Int) (out.length : Int) fr o.1 least (k : Int)).bind fun x488 => (if ((x488.2.2 : Int) != 0) then some (([] : List (List Int)), false) else ((app 2199023255552 out ([x488.1] : List (List Int))).bind fun x494 => ve F (zT F (n : Int) B least (k : Int) (l.length : Int) (pk l) j) (out.length : Int) x494 x488.2.1))) = some (match (rdl l o.2 (out.length : Int) (pkF out out.length o.1.toNat) o.1 least k).bind fun r => pkR l B least k (n - (out.length + 1)) (out ++ [r.1]) r.2 with | none => ([], false) | some r => (r.1, decide (r.2 = l.length))) := by
          intro fr hfe
          subst hfe
          rw [qhX hF k3 k4 hl hm (by unfold Nd; omega) o3 (fun _ => hfr) k2]
          simp only [Option.bind_some]
          cases hr : rdl l o.2 (out.length : Int) (pkF out out.length o.1.toNat) o.1 least k with
          | none => rfl
          | some r =>
            obtain ⟨r1, r2, r3, r4, r5⟩ := qly hl k3 hr
            simp only [Option.bind_some]
            rw [if_neg (by simp), yx (by simp; omega)]
            simp only [Option.bind_some]
            unfold ve
            have hl1 : (out ++ [r.1]).length = out.length + 1 := by simp
            have hrec := qhK hF hl hm hh hn j r.2 (out ++ [r.1]) (by omega) (by omega) r5 (fun x hx => by
              rcases List.mem_append.1 hx with hx | hx
              · exact hg x hx
              · simp at hx; subst hx; exact r1)
            rw [hl1] at hrec
            rw [qN (by omega), hrec]
        by_cases h0 : 0 < o.1
        · rw [if_pos (by simpa using h0), q7 (by omega) (by omega), show ((out.length : Int) - o.1) = ((out.length - o.1.toNat : Nat) : Int) from by omega, qdo (by omega)]
          simp only [Option.bind_some]
          exact hstep _ (by unfold pkF; rw [if_pos (by omega)])
        · rw [if_neg (by simpa using h0)]
          exact hstep _ (by unfold pkF; rw [if_neg (by omega)])
    · rw [if_neg (by simp; omega), show n - out.length = 0 from by omega]
      unfold qaN
      simp only [pkR]
      congr 2
      by_cases hpl : p = l.length
      · subst hpl; simp
      · rw [decide_eq_false hpl]; simp; omega
def pcE (N B least k m : Int) (b : List Int) : Int := if N < 0 ∨ 100 < N then 3 else if hcE B least k ≠ 0 then hcE B least k else chkOf m b
def prd (N B least k m : Int) (b : List Int) : List (List Int) × Int :=
  if pcE N B least k m b ≠ 0 then ([], pcE N B least k m b) else
  match pkR (bl b m.toNat) B least k.toNat N.toNat [] 0 with
  | none => ([], 1)
  | some r => if r.2 = m.toNat ∧ pkE r.1 B least k = 0 ∧ pk (pkA r.1 B least k.toNat r.1.length).1 = b then (r.1, 0) else ([], 1)
theorem qiB {F : Nat} {N B least k m : Int} {b : List Int} (hb : U8s b) (hm : I64 m) (lb : b.length ≤ 9223372036854775807) : qaP F N B least k m b = some (pcE N B least k m b) := by
  unfold qaP pcE
  by_cases h1 : N < 0 ∨ 100 < N
  · rw [if_pos (by simpa using h1), if_pos h1]
  · rw [if_neg (by simpa using h1), if_neg h1, qbM]
    simp only [Option.bind_some]
    by_cases h2 : hcE B least k = 0
    · rw [if_neg (by simp [h2]), if_neg (by simp [h2]), qev hb hm.1 hm.2 lb]
      rfl
    · rw [if_pos (by simpa using h2), if_pos h2]
theorem qoc {N B least k m : Int} {b : List Int} (hb : U8s b) (h : pcE N B least k m b = 0) : ∃ (n : Nat) (l : List Int), N = (n : Int) ∧ n ≤ 100 ∧ hcE B least k = 0 ∧ Bit l ∧ l.length ≤ 8192 ∧ m = (l.length : Int) ∧ b = pk l := by
  unfold pcE at h
  by_cases h1 : N < 0 ∨ 100 < N
  · rw [if_pos h1] at h; simp at h
  · rw [if_neg h1] at h
    by_cases h2 : hcE B least k = 0
    · rw [if_neg (by simp [h2])] at h
      rcases qhx hb (n := m) with h3 | ⟨l, hl, hm, e1, e2⟩
      · exact absurd h h3
      · exact ⟨N.toNat, l, by omega, by omega, h2, hl, hm, e1, e2⟩
    · rw [if_pos h2] at h; exact absurd h h2
theorem qhL {F : Nat} (hF : 2000000 ≤ F) {N B least k m : Int} {b : List Int} (hb : U8s b) (hm : I64 m) (lb : b.length ≤ 9223372036854775807) : qaH F N B least k m b = some (prd N B least k m b) := by
  unfold qaH prd
  rw [qiB hb hm lb]
  simp only [Option.bind_some]
  by_cases h : pcE N B least k m b = 0
  · rw [if_neg (by simp [h]), if_neg (by simp [h])]
    obtain ⟨n, l, rfl, hn, hh, hl, hlm, rfl, rfl⟩ := qoc hb h
    obtain ⟨k1, k2, k', rfl, k3, k4⟩ := qba hh
    have hL := qhK (F := F) hF hl hlm hh hn F 0 [] (by simp; omega) (Nat.zero_le _) (Nat.zero_le _) (by simp)
    have hL' : qbW F (n : Int) B least (k' : Int) (l.length : Int) (pk l) = _ := hL
    rw [hL']
    simp only [Option.bind_some, List.length_nil, Nat.sub_zero, Int.toNat_natCast, qbI hl]
    cases hr : pkR l B least k' n [] 0 with
    | none => rfl
    | some r =>
      simp only
      by_cases hp : r.2 = l.length
      · rw [decide_eq_true hp, if_neg (by simp), qdT hF]
        simp only [Option.bind_some]
        unfold pwr jX
        by_cases hE : pkE r.1 B least (k' : Int) = 0
        · rw [if_neg (by simp [hE])]
          simp only [Int.toNat_natCast]
          obtain ⟨_, _, hA⟩ := qeO hE
          rw [Int.toNat_natCast] at hA
          rw [if_neg (by simp [hE]), peqb (by rw [qc6]; omega) (by rw [qc6]; omega)]
          simp only [Option.bind_some]
          by_cases hq : pk (pkA r.1 B least k' r.1.length).1 = pk l
          · rw [decide_eq_true hq, if_neg (by simp), if_pos ⟨hp, hE, hq⟩]
          · rw [decide_eq_false hq, if_pos (by simp), if_neg (fun hc => hq hc.2.2)]
        · rw [if_pos hE, if_pos (by simpa using hE), if_pos rfl, if_neg (fun hc => hE hc.2.1)]
      · rw [decide_eq_false hp, if_pos (by simp), if_neg (fun hc => hp hc.1)]
  · rw [if_pos (by simpa using h), if_pos h]
theorem qcM {F : Nat} {xs : List (List Int)} (hm : xs.length ≤ 1000000) (hr : ∀ r ∈ xs, r.length ≤ 1000000 ∧ r.length < F) : ∀ (k i : Nat), xs.length < k + i → i ≤ xs.length → kM F xs xs k (i : Int) = some true
  | 0, _, _, _ => by omega
  | k + 1, i, h, hi => by
    show jl F xs xs (kM F xs xs k) (i : Int) = _
    unfold jl
    by_cases hlt : i < xs.length
    · have := hr _ (List.getElem_mem hlt)
      rw [if_pos (by simp; omega), qQ, List.getElem?_eq_getElem hlt]
      simp only [Option.bind_some]
      rw [qiG this.2 this.1]
      simp only [Option.bind_some]
      rw [if_neg (by simp), qN (by omega)]
      exact qcM hm hr k (i + 1) (by omega) (by omega)
    · rw [if_neg (by simp; omega)]
      rfl
theorem qhN {F : Nat} {xs : List (List Int)} (hF : xs.length < F) (hm : xs.length ≤ 1000000) (hr : ∀ r ∈ xs, r.length ≤ 1000000 ∧ r.length < F) : qat F xs xs = some true := by
  unfold qat
  rw [if_neg (by simp)]
  exact qcM hm hr F 0 (by omega) (by omega)
def PSm (g : List (List Int)) : Prop := g.length ≤ 100 ∧ ∀ r ∈ g, r.length ≤ 1200
theorem qhM {F : Nat} {g : List (List Int)} (hF : 2000 ≤ F) (h : PSm g) : qas F g g = some true := by
  unfold qas
  have := h.1
  rw [qhN (by omega) (by omega) (fun r hr => by have := h.2 r hr; omega)]
  rfl
theorem qoh {g : List (List Int)} (h : Gr g) : PSm g := ⟨h.1, fun r hr => by have := qkZ h hr; omega⟩
theorem qog {g : List (List Int)} {B least k : Int} (h : pkE g B least k = 0) : prd (g.length : Int) B least k ((pkA g B least k.toNat g.length).1.length : Int) (pk (pkA g B least k.toNat g.length).1) = (g, 0) := by
  obtain ⟨h1, h2, h3⟩ := qeO h
  have hg := qeg.1 h1
  have hgl := hg.1
  obtain ⟨k1, k2, k', rfl, k3, k4⟩ := qba h2
  rw [Int.toNat_natCast] at h3 ⊢
  have hE : pcE (g.length : Int) B least (k' : Int) ((pkA g B least k' g.length).1.length : Int) (pk (pkA g B least k' g.length).1) = 0 := by
    unfold pcE
    rw [if_neg (by omega), if_neg (by simp [h2]), qim h3]
  have hr := qju hg h2 h3 [] g.length 0 (by omega)
  have hr' : pkR (pkA g B least k' g.length).1 B least k' g.length [] 0 = some (g, (pkA g B least k' g.length).1.length) := by
    rw [List.append_nil] at hr
    exact hr
  unfold prd
  rw [if_neg (by simp [hE])]
  simp only [Int.toNat_natCast]
  rw [qbI (qb6 _), hr']
  simp only
  rw [if_pos ⟨trivial, h, trivial⟩]
def pkSome : List (List Int) := [[1, 2, 3, 5], [1, 2, 3, 5], [0, 1, 2, 3, 5], [], [4], [1, 2, 3]]
theorem qln : pkE pkSome 3 3 2 = 0 := by decide +kernel
theorem qlp : (pkA pkSome 3 3 2 6).2 = ([0, 1, 1, 0, 0, 0], [0, 19, 28, 43, 45, 52]) := by decide +kernel
theorem qlo : prd 1 3 3 2 0 [] = ([], 1) := by decide +kernel
theorem pbegun {F : Nat} (hF : 2000000 ≤ F) : qap F = some true := by
  have hS : vl F = some pkSome := rfl
  have hE := qln
  have hg := qeg.1 (qeO hE).1
  have h3 := (qeO hE).2.2
  have hR := qog hE
  unfold qap yA
  rw [hS]
  simp only [Option.bind_some]
  rw [qdT hF]
  simp only [Option.bind_some]
  have hW : pwr pkSome 3 3 2 = ((pkSome.length : Int), 3, 3, 2, ((pkA pkSome 3 3 (2 : Int).toNat pkSome.length).1.length : Int), pk (pkA pkSome 3 3 (2 : Int).toNat pkSome.length).1, 0) := by
    unfold pwr
    rw [if_neg (by simp [hE])]
  have hT : ptl pkSome 3 3 2 = ([0, 1, 1, 0, 0, 0], [0, 19, 28, 43, 45, 52], 0) := by
    unfold ptl
    rw [if_neg (by simp [hE])]
    have := qlp
    rw [show (2 : Int).toNat = 2 from rfl, show pkSome.length = 6 from rfl]
    rw [show (pkA pkSome 3 3 2 6).2.1 = [0, 1, 1, 0, 0, 0] from by rw [this], show (pkA pkSome 3 3 2 6).2.2 = [0, 19, 28, 43, 45, 52] from by rw [this]]
  rw [hW]
  simp only
  rw [qhL hF (qce (qb6 _)) (qgF h3) (qgP h3), hR]
  simp only [Option.bind_some]
  rw [qhO hF, hT]
  simp only [Option.bind_some]
  rw [qhL hF (by intro y hy; simp at hy) ⟨by omega, by omega⟩ (by simp), qlo]
  simp only [Option.bind_some]
  rw [if_pos (by rfl), if_pos (by rfl), if_pos (by rfl), qhM (by omega) (qoh hg)]
  simp only [Option.bind_some]
  rw [if_pos (by trivial), if_pos (by rfl), if_pos (by rfl)]
  rfl
theorem qlk {g : List (List Int)} {B least : Int} {k : Nat} : ∀ {n i : Nat}, i < n → (pkA g B least k n).2.1[i]? = some ((pkN g B least k i).1 : Int)
  | n + 1, i, h => by
    have hl := (qcp (g := g) (B := B) (least := least) (k := k) n).1
    rw [pkA]
    simp only
    by_cases hi : i < n
    · rw [List.getElem?_append_left (by omega)]
      exact qlk hi
    · have : i = n := by omega
      subst this
      rw [List.getElem?_append_right (by omega), hl]
      simp
theorem qiA {g : List (List Int)} {B least : Int} {k : Nat} : ∀ {n i : Nat}, i < n → (pkA g B least k n).2.2[i]? = some ((pkA g B least k i).1.length : Int)
  | n + 1, i, h => by
    have hl := (qcp (g := g) (B := B) (least := least) (k := k) n).2
    rw [pkA]
    simp only
    by_cases hi : i < n
    · rw [List.getElem?_append_left (by omega)]
      exact qiA hi
    · have : i = n := by omega
      subst this
      rw [List.getElem?_append_right (by omega), hl]
      simp
theorem qld {F : Nat} (hF : 2000000 ≤ F) {g : List (List Int)} (hg : Gr g) {B least : Int} {k i r : Nat} (hh : hcE B least (k : Int) = 0) (hi : i < g.length) (hr : r ≤ min B.toNat i) :
    vT F (r : Int) B least (k : Int) g (i : Int) = some (if (enc (i : Int) (g.getD i []) (pkF g i r) (r : Int) least k).length ≤ 8192 then (((enc (i : Int) (g.getD i []) (pkF g i r) (r : Int) least k).length : Int), pk (enc (i : Int) (g.getD i []) (pkF g i r) (r : Int) least k), ((pkW g B least k i r).length : Int)) else (0, [], 1048576)) := by
  have hgl := hg.1
  obtain ⟨k1, -, -⟩ := qba hh
  have hh' : hcE (r : Int) least (k : Int) = 0 := qk1 hh (by omega)
  have hE : swE (i : Int) (g.getD i []) (pkF g i r) (r : Int) least (k : Int) = 0 := qiM hh' (by unfold Nd; omega) (qeD hg i) (fun _ => qgN hg i r)
  have hj : ∀ q : Nat, q ≤ 100 → yd F (r : Int) least (k : Int) g (i : Int) (q : Int) = some (if (enc (i : Int) (g.getD i []) (pkF g i r) (r : Int) least k).length ≤ 8192 then (((enc (i : Int) (g.getD i []) (pkF g i r) (r : Int) least k).length : Int), pk (enc (i : Int) (g.getD i []) (pkF g i r) (r : Int) least k), ((q + (enc (i : Int) (g.getD i []) (pkF g i r) (r : Int) least k).length : Nat) : Int)) else (0, [], 1048576)) := by
    intro q hq
    have h2 : ye F (r : Int) least (k : Int) g (i : Int) (q : Int) (pkF g i r) = some (if (enc (i : Int) (g.getD i []) (pkF g i r) (r : Int) least k).length ≤ 8192 then (((enc (i : Int) (g.getD i []) (pkF g i r) (r : Int) least k).length : Int), pk (enc (i : Int) (g.getD i []) (pkF g i r) (r : Int) least k), ((q + (enc (i : Int) (g.getD i []) (pkF g i r) (r : Int) least k).length : Nat) : Int)) else (0, [], 1048576)) := by
      unfold ye vv
      rw [qdo hi]
      simp only [Option.bind_some]
      rw [qcB hF]
      simp only [Option.bind_some]
      by_cases h1 : (enc (i : Int) (g.getD i []) (pkF g i r) (r : Int) least k).length ≤ 8192
      · have hs := qlR hE (by rw [Int.toNat_natCast]; exact h1)
        rw [Int.toNat_natCast] at hs
        rw [hs, if_pos h1]
        simp only
        rw [if_neg (by simp), qC (by omega) (by omega)]
        rfl
      · have hs : sw (i : Int) (g.getD i []) (pkF g i r) (r : Int) least (k : Int) = (0, [], 8) := by
          unfold sw
          rw [if_neg (fun h => h hE), Int.toNat_natCast, if_pos (by omega)]
        rw [hs, if_neg h1]
        rfl
    unfold yd
    by_cases h0 : 0 < r
    · rw [if_pos (by simpa using h0), q7 (by omega) (by omega), show ((i : Int) - (r : Int)) = ((i - r : Nat) : Int) from by omega, qdo (by omega)]
      simp only [Option.bind_some]
      have e : pkF g i r = g.getD (i - r) [] := by unfold pkF; rw [if_pos h0]
      rw [e] at h2 ⊢
      exact h2
    · rw [if_neg (by simpa using h0)]
      have e : pkF g i r = [] := by unfold pkF; rw [if_neg h0]
      rw [e] at h2 ⊢
      exact h2
  unfold vT pkW pkH
  by_cases hB : 0 < B
  · have hga := qkS (n := r) (by omega)
    rw [if_pos (by simpa using hB), if_pos hB, kK (by omega), qgC (by omega) (by omega)]
    simp only [Option.bind_some]
    rw [hj _ (by omega), List.length_append]
  · rw [if_neg (by simpa using hB), if_neg hB]
    have := hj 0 (by omega)
    rw [Nat.zero_add] at this
    rw [List.nil_append]
    exact this
theorem qj9 {F : Nat} (hF : 2000000 ≤ F) {g : List (List Int)} {B least k node back : Int} : qbT F g B least k node back = some true := by
  unfold qbT
  rw [qdT hF]
  simp only [Option.bind_some]
  rw [qhO hF]
  simp only [Option.bind_some]
  rw [pbegun hF]
  simp only [Option.bind_some, Bool.not_true, Bool.false_eq_true, if_false]
  rw [sbegun hF]
  simp only [Option.bind_some]
  unfold jB
  rw [if_neg (by simp), qhq (by omega)]
  simp only [Option.bind_some]
  unfold jC
  rw [if_neg (by simp)]
  by_cases hE : pkE g B least k = 0
  · have hT : ptl g B least k = ((pkA g B least k.toNat g.length).2.1, (pkA g B least k.toNat g.length).2.2, 0) := by
      unfold ptl
      rw [if_neg (by simp [hE])]
    have hW : pwr g B least k = ((g.length : Int), B, least, k, ((pkA g B least k.toNat g.length).1.length : Int), pk (pkA g B least k.toNat g.length).1, 0) := by
      unfold pwr
      rw [if_neg (by simp [hE])]
    obtain ⟨g1, g2, g3⟩ := qeO hE
    obtain ⟨k1, k2, k', rfl, k3, k4⟩ := qba g2
    have hg := qeg.1 g1
    have hgl := hg.1
    rw [Int.toNat_natCast] at g3 hT hW
    obtain ⟨l1, l2⟩ := qcp (g := g) (B := B) (least := least) (k := k') g.length
    rw [hT, hW]
    simp only
    rw [if_neg (by simp), l1, l2]
    by_cases hn : node < 0 ∨ (g.length : Int) ≤ node
    · rw [if_pos (by simp; omega)]
      simp
    · rw [if_neg (by simp; omega)]
      obtain ⟨i, rfl⟩ := Int.eq_ofNat_of_zero_le (show 0 ≤ node by omega)
      have hi : i < g.length := by omega
      have hm1 := qeN (g := g) (B := B) (least := least) (k := k') (show i + 1 ≤ g.length from hi)
      obtain ⟨hr, hN⟩ := qeP (g := g) (B := B) (least := least) (k := k') (i := i)
      have hst : (pkA g B least k' (i + 1)).1 = (pkA g B least k' i).1 ++ (pkN g B least k' i).2 := by rw [pkA]
      have hstl : (pkA g B least k' (i + 1)).1.length = (pkA g B least k' i).1.length + (pkN g B least k' i).2.length := by rw [hst, List.length_append]
      have hbk := qlk (g := g) (B := B) (least := least) (k := k') hi
      have hss := qiA (g := g) (B := B) (least := least) (k := k') hi
      generalize hR : (pkN g B least k' i).1 = R at hr hN hbk
      have hNl : (pkN g B least k' i).2.length = (pkH B R).length + (enc (i : Int) (g.getD i []) (pkF g i R) (R : Int) least k').length := by
        rw [hN]; unfold pkW; rw [List.length_append]
      have hmain : y8 F g B least (k' : Int) (i : Int) back ((g.length : Int), B, least, (k' : Int), ((pkA g B least k' g.length).1.length : Int), pk (pkA g B least k' g.length).1, 0) ((pkA g B least k' g.length).2.1, (pkA g B least k' g.length).2.2, 0) ((pkA g B least k' (i + 1)).1.length : Int) = some true := by
        unfold y8
        simp only
        rw [qQ, hbk]
        simp only [Option.bind_some]
        have hmin : imin B (i : Int) = ((min B.toNat i : Nat) : Int) := by unfold imin; split <;> omega
        rw [if_neg (by simp), hmin]
        unfold jD
        rw [if_neg (by simp; omega)]
        simp only
        rw [qQ, hbk]
        simp only [Option.bind_some]
        rw [qld hF hg g2 hi hr, if_pos (by omega)]
        simp only [Option.bind_some]
        rw [q7 (by omega) (by omega), show (((pkA g B least k' (i + 1)).1.length : Int) - ((enc (i : Int) (g.getD i []) (pkF g i R) (R : Int) least k').length : Int)) = (((pkA g B least k' (i + 1)).1.length - (enc (i : Int) (g.getD i []) (pkF g i R) (R : Int) least k').length : Nat) : Int) from by omega]
        rw [qn2 (by omega) (qce (qb6 _)) (qgF g3) (qgP g3), qmE (qb6 _) g3 (by omega) (by omega)]
        simp only [Option.bind_some]
        have hcut : ((pkA g B least k' g.length).1.take (pkA g B least k' (i + 1)).1.length).drop ((pkA g B least k' (i + 1)).1.length - (enc (i : Int) (g.getD i []) (pkF g i R) (R : Int) least k').length) = enc (i : Int) (g.getD i []) (pkF g i R) (R : Int) least k' := by
          obtain ⟨T, hT2⟩ := qeh (g := g) (B := B) (least := least) (k := k') (show i + 1 ≤ g.length from hi)
          rw [hT2, List.take_left]
          have : (pkA g B least k' (i + 1)).1 = ((pkA g B least k' i).1 ++ pkH B R) ++ enc (i : Int) (g.getD i []) (pkF g i R) (R : Int) least k' := by
            rw [hst, hN]; unfold pkW; rw [List.append_assoc]
          rw [this, List.length_append, Nat.add_sub_cancel, List.drop_left]
        rw [hcut]
        rw [if_neg (by simp)]
        have e9 : (((pkA g B least k' (i + 1)).1.length : Int) - (((pkA g B least k' (i + 1)).1.length - (enc (i : Int) (g.getD i []) (pkF g i R) (R : Int) least k').length : Nat) : Int)) = ((enc (i : Int) (g.getD i []) (pkF g i R) (R : Int) least k').length : Int) := by omega
        try rw [e9]
        rw [qfZ (by rw [qc6]; omega) (by rw [qc6]; omega)]
        simp only [Option.bind_some, Bool.not_true]
        unfold jc
        rw [if_neg (by simp)]
        simp only
        rw [qQ, hss]
        simp only [Option.bind_some]
        rw [q7 (by omega) (by omega)]
        unfold jd
        have hWl : (pkW g B least k' i R).length = (pkN g B least k' i).2.length := by rw [hN]
        rw [if_neg (by simp; omega)]
        unfold je
        by_cases hb0 : back < 0
        · rw [if_pos (by simpa using hb0), if_pos rfl]
        · rw [if_neg (by simpa using hb0), hmin]
          by_cases hb1 : ((min B.toNat i : Nat) : Int) < back
          · rw [if_pos (by simpa using hb1)]
          · rw [if_neg (by simpa using hb1)]
            obtain ⟨q, rfl⟩ := Int.eq_ofNat_of_zero_le (show 0 ≤ back by omega)
            have hq : q ≤ min B.toNat i := by omega
            have hmn : (pkN g B least k' i).2.length ≤ (pkW g B least k' i q).length := qgw _ hq
            have hfs : q < R → (pkN g B least k' i).2.length < (pkW g B least k' i q).length := fun h => qfH (pkW g B least k' i) (n := min B.toNat i) (by unfold pkN at hR; omega)
            rw [qld hF hg g2 hi hq]
            simp only [Option.bind_some]
            unfold jg jf
            by_cases h1 : (enc (i : Int) (g.getD i []) (pkF g i q) (q : Int) least k').length ≤ 8192
            · rw [if_pos h1]
              simp only
              by_cases h2 : (pkW g B least k' i R).length < (pkW g B least k' i q).length
              · rw [if_pos (by simp; omega)]
              · have h3 : ¬ q < R := fun h => by have := hfs h; omega
                rw [if_neg (by simp; omega), if_pos (by simp; omega), qQ, hbk]
                simp only [Option.bind_some]
                rw [decide_eq_true (by omega)]
            · rw [if_neg h1]
              simp only
              rw [if_pos (by simp; omega)]
      rw [qN (by omega)]
      by_cases hlast : i + 1 < g.length
      · rw [if_pos (by simp; omega), qQ, qiA hlast]
        simp only [Option.bind_some]
        exact hmain
      · rw [if_neg (by simp; omega)]
        have : i + 1 = g.length := by omega
        rw [this] at hmain
        exact hmain
  · have hT : ptl g B least k = ([], [], pkE g B least k) := by
      unfold ptl
      rw [if_pos hE]
    have hW : pwr g B least k = (0, 0, 0, 0, 0, [], pkE g B least k) := by
      unfold pwr
      rw [if_pos hE]
    rw [hT, hW]
    simp only
    rw [if_pos (by simp [hE])]
    simp
end Go.Proofs.YtpnfijegoepiaaaGreat
