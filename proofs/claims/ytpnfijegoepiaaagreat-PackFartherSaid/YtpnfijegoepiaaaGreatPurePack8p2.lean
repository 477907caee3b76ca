/- Plain facts of what the functions of this seat compute, part 2. -/
import Derived.Test.YtpnfijegoepiaaaGreatPurePack8
import Derived.KernelRfl
import Derived.Lib.SlicesCompact
namespace Go.Proofs.YtpnfijegoepiaaaGreat
open Go SX
variable {F : Nat} {rec68 : (List (Int × Int) × List Int × Int) → Option (List (Int × Int) × List Int)} {l : List Int} {least : Int} {o : List (Int × Int)} {rest : List Int} {i : Int}
theorem qgW {F : Nat} (hF : 1000 ≤ F) {g : List (List Int)} (hg : g.length ≤ 100) : ∀ (k i : Nat) (m : Nat), g.length < k + i → i ≤ g.length → m ≤ 100 * i →
    zE F g k ((m : Int), (i : Int)) = if gE g.length (g.drop i) ≠ 0 then some (gE g.length (g.drop i)) else if 600 < m + gtot (g.drop i) then some 2 else some 0
  | 0, _, _, _, _, _ => by omega
  | k + 1, i, m, h, hi, hm => by
    show jw F g (zE F g k) (m : Int) (i : Int) = _
    unfold jw
    by_cases hlt : i < g.length
    · rw [if_pos (by simp; omega), zW, List.getElem?_eq_getElem hlt, List.drop_eq_getElem_cons hlt]
      simp only [Option.bind_some]
      have hin := qih (F := F) (rec38 := zE F g k) (m := (m : Int)) (i := (i : Int)) (l := g[i]) hg F 0 (-1) (by omega) (by omega) (by omega) (by omega)
      rw [List.drop_zero, show ((0 : Nat) : Int) = 0 from rfl] at hin
      rw [hin]
      unfold gE gtot
      by_cases hr : rowE g.length (-1) g[i] = 0
      · have hlen := qhQ (by omega) (by omega) hr
        have e : (if rowE (g.length : Int) (-1) g[i] ≠ 0 then rowE (g.length : Int) (-1) g[i] else gE (g.length : Int) (g.drop (i + 1))) = gE (g.length : Int) (g.drop (i + 1)) := if_neg (by simp [hr])
        rw [if_neg (show ¬ rowE (g.length : Int) (-1) g[i] ≠ 0 by simp [hr]), e]
        unfold jy qaM
        rw [qaT (by omega), zI (by omega), qgW hF hg k (i + 1) (m + g[i].length) (by omega) (by omega) (by omega), Nat.add_assoc]
      · rw [if_pos (by simpa using hr)]
        have e : (if rowE (g.length : Int) (-1) g[i] ≠ 0 then rowE (g.length : Int) (-1) g[i] else gE (g.length : Int) (g.drop (i + 1))) = rowE (g.length : Int) (-1) g[i] := if_pos hr
        rw [e, if_pos hr]
    · rw [if_neg (by simp; omega), List.drop_eq_nil_of_le (by omega)]
      unfold qaL
      rw [if_neg (show ¬ gE (g.length : Int) [] ≠ 0 by simp [gE])]
      by_cases h6 : 600 < m
      · rw [if_pos (by simp; omega), if_pos (by simpa [gtot] using h6)]
      · rw [if_neg (by simp; omega), if_neg (by simpa [gtot] using h6)]
theorem qgO {F : Nat} (hF : 1000 ≤ F) {g : List (List Int)} : qbp F g = some (gchk g) := by
  unfold qbp gchk
  by_cases h : 100 < g.length
  · rw [if_pos (by simp; omega), if_pos h]
  · have := qgW hF (g := g) (by omega) F 0 0 (by omega) (by omega) (by omega)
    rw [List.drop_zero, Nat.zero_add, show ((0 : Nat) : Int) = 0 from rfl] at this
    rw [if_neg (by simp; omega), if_neg h, this]
    split
    · rfl
    · split <;> rfl
def pkH (B : Int) (r : Nat) : List Int := if 0 < B then ga r else []
def pkF (g : List (List Int)) (i r : Nat) : List Int := if 0 < r then g.getD (i - r) [] else []
def pkW (g : List (List Int)) (B least : Int) (k i r : Nat) : List Int := pkH B r ++ enc (i : Int) (g.getD i []) (pkF g i r) (r : Int) least k
def bwy (f : Nat → List Int) : Nat → Nat × List Int
  | 0 => (0, f 0)
  | n + 1 => if (f (n + 1)).length < (bwy f n).2.length then (n + 1, f (n + 1)) else bwy f n
theorem qlh (f : Nat → List Int) : ∀ n : Nat, (bwy f n).1 ≤ n ∧ (bwy f n).2 = f (bwy f n).1
  | 0 => ⟨Nat.le_refl _, rfl⟩
  | n + 1 => by
    have := qlh f n
    unfold bwy
    split
    · exact ⟨Nat.le_refl _, rfl⟩
    · exact ⟨by omega, this.2⟩
def pkN (g : List (List Int)) (B least : Int) (k i : Nat) : Nat × List Int := bwy (pkW g B least k i) (min B.toNat i)
def pkA (g : List (List Int)) (B least : Int) (k : Nat) : Nat → List Int × List Int × List Int
  | 0 => ([], [], [])
  | n + 1 => ((pkA g B least k n).1 ++ (pkN g B least k n).2, (pkA g B least k n).2.1 ++ [((pkN g B least k n).1 : Int)], (pkA g B least k n).2.2 ++ [((pkA g B least k n).1.length : Int)])
def pkE (g : List (List Int)) (B least k : Int) : Int := if gchk g ≠ 0 then gchk g else if hcE B least k ≠ 0 then hcE B least k else if 8192 < (pkA g B least k.toNat g.length).1.length then 8 else 0
theorem qgg {g : List (List Int)} {B least k : Int} (h : pkE g B least k = 0) : gchk g = 0 ∧ hcE B least k = 0 ∧ (pkA g B least k.toNat g.length).1.length ≤ 8192 := by
  unfold pkE at h
  by_cases h1 : gchk g = 0
  · rw [if_neg (by simp [h1])] at h
    by_cases h2 : hcE B least k = 0
    · rw [if_neg (by simp [h2])] at h
      by_cases h3 : 8192 < (pkA g B least k.toNat g.length).1.length
      · rw [if_pos h3] at h; simp at h
      · exact ⟨h1, h2, by omega⟩
    · rw [if_pos h2] at h; exact absurd h h2
  · rw [if_pos h1] at h; exact absurd h h1
theorem qlU {g : List (List Int)} {B least k : Int} (h1 : gchk g = 0) (h2 : hcE B least k = 0) (h3 : (pkA g B least k.toNat g.length).1.length ≤ 8192) : pkE g B least k = 0 := by
  unfold pkE
  rw [if_neg (by simp [h1]), if_neg (by simp [h2]), if_neg (by omega)]
theorem qhL {g : List (List Int)} {B least : Int} {k : Nat} : ∀ {n i : Nat}, i ≤ n → ∃ R, (pkA g B least k n).1 = (pkA g B least k i).1 ++ R
  | 0, i, h => by
    have : i = 0 := by omega
    subst this; exact ⟨[], by simp⟩
  | n + 1, i, h => by
    by_cases hi : i = n + 1
    · subst hi; exact ⟨[], by simp⟩
    · obtain ⟨R, hR⟩ := qhL (g := g) (B := B) (least := least) (k := k) (n := n) (i := i) (by omega)
      exact ⟨R ++ (pkN g B least k n).2, by rw [pkA, hR]; simp⟩
theorem qeI {g : List (List Int)} {B least : Int} {k : Nat} : ∀ n : Nat, (pkA g B least k n).2.1.length = n ∧ (pkA g B least k n).2.2.length = n
  | 0 => ⟨rfl, rfl⟩
  | n + 1 => by
    have := qeI (g := g) (B := B) (least := least) (k := k) n
    simp only [pkA, List.length_append, List.length_singleton]
    omega
theorem qgf {g : List (List Int)} {B least : Int} {k n i : Nat} (h : i ≤ n) : (pkA g B least k i).1.length ≤ (pkA g B least k n).1.length := by
  obtain ⟨R, hR⟩ := qhL (g := g) (B := B) (least := least) (k := k) h
  rw [hR, List.length_append]; omega
theorem qgh {g : List (List Int)} {B least : Int} {k i : Nat} : (pkN g B least k i).1 ≤ min B.toNat i ∧ (pkN g B least k i).2 = pkW g B least k i (pkN g B least k i).1 := qlh _ _
theorem qlT {g : List (List Int)} {B least : Int} {k n i : Nat} (h : i < n) : ∃ R, (pkA g B least k n).1 = (pkA g B least k i).1 ++ ((pkH B (pkN g B least k i).1 ++ enc (i : Int) (g.getD i []) (pkF g i (pkN g B least k i).1) ((pkN g B least k i).1 : Int) least k) ++ R) := by
  obtain ⟨R, hR⟩ := qhL (g := g) (B := B) (least := least) (k := k) (n := n) (i := i + 1) h
  refine ⟨R, ?_⟩
  rw [hR, pkA]
  have := (qgh (g := g) (B := B) (least := least) (k := k) (i := i)).2
  unfold pkW at this
  rw [this]
  simp only [List.append_assoc]
theorem qn0 {g : List (List Int)} (h : Gr g) {l : List Int} (hl : l ∈ g) : gkc l = 0 := by
  have h1 := h.2.1 l hl
  have h2 := qlz h hl
  have h3 := h.1
  refine yv.2 ⟨by omega, qhO h1.1 (fun z hz => ?_) fun z hz => ?_⟩
  · have := h1.2 z hz; omega
  · have := h1.2 z hz; unfold Nd; omega
theorem qf6 {g : List (List Int)} (h : Gr g) (i : Nat) : gkc (g.getD i []) = 0 := by
  by_cases hi : i < g.length
  · rw [List.getD_eq_getElem?_getD, List.getElem?_eq_getElem hi]
    exact qn0 h (List.getElem_mem hi)
  · rw [List.getD_eq_getElem?_getD, List.getElem?_eq_none (by omega)]
    decide
theorem qj7 {g : List (List Int)} (h : Gr g) (i r : Nat) : gkc (pkF g i r) = 0 := by
  unfold pkF
  split
  · exact qf6 h _
  · decide
def pkO (l : List Int) (B : Int) (node p : Nat) : Option (Int × Nat) := if B = 0 then some (0, p) else rgam l p (min B (node : Int))
def pkR (l : List Int) (B least : Int) (k : Nat) : Nat → List (List Int) → Nat → Option (List (List Int) × Nat)
  | 0, out, p => some (out, p)
  | m + 1, out, p => (pkO l B out.length p).bind fun o => (rdl l o.2 (out.length : Int) (pkF out out.length o.1.toNat) o.1 least k).bind fun r => pkR l B least k m (out ++ [r.1]) r.2
theorem qjB {g : List (List Int)} {i : Nat} (h : i < g.length) : g.take i ++ [g.getD i []] = g.take (i + 1) := by
  rw [List.take_add_one, List.getD_eq_getElem?_getD, List.getElem?_eq_getElem h]
  rfl
theorem qlV {g : List (List Int)} {i r : Nat} (h : r ≤ i) (_hi : i ≤ g.length) : pkF (g.take i) i r = pkF g i r := by
  unfold pkF
  split
  · rw [List.getD_eq_getElem?_getD, List.getD_eq_getElem?_getD, List.getElem?_take, if_pos (by omega)]
  · rfl
theorem qj8 {g : List (List Int)} (hg : Gr g) {B least : Int} {k : Nat} (hh : hcE B least (k : Int) = 0) (hl : (pkA g B least k g.length).1.length ≤ 8192) (T : List Int) : ∀ (m i : Nat), i + m = g.length →
    pkR ((pkA g B least k g.length).1 ++ T) B least k m (g.take i) (pkA g B least k i).1.length = some (g, (pkA g B least k g.length).1.length)
  | 0, i, h => by
    have : i = g.length := by omega
    subst this
    simp [pkR]
  | m + 1, i, h => by
    have hi : i < g.length := by omega
    obtain ⟨k1, k2, k', hk, k3, k4⟩ := qcG hh
    have hkk : k = k' := by omega
    subst hkk
    obtain ⟨hr, _⟩ := qgh (g := g) (B := B) (least := least) (k := k) (i := i)
    have hgl := hg.1
    have hti : (g.take i).length = i := by rw [List.length_take]; omega
    obtain ⟨R, hR⟩ := qlT (g := g) (B := B) (least := least) (k := k) hi
    have hnext := qj8 hg hh hl T m (i + 1) (by omega)
    have hA : (pkA g B least k (i + 1)).1.length = (pkA g B least k i).1.length + (pkH B (pkN g B least k i).1).length + (enc (i : Int) (g.getD i []) (pkF g i (pkN g B least k i).1) ((pkN g B least k i).1 : Int) least k).length := by
      have := (qgh (g := g) (B := B) (least := least) (k := k) (i := i)).2
      rw [pkA, this]
      unfold pkW
      simp only [List.length_append]; omega
    have hO : pkO ((pkA g B least k g.length).1 ++ T) B i (pkA g B least k i).1.length = some (((pkN g B least k i).1 : Int), (pkA g B least k i).1.length + (pkH B (pkN g B least k i).1).length) := by
      unfold pkO pkH
      by_cases hB : B = 0
      · have : (pkN g B least k i).1 = 0 := by rw [hB] at hr ⊢; simp at hr; exact hr
        rw [if_pos hB, this, if_neg (by omega)]
        simp
      · rw [if_neg hB, if_pos (by omega)]
        rw [hR]
        unfold pkH
        rw [if_pos (by omega)]
        simp only [List.append_assoc]
        exact qeL (by omega) (by omega) _ _
    unfold pkR
    rw [hti, hO]
    simp only [Option.bind_some, Int.toNat_natCast]
    rw [qlV (by omega) (by omega)]
    have hE : (enc (i : Int) (g.getD i []) (pkF g i (pkN g B least k i).1) ((pkN g B least k i).1 : Int) least k).length ≤ 8192 := by
      have := qgf (g := g) (B := B) (least := least) (k := k) (show i + 1 ≤ g.length from hi)
      omega
    have hD := qkg (k := k) k3 k4 (node := (i : Int)) (back := ((pkN g B least k i).1 : Int)) (least := least) (x := g.getD i []) (fr := pkF g i (pkN g B least k i).1) (by unfold Nd; omega) k2 (qf6 hg i) (fun _ => qj7 hg _ _) ((pkA g B least k i).1 ++ pkH B (pkN g B least k i).1) (R ++ T) hE
    rw [hR]
    simp only [List.append_assoc, List.length_append] at hD ⊢
    rw [hD]
    simp only [Option.bind_some]
    rw [qjB hi]
    rw [hR] at hnext
    simp only [List.append_assoc, List.length_append] at hnext
    rw [← hnext, hA]
theorem qlB {B least k : Int} {r : Nat} (h : hcE B least k = 0) (hr : (r : Int) ≤ B) : hcE (r : Int) least k = 0 := by
  unfold hcE at h ⊢
  by_cases hb : hcB B least k
  · rw [if_pos hb] at h; simp at h
  · rw [if_neg (by unfold hcB at hb ⊢; omega)]
theorem qkA {F : Nat} (hF : 2000000 ≤ F) {A : List (List Int)} {x fr H : List Int} {r i k : Nat} {least : Int} (hA : A.length = i) (hi : i ≤ 100) (hx : gkc x = 0) (hfr : gkc fr = 0) (hh : hcE (r : Int) least (k : Int) = 0) (hH : Bit H) (hHl : H.length ≤ 100) :
    jT F A x (r : Int) least (k : Int) (H.length : Int) (pk H) fr = some (if (H ++ enc (i : Int) x fr (r : Int) least k).length ≤ 8192 then ((r : Int), ((H ++ enc (i : Int) x fr (r : Int) least k).length : Int), pk (H ++ enc (i : Int) x fr (r : Int) least k), true) else (0, 0, [], false)) := by
  unfold jT
  rw [qdJ hF, hA]
  simp only [Option.bind_some]
  have hE : swE (i : Int) x fr (r : Int) least (k : Int) = 0 := qjr hh (by unfold Nd; omega) hx (fun _ => hfr)
  rw [List.length_append]
  by_cases h1 : (enc (i : Int) x fr (r : Int) least k).length ≤ 8192
  · have hs := qmq hE (by rw [Int.toNat_natCast]; exact h1)
    rw [Int.toNat_natCast] at hs
    rw [hs]
    simp only
    rw [zy (by omega) (by omega)]
    by_cases h2 : H.length + (enc (i : Int) x fr (r : Int) least k).length ≤ 8192
    · rw [if_neg (by simp; omega), if_pos h2, qfB (by omega) (qcT hH) (qcT qdC) (qeH (by omega)) (qeH h1), qcp hH, qcp qdC]
      rfl
    · rw [if_pos (by simp; omega), if_neg h2]
  · have hs : sw (i : Int) x fr (r : Int) least (k : Int) = (0, [], 8) := by
      unfold sw
      rw [if_neg (by simp [hE]), Int.toNat_natCast, if_pos (by omega)]
    rw [hs, if_pos (by simp), if_neg (by omega)]
theorem qnv {F : Nat} (hF : 2000000 ≤ F) {g : List (List Int)} (hg : Gr g) {B least : Int} {k i r : Nat} (hh : hcE B least (k : Int) = 0) (hi : i ≤ g.length) (hr : r ≤ min B.toNat i) :
    qcm F (g.take i) (g.getD i []) (r : Int) B least (k : Int) = some (if (pkW g B least k i r).length ≤ 8192 then ((r : Int), ((pkW g B least k i r).length : Int), pk (pkW g B least k i r), true) else (0, 0, [], false)) := by
  have hgl := hg.1
  have hti : (g.take i).length = i := by rw [List.length_take]; omega
  obtain ⟨k1, -, -⟩ := qcG hh
  have hh' : hcE (r : Int) least (k : Int) = 0 := qlB hh (by omega)
  have hj : ∀ H : List Int, Bit H → H.length ≤ 100 → jS F (g.take i) (g.getD i []) (r : Int) least (k : Int) (H.length : Int) (pk H) = some (if (H ++ enc (i : Int) (g.getD i []) (pkF g i r) (r : Int) least k).length ≤ 8192 then ((r : Int), ((H ++ enc (i : Int) (g.getD i []) (pkF g i r) (r : Int) least k).length : Int), pk (H ++ enc (i : Int) (g.getD i []) (pkF g i r) (r : Int) least k), true) else (0, 0, [], false)) := by
    intro H hH hHl
    unfold jS
    by_cases h0 : 0 < r
    · rw [if_pos (by simpa using h0), hti, kj (by omega) (by omega), show ((i : Int) - (r : Int)) = ((i - r : Nat) : Int) from by omega, zW, List.getElem?_take, if_pos (by omega), List.getElem?_eq_getElem (show i - r < g.length by omega)]
      simp only [Option.bind_some]
      have e : g[i - r]'(by omega) = pkF g i r := by
        unfold pkF
        rw [if_pos h0, List.getD_eq_getElem?_getD, List.getElem?_eq_getElem (show i - r < g.length by omega)]
        rfl
      rw [e]
      exact qkA hF hti (by omega) (qf6 hg i) (qj7 hg i r) hh' hH hHl
    · rw [if_neg (by simpa using h0)]
      have e : pkF g i r = [] := by unfold pkF; rw [if_neg h0]
      rw [e]
      exact qkA hF hti (by omega) (qf6 hg i) (by decide) hh' hH hHl
  unfold qcm pkW pkH
  by_cases hB : 0 < B
  · have hga := qnG (n := r) (by omega)
    rw [if_pos (by simpa using hB), if_pos hB, vv (by omega), qfu (by omega) (by omega)]
    simp only [Option.bind_some]
    exact hj (ga r) (qc3 r) (by omega)
  · rw [if_neg (by simpa using hB), if_neg hB]
    exact hj [] (by intro z hz; simp at hz) (by simp)
def bst (f : Nat → List Int) (j : Nat) : Bool × Int × Int × List Int := if j = 0 then (false, 0, 0, []) else if (bwy f (j - 1)).2.length ≤ 8192 then (true, ((bwy f (j - 1)).1 : Int), ((bwy f (j - 1)).2.length : Int), pk (bwy f (j - 1)).2) else (false, 0, 0, [])
theorem qld {F : Nat} (hF : 2000000 ≤ F) {g : List (List Int)} (hg : Gr g) {B least : Int} {k i : Nat} (hh : hcE B least (k : Int) = 0) (hi : i ≤ g.length) : ∀ (n j : Nat), min B.toNat i + 1 < n + j → j ≤ min B.toNat i + 1 →
    kz F (g.take i) (g.getD i []) B least (k : Int) n ((bst (pkW g B least k i) j).1, (j : Int), (bst (pkW g B least k i) j).2.1, (bst (pkW g B least k i) j).2.2.1, (bst (pkW g B least k i) j).2.2.2) = some (if (pkN g B least k i).2.length ≤ 8192 then (((pkN g B least k i).1 : Int), ((pkN g B least k i).2.length : Int), pk (pkN g B least k i).2, true) else (0, 0, [], false))
  | 0, _, _, _ => by omega
  | n + 1, j, h, hj => by
    have hgl := hg.1
    have hti : (g.take i).length = i := by rw [List.length_take]; omega
    obtain ⟨k1, -, -⟩ := qcG hh
    show qan F (g.take i) (g.getD i []) B least (k : Int) (kz F (g.take i) (g.getD i []) B least (k : Int) n) (bst (pkW g B least k i) j).1 (j : Int) (bst (pkW g B least k i) j).2.1 (bst (pkW g B least k i) j).2.2.1 (bst (pkW g B least k i) j).2.2.2 = _
    unfold qan
    have hmin : imin B ((g.take i).length : Int) = ((min B.toNat i : Nat) : Int) := by
      rw [hti]; unfold imin; split <;> omega
    rw [hmin, zy (by omega) (by omega)]
    by_cases hlt : j < min B.toNat i + 1
    · rw [if_pos (by simp; omega), qnv hF hg hh hi (by omega)]
      simp only [Option.bind_some]
      have hrec := qld hF hg hh hi n (j + 1) (by omega) (by omega)
      have hnew : (pkW g B least k i j).length ≤ 8192 → bwy (pkW g B least k i) j = (j, pkW g B least k i j) → yx F (kz F (g.take i) (g.getD i []) B least (k : Int) n) (j : Int) true (j : Int) ((pkW g B least k i j).length : Int) (pk (pkW g B least k i j)) = some (if (pkN g B least k i).2.length ≤ 8192 then (((pkN g B least k i).1 : Int), ((pkN g B least k i).2.length : Int), pk (pkN g B least k i).2, true) else (0, 0, [], false)) := by
        intro h1 h2
        unfold yx
        rw [zI (by omega), ← hrec]
        unfold bst
        rw [if_neg (by omega), Nat.add_sub_cancel, h2, if_pos h1]
      have hold : bst (pkW g B least k i) (j + 1) = bst (pkW g B least k i) j → yx F (kz F (g.take i) (g.getD i []) B least (k : Int) n) (j : Int) (bst (pkW g B least k i) j).1 (bst (pkW g B least k i) j).2.1 (bst (pkW g B least k i) j).2.2.1 (bst (pkW g B least k i) j).2.2.2 = some (if (pkN g B least k i).2.length ≤ 8192 then (((pkN g B least k i).1 : Int), ((pkN g B least k i).2.length : Int), pk (pkN g B least k i).2, true) else (0, 0, [], false)) := by
        intro h1
        unfold yx
        rw [zI (by omega), ← hrec, h1]
      unfold qao
      by_cases hl : (pkW g B least k i j).length ≤ 8192
      · rw [if_pos hl]
        simp only [if_true]
        by_cases h0 : j = 0
        · subst h0
          rw [if_pos (by simp [bst])]
          exact hnew hl rfl
        · obtain ⟨q, rfl⟩ : ∃ q, j = q + 1 := ⟨j - 1, by omega⟩
          by_cases hb : (bwy (pkW g B least k i) q).2.length ≤ 8192
          · have e : bst (pkW g B least k i) (q + 1) = (true, ((bwy (pkW g B least k i) q).1 : Int), ((bwy (pkW g B least k i) q).2.length : Int), pk (bwy (pkW g B least k i) q).2) := by
              unfold bst
              rw [if_neg (by omega), Nat.add_sub_cancel, if_pos hb]
            by_cases hc : (pkW g B least k i (q + 1)).length < (bwy (pkW g B least k i) q).2.length
            · rw [if_pos (by rw [e]; simp; omega)]
              exact hnew hl (by rw [bwy, if_pos hc])
            · rw [if_neg (by rw [e]; simp; omega)]
              refine hold ?_
              rw [e]
              unfold bst
              rw [if_neg (by omega), Nat.add_sub_cancel, bwy, if_neg hc, if_pos hb]
          · have e : bst (pkW g B least k i) (q + 1) = (false, 0, 0, []) := by
              unfold bst
              rw [if_neg (by omega), Nat.add_sub_cancel, if_neg hb]
            rw [if_pos (by rw [e]; simp)]
            exact hnew hl (by rw [bwy, if_pos (by omega)])
      · rw [if_neg hl]
        simp only [Bool.false_eq_true, if_false]
        refine hold ?_
        unfold bst
        rw [if_neg (by omega), Nat.add_sub_cancel]
        by_cases h0 : j = 0
        · subst h0
          rw [if_pos rfl, bwy, if_neg hl]
        · obtain ⟨q, rfl⟩ : ∃ q, j = q + 1 := ⟨j - 1, by omega⟩
          rw [if_neg (show ¬ q + 1 = 0 by omega), Nat.add_sub_cancel, bwy]
          by_cases hc : (pkW g B least k i (q + 1)).length < (bwy (pkW g B least k i) q).2.length
          · rw [if_pos hc, if_neg hl, if_neg (by omega)]
          · rw [if_neg hc]
    · rw [if_neg (by simp; omega)]
      have : j = min B.toNat i + 1 := by omega
      subst this
      unfold qb4 bst pkN
      rw [if_neg (by omega), Nat.add_sub_cancel]
      split <;> rfl
theorem qmD {F : Nat} (hF : 2000000 ≤ F) {g : List (List Int)} (hg : Gr g) {B least : Int} {k i : Nat} (hh : hcE B least (k : Int) = 0) (hi : i ≤ g.length) :
    qcl F (g.take i) (g.getD i []) B least (k : Int) = some (if (pkN g B least k i).2.length ≤ 8192 then (((pkN g B least k i).1 : Int), ((pkN g B least k i).2.length : Int), pk (pkN g B least k i).2, true) else (0, 0, [], false)) := by
  have hgl := hg.1
  have := qld hF hg hh hi F 0 (by omega) (Nat.zero_le _)
  exact this
theorem qm9 {g : List (List Int)} {B least : Int} {k i r : Nat} : Bit (pkW g B least k i r) := by
  unfold pkW pkH
  refine vu ?_ qdC
  split
  · exact qc3 r
  · intro z hz; simp at hz
theorem qhM {g : List (List Int)} {B least : Int} {k i : Nat} : Bit (pkN g B least k i).2 := by
  rw [qgh.2]; exact qm9
theorem qdb {g : List (List Int)} {B least : Int} {k : Nat} : ∀ n : Nat, Bit (pkA g B least k n).1
  | 0 => by intro z hz; simp [pkA] at hz
  | n + 1 => by unfold pkA; exact vu (qdb n) qhM
theorem qf4 {g : List (List Int)} {i : Nat} (h : i < g.length) : idx g (i : Int) = some (g.getD i []) := by
  rw [zW, List.getD_eq_getElem?_getD, List.getElem?_eq_getElem h]
  rfl
theorem qkb {F : Nat} (hF : 2000000 ≤ F) {g : List (List Int)} (hg : Gr g) {N B least : Int} {k : Nat} (hh : hcE B least (k : Int) = 0) : ∀ (j i : Nat), g.length < j + i → i ≤ g.length → (pkA g B least k i).1.length ≤ 8192 →
    ∃ z, zg F N B least (k : Int) g j ((i : Int), ((pkA g B least k i).1.length : Int), pk (pkA g B least k i).1, (pkA g B least k i).2.1, (pkA g B least k i).2.2) = some z ∧ z.1 = decide ((pkA g B least k g.length).1.length ≤ 8192) ∧
      (z.1 = true → z = (true, N, B, least, (k : Int), ((pkA g B least k g.length).1.length : Int), pk (pkA g B least k g.length).1, (pkA g B least k g.length).2.1, (pkA g B least k g.length).2.2))
  | 0, _, _, _, _ => by omega
  | j + 1, i, h, hi, hA => by
    have hgl := hg.1
    show ∃ z, yD F N B least (k : Int) g (zg F N B least (k : Int) g j) (i : Int) ((pkA g B least k i).1.length : Int) (pk (pkA g B least k i).1) (pkA g B least k i).2.1 (pkA g B least k i).2.2 = some z ∧ _
    unfold yD
    by_cases hlt : i < g.length
    · have e0 : sub g 0 (i : Int) = some (g.take i) := by
        have := qku (l := g) (i := 0) (j := i) (by omega) hi
        simpa using this
      have hstep : (pkA g B least k (i + 1)).1.length = (pkA g B least k i).1.length + (pkN g B least k i).2.length := by rw [pkA, List.length_append]
      have hmono := qgf (g := g) (B := B) (least := least) (k := k) (show i + 1 ≤ g.length from hlt)
      rw [if_pos (by simp; omega), qf4 hlt, e0]
      simp only [Option.bind_some]
      rw [qmD hF hg hh hi]
      simp only [Option.bind_some]
      unfold yE
      by_cases h1 : (pkN g B least k i).2.length ≤ 8192
      · rw [if_pos h1]
        simp only [Bool.not_true, Bool.false_eq_true, if_false]
        rw [zy (by omega) (by omega)]
        unfold kK
        by_cases h2 : (pkA g B least k i).1.length + (pkN g B least k i).2.length ≤ 8192
        · rw [if_neg (by simp; omega)]
          have hl := qeI (g := g) (B := B) (least := least) (k := k) i
          rw [jr (by rw [hl.1]; simp; omega)]
          simp only [Option.bind_some]
          rw [jr (by rw [hl.2]; simp; omega)]
          simp only [Option.bind_some]
          unfold kL
          rw [qfB (by omega) (qcT (qdb i)) (qcT qhM) (qeH hA) (qeH h1), qcp (qdb i), qcp qhM]
          simp only [Option.bind_some]
          have := qkb hF hg (N := N) hh j (i + 1) (by omega) (by omega) (by omega)
          rw [zI (by omega), ← hstep]
          exact this
        · rw [if_pos (by simp; omega)]
          exact ⟨_, rfl, by simp only; rw [decide_eq_false (by omega)], fun h => by simp at h⟩
      · rw [if_neg h1]
        simp only [Bool.not_false, if_true]
        unfold kK
        rw [if_pos rfl]
        exact ⟨_, rfl, by simp only; rw [decide_eq_false (by omega)], fun h => by simp at h⟩
    · rw [if_neg (by simp; omega)]
      have : i = g.length := by omega
      subst this
      unfold vT
      exact ⟨_, rfl, by simp only; rw [decide_eq_true hA], fun _ => rfl⟩
theorem qg6 {F : Nat} (hF : 2000000 ≤ F) {g : List (List Int)} {B least k : Int} :
    ∃ z1 z2 z3 z4 z5 z6 z7 z8, qac F g B least k = some (z1, z2, z3, z4, z5, z6, z7, z8, pkE g B least k) ∧
      (pkE g B least k = 0 → (z1, z2, z3, z4, z5, z6, z7, z8) = ((g.length : Int), B, least, k, ((pkA g B least k.toNat g.length).1.length : Int), pk (pkA g B least k.toNat g.length).1, (pkA g B least k.toNat g.length).2.1, (pkA g B least k.toNat g.length).2.2)) := by
  unfold qac
  rw [qgO (by omega)]
  simp only [Option.bind_some]
  by_cases h1 : gchk g = 0
  · rw [if_pos (by simpa using h1), qcQ]
    simp only [Option.bind_some]
    unfold vE
    by_cases h2 : hcE B least k = 0
    · rw [if_pos (by simpa using h2)]
      obtain ⟨_, _, k', rfl, _, _⟩ := qcG h2
      have hg := qfF.1 h1
      have hgl := hg.1
      obtain ⟨z, hz, hz1, hz2⟩ := qkb hF hg (N := (g.length : Int)) h2 F 0 (by omega) (Nat.zero_le _) (by simp [pkA])
      have hz' : qav F (g.length : Int) B least (k' : Int) 0 [] [] [] g = some z := by
        have e : pk ([] : List Int) = [] := by simp [pk]
        simp only [pkA, List.length_nil, e] at hz
        exact hz
      rw [hz']
      simp only [Option.bind_some]
      unfold yJ yI
      rw [Int.toNat_natCast]
      by_cases h3 : (pkA g B least k' g.length).1.length ≤ 8192
      · rw [decide_eq_true h3] at hz1
        have := hz2 hz1
        have hE : pkE g B least (k' : Int) = 0 := qlU h1 h2 (by rw [Int.toNat_natCast]; exact h3)
        rw [hE, h2]
        subst this
        exact ⟨_, _, _, _, _, _, _, _, rfl, fun _ => rfl⟩
      · rw [decide_eq_false h3] at hz1
        have hE : pkE g B least (k' : Int) = 8 := by
          unfold pkE
          rw [if_neg (by simp [h1]), if_neg (by simp [h2]), if_pos (by rw [Int.toNat_natCast]; omega)]
        rw [hE, hz1]
        exact ⟨_, _, _, _, _, _, _, _, rfl, fun h => by simp at h⟩
    · have hE : pkE g B least k = hcE B least k := by
        unfold pkE
        rw [if_neg (by simp [h1]), if_pos h2]
      rw [if_neg (by simpa using h2), hE]
      unfold yJ yI
      exact ⟨_, _, _, _, _, _, _, _, rfl, fun h => absurd h h2⟩
  · have hE : pkE g B least k = gchk g := by
      unfold pkE
      rw [if_pos h1]
    rw [if_neg (by simpa using h1), hE]
    unfold vE yJ yI
    rw [if_neg (by simpa using h1)]
    exact ⟨_, _, _, _, _, _, _, _, rfl, fun h => absurd h h1⟩
def pwr (g : List (List Int)) (B least k : Int) : Int × Int × Int × Int × Int × List Int × Int :=
  if pkE g B least k ≠ 0 then (0, 0, 0, 0, 0, [], pkE g B least k) else ((g.length : Int), B, least, k, ((pkA g B least k.toNat g.length).1.length : Int), pk (pkA g B least k.toNat g.length).1, 0)
def ptl (g : List (List Int)) (B least k : Int) : List Int × List Int × Int :=
  if pkE g B least k ≠ 0 then ([], [], pkE g B least k) else ((pkA g B least k.toNat g.length).2.1, (pkA g B least k.toNat g.length).2.2, 0)
theorem qe9 {F : Nat} (hF : 2000000 ≤ F) {g : List (List Int)} {B least k : Int} : vn F g B least k = some (pwr g B least k) := by
  obtain ⟨z1, z2, z3, z4, z5, z6, z7, z8, hz, hz2⟩ := qg6 hF (g := g) (B := B) (least := least) (k := k)
  unfold vn pwr
  rw [hz]
  simp only [Option.bind_some]
  by_cases h : pkE g B least k = 0
  · rw [if_neg (by simp [h]), if_neg (by simp [h])]
    have := hz2 h
    simp only [Prod.mk.injEq] at this
    obtain ⟨rfl, rfl, rfl, rfl, rfl, rfl, -, -⟩ := this
    rfl
  · rw [if_pos (by simpa using h), if_pos h]
theorem qiC {F : Nat} (hF : 2000000 ≤ F) {g : List (List Int)} {B least k : Int} : qbA F g B least k = some (ptl g B least k) := by
  obtain ⟨z1, z2, z3, z4, z5, z6, z7, z8, hz, hz2⟩ := qg6 hF (g := g) (B := B) (least := least) (k := k)
  unfold qbA ptl
  rw [hz]
  simp only [Option.bind_some]
  by_cases h : pkE g B least k = 0
  · rw [if_neg (by simp [h]), if_neg (by simp [h])]
    have := hz2 h
    simp only [Prod.mk.injEq] at this
    obtain ⟨-, -, -, -, -, -, rfl, rfl⟩ := this
    rfl
  · rw [if_pos (by simpa using h), if_pos h]
theorem qlR {F : Nat} {xs ys : List Int} (he : xs.length = ys.length) (hm : xs.length ≤ 1000000) : ∀ (k i : Nat), xs.length < k + i → i ≤ xs.length → zM F xs ys k (i : Int) = some (decide (xs.drop i = ys.drop i))
  | 0, _, _, _ => by omega
  | k + 1, i, h, hi => by
    show kI F xs ys (zM F xs ys k) (i : Int) = _
    unfold kI
    by_cases hlt : i < xs.length
    · have hlt' : i < ys.length := by omega
      rw [if_pos (by simp; omega), zW, List.getElem?_eq_getElem hlt, zW, List.getElem?_eq_getElem hlt']
      simp only [Option.bind_some]
      rw [List.drop_eq_getElem_cons hlt, List.drop_eq_getElem_cons hlt']
      by_cases hc : xs[i] = ys[i]
      · rw [if_neg (by simp [hc]), zI (by omega), qlR he hm k (i + 1) (by omega) (by omega)]
        congr 1
        rw [decide_eq_decide, List.cons.injEq]
        exact ⟨fun h => ⟨hc, h⟩, fun h => h.2⟩
      · rw [if_pos (by simpa using hc), decide_eq_false (fun e => hc (List.cons.inj e).1)]
    · rw [if_neg (by simp; omega), List.drop_eq_nil_of_le (by omega), List.drop_eq_nil_of_le (by omega)]
      rfl
theorem peqb {F : Nat} {xs ys : List Int} (hF : xs.length < F) (hm : xs.length ≤ 1000000) : yf F xs ys = some (decide (xs = ys)) := by
  unfold yf
  by_cases h : xs.length = ys.length
  · rw [if_neg (by simp [h])]
    have := qlR (F := F) h hm F 0 (by omega) (Nat.zero_le _)
    rw [List.drop_zero, List.drop_zero] at this
    exact this
  · rw [if_pos (by simp; omega), decide_eq_false (fun e => h (by rw [e]))]
theorem qkV {l : List Int} {p : Nat} {most : Int} (h : rgam l p most = none) : (fg l p).2.2 ≠ 0 ∨ most < (fg l p).1 := by
  unfold rgam at h
  by_cases h1 : (fg l p).2.2 = 0
  · right
    by_cases h2 : (fg l p).1 ≤ most
    · rw [if_pos ⟨h1, h2⟩] at h; simp at h
    · omega
  · left; exact h1
theorem qng {l : List Int} {p : Nat} {most : Int} {x : Int × Nat} (h : rgam l p most = some x) : fg l p = (x.1, (x.2 : Int), 0) ∧ x.1 ≤ most := by
  unfold rgam at h
  split at h
  · rename_i hc
    simp only [Option.some.injEq] at h
    rw [← h]
    have h3 : 0 ≤ (fg l p).2.1 := by
      rcases qlp (l := l) (a := p) with h1 | ⟨n, q, h1, h2, h3⟩
      · exact absurd hc.1 h1
      · rw [h1]; simp
    refine ⟨?_, hc.2⟩
    simp only
    rw [Int.toNat_of_nonneg h3, ← hc.1]
  · simp at h
theorem qn7 {l : List Int} {B : Int} (_hB : 0 ≤ B) {node p : Nat} (hp : p ≤ l.length) {o : Int × Nat} (h : pkO l B node p = some o) : 0 ≤ o.1 ∧ o.1 ≤ min B (node : Int) ∧ o.2 ≤ l.length := by
  unfold pkO at h
  split at h
  · simp only [Option.some.injEq] at h
    subst h
    simp only
    omega
  · have := v6 h
    omega
theorem qna {F : Nat} (hF : 20000 ≤ F) {l : List Int} (hl : Bit l) (hm : l.length ≤ 8192) {N B least k : Int} (hB : 0 ≤ B ∧ B ≤ 7) {node p : Nat} (hn : node ≤ 1000) (hp : p ≤ l.length) :
    qcW F N B least k (l.length : Int) (pk l) (p : Int) (node : Int) = some (match pkO l B node p with | none => (0, 0, false) | some o => (o.1, (o.2 : Int), true)) := by
  unfold qcW pkO
  by_cases h0 : B = 0
  · rw [if_pos (by simpa using h0), if_pos h0]
  · rw [if_neg (by simpa using h0), if_neg h0, qeA hF hl hm hp]
    simp only [Option.bind_some]
    have hmin : imin B (node : Int) = min B (node : Int) := by unfold imin; split <;> omega
    have hcv : iconv .u64 (min B (node : Int)) = min B (node : Int) := by
      obtain ⟨q, hq⟩ := Int.eq_ofNat_of_zero_le (a := min B (node : Int)) (by omega)
      rw [hq]; exact vv (by omega)
    unfold qbq
    rw [hmin, hcv]
    cases hr : rgam l p (min B (node : Int)) with
    | none =>
      rcases qkV hr with h1 | h1
      · rw [if_pos (by simpa using h1), if_pos rfl]
      · by_cases h2 : (fg l p).2.2 = 0
        · rw [if_neg (by simp [h2]), if_pos (by simpa using h1)]
        · rw [if_pos (by simpa using h2), if_pos rfl]
    | some x =>
      obtain ⟨h1, h2⟩ := qng hr
      have hok := v6 hr
      rw [h1]
      simp only
      rw [if_neg (by simp), if_neg (by simp; omega)]
      have e : iconv .i64 x.1 = x.1 := yB (by omega) (by omega)
      rw [e]
theorem qiy {F k : Nat} (hF : 2000000 ≤ F) {l : List Int} (hl : Bit l) (hm : l.length ≤ 8192) {B least : Int} (hh : hcE B least (k : Int) = 0) {n : Nat} (hn : n ≤ 100) : ∀ (j p : Nat) (out : List (List Int)), n < j + out.length → out.length ≤ n → p ≤ l.length → (∀ x ∈ out, gkc x = 0) →
    kY F (n : Int) B least (k : Int) (l.length : Int) (pk l) j (out, (p : Int), (out.length : Int)) = some (match pkR l B least k (n - out.length) out p with | none => ([], false) | some r => (r.1, decide (r.2 = l.length)))
  | 0, _, _, _, _, _, _ => by omega
  | j + 1, p, out, h, ho, hp, hg => by
    obtain ⟨k1, k2, k', hk, k3, k4⟩ := qcG hh
    have hkk : k = k' := by omega
    subst hkk
    show qap F (n : Int) B least (k : Int) (l.length : Int) (pk l) (kY F (n : Int) B least (k : Int) (l.length : Int) (pk l) j) out (p : Int) (out.length : Int) = _
    unfold qap
    by_cases hlt : out.length < n
    · rw [if_pos (by simp; omega), qna (by omega) hl hm k1 (by omega) hp, show n - out.length = (n - (out.length + 1)) + 1 from by omega]
      simp only [Option.bind_some, pkR]
      cases hO : pkO l B out.length p with
      | none => rfl
      | some o =>
        obtain ⟨o1, o2, o3⟩ := qn7 k1.1 hp hO
        simp only [Bool.not_true, Bool.false_eq_true, if_false, Option.bind_some]
        have hfr : gkc (pkF out out.length o.1.toNat) = 0 := by
          unfold pkF
          split
          · rw [List.getD_eq_getElem?_getD]
            by_cases hq : out.length - o.1.toNat < out.length
            · rw [List.getElem?_eq_getElem hq]; exact hg _ (List.getElem_mem hq)
            · rw [List.getElem?_eq_none (by omega)]; decide
          · decide
        have hstep : ∀ fr : List Int, fr = pkF out out.length o.1.toNat → ((jU F (l.length : Int) (pk l) (o.2 : Int) (out.length : Int) fr o.1 least (k : Int)).bind fun x488 => (if ((x488.2.2 : Int) != 0) then some (([] : List (List Int)), false) else ((app 2199023255552 out ([x488.1] : List (List Int))).bind fun x494 => jd F (kY F (n : Int) B least (k : Int) (l.length : Int) (pk l) j) (out.length : Int) x494 x488.2.1))) = some (match (rdl l o.2 (out.length : Int) (pkF out out.length o.1.toNat) o.1 least k).bind fun r => pkR l B least k (n - (out.length + 1)) (out ++ [r.1]) r.2 with | none => ([], false) | some r => (r.1, decide (r.2 = l.length))) := by
          intro fr hfe
          subst hfe
          rw [qiL hF k3 k4 hl hm (by unfold Nd; omega) o3 (fun _ => hfr) k2]
          simp only [Option.bind_some]
          cases hr : rdl l o.2 (out.length : Int) (pkF out out.length o.1.toNat) o.1 least k with
          | none => rfl
          | some r =>
            obtain ⟨r1, r2, r3, r4, r5⟩ := ql7 hl k3 hr
            simp only [Option.bind_some]
            rw [if_neg (by simp), jr (by simp; omega)]
            simp only [Option.bind_some]
            unfold jd
            have hl1 : (out ++ [r.1]).length = out.length + 1 := by simp
            have hrec := qiy hF hl hm hh hn j r.2 (out ++ [r.1]) (by omega) (by omega) r5 (fun x hx => by
              rcases List.mem_append.1 hx with hx | hx
              · exact hg x hx
              · simp at hx; subst hx; exact r1)
            rw [hl1] at hrec
            rw [zI (by omega), hrec]
        by_cases h0 : 0 < o.1
        · rw [if_pos (by simpa using h0), kj (by omega) (by omega), show ((out.length : Int) - o.1) = ((out.length - o.1.toNat : Nat) : Int) from by omega, qf4 (by omega)]
          simp only [Option.bind_some]
          exact hstep _ (by unfold pkF; rw [if_pos (by omega)])
        · rw [if_neg (by simpa using h0)]
          exact hstep _ (by unfold pkF; rw [if_neg (by omega)])
    · rw [if_neg (by simp; omega), show n - out.length = 0 from by omega]
      unfold qbJ
      simp only [pkR]
      congr 2
      by_cases hpl : p = l.length
      · subst hpl; simp
      · rw [decide_eq_false hpl]; simp; omega
def pcE (N B least k m : Int) (b : List Int) : Int := if N < 0 ∨ 100 < N then 3 else if hcE B least k ≠ 0 then hcE B least k else chkOf m b
def prd (N B least k m : Int) (b : List Int) : List (List Int) × Int :=
  if pcE N B least k m b ≠ 0 then ([], pcE N B least k m b) else
  match pkR (bl b m.toNat) B least k.toNat N.toNat [] 0 with
  | none => ([], 1)
  | some r => if r.2 = m.toNat ∧ pkE r.1 B least k = 0 ∧ pk (pkA r.1 B least k.toNat r.1.length).1 = b then (r.1, 0) else ([], 1)
theorem qjg {F : Nat} {N B least k m : Int} {b : List Int} (hb : U8s b) (hm : I64 m) (lb : b.length ≤ 9223372036854775807) : qbN F N B least k m b = some (pcE N B least k m b) := by
  unfold qbN pcE
  by_cases h1 : N < 0 ∨ 100 < N
  · rw [if_pos (by simpa using h1), if_pos h1]
  · rw [if_neg (by simpa using h1), if_neg h1, qcQ]
    simp only [Option.bind_some]
    by_cases h2 : hcE B least k = 0
    · rw [if_neg (by simp [h2]), if_neg (by simp [h2]), qew hb hm.1 hm.2 lb]
      rfl
    · rw [if_pos (by simpa using h2), if_pos h2]
theorem qn6 {N B least k m : Int} {b : List Int} (hb : U8s b) (h : pcE N B least k m b = 0) : ∃ (n : Nat) (l : List Int), N = (n : Int) ∧ n ≤ 100 ∧ hcE B least k = 0 ∧ Bit l ∧ l.length ≤ 8192 ∧ m = (l.length : Int) ∧ b = pk l := by
  unfold pcE at h
  by_cases h1 : N < 0 ∨ 100 < N
  · rw [if_pos h1] at h; simp at h
  · rw [if_neg h1] at h
    by_cases h2 : hcE B least k = 0
    · rw [if_neg (by simp [h2])] at h
      rcases qij hb (n := m) with h3 | ⟨l, hl, hm, e1, e2⟩
      · exact absurd h h3
      · exact ⟨N.toNat, l, by omega, by omega, h2, hl, hm, e1, e2⟩
    · rw [if_pos h2] at h; exact absurd h h2
theorem qiz {F : Nat} (hF : 2000000 ≤ F) {N B least k m : Int} {b : List Int} (hb : U8s b) (hm : I64 m) (lb : b.length ≤ 9223372036854775807) : qbz F N B least k m b = some (prd N B least k m b) := by
  unfold qbz prd
  rw [qjg hb hm lb]
  simp only [Option.bind_some]
  by_cases h : pcE N B least k m b = 0
  · rw [if_neg (by simp [h]), if_neg (by simp [h])]
    obtain ⟨n, l, rfl, hn, hh, hl, hlm, rfl, rfl⟩ := qn6 hb h
    obtain ⟨k1, k2, k', rfl, k3, k4⟩ := qcG hh
    have hL := qiy (F := F) hF hl hlm hh hn F 0 [] (by simp; omega) (Nat.zero_le _) (Nat.zero_le _) (by simp)
    have hL' : qcX F (n : Int) B least (k' : Int) (l.length : Int) (pk l) = _ := hL
    rw [hL']
    simp only [Option.bind_some, List.length_nil, Nat.sub_zero, Int.toNat_natCast, qcp hl]
    cases hr : pkR l B least k' n [] 0 with
    | none => rfl
    | some r =>
      simp only
      by_cases hp : r.2 = l.length
      · rw [decide_eq_true hp, if_neg (by simp), qe9 hF]
        simp only [Option.bind_some]
        unfold pwr qaN
        by_cases hE : pkE r.1 B least (k' : Int) = 0
        · rw [if_neg (by simp [hE])]
          simp only [Int.toNat_natCast]
          obtain ⟨_, _, hA⟩ := qgg hE
          rw [Int.toNat_natCast] at hA
          rw [if_neg (by simp [hE]), peqb (by rw [qei]; omega) (by rw [qei]; omega)]
          simp only [Option.bind_some]
          by_cases hq : pk (pkA r.1 B least k' r.1.length).1 = pk l
          · rw [decide_eq_true hq, if_neg (by simp), if_pos ⟨hp, hE, hq⟩]
          · rw [decide_eq_false hq, if_pos (by simp), if_neg (fun hc => hq hc.2.2)]
        · rw [if_pos hE, if_pos (by simpa using hE), if_pos rfl, if_neg (fun hc => hE hc.2.1)]
      · rw [decide_eq_false hp, if_pos (by simp), if_neg (fun hc => hp hc.1)]
  · rw [if_pos (by simpa using h), if_pos h]
theorem qdY {F : Nat} {xs : List (List Int)} (hm : xs.length ≤ 1000000) (hr : ∀ r ∈ xs, r.length ≤ 1000000 ∧ r.length < F) : ∀ (k i : Nat), xs.length < k + i → i ≤ xs.length → yH F xs xs k (i : Int) = some true
  | 0, _, _, _ => by omega
  | k + 1, i, h, hi => by
    show j3 F xs xs (yH F xs xs k) (i : Int) = _
    unfold j3
    by_cases hlt : i < xs.length
    · have := hr _ (List.getElem_mem hlt)
      rw [if_pos (by simp; omega), zW, List.getElem?_eq_getElem hlt]
      simp only [Option.bind_some]
      rw [qjl this.2 this.1]
      simp only [Option.bind_some]
      rw [if_neg (by simp), zI (by omega)]
      exact qdY hm hr k (i + 1) (by omega) (by omega)
    · rw [if_neg (by simp; omega)]
      rfl
theorem qiB {F : Nat} {xs : List (List Int)} (hF : xs.length < F) (hm : xs.length ≤ 1000000) (hr : ∀ r ∈ xs, r.length ≤ 1000000 ∧ r.length < F) : qbi F xs xs = some true := by
  unfold qbi
  rw [if_neg (by simp)]
  exact qdY hm hr F 0 (by omega) (by omega)
def PSm (g : List (List Int)) : Prop := g.length ≤ 100 ∧ ∀ r ∈ g, r.length ≤ 1200
theorem qiA {F : Nat} {g : List (List Int)} (hF : 2000 ≤ F) (h : PSm g) : qbh F g g = some true := by
  unfold qbh
  have := h.1
  rw [qiB (by omega) (by omega) (fun r hr => by have := h.2 r hr; omega)]
  rfl
theorem qoa {g : List (List Int)} (h : Gr g) : PSm g := ⟨h.1, fun r hr => by have := qlz h hr; omega⟩
theorem qn9 {g : List (List Int)} {B least k : Int} (h : pkE g B least k = 0) : prd (g.length : Int) B least k ((pkA g B least k.toNat g.length).1.length : Int) (pk (pkA g B least k.toNat g.length).1) = (g, 0) := by
  obtain ⟨h1, h2, h3⟩ := qgg h
  have hg := qfF.1 h1
  have hgl := hg.1
  obtain ⟨k1, k2, k', rfl, k3, k4⟩ := qcG h2
  rw [Int.toNat_natCast] at h3 ⊢
  have hE : pcE (g.length : Int) B least (k' : Int) ((pkA g B least k' g.length).1.length : Int) (pk (pkA g B least k' g.length).1) = 0 := by
    unfold pcE
    rw [if_neg (by omega), if_neg (by simp [h2]), qef h3]
  have hr := qj8 hg h2 h3 [] g.length 0 (by omega)
  have hr' : pkR (pkA g B least k' g.length).1 B least k' g.length [] 0 = some (g, (pkA g B least k' g.length).1.length) := by
    rw [List.append_nil] at hr
    exact hr
  unfold prd
  rw [if_neg (by simp [hE])]
  simp only [Int.toNat_natCast]
  rw [qcp (qdb _), hr']
  simp only
  rw [if_pos ⟨trivial, h, trivial⟩]
def pkSome : List (List Int) := [[1, 2, 3, 5], [1, 2, 3, 5], [0, 1, 2, 3, 5], [], [4], [1, 2, 3]]
theorem qlW : pkE pkSome 3 3 2 = 0 := by decide +kernel
theorem qlY : (pkA pkSome 3 3 2 6).2 = ([0, 1, 1, 0, 0, 0], [0, 19, 28, 43, 45, 52]) := by decide +kernel
theorem qlX : prd 1 3 3 2 0 [] = ([], 1) := by decide +kernel
theorem pbegun {F : Nat} (hF : 2000000 ≤ F) : qbf F = some true := by
  have hS : jk F = some pkSome := rfl
  have hE := qlW
  have hg := qfF.1 (qgg hE).1
  have h3 := (qgg hE).2.2
  have hR := qn9 hE
  unfold qbf vz
  rw [hS]
  simp only [Option.bind_some]
  rw [qe9 hF]
  simp only [Option.bind_some]
  have hW : pwr pkSome 3 3 2 = ((pkSome.length : Int), 3, 3, 2, ((pkA pkSome 3 3 (2 : Int).toNat pkSome.length).1.length : Int), pk (pkA pkSome 3 3 (2 : Int).toNat pkSome.length).1, 0) := by
    unfold pwr
    rw [if_neg (by simp [hE])]
  have hT : ptl pkSome 3 3 2 = ([0, 1, 1, 0, 0, 0], [0, 19, 28, 43, 45, 52], 0) := by
    unfold ptl
    rw [if_neg (by simp [hE])]
    have := qlY
    rw [show (2 : Int).toNat = 2 from rfl, show pkSome.length = 6 from rfl]
    rw [show (pkA pkSome 3 3 2 6).2.1 = [0, 1, 1, 0, 0, 0] from by rw [this], show (pkA pkSome 3 3 2 6).2.2 = [0, 19, 28, 43, 45, 52] from by rw [this]]
  rw [hW]
  simp only
  rw [qiz hF (qcT (qdb _)) (qfG h3) (qfH h3), hR]
  simp only [Option.bind_some]
  rw [qiC hF, hT]
  simp only [Option.bind_some]
  rw [qiz hF (by intro y hy; simp at hy) ⟨by omega, by omega⟩ (by simp), qlX]
  simp only [Option.bind_some]
  rw [if_pos (by rfl), if_pos (by rfl), if_pos (by rfl), qiA (by omega) (qoa hg)]
  simp only [Option.bind_some]
  rw [if_pos (by trivial), if_pos (by rfl), if_pos (by rfl)]
  rfl
theorem qoC {g : List (List Int)} {least : Int} {k i : Nat} : pkN g 0 least k i = (0, enc (i : Int) (g.getD i []) [] 0 least k) := by
  unfold pkN
  rw [show min (0 : Int).toNat i = 0 from by simp]
  unfold bwy pkW pkH pkF
  rw [if_neg (by omega), if_neg (by omega), List.nil_append]
  rfl
theorem qnJ {g : List (List Int)} {least : Int} {k i : Nat} : (pkA g 0 least k (i + 1)).1 = (pkA g 0 least k i).1 ++ enc (i : Int) (g.getD i []) [] 0 least k := by
  rw [pkA, qoC]
theorem qlS {g : List (List Int)} {B least : Int} {k : Nat} : ∀ n : Nat, (pkA g B least k (n + 1)).2.1[0]? = some 0
  | 0 => by
    have := (qgh (g := g) (B := B) (least := least) (k := k) (i := 0)).1
    have e : (pkN g B least k 0).1 = 0 := by omega
    simp [pkA, e]
  | n + 1 => by
    rw [pkA]
    simp only
    have hl := (qeI (g := g) (B := B) (least := least) (k := k) (n + 1)).1
    rw [List.getElem?_append_left (by omega)]
    exact qlS n
theorem qnC {F : Nat} (hF : 2000000 ≤ F) {g : List (List Int)} (hg : Gr g) {least : Int} {k : Nat} (hh : hcE 0 least (k : Int) = 0) (hA : (pkA g 0 least k g.length).1.length ≤ 8192) {w : Int × Int × Int × Int × Int × List Int × Int} (hw : w.2.2.2.2.1 = ((pkA g 0 least k g.length).1.length : Int)) (hw2 : w.2.2.2.2.2.1 = pk (pkA g 0 least k g.length).1) : ∀ (j i : Nat), g.length < j + i → i ≤ g.length →
    kg F g least (k : Int) w j ((i : Int), ((pkA g 0 least k i).1.length : Int), pk (pkA g 0 least k i).1) = some true
  | 0, _, _, _ => by omega
  | j + 1, i, h, hi => by
    have hgl := hg.1
    show vx F g least (k : Int) w (kg F g least (k : Int) w j) (i : Int) ((pkA g 0 least k i).1.length : Int) (pk (pkA g 0 least k i).1) = _
    unfold vx
    by_cases hlt : i < g.length
    · have hm1 := qgf (g := g) (B := 0) (least := least) (k := k) (show i + 1 ≤ g.length from hlt)
      have hst : (pkA g 0 least k (i + 1)).1.length = (pkA g 0 least k i).1.length + (enc (i : Int) (g.getD i []) [] 0 least k).length := by rw [qnJ, List.length_append]
      have hE : swE (i : Int) (g.getD i []) [] 0 least (k : Int) = 0 := qjr hh (by unfold Nd; omega) (qf6 hg i) (fun h => by omega)
      have hs := qmq hE (by rw [Int.toNat_natCast]; omega)
      rw [Int.toNat_natCast] at hs
      rw [if_pos (by simp; omega), qf4 hlt]
      simp only [Option.bind_some]
      rw [qdJ hF, hs]
      simp only [Option.bind_some]
      unfold vy
      have l1 : (pkA g 0 least k i).1.length ≤ 8192 := by omega
      have l2 : (enc (i : Int) (g.getD i []) [] 0 least k).length ≤ 8192 := by omega
      rw [qm1 (by omega) (qcT (qdb i)) (qcT qdC) (qfG l1) (qfG l2) (qfH l1) (qfH l2), qm0 (qdb i) qdC l1 l2, if_pos (by omega)]
      simp only [Option.bind_some]
      rw [if_neg (by simp), zI (by omega)]
      have := qnC hF hg hh hA hw hw2 j (i + 1) (by omega) (by omega)
      rw [qnJ] at this
      simp only [List.length_append] at this ⊢
      exact this
    · have : i = g.length := by omega
      subst this
      rw [if_neg (by simp)]
      unfold j9
      rw [hw, hw2, qhc (by rw [qei]; omega) (by rw [qei]; omega)]
      rfl
theorem qlE {F : Nat} (hF : 2000000 ≤ F) {g : List (List Int)} {B least k : Int} : qbI F g B least k = some true := by
  unfold qbI
  rw [qiC hF]
  simp only [Option.bind_some]
  rw [pbegun hF]
  simp only [Option.bind_some, Bool.not_true, Bool.false_eq_true, if_false]
  rw [sbegun hF]
  simp only [Option.bind_some]
  unfold vP
  rw [if_neg (by simp), qid (by omega)]
  simp only [Option.bind_some]
  unfold vQ
  rw [if_neg (by simp)]
  by_cases hE : pkE g B least k = 0
  · have hT : ptl g B least k = ((pkA g B least k.toNat g.length).2.1, (pkA g B least k.toNat g.length).2.2, 0) := by
      unfold ptl
      rw [if_neg (by simp [hE])]
    obtain ⟨g1, g2, _⟩ := qgg hE
    obtain ⟨k1, k2, k', rfl, k3, k4⟩ := qcG g2
    have hg := qfF.1 g1
    have hgl := hg.1
    have hh : hcE 0 least (k' : Int) = 0 := qlB (r := 0) g2 (by omega)
    rw [hT]
    simp only
    rw [if_neg (by simp)]
    have h6 : yL F g least (k' : Int) false = some true := by
      unfold yL
      rw [if_neg (by simp), qe9 hF]
      simp only [Option.bind_some]
      by_cases h3 : (pkA g 0 least k' g.length).1.length ≤ 8192
      · have hE0 : pkE g 0 least (k' : Int) = 0 := qlU g1 hh (by rw [Int.toNat_natCast]; exact h3)
        have hW : pwr g 0 least (k' : Int) = ((g.length : Int), 0, least, (k' : Int), ((pkA g 0 least k' g.length).1.length : Int), pk (pkA g 0 least k' g.length).1, 0) := by
          unfold pwr
          rw [if_neg (by simp [hE0]), Int.toNat_natCast]
        rw [hW]
        simp only
        rw [if_neg (by simp)]
        have e : pk ([] : List Int) = [] := by simp [pk]
        have := qnC hF hg hh h3 (w := ((g.length : Int), 0, least, (k' : Int), ((pkA g 0 least k' g.length).1.length : Int), pk (pkA g 0 least k' g.length).1, 0)) rfl rfl F 0 (by omega) (Nat.zero_le _)
        simp only [pkA, List.length_nil, e] at this
        exact this
      · have hE0 : pkE g 0 least (k' : Int) = 8 := by
          unfold pkE
          rw [if_neg (by simp [g1]), if_neg (by simp [hh]), if_pos (by rw [Int.toNat_natCast]; omega)]
        have hW : pwr g 0 least (k' : Int) = (0, 0, 0, 0, 0, [], 8) := by
          unfold pwr
          rw [hE0]
          rfl
        rw [hW]
        rfl
    have hl := (qeI (g := g) (B := B) (least := least) (k := ((k' : Int)).toNat) g.length).1
    by_cases h0 : 0 < g.length
    · rw [if_pos (by rw [hl]; simpa using h0)]
      obtain ⟨q, hq⟩ : ∃ q, g.length = q + 1 := ⟨g.length - 1, by omega⟩
      have hb := qlS (g := g) (B := B) (least := least) (k := ((k' : Int)).toNat) q
      rw [← hq] at hb
      have e0 : idx (pkA g B least ((k' : Int)).toNat g.length).2.1 0 = some 0 := by
        show idx _ ((0 : Nat) : Int) = _
        rw [zW, hb]
      rw [e0]
      simp only [Option.bind_some]
      exact h6
    · rw [if_neg (by rw [hl]; simpa using h0)]
      exact h6
  · have hT : ptl g B least k = ([], [], pkE g B least k) := by
      unfold ptl
      rw [if_pos hE]
    rw [hT]
    simp only
    rw [if_pos (by simpa using hE)]
    rfl
end Go.Proofs.YtpnfijegoepiaaaGreat
