/- Plain facts of what the functions of this seat compute, part 2. -/
import Derived.Test.YtnlodcokfndnmaaGreatPurePack13
import Derived.KernelRfl
import Derived.Lib.SlicesCompact
namespace Go.Proofs.YtnlodcokfndnmaaGreat
open Go SX
variable {F : Nat} {rec68 : (List (Int × Int) × List Int × Int) → Option (List (Int × Int) × List Int)} {l : List Int} {least : Int} {o : List (Int × Int)} {rest : List Int} {i : Int}
theorem qd9 {g : List (List Int)} {B least k : Int} (h : pkE g B least k = 0) : gchk g = 0 ∧ hcE B least k = 0 ∧ (pkA g B least k.toNat g.length).1.length ≤ 8192 := by
  unfold pkE at h
  by_cases h1 : gchk g = 0
  · rw [if_neg (by simp [h1])] at h
    by_cases h2 : hcE B least k = 0
    · rw [if_neg (by simp [h2])] at h
      by_cases h3 : 8192 < (pkA g B least k.toNat g.length).1.length
      · rw [if_pos h3] at h; simp at h
      · exact ⟨h1, h2, by omega⟩
    · rw [if_pos h2] at h; exact absurd h h2
  · rw [if_pos h1] at h; exact absurd h h1
theorem qng {g : List (List Int)} {B least k : Int} (h1 : gchk g = 0) (h2 : hcE B least k = 0) (h3 : (pkA g B least k.toNat g.length).1.length ≤ 8192) : pkE g B least k = 0 := by
  unfold pkE
  rw [if_neg (by simp [h1]), if_neg (by simp [h2]), if_neg (by omega)]
theorem qfW {g : List (List Int)} {B least : Int} {k : Nat} : ∀ {n i : Nat}, i ≤ n → ∃ R, (pkA g B least k n).1 = (pkA g B least k i).1 ++ R
  | 0, i, h => by
    have : i = 0 := by omega
    subst this; exact ⟨[], by simp⟩
  | n + 1, i, h => by
    by_cases hi : i = n + 1
    · subst hi; exact ⟨[], by simp⟩
    · obtain ⟨R, hR⟩ := qfW (g := g) (B := B) (least := least) (k := k) (n := n) (i := i) (by omega)
      exact ⟨R ++ (pkN g B least k n).2, by rw [pkA, hR]; simp⟩
theorem qcO {g : List (List Int)} {B least : Int} {k : Nat} : ∀ n : Nat, (pkA g B least k n).2.1.length = n ∧ (pkA g B least k n).2.2.length = n
  | 0 => ⟨rfl, rfl⟩
  | n + 1 => by
    have := qcO (g := g) (B := B) (least := least) (k := k) n
    simp only [pkA, List.length_append, List.length_singleton]
    omega
theorem qd8 {g : List (List Int)} {B least : Int} {k n i : Nat} (h : i ≤ n) : (pkA g B least k i).1.length ≤ (pkA g B least k n).1.length := by
  obtain ⟨R, hR⟩ := qfW (g := g) (B := B) (least := least) (k := k) h
  rw [hR, List.length_append]; omega
theorem qfX {g : List (List Int)} {B least : Int} {k i : Nat} : (pkN g B least k i).1 ≤ min B.toNat i ∧ (pkN g B least k i).2 = pkW g B least k i (pkN g B least k i).1 := qjM _ _
theorem qkr {g : List (List Int)} {B least : Int} {k n i : Nat} (h : i < n) : ∃ R, (pkA g B least k n).1 = (pkA g B least k i).1 ++ ((pkH B (pkN g B least k i).1 ++ enc (i : Int) (g.getD i []) (pkF g i (pkN g B least k i).1) ((pkN g B least k i).1 : Int) least k) ++ R) := by
  obtain ⟨R, hR⟩ := qfW (g := g) (B := B) (least := least) (k := k) (n := n) (i := i + 1) h
  refine ⟨R, ?_⟩
  rw [hR, pkA]
  have := (qfX (g := g) (B := B) (least := least) (k := k) (i := i)).2
  unfold pkW at this
  rw [this]
  simp only [List.append_assoc]
theorem qm6 {g : List (List Int)} (h : Gr g) {l : List Int} (hl : l ∈ g) : gkc l = 0 := by
  have h1 := h.2.1 l hl
  have h2 := qhs h hl
  have h3 := h.1
  refine ky.2 ⟨by omega, qf0 h1.1 (fun z hz => ?_) fun z hz => ?_⟩
  · have := h1.2 z hz; omega
  · have := h1.2 z hz; unfold Nd; omega
theorem qfN {g : List (List Int)} (h : Gr g) (i : Nat) : gkc (g.getD i []) = 0 := by
  by_cases hi : i < g.length
  · rw [List.getD_eq_getElem?_getD, List.getElem?_eq_getElem hi]
    exact qm6 h (List.getElem_mem hi)
  · rw [List.getD_eq_getElem?_getD, List.getElem?_eq_none (by omega)]
    decide
theorem qiy {g : List (List Int)} (h : Gr g) (i r : Nat) : gkc (pkF g i r) = 0 := by
  unfold pkF
  split
  · exact qfN h _
  · decide
def pkO (l : List Int) (B : Int) (node p : Nat) : Option (Int × Nat) := if B = 0 then some (0, p) else rgam l p (min B (node : Int))
def pkR (l : List Int) (B least : Int) (k : Nat) : Nat → List (List Int) → Nat → Option (List (List Int) × Nat)
  | 0, out, p => some (out, p)
  | m + 1, out, p => (pkO l B out.length p).bind fun o => (rdl l o.2 (out.length : Int) (pkF out out.length o.1.toNat) o.1 least k).bind fun r => pkR l B least k m (out ++ [r.1]) r.2
theorem qh0 {g : List (List Int)} {i : Nat} (h : i < g.length) : g.take i ++ [g.getD i []] = g.take (i + 1) := by
  rw [List.take_add_one, List.getD_eq_getElem?_getD, List.getElem?_eq_getElem h]
  rfl
theorem qks {g : List (List Int)} {i r : Nat} (h : r ≤ i) (_hi : i ≤ g.length) : pkF (g.take i) i r = pkF g i r := by
  unfold pkF
  split
  · rw [List.getD_eq_getElem?_getD, List.getD_eq_getElem?_getD, List.getElem?_take, if_pos (by omega)]
  · rfl
theorem qiz {g : List (List Int)} (hg : Gr g) {B least : Int} {k : Nat} (hh : hcE B least (k : Int) = 0) (hl : (pkA g B least k g.length).1.length ≤ 8192) (T : List Int) : ∀ (m i : Nat), i + m = g.length →
    pkR ((pkA g B least k g.length).1 ++ T) B least k m (g.take i) (pkA g B least k i).1.length = some (g, (pkA g B least k g.length).1.length)
  | 0, i, h => by
    have : i = g.length := by omega
    subst this
    simp [pkR]
  | m + 1, i, h => by
    have hi : i < g.length := by omega
    obtain ⟨k1, k2, k', hk, k3, k4⟩ := qbm hh
    have hkk : k = k' := by omega
    subst hkk
    obtain ⟨hr, _⟩ := qfX (g := g) (B := B) (least := least) (k := k) (i := i)
    have hgl := hg.1
    have hti : (g.take i).length = i := by rw [List.length_take]; omega
    obtain ⟨R, hR⟩ := qkr (g := g) (B := B) (least := least) (k := k) hi
    have hnext := qiz hg hh hl T m (i + 1) (by omega)
    have hA : (pkA g B least k (i + 1)).1.length = (pkA g B least k i).1.length + (pkH B (pkN g B least k i).1).length + (enc (i : Int) (g.getD i []) (pkF g i (pkN g B least k i).1) ((pkN g B least k i).1 : Int) least k).length := by
      have := (qfX (g := g) (B := B) (least := least) (k := k) (i := i)).2
      rw [pkA, this]
      unfold pkW
      simp only [List.length_append]; omega
    have hO : pkO ((pkA g B least k g.length).1 ++ T) B i (pkA g B least k i).1.length = some (((pkN g B least k i).1 : Int), (pkA g B least k i).1.length + (pkH B (pkN g B least k i).1).length) := by
      unfold pkO pkH
      by_cases hB : B = 0
      · have : (pkN g B least k i).1 = 0 := by rw [hB] at hr ⊢; simp at hr; exact hr
        rw [if_pos hB, this, if_neg (by omega)]
        simp
      · rw [if_neg hB, if_pos (by omega)]
        rw [hR]
        unfold pkH
        rw [if_pos (by omega)]
        simp only [List.append_assoc]
        exact qcR (by omega) (by omega) _ _
    unfold pkR
    rw [hti, hO]
    simp only [Option.bind_some, Int.toNat_natCast]
    rw [qks (by omega) (by omega)]
    have hE : (enc (i : Int) (g.getD i []) (pkF g i (pkN g B least k i).1) ((pkN g B least k i).1 : Int) least k).length ≤ 8192 := by
      have := qd8 (g := g) (B := B) (least := least) (k := k) (show i + 1 ≤ g.length from hi)
      omega
    have hD := ql0 (k := k) k3 k4 (node := (i : Int)) (back := ((pkN g B least k i).1 : Int)) (least := least) (x := g.getD i []) (fr := pkF g i (pkN g B least k i).1) (by unfold Nd; omega) k2 (qfN hg i) (fun _ => qiy hg _ _) ((pkA g B least k i).1 ++ pkH B (pkN g B least k i).1) (R ++ T) hE
    rw [hR]
    simp only [List.append_assoc, List.length_append] at hD ⊢
    rw [hD]
    simp only [Option.bind_some]
    rw [qh0 hi]
    rw [hR] at hnext
    simp only [List.append_assoc, List.length_append] at hnext
    rw [← hnext, hA]
theorem qm8 {B least k : Int} {r : Nat} (h : hcE B least k = 0) (hr : (r : Int) ≤ B) : hcE (r : Int) least k = 0 := by
  unfold hcE at h ⊢
  by_cases hb : hcB B least k
  · rw [if_pos hb] at h; simp at h
  · rw [if_neg (by unfold hcB at hb ⊢; omega)]
theorem qiW {F : Nat} (hF : 2000000 ≤ F) {A : List (List Int)} {x fr H : List Int} {r i k : Nat} {least : Int} (hA : A.length = i) (hi : i ≤ 100) (hx : gkc x = 0) (hfr : gkc fr = 0) (hh : hcE (r : Int) least (k : Int) = 0) (hH : Bit H) (hHl : H.length ≤ 100) :
    vN F A x (r : Int) least (k : Int) (H.length : Int) (pk H) fr = some (if (H ++ enc (i : Int) x fr (r : Int) least k).length ≤ 8192 then ((r : Int), ((H ++ enc (i : Int) x fr (r : Int) least k).length : Int), pk (H ++ enc (i : Int) x fr (r : Int) least k), true) else (0, 0, [], false)) := by
  unfold vN
  rw [qjo hF, hA]
  simp only [Option.bind_some]
  have hE : swE (i : Int) x fr (r : Int) least (k : Int) = 0 := qns hh (by unfold Nd; omega) hx (fun _ => hfr)
  rw [List.length_append]
  by_cases h1 : (enc (i : Int) x fr (r : Int) least k).length ≤ 8192
  · have hs := qnO hE (by rw [Int.toNat_natCast]; exact h1)
    rw [Int.toNat_natCast] at hs
    rw [hs]
    simp only
    rw [qE (by omega) (by omega)]
    by_cases h2 : H.length + (enc (i : Int) x fr (r : Int) least k).length ≤ 8192
    · rw [if_neg (by simp; omega), if_pos h2, qfF (by omega) (qb7 hH) (qb7 qfK) (qcM (by omega)) (qcM h1), qb5 hH, qb5 qfK]
      rfl
    · rw [if_pos (by simp; omega), if_neg h2]
  · have hs : sw (i : Int) x fr (r : Int) least (k : Int) = (0, [], 8) := by
      unfold sw
      rw [if_neg (by simp [hE]), Int.toNat_natCast, if_pos (by omega)]
    rw [hs, if_pos (by simp), if_neg (by omega)]
theorem qmF {F : Nat} (hF : 2000000 ≤ F) {g : List (List Int)} (hg : Gr g) {B least : Int} {k i r : Nat} (hh : hcE B least (k : Int) = 0) (hi : i ≤ g.length) (hr : r ≤ min B.toNat i) :
    qaO F (g.take i) (g.getD i []) (r : Int) B least (k : Int) = some (if (pkW g B least k i r).length ≤ 8192 then ((r : Int), ((pkW g B least k i r).length : Int), pk (pkW g B least k i r), true) else (0, 0, [], false)) := by
  have hgl := hg.1
  have hti : (g.take i).length = i := by rw [List.length_take]; omega
  obtain ⟨k1, -, -⟩ := qbm hh
  have hh' : hcE (r : Int) least (k : Int) = 0 := qm8 hh (by omega)
  have hj : ∀ H : List Int, Bit H → H.length ≤ 100 → vM F (g.take i) (g.getD i []) (r : Int) least (k : Int) (H.length : Int) (pk H) = some (if (H ++ enc (i : Int) (g.getD i []) (pkF g i r) (r : Int) least k).length ≤ 8192 then ((r : Int), ((H ++ enc (i : Int) (g.getD i []) (pkF g i r) (r : Int) least k).length : Int), pk (H ++ enc (i : Int) (g.getD i []) (pkF g i r) (r : Int) least k), true) else (0, 0, [], false)) := by
    intro H hH hHl
    unfold vM
    by_cases h0 : 0 < r
    · rw [if_pos (by simpa using h0), hti, q6 (by omega) (by omega), show ((i : Int) - (r : Int)) = ((i - r : Nat) : Int) from by omega, qQ, List.getElem?_take, if_pos (by omega), List.getElem?_eq_getElem (show i - r < g.length by omega)]
      simp only [Option.bind_some]
      have e : g[i - r]'(by omega) = pkF g i r := by
        unfold pkF
        rw [if_pos h0, List.getD_eq_getElem?_getD, List.getElem?_eq_getElem (show i - r < g.length by omega)]
        rfl
      rw [e]
      exact qiW hF hti (by omega) (qfN hg i) (qiy hg i r) hh' hH hHl
    · rw [if_neg (by simpa using h0)]
      have e : pkF g i r = [] := by unfold pkF; rw [if_neg h0]
      rw [e]
      exact qiW hF hti (by omega) (qfN hg i) (by decide) hh' hH hHl
  unfold qaO pkW pkH
  by_cases hB : 0 < B
  · have hga := qil (n := r) (by omega)
    rw [if_pos (by simpa using hB), if_pos hB, kJ (by omega), qds (by omega) (by omega)]
    simp only [Option.bind_some]
    exact hj (ga r) (qbk r) (by omega)
  · rw [if_neg (by simpa using hB), if_neg hB]
    exact hj [] (by intro z hz; simp at hz) (by simp)
def bst (f : Nat → List Int) (j : Nat) : Bool × Int × Int × List Int := if j = 0 then (false, 0, 0, []) else if (bwy f (j - 1)).2.length ≤ 8192 then (true, ((bwy f (j - 1)).1 : Int), ((bwy f (j - 1)).2.length : Int), pk (bwy f (j - 1)).2) else (false, 0, 0, [])
theorem qjI {F : Nat} (hF : 2000000 ≤ F) {g : List (List Int)} (hg : Gr g) {B least : Int} {k i : Nat} (hh : hcE B least (k : Int) = 0) (hi : i ≤ g.length) : ∀ (n j : Nat), min B.toNat i + 1 < n + j → j ≤ min B.toNat i + 1 →
    zr F (g.take i) (g.getD i []) B least (k : Int) n ((bst (pkW g B least k i) j).1, (j : Int), (bst (pkW g B least k i) j).2.1, (bst (pkW g B least k i) j).2.2.1, (bst (pkW g B least k i) j).2.2.2) = some (if (pkN g B least k i).2.length ≤ 8192 then (((pkN g B least k i).1 : Int), ((pkN g B least k i).2.length : Int), pk (pkN g B least k i).2, true) else (0, 0, [], false))
  | 0, _, _, _ => by omega
  | n + 1, j, h, hj => by
    have hgl := hg.1
    have hti : (g.take i).length = i := by rw [List.length_take]; omega
    obtain ⟨k1, -, -⟩ := qbm hh
    show ji F (g.take i) (g.getD i []) B least (k : Int) (zr F (g.take i) (g.getD i []) B least (k : Int) n) (bst (pkW g B least k i) j).1 (j : Int) (bst (pkW g B least k i) j).2.1 (bst (pkW g B least k i) j).2.2.1 (bst (pkW g B least k i) j).2.2.2 = _
    unfold ji
    have hmin : imin B ((g.take i).length : Int) = ((min B.toNat i : Nat) : Int) := by
      rw [hti]; unfold imin; split <;> omega
    rw [hmin, qE (by omega) (by omega)]
    by_cases hlt : j < min B.toNat i + 1
    · rw [if_pos (by simp; omega), qmF hF hg hh hi (by omega)]
      simp only [Option.bind_some]
      have hrec := qjI hF hg hh hi n (j + 1) (by omega) (by omega)
      have hnew : (pkW g B least k i j).length ≤ 8192 → bwy (pkW g B least k i) j = (j, pkW g B least k i j) → kB F (zr F (g.take i) (g.getD i []) B least (k : Int) n) (j : Int) true (j : Int) ((pkW g B least k i j).length : Int) (pk (pkW g B least k i j)) = some (if (pkN g B least k i).2.length ≤ 8192 then (((pkN g B least k i).1 : Int), ((pkN g B least k i).2.length : Int), pk (pkN g B least k i).2, true) else (0, 0, [], false)) := by
        intro h1 h2
        unfold kB
        rw [qG (by omega), ← hrec]
        unfold bst
        rw [if_neg (by omega), Nat.add_sub_cancel, h2, if_pos h1]
      have hold : bst (pkW g B least k i) (j + 1) = bst (pkW g B least k i) j → kB F (zr F (g.take i) (g.getD i []) B least (k : Int) n) (j : Int) (bst (pkW g B least k i) j).1 (bst (pkW g B least k i) j).2.1 (bst (pkW g B least k i) j).2.2.1 (bst (pkW g B least k i) j).2.2.2 = some (if (pkN g B least k i).2.length ≤ 8192 then (((pkN g B least k i).1 : Int), ((pkN g B least k i).2.length : Int), pk (pkN g B least k i).2, true) else (0, 0, [], false)) := by
        intro h1
        unfold kB
        rw [qG (by omega), ← hrec, h1]
      unfold jk
      by_cases hl : (pkW g B least k i j).length ≤ 8192
      · rw [if_pos hl]
        simp only [if_true]
        by_cases h0 : j = 0
        · subst h0
          rw [if_pos (by simp [bst])]
          exact hnew hl rfl
        · obtain ⟨q, rfl⟩ : ∃ q, j = q + 1 := ⟨j - 1, by omega⟩
          by_cases hb : (bwy (pkW g B least k i) q).2.length ≤ 8192
          · have e : bst (pkW g B least k i) (q + 1) = (true, ((bwy (pkW g B least k i) q).1 : Int), ((bwy (pkW g B least k i) q).2.length : Int), pk (bwy (pkW g B least k i) q).2) := by
              unfold bst
              rw [if_neg (by omega), Nat.add_sub_cancel, if_pos hb]
            by_cases hc : (pkW g B least k i (q + 1)).length < (bwy (pkW g B least k i) q).2.length
            · rw [if_pos (by rw [e]; simp; omega)]
              exact hnew hl (by rw [bwy, if_pos hc])
            · rw [if_neg (by rw [e]; simp; omega)]
              refine hold ?_
              rw [e]
              unfold bst
              rw [if_neg (by omega), Nat.add_sub_cancel, bwy, if_neg hc, if_pos hb]
          · have e : bst (pkW g B least k i) (q + 1) = (false, 0, 0, []) := by
              unfold bst
              rw [if_neg (by omega), Nat.add_sub_cancel, if_neg hb]
            rw [if_pos (by rw [e]; simp)]
            exact hnew hl (by rw [bwy, if_pos (by omega)])
      · rw [if_neg hl]
        simp only [Bool.false_eq_true, if_false]
        refine hold ?_
        unfold bst
        rw [if_neg (by omega), Nat.add_sub_cancel]
        by_cases h0 : j = 0
        · subst h0
          rw [if_pos rfl, bwy, if_neg hl]
        · obtain ⟨q, rfl⟩ : ∃ q, j = q + 1 := ⟨j - 1, by omega⟩
          rw [if_neg (show ¬ q + 1 = 0 by omega), Nat.add_sub_cancel, bwy]
          by_cases hc : (pkW g B least k i (q + 1)).length < (bwy (pkW g B least k i) q).2.length
          · rw [if_pos hc, if_neg hl, if_neg (by omega)]
          · rw [if_neg hc]
    · rw [if_neg (by simp; omega)]
      have : j = min B.toNat i + 1 := by omega
      subst this
      unfold qay bst pkN
      rw [if_neg (by omega), Nat.add_sub_cancel]
      split <;> rfl
theorem qlu {F : Nat} (hF : 2000000 ≤ F) {g : List (List Int)} (hg : Gr g) {B least : Int} {k i : Nat} (hh : hcE B least (k : Int) = 0) (hi : i ≤ g.length) :
    qaN F (g.take i) (g.getD i []) B least (k : Int) = some (if (pkN g B least k i).2.length ≤ 8192 then (((pkN g B least k i).1 : Int), ((pkN g B least k i).2.length : Int), pk (pkN g B least k i).2, true) else (0, 0, [], false)) := by
  have hgl := hg.1
  have := qjI hF hg hh hi F 0 (by omega) (Nat.zero_le _)
  exact this
theorem qlW {g : List (List Int)} {B least : Int} {k i r : Nat} : Bit (pkW g B least k i r) := by
  unfold pkW pkH
  refine ym ?_ qfK
  split
  · exact qbk r
  · intro z hz; simp at hz
theorem qfY {g : List (List Int)} {B least : Int} {k i : Nat} : Bit (pkN g B least k i).2 := by
  rw [qfX.2]; exact qlW
theorem qcN {g : List (List Int)} {B least : Int} {k : Nat} : ∀ n : Nat, Bit (pkA g B least k n).1
  | 0 => by intro z hz; simp [pkA] at hz
  | n + 1 => by unfold pkA; exact ym (qcN n) qfY
theorem qbI {g : List (List Int)} {i : Nat} (h : i < g.length) : idx g (i : Int) = some (g.getD i []) := by
  rw [qQ, List.getD_eq_getElem?_getD, List.getElem?_eq_getElem h]
  rfl
theorem qiC {F : Nat} (hF : 2000000 ≤ F) {g : List (List Int)} (hg : Gr g) {N B least : Int} {k : Nat} (hh : hcE B least (k : Int) = 0) : ∀ (j i : Nat), g.length < j + i → i ≤ g.length → (pkA g B least k i).1.length ≤ 8192 →
    ∃ z, qm F N B least (k : Int) g j ((i : Int), ((pkA g B least k i).1.length : Int), pk (pkA g B least k i).1, (pkA g B least k i).2.1, (pkA g B least k i).2.2) = some z ∧ z.1 = decide ((pkA g B least k g.length).1.length ≤ 8192) ∧
      (z.1 = true → z = (true, N, B, least, (k : Int), ((pkA g B least k g.length).1.length : Int), pk (pkA g B least k g.length).1, (pkA g B least k g.length).2.1, (pkA g B least k g.length).2.2))
  | 0, _, _, _, _ => by omega
  | j + 1, i, h, hi, hA => by
    have hgl := hg.1
    show ∃ z, kE F N B least (k : Int) g (qm F N B least (k : Int) g j) (i : Int) ((pkA g B least k i).1.length : Int) (pk (pkA g B least k i).1) (pkA g B least k i).2.1 (pkA g B least k i).2.2 = some z ∧ _
    unfold kE
    by_cases hlt : i < g.length
    · have e0 : sub g 0 (i : Int) = some (g.take i) := by
        have := qiU (l := g) (i := 0) (j := i) (by omega) hi
        simpa using this
      have hstep : (pkA g B least k (i + 1)).1.length = (pkA g B least k i).1.length + (pkN g B least k i).2.length := by rw [pkA, List.length_append]
      have hmono := qd8 (g := g) (B := B) (least := least) (k := k) (show i + 1 ≤ g.length from hlt)
      rw [if_pos (by simp; omega), qbI hlt, e0]
      simp only [Option.bind_some]
      rw [qlu hF hg hh hi]
      simp only [Option.bind_some]
      unfold kF
      by_cases h1 : (pkN g B least k i).2.length ≤ 8192
      · rw [if_pos h1]
        simp only [Bool.not_true, Bool.false_eq_true, if_false]
        rw [qE (by omega) (by omega)]
        unfold zI
        by_cases h2 : (pkA g B least k i).1.length + (pkN g B least k i).2.length ≤ 8192
        · rw [if_neg (by simp; omega)]
          have hl := qcO (g := g) (B := B) (least := least) (k := k) i
          rw [kY (by rw [hl.1]; simp; omega)]
          simp only [Option.bind_some]
          rw [kY (by rw [hl.2]; simp; omega)]
          simp only [Option.bind_some]
          unfold zJ
          rw [qfF (by omega) (qb7 (qcN i)) (qb7 qfY) (qcM hA) (qcM h1), qb5 (qcN i), qb5 qfY]
          simp only [Option.bind_some]
          have := qiC hF hg (N := N) hh j (i + 1) (by omega) (by omega) (by omega)
          rw [qG (by omega), ← hstep]
          exact this
        · rw [if_pos (by simp; omega)]
          exact ⟨_, rfl, by simp only; rw [decide_eq_false (by omega)], fun h => by simp at h⟩
      · rw [if_neg h1]
        simp only [Bool.not_false, if_true]
        unfold zI
        rw [if_pos rfl]
        exact ⟨_, rfl, by simp only; rw [decide_eq_false (by omega)], fun h => by simp at h⟩
    · rw [if_neg (by simp; omega)]
      have : i = g.length := by omega
      subst this
      unfold yM
      exact ⟨_, rfl, by simp only; rw [decide_eq_true hA], fun _ => rfl⟩
theorem qe5 {F : Nat} (hF : 2000000 ≤ F) {g : List (List Int)} {B least k : Int} :
    ∃ z1 z2 z3 z4 z5 z6 z7 z8, v8 F g B least k = some (z1, z2, z3, z4, z5, z6, z7, z8, pkE g B least k) ∧
      (pkE g B least k = 0 → (z1, z2, z3, z4, z5, z6, z7, z8) = ((g.length : Int), B, least, k, ((pkA g B least k.toNat g.length).1.length : Int), pk (pkA g B least k.toNat g.length).1, (pkA g B least k.toNat g.length).2.1, (pkA g B least k.toNat g.length).2.2)) := by
  unfold v8
  rw [qeM (by omega)]
  simp only [Option.bind_some]
  by_cases h1 : gchk g = 0
  · rw [if_pos (by simpa using h1), qdb]
    simp only [Option.bind_some]
    unfold yA
    by_cases h2 : hcE B least k = 0
    · rw [if_pos (by simpa using h2)]
      obtain ⟨_, _, k', rfl, _, _⟩ := qbm h2
      have hg := qcG.1 h1
      have hgl := hg.1
      obtain ⟨z, hz, hz1, hz2⟩ := qiC hF hg (N := (g.length : Int)) h2 F 0 (by omega) (Nat.zero_le _) (by simp [pkA])
      have hz' : js F (g.length : Int) B least (k' : Int) 0 [] [] [] g = some z := by
        have e : pk ([] : List Int) = [] := by simp [pk]
        simp only [pkA, List.length_nil, e] at hz
        exact hz
      rw [hz']
      simp only [Option.bind_some]
      unfold kN kM
      rw [Int.toNat_natCast]
      by_cases h3 : (pkA g B least k' g.length).1.length ≤ 8192
      · rw [decide_eq_true h3] at hz1
        have := hz2 hz1
        have hE : pkE g B least (k' : Int) = 0 := qng h1 h2 (by rw [Int.toNat_natCast]; exact h3)
        rw [hE, h2]
        subst this
        exact ⟨_, _, _, _, _, _, _, _, rfl, fun _ => rfl⟩
      · rw [decide_eq_false h3] at hz1
        have hE : pkE g B least (k' : Int) = 8 := by
          unfold pkE
          rw [if_neg (by simp [h1]), if_neg (by simp [h2]), if_pos (by rw [Int.toNat_natCast]; omega)]
        rw [hE, hz1]
        exact ⟨_, _, _, _, _, _, _, _, rfl, fun h => by simp at h⟩
    · have hE : pkE g B least k = hcE B least k := by
        unfold pkE
        rw [if_neg (by simp [h1]), if_pos h2]
      rw [if_neg (by simpa using h2), hE]
      unfold kN kM
      exact ⟨_, _, _, _, _, _, _, _, rfl, fun h => absurd h h2⟩
  · have hE : pkE g B least k = gchk g := by
      unfold pkE
      rw [if_pos h1]
    rw [if_neg (by simpa using h1), hE]
    unfold yA kN kM
    rw [if_neg (by simpa using h1)]
    exact ⟨_, _, _, _, _, _, _, _, rfl, fun h => absurd h h1⟩
def pwr (g : List (List Int)) (B least k : Int) : Int × Int × Int × Int × Int × List Int × Int :=
  if pkE g B least k ≠ 0 then (0, 0, 0, 0, 0, [], pkE g B least k) else ((g.length : Int), B, least, k, ((pkA g B least k.toNat g.length).1.length : Int), pk (pkA g B least k.toNat g.length).1, 0)
def ptl (g : List (List Int)) (B least k : Int) : List Int × List Int × Int :=
  if pkE g B least k ≠ 0 then ([], [], pkE g B least k) else ((pkA g B least k.toNat g.length).2.1, (pkA g B least k.toNat g.length).2.2, 0)
theorem qdg {F : Nat} (hF : 2000000 ≤ F) {g : List (List Int)} {B least k : Int} : yi F g B least k = some (pwr g B least k) := by
  obtain ⟨z1, z2, z3, z4, z5, z6, z7, z8, hz, hz2⟩ := qe5 hF (g := g) (B := B) (least := least) (k := k)
  unfold yi pwr
  rw [hz]
  simp only [Option.bind_some]
  by_cases h : pkE g B least k = 0
  · rw [if_neg (by simp [h]), if_neg (by simp [h])]
    have := hz2 h
    simp only [Prod.mk.injEq] at this
    obtain ⟨rfl, rfl, rfl, rfl, rfl, rfl, -, -⟩ := this
    rfl
  · rw [if_pos (by simpa using h), if_pos h]
theorem qgV {F : Nat} (hF : 2000000 ≤ F) {g : List (List Int)} {B least k : Int} : qab F g B least k = some (ptl g B least k) := by
  obtain ⟨z1, z2, z3, z4, z5, z6, z7, z8, hz, hz2⟩ := qe5 hF (g := g) (B := B) (least := least) (k := k)
  unfold qab ptl
  rw [hz]
  simp only [Option.bind_some]
  by_cases h : pkE g B least k = 0
  · rw [if_neg (by simp [h]), if_neg (by simp [h])]
    have := hz2 h
    simp only [Prod.mk.injEq] at this
    obtain ⟨-, -, -, -, -, -, rfl, rfl⟩ := this
    rfl
  · rw [if_pos (by simpa using h), if_pos h]
theorem qkq {F : Nat} {xs ys : List Int} (he : xs.length = ys.length) (hm : xs.length ≤ 1000000) : ∀ (k i : Nat), xs.length < k + i → i ≤ xs.length → qT F xs ys k (i : Int) = some (decide (xs.drop i = ys.drop i))
  | 0, _, _, _ => by omega
  | k + 1, i, h, hi => by
    show zH F xs ys (qT F xs ys k) (i : Int) = _
    unfold zH
    by_cases hlt : i < xs.length
    · have hlt' : i < ys.length := by omega
      rw [if_pos (by simp; omega), qQ, List.getElem?_eq_getElem hlt, qQ, List.getElem?_eq_getElem hlt']
      simp only [Option.bind_some]
      rw [List.drop_eq_getElem_cons hlt, List.drop_eq_getElem_cons hlt']
      by_cases hc : xs[i] = ys[i]
      · rw [if_neg (by simp [hc]), qG (by omega), qkq he hm k (i + 1) (by omega) (by omega)]
        congr 1
        rw [decide_eq_decide, List.cons.injEq]
        exact ⟨fun h => ⟨hc, h⟩, fun h => h.2⟩
      · rw [if_pos (by simpa using hc), decide_eq_false (fun e => hc (List.cons.inj e).1)]
    · rw [if_neg (by simp; omega), List.drop_eq_nil_of_le (by omega), List.drop_eq_nil_of_le (by omega)]
      rfl
theorem peqb {F : Nat} {xs ys : List Int} (hF : xs.length < F) (hm : xs.length ≤ 1000000) : kg F xs ys = some (decide (xs = ys)) := by
  unfold kg
  by_cases h : xs.length = ys.length
  · rw [if_neg (by simp [h])]
    have := qkq (F := F) h hm F 0 (by omega) (Nat.zero_le _)
    rw [List.drop_zero, List.drop_zero] at this
    exact this
  · rw [if_pos (by simp; omega), decide_eq_false (fun e => h (by rw [e]))]
theorem qjg {l : List Int} {p : Nat} {most : Int} (h : rgam l p most = none) : (fg l p).2.2 ≠ 0 ∨ most < (fg l p).1 := by
  unfold rgam at h
  by_cases h1 : (fg l p).2.2 = 0
  · right
    by_cases h2 : (fg l p).1 ≤ most
    · rw [if_pos ⟨h1, h2⟩] at h; simp at h
    · omega
  · left; exact h1
theorem ql4 {l : List Int} {p : Nat} {most : Int} {x : Int × Nat} (h : rgam l p most = some x) : fg l p = (x.1, (x.2 : Int), 0) ∧ x.1 ≤ most := by
  unfold rgam at h
  split at h
  · rename_i hc
    simp only [Option.some.injEq] at h
    rw [← h]
    have h3 : 0 ≤ (fg l p).2.1 := by
      rcases qjY (l := l) (a := p) with h1 | ⟨n, q, h1, h2, h3⟩
      · exact absurd hc.1 h1
      · rw [h1]; simp
    refine ⟨?_, hc.2⟩
    simp only
    rw [Int.toNat_of_nonneg h3, ← hc.1]
  · simp at h
theorem qnh {l : List Int} {B : Int} (_hB : 0 ≤ B) {node p : Nat} (hp : p ≤ l.length) {o : Int × Nat} (h : pkO l B node p = some o) : 0 ≤ o.1 ∧ o.1 ≤ min B (node : Int) ∧ o.2 ≤ l.length := by
  unfold pkO at h
  split at h
  · simp only [Option.some.injEq] at h
    subst h
    simp only
    omega
  · have := yU h
    omega
theorem qlY {F : Nat} (hF : 20000 ≤ F) {l : List Int} (hl : Bit l) (hm : l.length ≤ 8192) {N B least k : Int} (hB : 0 ≤ B ∧ B ≤ 7) {node p : Nat} (hn : node ≤ 1000) (hp : p ≤ l.length) :
    qbg F N B least k (l.length : Int) (pk l) (p : Int) (node : Int) = some (match pkO l B node p with | none => (0, 0, false) | some o => (o.1, (o.2 : Int), true)) := by
  unfold qbg pkO
  by_cases h0 : B = 0
  · rw [if_pos (by simpa using h0), if_pos h0]
  · rw [if_neg (by simpa using h0), if_neg h0, qcE hF hl hm hp]
    simp only [Option.bind_some]
    have hmin : imin B (node : Int) = min B (node : Int) := by unfold imin; split <;> omega
    have hcv : iconv .u64 (min B (node : Int)) = min B (node : Int) := by
      obtain ⟨q, hq⟩ := Int.eq_ofNat_of_zero_le (a := min B (node : Int)) (by omega)
      rw [hq]; exact kJ (by omega)
    unfold j4
    rw [hmin, hcv]
    cases hr : rgam l p (min B (node : Int)) with
    | none =>
      rcases qjg hr with h1 | h1
      · rw [if_pos (by simpa using h1), if_pos rfl]
      · by_cases h2 : (fg l p).2.2 = 0
        · rw [if_neg (by simp [h2]), if_pos (by simpa using h1)]
        · rw [if_pos (by simpa using h2), if_pos rfl]
    | some x =>
      obtain ⟨h1, h2⟩ := ql4 hr
      have hok := yU hr
      rw [h1]
      simp only
      rw [if_neg (by simp), if_neg (by simp; omega)]
      have e : iconv .i64 x.1 = x.1 := kS (by omega) (by omega)
      rw [e]
theorem qgR {F k : Nat} (hF : 2000000 ≤ F) {l : List Int} (hl : Bit l) (hm : l.length ≤ 8192) {B least : Int} (hh : hcE B least (k : Int) = 0) {n : Nat} (hn : n ≤ 100) : ∀ (j p : Nat) (out : List (List Int)), n < j + out.length → out.length ≤ n → p ≤ l.length → (∀ x ∈ out, gkc x = 0) →
    zU F (n : Int) B least (k : Int) (l.length : Int) (pk l) j (out, (p : Int), (out.length : Int)) = some (match pkR l B least k (n - out.length) out p with | none => ([], false) | some r => (r.1, decide (r.2 = l.length)))
  | 0, _, _, _, _, _, _ => by omega
  | j + 1, p, out, h, ho, hp, hg => by
    obtain ⟨k1, k2, k', hk, k3, k4⟩ := qbm hh
    have hkk : k = k' := by omega
    subst hkk
    show jl F (n : Int) B least (k : Int) (l.length : Int) (pk l) (zU F (n : Int) B least (k : Int) (l.length : Int) (pk l) j) out (p : Int) (out.length : Int) = _
    unfold jl
    by_cases hlt : out.length < n
    · rw [if_pos (by simp; omega), qlY (by omega) hl hm k1 (by omega) hp, show n - out.length = (n - (out.length + 1)) + 1 from by omega]
      simp only [Option.bind_some, pkR]
      cases hO : pkO l B out.length p with
      | none => rfl
      | some o =>
        obtain ⟨o1, o2, o3⟩ := qnh k1.1 hp hO
        simp only [Bool.not_true, Bool.false_eq_true, if_false, Option.bind_some]
        have hfr : gkc (pkF out out.length o.1.toNat) = 0 := by
          unfold pkF
          split
          · rw [List.getD_eq_getElem?_getD]
            by_cases hq : out.length - o.1.toNat < out.length
            · rw [List.getElem?_eq_getElem hq]; exact hg _ (List.getElem_mem hq)
            · rw [List.getElem?_eq_none (by omega)]; decide
          · decide
        have hstep : ∀ fr : List Int, fr = pkF out out.length o.1.toNat → ((ju F (l.length : Int) (pk l) (o.2 : Int) (out.length : Int) fr o.1 least (k : Int)).bind fun x488 => (if ((x488.2.2 : Int) != 0) then some (([] : List (List Int)), false) else ((app 2199023255552 out ([x488.1] : List (List Int))).bind fun x494 => yY F (zU F (n : Int) B least (k : Int) (l.length : Int) (pk l) j) (out.length : Int) x494 x488.2.1))) = some (match (rdl l o.2 (out.length : Int) (pkF out out.length o.1.toNat) o.1 least k).bind fun r => pkR l B least k (n - (out.length + 1)) (out ++ [r.1]) r.2 with | none => ([], false) | some r => (r.1, decide (r.2 = l.length))) := by
          intro fr hfe
          subst hfe
          rw [qkR hF k3 k4 hl hm (by unfold Nd; omega) o3 (fun _ => hfr) k2]
          simp only [Option.bind_some]
          cases hr : rdl l o.2 (out.length : Int) (pkF out out.length o.1.toNat) o.1 least k with
          | none => rfl
          | some r =>
            obtain ⟨r1, r2, r3, r4, r5⟩ := qkC hl k3 hr
            simp only [Option.bind_some]
            rw [if_neg (by simp), kY (by simp; omega)]
            simp only [Option.bind_some]
            unfold yY
            have hl1 : (out ++ [r.1]).length = out.length + 1 := by simp
            have hrec := qgR hF hl hm hh hn j r.2 (out ++ [r.1]) (by omega) (by omega) r5 (fun x hx => by
              rcases List.mem_append.1 hx with hx | hx
              · exact hg x hx
              · simp at hx; subst hx; exact r1)
            rw [hl1] at hrec
            rw [qG (by omega), hrec]
        by_cases h0 : 0 < o.1
        · rw [if_pos (by simpa using h0), q6 (by omega) (by omega), show ((out.length : Int) - o.1) = ((out.length - o.1.toNat : Nat) : Int) from by omega, qbI (by omega)]
          simp only [Option.bind_some]
          exact hstep _ (by unfold pkF; rw [if_pos (by omega)])
        · rw [if_neg (by simpa using h0)]
          exact hstep _ (by unfold pkF; rw [if_neg (by omega)])
    · rw [if_neg (by simp; omega), show n - out.length = 0 from by omega]
      unfold qag
      simp only [pkR]
      congr 2
      by_cases hpl : p = l.length
      · subst hpl; simp
      · rw [decide_eq_false hpl]; simp; omega
def pcE (N B least k m : Int) (b : List Int) : Int := if N < 0 ∨ 100 < N then 3 else if hcE B least k ≠ 0 then hcE B least k else chkOf m b
def prd (N B least k m : Int) (b : List Int) : List (List Int) × Int :=
  if pcE N B least k m b ≠ 0 then ([], pcE N B least k m b) else
  match pkR (bl b m.toNat) B least k.toNat N.toNat [] 0 with
  | none => ([], 1)
  | some r => if r.2 = m.toNat ∧ pkE r.1 B least k = 0 ∧ pk (pkA r.1 B least k.toNat r.1.length).1 = b then (r.1, 0) else ([], 1)
theorem qhE {F : Nat} {N B least k m : Int} {b : List Int} (hb : U8s b) (hm : I64 m) (lb : b.length ≤ 9223372036854775807) : qak F N B least k m b = some (pcE N B least k m b) := by
  unfold qak pcE
  by_cases h1 : N < 0 ∨ 100 < N
  · rw [if_pos (by simpa using h1), if_pos h1]
  · rw [if_neg (by simpa using h1), if_neg h1, qdb]
    simp only [Option.bind_some]
    by_cases h2 : hcE B least k = 0
    · rw [if_neg (by simp [h2]), if_neg (by simp [h2]), qjN hb hm.1 hm.2 lb]
      rfl
    · rw [if_pos (by simpa using h2), if_pos h2]
theorem qnf {N B least k m : Int} {b : List Int} (hb : U8s b) (h : pcE N B least k m b = 0) : ∃ (n : Nat) (l : List Int), N = (n : Int) ∧ n ≤ 100 ∧ hcE B least k = 0 ∧ Bit l ∧ l.length ≤ 8192 ∧ m = (l.length : Int) ∧ b = pk l := by
  unfold pcE at h
  by_cases h1 : N < 0 ∨ 100 < N
  · rw [if_pos h1] at h; simp at h
  · rw [if_neg h1] at h
    by_cases h2 : hcE B least k = 0
    · rw [if_neg (by simp [h2])] at h
      rcases qjP hb (n := m) with h3 | ⟨l, hl, hm, e1, e2⟩
      · exact absurd h h3
      · exact ⟨N.toNat, l, by omega, by omega, h2, hl, hm, e1, e2⟩
    · rw [if_pos h2] at h; exact absurd h h2
theorem qgS {F : Nat} (hF : 2000000 ≤ F) {N B least k m : Int} {b : List Int} (hb : U8s b) (hm : I64 m) (lb : b.length ≤ 9223372036854775807) : qaa F N B least k m b = some (prd N B least k m b) := by
  unfold qaa prd
  rw [qhE hb hm lb]
  simp only [Option.bind_some]
  by_cases h : pcE N B least k m b = 0
  · rw [if_neg (by simp [h]), if_neg (by simp [h])]
    obtain ⟨n, l, rfl, hn, hh, hl, hlm, rfl, rfl⟩ := qnf hb h
    obtain ⟨k1, k2, k', rfl, k3, k4⟩ := qbm hh
    have hL := qgR (F := F) hF hl hlm hh hn F 0 [] (by simp; omega) (Nat.zero_le _) (Nat.zero_le _) (by simp)
    have hL' : qbh F (n : Int) B least (k' : Int) (l.length : Int) (pk l) = _ := hL
    rw [hL']
    simp only [Option.bind_some, List.length_nil, Nat.sub_zero, Int.toNat_natCast, qb5 hl]
    cases hr : pkR l B least k' n [] 0 with
    | none => rfl
    | some r =>
      simp only
      by_cases hp : r.2 = l.length
      · rw [decide_eq_true hp, if_neg (by simp), qdg hF]
        simp only [Option.bind_some]
        unfold pwr jC
        by_cases hE : pkE r.1 B least (k' : Int) = 0
        · rw [if_neg (by simp [hE])]
          simp only [Int.toNat_natCast]
          obtain ⟨_, _, hA⟩ := qd9 hE
          rw [Int.toNat_natCast] at hA
          rw [if_neg (by simp [hE]), peqb (by rw [qea]; omega) (by rw [qea]; omega)]
          simp only [Option.bind_some]
          by_cases hq : pk (pkA r.1 B least k' r.1.length).1 = pk l
          · rw [decide_eq_true hq, if_neg (by simp), if_pos ⟨hp, hE, hq⟩]
          · rw [decide_eq_false hq, if_pos (by simp), if_neg (fun hc => hq hc.2.2)]
        · rw [if_pos hE, if_pos (by simpa using hE), if_pos rfl, if_neg (fun hc => hE hc.2.1)]
      · rw [decide_eq_false hp, if_pos (by simp), if_neg (fun hc => hp hc.1)]
  · rw [if_pos (by simpa using h), if_pos h]
theorem qb8 {F : Nat} {xs : List (List Int)} (hm : xs.length ≤ 1000000) (hr : ∀ r ∈ xs, r.length ≤ 1000000 ∧ r.length < F) : ∀ (k i : Nat), xs.length < k + i → i ≤ xs.length → kL F xs xs k (i : Int) = some true
  | 0, _, _, _ => by omega
  | k + 1, i, h, hi => by
    show vR F xs xs (kL F xs xs k) (i : Int) = _
    unfold vR
    by_cases hlt : i < xs.length
    · have := hr _ (List.getElem_mem hlt)
      rw [if_pos (by simp; omega), qQ, List.getElem?_eq_getElem hlt]
      simp only [Option.bind_some]
      rw [qhI this.2 this.1]
      simp only [Option.bind_some]
      rw [if_neg (by simp), qG (by omega)]
      exact qb8 hm hr k (i + 1) (by omega) (by omega)
    · rw [if_neg (by simp; omega)]
      rfl
theorem qgU {F : Nat} {xs : List (List Int)} (hF : xs.length < F) (hm : xs.length ≤ 1000000) (hr : ∀ r ∈ xs, r.length ≤ 1000000 ∧ r.length < F) : jW F xs xs = some true := by
  unfold jW
  rw [if_neg (by simp)]
  exact qb8 hm hr F 0 (by omega) (by omega)
def PSm (g : List (List Int)) : Prop := g.length ≤ 100 ∧ ∀ r ∈ g, r.length ≤ 1200
theorem qgT {F : Nat} {g : List (List Int)} (hF : 2000 ≤ F) (h : PSm g) : jV F g g = some true := by
  unfold jV
  have := h.1
  rw [qgU (by omega) (by omega) (fun r hr => by have := h.2 r hr; omega)]
  rfl
theorem qnk {g : List (List Int)} (h : Gr g) : PSm g := ⟨h.1, fun r hr => by have := qhs h hr; omega⟩
theorem qnj {g : List (List Int)} {B least k : Int} (h : pkE g B least k = 0) : prd (g.length : Int) B least k ((pkA g B least k.toNat g.length).1.length : Int) (pk (pkA g B least k.toNat g.length).1) = (g, 0) := by
  obtain ⟨h1, h2, h3⟩ := qd9 h
  have hg := qcG.1 h1
  have hgl := hg.1
  obtain ⟨k1, k2, k', rfl, k3, k4⟩ := qbm h2
  rw [Int.toNat_natCast] at h3 ⊢
  have hE : pcE (g.length : Int) B least (k' : Int) ((pkA g B least k' g.length).1.length : Int) (pk (pkA g B least k' g.length).1) = 0 := by
    unfold pcE
    rw [if_neg (by omega), if_neg (by simp [h2]), qm3 h3]
  have hr := qiz hg h2 h3 [] g.length 0 (by omega)
  have hr' : pkR (pkA g B least k' g.length).1 B least k' g.length [] 0 = some (g, (pkA g B least k' g.length).1.length) := by
    rw [List.append_nil] at hr
    exact hr
  unfold prd
  rw [if_neg (by simp [hE])]
  simp only [Int.toNat_natCast]
  rw [qb5 (qcN _), hr']
  simp only
  rw [if_pos ⟨trivial, h, trivial⟩]
def pkSome : List (List Int) := [[1, 2, 3, 5], [1, 2, 3, 5], [0, 1, 2, 3, 5], [], [4], [1, 2, 3]]
theorem qkt : pkE pkSome 3 3 2 = 0 := by decide +kernel
theorem qkv : (pkA pkSome 3 3 2 6).2 = ([0, 1, 1, 0, 0, 0], [0, 19, 28, 43, 45, 52]) := by decide +kernel
theorem qku : prd 1 3 3 2 0 [] = ([], 1) := by decide +kernel
theorem pbegun {F : Nat} (hF : 2000000 ≤ F) : jU F = some true := by
  have hS : ve F = some pkSome := rfl
  have hE := qkt
  have hg := qcG.1 (qd9 hE).1
  have h3 := (qd9 hE).2.2
  have hR := qnj hE
  unfold jU yv
  rw [hS]
  simp only [Option.bind_some]
  rw [qdg hF]
  simp only [Option.bind_some]
  have hW : pwr pkSome 3 3 2 = ((pkSome.length : Int), 3, 3, 2, ((pkA pkSome 3 3 (2 : Int).toNat pkSome.length).1.length : Int), pk (pkA pkSome 3 3 (2 : Int).toNat pkSome.length).1, 0) := by
    unfold pwr
    rw [if_neg (by simp [hE])]
  have hT : ptl pkSome 3 3 2 = ([0, 1, 1, 0, 0, 0], [0, 19, 28, 43, 45, 52], 0) := by
    unfold ptl
    rw [if_neg (by simp [hE])]
    have := qkv
    rw [show (2 : Int).toNat = 2 from rfl, show pkSome.length = 6 from rfl]
    rw [show (pkA pkSome 3 3 2 6).2.1 = [0, 1, 1, 0, 0, 0] from by rw [this], show (pkA pkSome 3 3 2 6).2.2 = [0, 19, 28, 43, 45, 52] from by rw [this]]
  rw [hW]
  simp only
  rw [qgS hF (qb7 (qcN _)) (qlN h3) (qlX h3), hR]
  simp only [Option.bind_some]
  rw [qgV hF, hT]
  simp only [Option.bind_some]
  rw [qgS hF (by intro y hy; simp at hy) ⟨by omega, by omega⟩ (by simp), qku]
  simp only [Option.bind_some]
  rw [if_pos (by rfl), if_pos (by rfl), if_pos (by rfl), qgT (by omega) (qnk hg)]
  simp only [Option.bind_some]
  rw [if_pos (by trivial), if_pos (by rfl), if_pos (by rfl)]
  rfl
theorem qhD {g : List (List Int)} {B least : Int} {k : Nat} : ∀ {n i : Nat}, i < n → (pkA g B least k n).2.2[i]? = some ((pkA g B least k i).1.length : Int)
  | n + 1, i, h => by
    have hl := (qcO (g := g) (B := B) (least := least) (k := k) n).2
    rw [pkA]
    simp only
    by_cases hi : i < n
    · rw [List.getElem?_append_left (by omega)]
      exact qhD hi
    · have : i = n := by omega
      subst this
      rw [List.getElem?_append_right (by omega), hl]
      simp
theorem qnS : ga 0 = [1] := by decide
theorem ql7 (l : List Int) : rst l l = [] := by
  unfold rst
  rw [List.filter_eq_nil_iff]
  intro x hx
  unfold hasB
  simp [hx]
theorem qjX {node least : Int} {x : List Int} {k : Nat} : (enc node x x 1 least k).length ≤ (ga x.length).length + 1 := by
  unfold enc
  by_cases h : x = []
  · rw [if_pos h]; simp
  · rw [if_neg h, if_pos (by decide), qlp]
    unfold rstO encL
    rw [if_pos (show (0 : Int) < 1 by decide), ql7, if_pos rfl]
    have : encB [] = [1] := by unfold encB encBs; simp [qnS]
    rw [this]
    simp
theorem qdv {g : List (List Int)} {i : Nat} {x : List Int} (h : i < g.length) : (g.set i x).getD i [] = x := by
  rw [List.getD_eq_getElem?_getD, List.getElem?_set_self h]; rfl
theorem qjE {g : List (List Int)} {i j : Nat} {x : List Int} (h : i ≠ j) : (g.set i x).getD j [] = g.getD j [] := by
  rw [List.getD_eq_getElem?_getD, List.getElem?_set_ne h, List.getD_eq_getElem?_getD]
theorem qlq {g : List (List Int)} {B least : Int} {k i : Nat} (hi : i + 1 < g.length) (hB : 0 < B) :
    (pkN (g.set (i + 1) (g.getD i [])) B least k (i + 1)).2.length ≤ (ga 1).length + (ga (g.getD i []).length).length + 1 := by
  have h := qid (pkW (g.set (i + 1) (g.getD i [])) B least k (i + 1)) (n := min B.toNat (i + 1)) (r := 1) (by omega)
  have e : pkW (g.set (i + 1) (g.getD i [])) B least k (i + 1) 1 = ga 1 ++ enc ((i + 1 : Nat) : Int) (g.getD i []) (g.getD i []) 1 least k := by
    unfold pkW pkH pkF
    rw [if_pos hB, if_pos (by decide), qdv hi, show i + 1 - 1 = i from rfl, qjE (by omega)]
    rfl
  rw [e, List.length_append] at h
  have := qjX (node := ((i + 1 : Nat) : Int)) (least := least) (x := g.getD i []) (k := k)
  unfold pkN
  omega
theorem qhv {F : Nat} (hF : 2000000 ≤ F) {g : List (List Int)} {B least k node : Int} : qaW F g B least k node = some true := by
  unfold qaW
  rw [pbegun hF]
  simp only [Option.bind_some]
  rw [if_neg (by decide), qed (by omega)]
  simp only [Option.bind_some]
  by_cases hc : gchk g ≠ 0 ∨ node < 1 ∨ (g.length : Int) ≤ node
  · rw [if_pos (by simpa [or_assoc] using hc)]
  · rw [if_neg (by simpa [or_assoc] using hc)]
    have hg : gchk g = 0 := by omega
    have hgl := (qcG.1 hg).1
    obtain ⟨i, hi0⟩ := Int.eq_ofNat_of_zero_le (a := node - 1) (by omega)
    have hn : node = ((i + 1 : Nat) : Int) := by omega
    subst hn
    have hi : i + 1 < g.length := by omega
    rw [kY (by simp; omega), List.nil_append]
    simp only [Option.bind_some]
    rw [q6 (by omega) (by omega), show (((i + 1 : Nat) : Int) - 1) = (i : Int) from by omega, qbI (by omega)]
    simp only [Option.bind_some]
    rw [qbI hi]
    simp only [Option.bind_some, lett]
    rw [qdg hF]
    simp only [Option.bind_some]
    rw [qgV hF]
    simp only [Option.bind_some, Int.toNat_natCast]
    generalize ht : g.set (i + 1) (g.getD i []) = t
    have htl : t.length = g.length := by rw [← ht, List.length_set]
    by_cases hE : pkE t B least k = 0
    · obtain ⟨p1, p2, p3⟩ := qd9 hE
      obtain ⟨k1, k2, k', rfl, k3, k4⟩ := qbm p2
      rw [Int.toNat_natCast] at p3
      have eW : pwr t B least (k' : Int) = ((t.length : Int), B, least, (k' : Int), ((pkA t B least k' t.length).1.length : Int), pk (pkA t B least k' t.length).1, 0) := by
        unfold pwr; rw [if_neg (by simp [hE]), Int.toNat_natCast]
      have eT : ptl t B least (k' : Int) = ((pkA t B least k' t.length).2.1, (pkA t B least k' t.length).2.2, 0) := by
        unfold ptl; rw [if_neg (by simp [hE]), Int.toNat_natCast]
      rw [eW, eT]
      simp only
      by_cases hB : B = 0
      · rw [if_pos (by simp [hB])]; rfl
      · rw [if_neg (by simp [hB])]
        have hj : yu F ((i + 1 : Nat) : Int) t ((pkA t B least k' t.length).2.1, (pkA t B least k' t.length).2.2, 0) ((pkA t B least k' (i + 2)).1.length : Int) = some true := by
          unfold yu
          simp only
          rw [qQ, qhD (show i + 1 < t.length by omega)]
          simp only [Option.bind_some]
          rw [qbI (by omega)]
          simp only [Option.bind_some]
          have hrow : t.getD (i + 1) [] = g.getD i [] := by rw [← ht]; exact qdv hi
          have hgr := qhs (qcG.1 hg) (l := g.getD i []) (by rw [List.getD_eq_getElem?_getD, List.getElem?_eq_getElem (show i < g.length by omega)]; exact List.getElem_mem _)
          rw [hrow, show (1 : Int) = ((1 : Nat) : Int) from rfl, qcF (by omega) (by omega)]
          simp only [Option.bind_some]
          rw [kJ (by omega), qcF (by omega) (by omega)]
          simp only [Option.bind_some]
          have hlen := qlq (least := least) (k := k') hi (show 0 < B by omega)
          rw [ht] at hlen
          have h1 := qil (n := 1) (by omega)
          have h2 := qil (n := (g.getD i []).length) (by omega)
          have hA : (pkA t B least k' (i + 2)).1.length = (pkA t B least k' (i + 1)).1.length + (pkN t B least k' (i + 1)).2.length := by
            rw [show i + 2 = (i + 1) + 1 from rfl, pkA, List.length_append]
          have hm := qd8 (g := t) (B := B) (least := least) (k := k') (show i + 2 ≤ t.length by omega)
          rw [vZ (by omega), vZ (by omega), q6 (by omega) (by omega)]
          congr 1
          rw [decide_eq_true_iff]
          omega
        have hl := (qcO (g := t) (B := B) (least := least) (k := k') t.length).2
        rw [qE (by omega) (by omega), hl]
        by_cases h2 : i + 2 < t.length
        · rw [if_pos (by simp; omega), show (((i + 1 : Nat) : Int) + 1) = ((i + 2 : Nat) : Int) from by omega, qQ, qhD h2]
          simp only [Option.bind_some]
          exact hj
        · have h3 : t.length = i + 2 := by omega
          rw [if_neg (by simp; omega)]
          rw [h3] at hj ⊢
          exact hj
    · have eW : pwr t B least k = (0, 0, 0, 0, 0, [], pkE t B least k) := by unfold pwr; rw [if_pos hE]
      have eT : ptl t B least k = ([], [], pkE t B least k) := by unfold ptl; rw [if_pos hE]
      rw [eW, eT]
      simp only
      rw [if_pos (by simp [hE])]
      simp
end Go.Proofs.YtnlodcokfndnmaaGreat
