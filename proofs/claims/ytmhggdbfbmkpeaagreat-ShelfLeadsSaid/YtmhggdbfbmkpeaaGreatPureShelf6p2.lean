/- Plain facts of what the functions of this seat compute, part 2. -/
import Derived.Test.YtmhggdbfbmkpeaaGreatPureShelf6
import Derived.KernelRfl
import Derived.Lib.SlicesCompact
namespace Go.Proofs.YtmhggdbfbmkpeaaGreat
open Go SX
variable {F : Nat} {rec68 : (List (Int × Int) × List Int × Int) → Option (List (Int × Int) × List Int)} {l : List Int} {least : Int} {o : List (Int × Int)} {rest : List Int} {i : Int}
variable {F : Nat} {n t w lw hw : Int} {lb hb : List Int} {l : List Nat}
theorem qkH {g : List (List Int)} {B least : Int} {k n i : Nat} (h : i < n) : ∃ R, (pkA g B least k n).1 = (pkA g B least k i).1 ++ ((pkH B (pkN g B least k i).1 ++ enc (i : Int) (g.getD i []) (pkF g i (pkN g B least k i).1) ((pkN g B least k i).1 : Int) least k) ++ R) := by
  obtain ⟨R, hR⟩ := qjs (g := g) (B := B) (least := least) (k := k) (n := n) (i := i + 1) h
  refine ⟨R, ?_⟩
  rw [hR, pkA]
  have := (qeY (g := g) (B := B) (least := least) (k := k) (i := i)).2
  unfold pkW at this
  rw [this]
  simp only [List.append_assoc]
theorem qsG {g : List (List Int)} (h : Gr g) {l : List Int} (hl : l ∈ g) : gkc l = 0 := by
  have h1 := h.2.1 l hl
  have h2 := qg2 h hl
  have h3 := h.1
  refine yz.2 ⟨by omega, qjx h1.1 (fun z hz => ?_) fun z hz => ?_⟩
  · have := h1.2 z hz; omega
  · have := h1.2 z hz; unfold Nd; omega
theorem qg0 {g : List (List Int)} (h : Gr g) (i : Nat) : gkc (g.getD i []) = 0 := by
  by_cases hi : i < g.length
  · rw [List.getD_eq_getElem?_getD, List.getElem?_eq_getElem hi]
    exact qsG h (List.getElem_mem hi)
  · rw [List.getD_eq_getElem?_getD, List.getElem?_eq_none (by omega)]
    decide
theorem qgt {g : List (List Int)} (h : Gr g) (i r : Nat) : gkc (pkF g i r) = 0 := by
  unfold pkF
  split
  · exact qg0 h _
  · decide
def pkO (l : List Int) (B : Int) (node p : Nat) : Option (Int × Nat) := if B = 0 then some (0, p) else rgam l p (min B (node : Int))
def pkR (l : List Int) (B least : Int) (k : Nat) : Nat → List (List Int) → Nat → Option (List (List Int) × Nat)
  | 0, out, p => some (out, p)
  | m + 1, out, p => (pkO l B out.length p).bind fun o => (rdl l o.2 (out.length : Int) (pkF out out.length o.1.toNat) o.1 least k).bind fun r => pkR l B least k m (out ++ [r.1]) r.2
theorem qmj {g : List (List Int)} {i : Nat} (h : i < g.length) : g.take i ++ [g.getD i []] = g.take (i + 1) := by
  rw [List.take_add_one, List.getD_eq_getElem?_getD, List.getElem?_eq_getElem h]
  rfl
theorem qpz {g : List (List Int)} {i r : Nat} (h : r ≤ i) (_hi : i ≤ g.length) : pkF (g.take i) i r = pkF g i r := by
  unfold pkF
  split
  · rw [List.getD_eq_getElem?_getD, List.getD_eq_getElem?_getD, List.getElem?_take, if_pos (by omega)]
  · rfl
theorem qju {g : List (List Int)} (hg : Gr g) {B least : Int} {k : Nat} (hh : hcE B least (k : Int) = 0) (hl : (pkA g B least k g.length).1.length ≤ 8192) (T : List Int) : ∀ (m i : Nat), i + m = g.length →
    pkR ((pkA g B least k g.length).1 ++ T) B least k m (g.take i) (pkA g B least k i).1.length = some (g, (pkA g B least k g.length).1.length)
  | 0, i, h => by
    have : i = g.length := by omega
    subst this
    simp [pkR]
  | m + 1, i, h => by
    have hi : i < g.length := by omega
    obtain ⟨k1, k2, k', hk, k3, k4⟩ := qch hh
    have hkk : k = k' := by omega
    subst hkk
    obtain ⟨hr, _⟩ := qeY (g := g) (B := B) (least := least) (k := k) (i := i)
    have hgl := hg.1
    have hti : (g.take i).length = i := by rw [List.length_take]; omega
    obtain ⟨R, hR⟩ := qkH (g := g) (B := B) (least := least) (k := k) hi
    have hnext := qju hg hh hl T m (i + 1) (by omega)
    have hA : (pkA g B least k (i + 1)).1.length = (pkA g B least k i).1.length + (pkH B (pkN g B least k i).1).length + (enc (i : Int) (g.getD i []) (pkF g i (pkN g B least k i).1) ((pkN g B least k i).1 : Int) least k).length := by
      have := (qeY (g := g) (B := B) (least := least) (k := k) (i := i)).2
      rw [pkA, this]
      unfold pkW
      simp only [List.length_append]; omega
    have hO : pkO ((pkA g B least k g.length).1 ++ T) B i (pkA g B least k i).1.length = some (((pkN g B least k i).1 : Int), (pkA g B least k i).1.length + (pkH B (pkN g B least k i).1).length) := by
      unfold pkO pkH
      by_cases hB : B = 0
      · have : (pkN g B least k i).1 = 0 := by rw [hB] at hr ⊢; simp at hr; exact hr
        rw [if_pos hB, this, if_neg (by omega)]
        simp
      · rw [if_neg hB, if_pos (by omega)]
        rw [hR]
        unfold pkH
        rw [if_pos (by omega)]
        simp only [List.append_assoc]
        exact qes (by omega) (by omega) _ _
    unfold pkR
    rw [hti, hO]
    simp only [Option.bind_some, Int.toNat_natCast]
    rw [qpz (by omega) (by omega)]
    have hE : (enc (i : Int) (g.getD i []) (pkF g i (pkN g B least k i).1) ((pkN g B least k i).1 : Int) least k).length ≤ 8192 := by
      have := qfs (g := g) (B := B) (least := least) (k := k) (show i + 1 ≤ g.length from hi)
      omega
    have hD := qnd (k := k) k3 k4 (node := (i : Int)) (back := ((pkN g B least k i).1 : Int)) (least := least) (x := g.getD i []) (fr := pkF g i (pkN g B least k i).1) (by unfold Nd; omega) k2 (qg0 hg i) (fun _ => qgt hg _ _) ((pkA g B least k i).1 ++ pkH B (pkN g B least k i).1) (R ++ T) hE
    rw [hR]
    simp only [List.append_assoc, List.length_append] at hD ⊢
    rw [hD]
    simp only [Option.bind_some]
    rw [qmj hi]
    rw [hR] at hnext
    simp only [List.append_assoc, List.length_append] at hnext
    rw [← hnext, hA]
theorem qsI {B least k : Int} {r : Nat} (h : hcE B least k = 0) (hr : (r : Int) ≤ B) : hcE (r : Int) least k = 0 := by
  unfold hcE at h ⊢
  by_cases hb : hcB B least k
  · rw [if_pos hb] at h; simp at h
  · rw [if_neg (by unfold hcB at hb ⊢; omega)]
theorem qnC {F : Nat} (hF : 2000000 ≤ F) {A : List (List Int)} {x fr H : List Int} {r i k : Nat} {least : Int} (hA : A.length = i) (hi : i ≤ 100) (hx : gkc x = 0) (hfr : gkc fr = 0) (hh : hcE (r : Int) least (k : Int) = 0) (hH : Bit H) (hHl : H.length ≤ 100) :
    qav F A x (r : Int) least (k : Int) (H.length : Int) (pk H) fr = some (if (H ++ enc (i : Int) x fr (r : Int) least k).length ≤ 8192 then ((r : Int), ((H ++ enc (i : Int) x fr (r : Int) least k).length : Int), pk (H ++ enc (i : Int) x fr (r : Int) least k), true) else (0, 0, [], false)) := by
  unfold qav
  rw [qoj hF, hA]
  simp only [Option.bind_some]
  have hE : swE (i : Int) x fr (r : Int) least (k : Int) = 0 := qs0 hh (by unfold Nd; omega) hx (fun _ => hfr)
  rw [List.length_append]
  by_cases h1 : (enc (i : Int) x fr (r : Int) least k).length ≤ 8192
  · have hs := qtv hE (by rw [Int.toNat_natCast]; exact h1)
    rw [Int.toNat_natCast] at hs
    rw [hs]
    simp only
    rw [zg (by omega) (by omega)]
    by_cases h2 : H.length + (enc (i : Int) x fr (r : Int) least k).length ≤ 8192
    · rw [if_neg (by simp; omega), if_pos h2, qi5 (by omega) (qd2 hH) (qd2 qjd) (qfr (by omega)) (qfr h1), qcj hH, qcj qjd]
      rfl
    · rw [if_pos (by simp; omega), if_neg h2]
  · have hs : sw (i : Int) x fr (r : Int) least (k : Int) = (0, [], 8) := by
      unfold sw
      rw [if_neg (by simp [hE]), Int.toNat_natCast, if_pos (by omega)]
    rw [hs, if_pos (by simp), if_neg (by omega)]
theorem qrZ {F : Nat} (hF : 2000000 ≤ F) {g : List (List Int)} (hg : Gr g) {B least : Int} {k i r : Nat} (hh : hcE B least (k : Int) = 0) (hi : i ≤ g.length) (hr : r ≤ min B.toNat i) :
    qc6 F (g.take i) (g.getD i []) (r : Int) B least (k : Int) = some (if (pkW g B least k i r).length ≤ 8192 then ((r : Int), ((pkW g B least k i r).length : Int), pk (pkW g B least k i r), true) else (0, 0, [], false)) := by
  have hgl := hg.1
  have hti : (g.take i).length = i := by rw [List.length_take]; omega
  obtain ⟨k1, -, -⟩ := qch hh
  have hh' : hcE (r : Int) least (k : Int) = 0 := qsI hh (by omega)
  have hj : ∀ H : List Int, Bit H → H.length ≤ 100 → qau F (g.take i) (g.getD i []) (r : Int) least (k : Int) (H.length : Int) (pk H) = some (if (H ++ enc (i : Int) (g.getD i []) (pkF g i r) (r : Int) least k).length ≤ 8192 then ((r : Int), ((H ++ enc (i : Int) (g.getD i []) (pkF g i r) (r : Int) least k).length : Int), pk (H ++ enc (i : Int) (g.getD i []) (pkF g i r) (r : Int) least k), true) else (0, 0, [], false)) := by
    intro H hH hHl
    unfold qau
    by_cases h0 : 0 < r
    · rw [if_pos (by simpa using h0), hti, zH (by omega) (by omega), show ((i : Int) - (r : Int)) = ((i - r : Nat) : Int) from by omega, qE, List.getElem?_take, if_pos (by omega), List.getElem?_eq_getElem (show i - r < g.length by omega)]
      simp only [Option.bind_some]
      have e : g[i - r]'(by omega) = pkF g i r := by
        unfold pkF
        rw [if_pos h0, List.getD_eq_getElem?_getD, List.getElem?_eq_getElem (show i - r < g.length by omega)]
        rfl
      rw [e]
      exact qnC hF hti (by omega) (qg0 hg i) (qgt hg i r) hh' hH hHl
    · rw [if_neg (by simpa using h0)]
      have e : pkF g i r = [] := by unfold pkF; rw [if_neg h0]
      rw [e]
      exact qnC hF hti (by omega) (qg0 hg i) (by decide) hh' hH hHl
  unfold qc6 pkW pkH
  by_cases hB : 0 < B
  · have hga := qsc (n := r) (by omega)
    rw [if_pos (by simpa using hB), if_pos hB, yl (by omega), qgb (by omega) (by omega)]
    simp only [Option.bind_some]
    exact hj (ga r) (qdF r) (by omega)
  · rw [if_neg (by simpa using hB), if_neg hB]
    exact hj [] (by intro z hz; simp at hz) (by simp)
def bst (f : Nat → List Int) (j : Nat) : Bool × Int × Int × List Int := if j = 0 then (false, 0, 0, []) else if (bwy f (j - 1)).2.length ≤ 8192 then (true, ((bwy f (j - 1)).1 : Int), ((bwy f (j - 1)).2.length : Int), pk (bwy f (j - 1)).2) else (false, 0, 0, [])
theorem qoD {F : Nat} (hF : 2000000 ≤ F) {g : List (List Int)} (hg : Gr g) {B least : Int} {k i : Nat} (hh : hcE B least (k : Int) = 0) (hi : i ≤ g.length) : ∀ (n j : Nat), min B.toNat i + 1 < n + j → j ≤ min B.toNat i + 1 →
    zU F (g.take i) (g.getD i []) B least (k : Int) n ((bst (pkW g B least k i) j).1, (j : Int), (bst (pkW g B least k i) j).2.1, (bst (pkW g B least k i) j).2.2.1, (bst (pkW g B least k i) j).2.2.2) = some (if (pkN g B least k i).2.length ≤ 8192 then (((pkN g B least k i).1 : Int), ((pkN g B least k i).2.length : Int), pk (pkN g B least k i).2, true) else (0, 0, [], false))
  | 0, _, _, _ => by omega
  | n + 1, j, h, hj => by
    have hgl := hg.1
    have hti : (g.take i).length = i := by rw [List.length_take]; omega
    obtain ⟨k1, -, -⟩ := qch hh
    show qa0 F (g.take i) (g.getD i []) B least (k : Int) (zU F (g.take i) (g.getD i []) B least (k : Int) n) (bst (pkW g B least k i) j).1 (j : Int) (bst (pkW g B least k i) j).2.1 (bst (pkW g B least k i) j).2.2.1 (bst (pkW g B least k i) j).2.2.2 = _
    unfold qa0
    have hmin : imin B ((g.take i).length : Int) = ((min B.toNat i : Nat) : Int) := by
      rw [hti]; unfold imin; split <;> omega
    rw [hmin, zg (by omega) (by omega)]
    by_cases hlt : j < min B.toNat i + 1
    · rw [if_pos (by simp; omega), qrZ hF hg hh hi (by omega)]
      simp only [Option.bind_some]
      have hrec := qoD hF hg hh hi n (j + 1) (by omega) (by omega)
      have hnew : (pkW g B least k i j).length ≤ 8192 → bwy (pkW g B least k i) j = (j, pkW g B least k i j) → yC F (zU F (g.take i) (g.getD i []) B least (k : Int) n) (j : Int) true (j : Int) ((pkW g B least k i j).length : Int) (pk (pkW g B least k i j)) = some (if (pkN g B least k i).2.length ≤ 8192 then (((pkN g B least k i).1 : Int), ((pkN g B least k i).2.length : Int), pk (pkN g B least k i).2, true) else (0, 0, [], false)) := by
        intro h1 h2
        unfold yC
        rw [qr (by omega), ← hrec]
        unfold bst
        rw [if_neg (by omega), Nat.add_sub_cancel, h2, if_pos h1]
      have hold : bst (pkW g B least k i) (j + 1) = bst (pkW g B least k i) j → yC F (zU F (g.take i) (g.getD i []) B least (k : Int) n) (j : Int) (bst (pkW g B least k i) j).1 (bst (pkW g B least k i) j).2.1 (bst (pkW g B least k i) j).2.2.1 (bst (pkW g B least k i) j).2.2.2 = some (if (pkN g B least k i).2.length ≤ 8192 then (((pkN g B least k i).1 : Int), ((pkN g B least k i).2.length : Int), pk (pkN g B least k i).2, true) else (0, 0, [], false)) := by
        intro h1
        unfold yC
        rw [qr (by omega), ← hrec, h1]
      unfold qa1
      by_cases hl : (pkW g B least k i j).length ≤ 8192
      · rw [if_pos hl]
        simp only [if_true]
        by_cases h0 : j = 0
        · subst h0
          rw [if_pos (by simp [bst])]
          exact hnew hl rfl
        · obtain ⟨q, rfl⟩ : ∃ q, j = q + 1 := ⟨j - 1, by omega⟩
          by_cases hb : (bwy (pkW g B least k i) q).2.length ≤ 8192
          · have e : bst (pkW g B least k i) (q + 1) = (true, ((bwy (pkW g B least k i) q).1 : Int), ((bwy (pkW g B least k i) q).2.length : Int), pk (bwy (pkW g B least k i) q).2) := by
              unfold bst
              rw [if_neg (by omega), Nat.add_sub_cancel, if_pos hb]
            by_cases hc : (pkW g B least k i (q + 1)).length < (bwy (pkW g B least k i) q).2.length
            · rw [if_pos (by rw [e]; simp; omega)]
              exact hnew hl (by rw [bwy, if_pos hc])
            · rw [if_neg (by rw [e]; simp; omega)]
              refine hold ?_
              rw [e]
              unfold bst
              rw [if_neg (by omega), Nat.add_sub_cancel, bwy, if_neg hc, if_pos hb]
          · have e : bst (pkW g B least k i) (q + 1) = (false, 0, 0, []) := by
              unfold bst
              rw [if_neg (by omega), Nat.add_sub_cancel, if_neg hb]
            rw [if_pos (by rw [e]; simp)]
            exact hnew hl (by rw [bwy, if_pos (by omega)])
      · rw [if_neg hl]
        simp only [Bool.false_eq_true, if_false]
        refine hold ?_
        unfold bst
        rw [if_neg (by omega), Nat.add_sub_cancel]
        by_cases h0 : j = 0
        · subst h0
          rw [if_pos rfl, bwy, if_neg hl]
        · obtain ⟨q, rfl⟩ : ∃ q, j = q + 1 := ⟨j - 1, by omega⟩
          rw [if_neg (show ¬ q + 1 = 0 by omega), Nat.add_sub_cancel, bwy]
          by_cases hc : (pkW g B least k i (q + 1)).length < (bwy (pkW g B least k i) q).2.length
          · rw [if_pos hc, if_neg hl, if_neg (by omega)]
          · rw [if_neg hc]
    · rw [if_neg (by simp; omega)]
      have : j = min B.toNat i + 1 := by omega
      subst this
      unfold qcO bst pkN
      rw [if_neg (by omega), Nat.add_sub_cancel]
      split <;> rfl
theorem qqL {F : Nat} (hF : 2000000 ≤ F) {g : List (List Int)} (hg : Gr g) {B least : Int} {k i : Nat} (hh : hcE B least (k : Int) = 0) (hi : i ≤ g.length) :
    qc5 F (g.take i) (g.getD i []) B least (k : Int) = some (if (pkN g B least k i).2.length ≤ 8192 then (((pkN g B least k i).1 : Int), ((pkN g B least k i).2.length : Int), pk (pkN g B least k i).2, true) else (0, 0, [], false)) := by
  have hgl := hg.1
  have := qoD hF hg hh hi F 0 (by omega) (Nat.zero_le _)
  exact this
theorem qrl {g : List (List Int)} {B least : Int} {k i r : Nat} : Bit (pkW g B least k i r) := by
  unfold pkW pkH
  refine kw ?_ qjd
  split
  · exact qdF r
  · intro z hz; simp at hz
theorem qjt {g : List (List Int)} {B least : Int} {k i : Nat} : Bit (pkN g B least k i).2 := by
  rw [qeY.2]; exact qrl
theorem qdO {g : List (List Int)} {B least : Int} {k : Nat} : ∀ n : Nat, Bit (pkA g B least k n).1
  | 0 => by intro z hz; simp [pkA] at hz
  | n + 1 => by unfold pkA; exact kw (qdO n) qjt
theorem qku {g : List (List Int)} {i : Nat} (h : i < g.length) : idx g (i : Int) = some (g.getD i []) := by
  rw [qE, List.getD_eq_getElem?_getD, List.getElem?_eq_getElem h]
  rfl
theorem qm7 {F : Nat} (hF : 2000000 ≤ F) {g : List (List Int)} (hg : Gr g) {N B least : Int} {k : Nat} (hh : hcE B least (k : Int) = 0) : ∀ (j i : Nat), g.length < j + i → i ≤ g.length → (pkA g B least k i).1.length ≤ 8192 →
    ∃ z, qI F N B least (k : Int) g j ((i : Int), ((pkA g B least k i).1.length : Int), pk (pkA g B least k i).1, (pkA g B least k i).2.1, (pkA g B least k i).2.2) = some z ∧ z.1 = decide ((pkA g B least k g.length).1.length ≤ 8192) ∧
      (z.1 = true → z = (true, N, B, least, (k : Int), ((pkA g B least k g.length).1.length : Int), pk (pkA g B least k g.length).1, (pkA g B least k g.length).2.1, (pkA g B least k g.length).2.2))
  | 0, _, _, _, _ => by omega
  | j + 1, i, h, hi, hA => by
    have hgl := hg.1
    show ∃ z, yG F N B least (k : Int) g (qI F N B least (k : Int) g j) (i : Int) ((pkA g B least k i).1.length : Int) (pk (pkA g B least k i).1) (pkA g B least k i).2.1 (pkA g B least k i).2.2 = some z ∧ _
    unfold yG
    by_cases hlt : i < g.length
    · have e0 : sub g 0 (i : Int) = some (g.take i) := by
        have := qk2 (l := g) (i := 0) (j := i) (by omega) hi
        simpa using this
      have hstep : (pkA g B least k (i + 1)).1.length = (pkA g B least k i).1.length + (pkN g B least k i).2.length := by rw [pkA, List.length_append]
      have hmono := qfs (g := g) (B := B) (least := least) (k := k) (show i + 1 ≤ g.length from hlt)
      rw [if_pos (by simp; omega), qku hlt, e0]
      simp only [Option.bind_some]
      rw [qqL hF hg hh hi]
      simp only [Option.bind_some]
      unfold yH
      by_cases h1 : (pkN g B least k i).2.length ≤ 8192
      · rw [if_pos h1]
        simp only [Bool.not_true, Bool.false_eq_true, if_false]
        rw [zg (by omega) (by omega)]
        unfold kA
        by_cases h2 : (pkA g B least k i).1.length + (pkN g B least k i).2.length ≤ 8192
        · rw [if_neg (by simp; omega)]
          have hl := qkG (g := g) (B := B) (least := least) (k := k) i
          rw [vh (by rw [hl.1]; simp; omega)]
          simp only [Option.bind_some]
          rw [vh (by rw [hl.2]; simp; omega)]
          simp only [Option.bind_some]
          unfold kB
          rw [qi5 (by omega) (qd2 (qdO i)) (qd2 qjt) (qfr hA) (qfr h1), qcj (qdO i), qcj qjt]
          simp only [Option.bind_some]
          have := qm7 hF hg (N := N) hh j (i + 1) (by omega) (by omega) (by omega)
          rw [qr (by omega), ← hstep]
          exact this
        · rw [if_pos (by simp; omega)]
          exact ⟨_, rfl, by simp only; rw [decide_eq_false (by omega)], fun h => by simp at h⟩
      · rw [if_neg h1]
        simp only [Bool.not_false, if_true]
        unfold kA
        rw [if_pos rfl]
        exact ⟨_, rfl, by simp only; rw [decide_eq_false (by omega)], fun h => by simp at h⟩
    · rw [if_neg (by simp; omega)]
      have : i = g.length := by omega
      subst this
      unfold jl
      exact ⟨_, rfl, by simp only; rw [decide_eq_true hA], fun _ => rfl⟩
theorem qil {F : Nat} (hF : 2000000 ≤ F) {g : List (List Int)} {B least k : Int} :
    ∃ z1 z2 z3 z4 z5 z6 z7 z8, qaR F g B least k = some (z1, z2, z3, z4, z5, z6, z7, z8, pkE g B least k) ∧
      (pkE g B least k = 0 → (z1, z2, z3, z4, z5, z6, z7, z8) = ((g.length : Int), B, least, k, ((pkA g B least k.toNat g.length).1.length : Int), pk (pkA g B least k.toNat g.length).1, (pkA g B least k.toNat g.length).2.1, (pkA g B least k.toNat g.length).2.2)) := by
  unfold qaR
  rw [jO (by omega)]
  simp only [Option.bind_some]
  by_cases h1 : gchk g = 0
  · rw [if_pos (by simpa using h1), qfP]
    simp only [Option.bind_some]
    unfold vY
    by_cases h2 : hcE B least k = 0
    · rw [if_pos (by simpa using h2)]
      obtain ⟨_, _, k', rfl, _, _⟩ := qch h2
      have hg := qba.1 h1
      have hgl := hg.1
      obtain ⟨z, hz, hz1, hz2⟩ := qm7 hF hg (N := (g.length : Int)) h2 F 0 (by omega) (Nat.zero_le _) (by simp [pkA])
      have hz' : qbd F (g.length : Int) B least (k' : Int) 0 [] [] [] g = some z := by
        have e : pk ([] : List Int) = [] := by simp [pk]
        simp only [pkA, List.length_nil, e] at hz
        exact hz
      rw [hz']
      simp only [Option.bind_some]
      unfold yO yN
      rw [Int.toNat_natCast]
      by_cases h3 : (pkA g B least k' g.length).1.length ≤ 8192
      · rw [decide_eq_true h3] at hz1
        have := hz2 hz1
        have hE : pkE g B least (k' : Int) = 0 := qsO h1 h2 (by rw [Int.toNat_natCast]; exact h3)
        rw [hE, h2]
        subst this
        exact ⟨_, _, _, _, _, _, _, _, rfl, fun _ => rfl⟩
      · rw [decide_eq_false h3] at hz1
        have hE : pkE g B least (k' : Int) = 8 := by
          unfold pkE
          rw [if_neg (by simp [h1]), if_neg (by simp [h2]), if_pos (by rw [Int.toNat_natCast]; omega)]
        rw [hE, hz1]
        exact ⟨_, _, _, _, _, _, _, _, rfl, fun h => by simp at h⟩
    · have hE : pkE g B least k = hcE B least k := by
        unfold pkE
        rw [if_neg (by simp [h1]), if_pos h2]
      rw [if_neg (by simpa using h2), hE]
      unfold yO yN
      exact ⟨_, _, _, _, _, _, _, _, rfl, fun h => absurd h h2⟩
  · have hE : pkE g B least k = gchk g := by
      unfold pkE
      rw [if_pos h1]
    rw [if_neg (by simpa using h1), hE]
    unfold vY yO yN
    rw [if_neg (by simpa using h1)]
    exact ⟨_, _, _, _, _, _, _, _, rfl, fun h => absurd h h1⟩
def pwr (g : List (List Int)) (B least k : Int) : Int × Int × Int × Int × Int × List Int × Int :=
  if pkE g B least k ≠ 0 then (0, 0, 0, 0, 0, [], pkE g B least k) else ((g.length : Int), B, least, k, ((pkA g B least k.toNat g.length).1.length : Int), pk (pkA g B least k.toNat g.length).1, 0)
def ptl (g : List (List Int)) (B least k : Int) : List Int × List Int × Int :=
  if pkE g B least k ≠ 0 then ([], [], pkE g B least k) else ((pkA g B least k.toNat g.length).2.1, (pkA g B least k.toNat g.length).2.2, 0)
theorem qio {F : Nat} (hF : 2000000 ≤ F) {g : List (List Int)} {B least k : Int} : qby F g B least k = some (pwr g B least k) := by
  obtain ⟨z1, z2, z3, z4, z5, z6, z7, z8, hz, hz2⟩ := qil hF (g := g) (B := B) (least := least) (k := k)
  unfold qby pwr
  rw [hz]
  simp only [Option.bind_some]
  by_cases h : pkE g B least k = 0
  · rw [if_neg (by simp [h]), if_neg (by simp [h])]
    have := hz2 h
    simp only [Prod.mk.injEq] at this
    obtain ⟨rfl, rfl, rfl, rfl, rfl, rfl, -, -⟩ := this
    rfl
  · rw [if_pos (by simpa using h), if_pos h]
theorem qpH {F : Nat} (hF : 2000000 ≤ F) {g : List (List Int)} {B least k : Int} : qca F g B least k = some (ptl g B least k) := by
  obtain ⟨z1, z2, z3, z4, z5, z6, z7, z8, hz, hz2⟩ := qil hF (g := g) (B := B) (least := least) (k := k)
  unfold qca ptl
  rw [hz]
  simp only [Option.bind_some]
  by_cases h : pkE g B least k = 0
  · rw [if_neg (by simp [h]), if_neg (by simp [h])]
    have := hz2 h
    simp only [Prod.mk.injEq] at this
    obtain ⟨-, -, -, -, -, -, rfl, rfl⟩ := this
    rfl
  · rw [if_pos (by simpa using h), if_pos h]
theorem qpy {F : Nat} {xs ys : List Int} (he : xs.length = ys.length) (hm : xs.length ≤ 1000000) : ∀ (k i : Nat), xs.length < k + i → i ≤ xs.length → qS F xs ys k (i : Int) = some (decide (xs.drop i = ys.drop i))
  | 0, _, _, _ => by omega
  | k + 1, i, h, hi => by
    show zu F xs ys (qS F xs ys k) (i : Int) = _
    unfold zu
    by_cases hlt : i < xs.length
    · have hlt' : i < ys.length := by omega
      rw [if_pos (by simp; omega), qE, List.getElem?_eq_getElem hlt, qE, List.getElem?_eq_getElem hlt']
      simp only [Option.bind_some]
      rw [List.drop_eq_getElem_cons hlt, List.drop_eq_getElem_cons hlt']
      by_cases hc : xs[i] = ys[i]
      · rw [if_neg (by simp [hc]), qr (by omega), qpy he hm k (i + 1) (by omega) (by omega)]
        congr 1
        rw [decide_eq_decide, List.cons.injEq]
        exact ⟨fun h => ⟨hc, h⟩, fun h => h.2⟩
      · rw [if_pos (by simpa using hc), decide_eq_false (fun e => hc (List.cons.inj e).1)]
    · rw [if_neg (by simp; omega), List.drop_eq_nil_of_le (by omega), List.drop_eq_nil_of_le (by omega)]
      rfl
theorem peqb {F : Nat} {xs ys : List Int} (hF : xs.length < F) (hm : xs.length ≤ 1000000) : qV F xs ys = some (decide (xs = ys)) := by
  unfold qV
  by_cases h : xs.length = ys.length
  · rw [if_neg (by simp [h])]
    have := qpy (F := F) h hm F 0 (by omega) (Nat.zero_le _)
    rw [List.drop_zero, List.drop_zero] at this
    exact this
  · rw [if_pos (by simp; omega), decide_eq_false (fun e => h (by rw [e]))]
theorem qn8 {l : List Int} {p : Nat} {most : Int} (h : rgam l p most = none) : (fg l p).2.2 ≠ 0 ∨ most < (fg l p).1 := by
  unfold rgam at h
  by_cases h1 : (fg l p).2.2 = 0
  · right
    by_cases h2 : (fg l p).1 ≤ most
    · rw [if_pos ⟨h1, h2⟩] at h; simp at h
    · omega
  · left; exact h1
theorem qnf {l : List Int} {p : Nat} {most : Int} {x : Int × Nat} (h : rgam l p most = some x) : fg l p = (x.1, (x.2 : Int), 0) ∧ x.1 ≤ most := by
  unfold rgam at h
  split at h
  · rename_i hc
    simp only [Option.some.injEq] at h
    rw [← h]
    have h3 : 0 ≤ (fg l p).2.1 := by
      rcases qoV (l := l) (a := p) with h1 | ⟨n, q, h1, h2, h3⟩
      · exact absurd hc.1 h1
      · rw [h1]; simp
    refine ⟨?_, hc.2⟩
    simp only
    rw [Int.toNat_of_nonneg h3, ← hc.1]
  · simp at h
theorem qpA {l : List Int} {B : Int} (_hB : 0 ≤ B) {node p : Nat} (hp : p ≤ l.length) {o : Int × Nat} (h : pkO l B node p = some o) : 0 ≤ o.1 ∧ o.1 ≤ min B (node : Int) ∧ o.2 ≤ l.length := by
  unfold pkO at h
  split at h
  · simp only [Option.some.injEq] at h
    subst h
    simp only
    omega
  · have := js h
    omega
theorem qm5 {F : Nat} (hF : 20000 ≤ F) {l : List Int} (hl : Bit l) (hm : l.length ≤ 8192) {N B least k : Int} (hB : 0 ≤ B ∧ B ≤ 7) {node p : Nat} (hn : node ≤ 1000) (hp : p ≤ l.length) :
    qcN F N B least k (l.length : Int) (pk l) (p : Int) (node : Int) = some (match pkO l B node p with | none => (0, 0, false) | some o => (o.1, (o.2 : Int), true)) := by
  unfold qcN pkO
  by_cases h0 : B = 0
  · rw [if_pos (by simpa using h0), if_pos h0]
  · rw [if_neg (by simpa using h0), if_neg h0, qfk hF hl hm hp]
    simp only [Option.bind_some]
    have hmin : imin B (node : Int) = min B (node : Int) := by unfold imin; split <;> omega
    have hcv : iconv .u64 (min B (node : Int)) = min B (node : Int) := by
      obtain ⟨q, hq⟩ := Int.eq_ofNat_of_zero_le (a := min B (node : Int)) (by omega)
      rw [hq]; exact yl (by omega)
    unfold qb2
    rw [hmin, hcv]
    cases hr : rgam l p (min B (node : Int)) with
    | none =>
      rcases qn8 hr with h1 | h1
      · rw [if_pos (by simpa using h1), if_pos rfl]
      · by_cases h2 : (fg l p).2.2 = 0
        · rw [if_neg (by simp [h2]), if_pos (by simpa using h1)]
        · rw [if_pos (by simpa using h2), if_pos rfl]
    | some x =>
      obtain ⟨h1, h2⟩ := qnf hr
      have hok := js hr
      rw [h1]
      simp only
      rw [if_neg (by simp), if_neg (by simp; omega)]
      have e : iconv .i64 x.1 = x.1 := kK (by omega) (by omega)
      rw [e]
theorem qkL {F k : Nat} (hF : 2000000 ≤ F) {l : List Int} (hl : Bit l) (hm : l.length ≤ 8192) {B least : Int} (hh : hcE B least (k : Int) = 0) {n : Nat} (hn : n ≤ 100) : ∀ (j p : Nat) (out : List (List Int)), n < j + out.length → out.length ≤ n → p ≤ l.length → (∀ x ∈ out, gkc x = 0) →
    kR F (n : Int) B least (k : Int) (l.length : Int) (pk l) j (out, (p : Int), (out.length : Int)) = some (match pkR l B least k (n - out.length) out p with | none => ([], false) | some r => (r.1, decide (r.2 = l.length)))
  | 0, _, _, _, _, _, _ => by omega
  | j + 1, p, out, h, ho, hp, hg => by
    obtain ⟨k1, k2, k', hk, k3, k4⟩ := qch hh
    have hkk : k = k' := by omega
    subst hkk
    show qa2 F (n : Int) B least (k : Int) (l.length : Int) (pk l) (kR F (n : Int) B least (k : Int) (l.length : Int) (pk l) j) out (p : Int) (out.length : Int) = _
    unfold qa2
    by_cases hlt : out.length < n
    · rw [if_pos (by simp; omega), qm5 (by omega) hl hm k1 (by omega) hp, show n - out.length = (n - (out.length + 1)) + 1 from by omega]
      simp only [Option.bind_some, pkR]
      cases hO : pkO l B out.length p with
      | none => rfl
      | some o =>
        obtain ⟨o1, o2, o3⟩ := qpA k1.1 hp hO
        simp only [Bool.not_true, Bool.false_eq_true, if_false, Option.bind_some]
        have hfr : gkc (pkF out out.length o.1.toNat) = 0 := by
          unfold pkF
          split
          · rw [List.getD_eq_getElem?_getD]
            by_cases hq : out.length - o.1.toNat < out.length
            · rw [List.getElem?_eq_getElem hq]; exact hg _ (List.getElem_mem hq)
            · rw [List.getElem?_eq_none (by omega)]; decide
          · decide
        have hstep : ∀ fr : List Int, fr = pkF out out.length o.1.toNat → ((jf F (l.length : Int) (pk l) (o.2 : Int) (out.length : Int) fr o.1 least (k : Int)).bind fun x488 => (if ((x488.2.2 : Int) != 0) then some (([] : List (List Int)), false) else ((app 2199023255552 out ([x488.1] : List (List Int))).bind fun x494 => jv F (kR F (n : Int) B least (k : Int) (l.length : Int) (pk l) j) (out.length : Int) x494 x488.2.1))) = some (match (rdl l o.2 (out.length : Int) (pkF out out.length o.1.toNat) o.1 least k).bind fun r => pkR l B least k (n - (out.length + 1)) (out ++ [r.1]) r.2 with | none => ([], false) | some r => (r.1, decide (r.2 = l.length))) := by
          intro fr hfe
          subst hfe
          rw [qkX hF k3 k4 hl hm (by unfold Nd; omega) o3 (fun _ => hfr) k2]
          simp only [Option.bind_some]
          cases hr : rdl l o.2 (out.length : Int) (pkF out out.length o.1.toNat) o.1 least k with
          | none => rfl
          | some r =>
            obtain ⟨r1, r2, r3, r4, r5⟩ := qkQ hl k3 hr
            simp only [Option.bind_some]
            rw [if_neg (by simp), vh (by simp; omega)]
            simp only [Option.bind_some]
            unfold jv
            have hl1 : (out ++ [r.1]).length = out.length + 1 := by simp
            have hrec := qkL hF hl hm hh hn j r.2 (out ++ [r.1]) (by omega) (by omega) r5 (fun x hx => by
              rcases List.mem_append.1 hx with hx | hx
              · exact hg x hx
              · simp at hx; subst hx; exact r1)
            rw [hl1] at hrec
            rw [qr (by omega), hrec]
        by_cases h0 : 0 < o.1
        · rw [if_pos (by simpa using h0), zH (by omega) (by omega), show ((out.length : Int) - o.1) = ((out.length - o.1.toNat : Nat) : Int) from by omega, qku (by omega)]
          simp only [Option.bind_some]
          exact hstep _ (by unfold pkF; rw [if_pos (by omega)])
        · rw [if_neg (by simpa using h0)]
          exact hstep _ (by unfold pkF; rw [if_neg (by omega)])
    · rw [if_neg (by simp; omega), show n - out.length = 0 from by omega]
      unfold qcf
      simp only [pkR]
      congr 2
      by_cases hpl : p = l.length
      · subst hpl; simp
      · rw [decide_eq_false hpl]; simp; omega
def pcE (N B least k m : Int) (b : List Int) : Int := if N < 0 ∨ 100 < N then 3 else if hcE B least k ≠ 0 then hcE B least k else chkOf m b
def prd (N B least k m : Int) (b : List Int) : List (List Int) × Int :=
  if pcE N B least k m b ≠ 0 then ([], pcE N B least k m b) else
  match pkR (bl b m.toNat) B least k.toNat N.toNat [] 0 with
  | none => ([], 1)
  | some r => if r.2 = m.toNat ∧ pkE r.1 B least k = 0 ∧ pk (pkA r.1 B least k.toNat r.1.length).1 = b then (r.1, 0) else ([], 1)
theorem qlS {F : Nat} {N B least k m : Int} {b : List Int} (hb : U8s b) (hm : I64 m) (lb : b.length ≤ 9223372036854775807) : qcq F N B least k m b = some (pcE N B least k m b) := by
  unfold qcq pcE
  by_cases h1 : N < 0 ∨ 100 < N
  · rw [if_pos (by simpa using h1), if_pos h1]
  · rw [if_neg (by simpa using h1), if_neg h1, qfP]
    simp only [Option.bind_some]
    by_cases h2 : hcE B least k = 0
    · rw [if_neg (by simp [h2]), if_neg (by simp [h2]), qgO hb hm.1 hm.2 lb]
      rfl
    · rw [if_pos (by simpa using h2), if_pos h2]
theorem qpx {N B least k m : Int} {b : List Int} (hb : U8s b) (h : pcE N B least k m b = 0) : ∃ (n : Nat) (l : List Int), N = (n : Int) ∧ n ≤ 100 ∧ hcE B least k = 0 ∧ Bit l ∧ l.length ≤ 8192 ∧ m = (l.length : Int) ∧ b = pk l := by
  unfold pcE at h
  by_cases h1 : N < 0 ∨ 100 < N
  · rw [if_pos h1] at h; simp at h
  · rw [if_neg h1] at h
    by_cases h2 : hcE B least k = 0
    · rw [if_neg (by simp [h2])] at h
      rcases qgP hb (n := m) with h3 | ⟨l, hl, hm, e1, e2⟩
      · exact absurd h h3
      · exact ⟨N.toNat, l, by omega, by omega, h2, hl, hm, e1, e2⟩
    · rw [if_pos h2] at h; exact absurd h h2
theorem qpG {F : Nat} (hF : 2000000 ≤ F) {N B least k m : Int} {b : List Int} (hb : U8s b) (hm : I64 m) (lb : b.length ≤ 9223372036854775807) : qc4 F N B least k m b = some (prd N B least k m b) := by
  unfold qc4 prd
  rw [qlS hb hm lb]
  simp only [Option.bind_some]
  by_cases h : pcE N B least k m b = 0
  · rw [if_neg (by simp [h]), if_neg (by simp [h])]
    obtain ⟨n, l, rfl, hn, hh, hl, hlm, rfl, rfl⟩ := qpx hb h
    obtain ⟨k1, k2, k', rfl, k3, k4⟩ := qch hh
    have hL := qkL (F := F) hF hl hlm hh hn F 0 [] (by simp; omega) (Nat.zero_le _) (Nat.zero_le _) (by simp)
    have hL' : qdC F (n : Int) B least (k' : Int) (l.length : Int) (pk l) = _ := hL
    rw [hL']
    simp only [Option.bind_some, List.length_nil, Nat.sub_zero, Int.toNat_natCast, qcj hl]
    cases hr : pkR l B least k' n [] 0 with
    | none => rfl
    | some r =>
      simp only
      by_cases hp : r.2 = l.length
      · rw [decide_eq_true hp, if_neg (by simp), qio hF]
        simp only [Option.bind_some]
        unfold pwr qbx
        by_cases hE : pkE r.1 B least (k' : Int) = 0
        · rw [if_neg (by simp [hE])]
          simp only [Int.toNat_natCast]
          obtain ⟨_, _, hA⟩ := qeX hE
          rw [Int.toNat_natCast] at hA
          rw [if_neg (by simp [hE]), peqb (by rw [qeg]; omega) (by rw [qeg]; omega)]
          simp only [Option.bind_some]
          by_cases hq : pk (pkA r.1 B least k' r.1.length).1 = pk l
          · rw [decide_eq_true hq, if_neg (by simp), if_pos ⟨hp, hE, hq⟩]
          · rw [decide_eq_false hq, if_pos (by simp), if_neg (fun hc => hq hc.2.2)]
        · rw [if_pos hE, if_pos (by simpa using hE), if_pos rfl, if_neg (fun hc => hE hc.2.1)]
      · rw [decide_eq_false hp, if_pos (by simp), if_neg (fun hc => hp hc.1)]
  · rw [if_pos (by simpa using h), if_pos h]
theorem qpQ {l : List Int} (hl : Bit l) {p : Nat} {most : Int} {x : Int × Nat} (h : rgam l p most = some x) : x.2 = p + (ga x.1.toNat).length := by
  have hf := (qnf h).1
  unfold fg at hf
  cases hz : fz (l.drop p) with
  | none => rw [hz] at hf; simp at hf
  | some k =>
    rw [hz] at hf
    simp only at hf
    unfold numOf at hf
    by_cases h1 : 64 ≤ k
    · rw [if_pos h1] at hf; simp at hf
    · rw [if_neg h1] at hf
      by_cases h2 : l.length < p + k + 1 + k
      · rw [if_pos h2] at hf; simp at hf
      · rw [if_neg h2] at hf
        by_cases h3 : 1099511627776 < bv ((l.drop (p + k + 1)).take k) + 2 ^ k - 1
        · rw [if_pos h3] at hf; simp at hf
        · rw [if_neg h3] at hf
          simp only [Prod.mk.injEq, and_true] at hf
          have hb := qmz (qfd (qd9 hl (p + k + 1)) k)
          rw [List.length_take, List.length_drop, Nat.min_eq_left (by omega)] at hb
          have hp0 : 0 < 2 ^ k := Nat.pow_pos (by decide)
          have hn : x.1.toNat = bv ((l.drop (p + k + 1)).take k) + 2 ^ k - 1 := by omega
          have hlg : lg x.1.toNat = k := qn1 (by omega) (by rw [Nat.pow_succ]; omega)
          rw [qjf, hlg]
          omega
theorem qrk {l : List Int} (hl : Bit l) {B : Int} (hB : 0 ≤ B) {node p : Nat} {o : Int × Nat} (h : pkO l B node p = some o) : o.2 = p + (pkH B o.1.toNat).length := by
  unfold pkO at h
  unfold pkH
  split at h
  · rename_i h0
    simp only [Option.some.injEq] at h
    subst h
    rw [if_neg (by omega)]
    simp
  · rw [if_pos (by omega)]
    exact qpQ hl h
theorem qkt {g : List (List Int)} {x : List Int} {i : Nat} (h : i < g.length) : (g ++ [x]).getD i [] = g.getD i [] := by
  rw [List.getD_eq_getElem?_getD, List.getD_eq_getElem?_getD, List.getElem?_append_left h]
theorem qm0 {g : List (List Int)} {x : List Int} {i r : Nat} (h : i ≤ g.length) (hr : r ≤ i) : pkF (g ++ [x]) i r = pkF g i r := by
  unfold pkF
  split
  · exact qkt (by omega)
  · rfl
theorem qrj {g : List (List Int)} {x : List Int} {B least : Int} {k i : Nat} (h : i < g.length) : pkN (g ++ [x]) B least k i = pkN g B least k i := by
  unfold pkN
  refine qh2 fun r hr => ?_
  unfold pkW
  rw [qkt h, qm0 (by omega) (by omega)]
theorem qmZ {g : List (List Int)} {x : List Int} {B least : Int} {k : Nat} : ∀ {i : Nat}, i ≤ g.length → pkA (g ++ [x]) B least k i = pkA g B least k i
  | 0, _ => rfl
  | i + 1, h => by
    unfold pkA
    rw [qmZ (i := i) (by omega), qrj (by omega)]
theorem qkI {l : List Int} (hl : Bit l) {B least : Int} {k : Nat} (hB : 0 ≤ B) (hk : 1 ≤ k) : ∀ (m p : Nat) (out : List (List Int)) (r : List (List Int) × Nat), pkR l B least k m out p = some r → p ≤ l.length → (pkA out B least k out.length).1.length ≤ p →
    r.1.length = out.length + m ∧ (pkA r.1 B least k r.1.length).1.length ≤ r.2
  | 0, p, out, r, h, _, hA => by
    simp only [pkR, Option.some.injEq] at h
    subst h
    exact ⟨rfl, hA⟩
  | m + 1, p, out, r, h, hp, hA => by
    unfold pkR at h
    rw [Option.bind_eq_some_iff] at h
    obtain ⟨o, ho, h⟩ := h
    rw [Option.bind_eq_some_iff] at h
    obtain ⟨d, hd, h⟩ := h
    obtain ⟨o1, o2, o3⟩ := qpA hB hp ho
    have hol := qrk hl hB ho
    obtain ⟨d1, d2, d3, d4, d5⟩ := qkQ hl hk hd
    have hn1 : (out ++ [d.1]).length = out.length + 1 := by simp
    have hmin := qmA (pkW (out ++ [d.1]) B least k out.length) (n := min B.toNat out.length) (r := o.1.toNat) (by omega)
    have hW : (pkW (out ++ [d.1]) B least k out.length o.1.toNat).length = (pkH B o.1.toNat).length + (enc (out.length : Int) d.1 (pkF out out.length o.1.toNat) o.1 least k).length := by
      unfold pkW
      rw [List.length_append, qm0 (Nat.le_refl _) (by omega), show ((o.1.toNat : Nat) : Int) = o.1 from by omega]
      congr 3
      rw [List.getD_eq_getElem?_getD, List.getElem?_append_right (Nat.le_refl _)]
      simp
    have hrec := qkI hl hB hk m d.2 (out ++ [d.1]) r h d5 (by
      rw [hn1, pkA, List.length_append, qmZ (Nat.le_refl _)]
      unfold pkN
      omega)
    rw [hn1] at hrec
    exact ⟨by omega, hrec.2⟩
theorem qpF {g : List (List Int)} {B least k : Int} (h : pkE g B least k = 0) : prd (g.length : Int) B least k ((pkA g B least k.toNat g.length).1.length : Int) (pk (pkA g B least k.toNat g.length).1) = (g, 0) := by
  obtain ⟨h1, h2, h3⟩ := qeX h
  have hg := qba.1 h1
  have hgl := hg.1
  obtain ⟨k1, k2, k', rfl, k3, k4⟩ := qch h2
  rw [Int.toNat_natCast] at h3 ⊢
  have hE : pcE (g.length : Int) B least (k' : Int) ((pkA g B least k' g.length).1.length : Int) (pk (pkA g B least k' g.length).1) = 0 := by
    unfold pcE
    rw [if_neg (by omega), if_neg (by simp [h2]), qgQ h3]
  have hr := qju hg h2 h3 [] g.length 0 (by omega)
  have hr' : pkR (pkA g B least k' g.length).1 B least k' g.length [] 0 = some (g, (pkA g B least k' g.length).1.length) := by
    rw [List.append_nil] at hr
    exact hr
  unfold prd
  rw [if_neg (by simp [hE])]
  simp only [Int.toNat_natCast]
  rw [qcj (qdO _), hr']
  simp only
  rw [if_pos ⟨trivial, h, trivial⟩]
theorem qsR {N B least k m : Int} {b : List Int} (hb : U8s b) (h : (prd N B least k m b).2 = 0) : ∃ g, prd N B least k m b = (g, 0) ∧ pkE g B least k = 0 ∧ N = (g.length : Int) ∧ m = ((pkA g B least k.toNat g.length).1.length : Int) ∧ b = pk (pkA g B least k.toNat g.length).1 := by
  have h0 := h
  unfold prd at h
  by_cases hE : pcE N B least k m b = 0
  · rw [if_neg (by simp [hE])] at h
    obtain ⟨n, l, rfl, hn, hh, hl, hlm, rfl, rfl⟩ := qpx hb hE
    obtain ⟨k1, k2, k', rfl, k3, k4⟩ := qch hh
    simp only [Int.toNat_natCast, qcj hl] at h
    cases hr : pkR l B least k' n [] 0 with
    | none => rw [hr] at h; simp at h
    | some r =>
      rw [hr] at h
      simp only at h
      split at h
      · rename_i hc
        obtain ⟨c1, c2, c3⟩ := hc
        obtain ⟨g1, g2, g3⟩ := qeX c2
        rw [Int.toNat_natCast] at g3
        have hg := qba.1 g1
        obtain ⟨b1, b2⟩ := qkI hl k1.1 k3 n 0 [] r hr (Nat.zero_le _) (by simp [pkA])
        rw [List.length_nil, Nat.zero_add] at b1
        have hq : l = (pkA r.1 B least k' r.1.length).1 ++ l.drop (pkA r.1 B least k' r.1.length).1.length := by
          have e1 : l.take (pkA r.1 B least k' r.1.length).1.length = (pkA r.1 B least k' r.1.length).1 := by
            have := qqO (b := pk l) (n := (pkA r.1 B least k' r.1.length).1.length) (m := l.length) (by omega)
            rw [qcj hl, ← c3, qcj (qdO _)] at this
            exact this
          conv => lhs; rw [← List.take_append_drop (pkA r.1 B least k' r.1.length).1.length l, e1]
        have hr2 := qju hg hh g3 (l.drop (pkA r.1 B least k' r.1.length).1.length) r.1.length 0 (by omega)
        rw [← hq] at hr2
        have hr3 : pkR l B least k' n [] 0 = some (r.1, (pkA r.1 B least k' r.1.length).1.length) := by
          rw [← b1]; exact hr2
        rw [hr] at hr3
        have e2 : r.2 = (pkA r.1 B least k' r.1.length).1.length := by
          have := Option.some.inj hr3
          rw [this]
        refine ⟨r.1, ?_, c2, by omega, by rw [Int.toNat_natCast]; omega, by rw [Int.toNat_natCast]; exact c3.symm⟩
        unfold prd
        rw [if_neg (by simp [hE])]
        simp only [Int.toNat_natCast, qcj hl, hr]
        rw [if_pos ⟨c1, c2, c3⟩]
      · simp at h
  · rw [if_pos hE] at h
    exact absurd h hE
def pkSome : List (List Int) := [[1, 2, 3, 5], [1, 2, 3, 5], [0, 1, 2, 3, 5], [], [4], [1, 2, 3]]
def plc (bit : Int) : List Int → Nat → Option Nat
  | [], _ => none
  | x :: l, i => if x = bit then (match i with | 0 => some 0 | i + 1 => (plc bit l i).map (· + 1)) else (plc bit l i).map (· + 1)
theorem qhg (bit x : Int) (l : List Int) (i : Nat) : plc bit (x :: l) i = if x = bit then (match i with | 0 => some 0 | i + 1 => (plc bit l i).map (· + 1)) else (plc bit l i).map (· + 1) := rfl
theorem qjv {F : Nat} {l : List Int} (hl : Bit l) (hm : l.length ≤ 10000) (bit : Int) : ∀ (k j i : Nat), l.length < k + j → j ≤ l.length → i < 9223372036854775808 →
    (∃ s, plc bit (l.drop j) i = none ∧ qT F (fun (x31 : Int) (x37 : Int) => qU F x31 x37) (l.length : Int) (pk l) bit k ((j : Int), (i : Int)) = some (.inl s)) ∨
    (∃ a q, plc bit (l.drop j) i = some a ∧ qT F (fun (x31 : Int) (x37 : Int) => qU F x31 x37) (l.length : Int) (pk l) bit k ((j : Int), (i : Int)) = some (.inr (((j + a : Nat) : Int), q)))
  | 0, _, _, _, _, _ => by omega
  | k + 1, j, i, h, hj, hi => by
    have e : qT F (fun (x31 : Int) (x37 : Int) => qU F x31 x37) (l.length : Int) (pk l) bit (k + 1) ((j : Int), (i : Int)) =
      k9 F (fun (x31 : Int) (x37 : Int) => qU F x31 x37) (l.length : Int) (pk l) bit (qT F (fun (x31 : Int) (x37 : Int) => qU F x31 x37) (l.length : Int) (pk l) bit k) (j : Int) (i : Int) := rfl
    rw [e]
    unfold k9
    by_cases hlt : j < l.length
    · rw [if_pos (by simp; omega), qkd hl (by omega) hlt, List.drop_eq_getElem_cons hlt, qhg]
      simp only [Option.bind_some]
      by_cases h1 : l[j] = bit
      · rw [if_pos h1, if_pos (by simpa using h1)]
        cases i with
        | zero =>
          right
          exact ⟨0, 0, rfl, rfl⟩
        | succ i =>
          have : qU F ((i + 1 : Nat) : Int) (j : Int) = some (.inl (i : Int)) := by
            unfold qU
            rw [if_neg (by simp; omega), qbb (by omega) (by omega), Nat.add_sub_cancel]
          rw [this]
          simp only [Option.bind_some, Sum.elim_inl, kq]
          rw [qr (by omega)]
          rcases qjv (F := F) hl hm bit k (j + 1) i (by omega) (by omega) (by omega) with ⟨s, h2, h3⟩ | ⟨a, q, h2, h3⟩
          · left; exact ⟨s, by rw [h2]; rfl, h3⟩
          · right; exact ⟨a + 1, q, by rw [h2]; rfl, by rw [h3, show j + 1 + a = j + (a + 1) from by omega]⟩
      · rw [if_neg h1, if_neg (by simpa using h1)]
        simp only [kq]
        rw [qr (by omega)]
        rcases qjv (F := F) hl hm bit k (j + 1) i (by omega) (by omega) hi with ⟨s, h2, h3⟩ | ⟨a, q, h2, h3⟩
        · left; exact ⟨s, by rw [h2]; rfl, h3⟩
        · right; exact ⟨a + 1, q, by rw [h2]; rfl, by rw [h3, show j + 1 + a = j + (a + 1) from by omega]⟩
    · rw [if_neg (by simp; omega), List.drop_eq_nil_of_le (by omega)]
      left; exact ⟨_, rfl, rfl⟩
theorem qhf {F : Nat} (hF : 20000 ≤ F) {l : List Int} (hl : Bit l) (hm : l.length ≤ 10000) {bit : Int} {i : Nat} (hi : i < 9223372036854775808) :
    jp F (l.length : Int) (pk l) bit (i : Int) = some (match plc bit l i with | none => -1 | some a => (a : Int)) := by
  unfold jp
  simp only [qb4, Option.bind_some, qa6]
  rcases qjv (F := F) hl hm bit F 0 i (by omega) (by omega) hi with ⟨s, h2, h3⟩ | ⟨a, q, h2, h3⟩
  · rw [List.drop_zero] at h2
    rw [show ((0 : Nat) : Int) = 0 from rfl] at h3
    rw [h3, h2]; rfl
  · rw [List.drop_zero] at h2
    rw [show ((0 : Nat) : Int) = 0 from rfl] at h3
    rw [h3, h2, Nat.zero_add]; rfl
def slOf (m : Int) (b : List Int) (bit i : Int) : Int := if chkOf m b ≠ 0 then chkOf m b else if bit < 0 ∨ 1 < bit ∨ i < 0 then 3 else 0
def sl (m : Int) (b : List Int) (bit i : Int) : Int × Int := if slOf m b bit i ≠ 0 then (0, slOf m b bit i) else match plc bit (bl b m.toNat) i.toNat with | none => (0, 5) | some a => ((a : Int), 0)
theorem qkf : Bit [] := by intro x hx; simp at hx
theorem qlE {n m : Nat} (hm : m ≤ 62) (h : n * 2 ^ m < 9223372036854775808) : ishl .i64 (n : Int) (m : Int) = ((n * 2 ^ m : Nat) : Int) := by
  unfold ishl
  have h1 : min ((m : Int).toNat) (IntKind.bits .i64) = m := by simp [IntKind.bits]; omega
  rw [h1]
  have e : (n : Int) * 2 ^ m = ((n * 2 ^ m : Nat) : Int) := by rw [Int.natCast_mul, Int.natCast_pow]; rfl
  rw [e]
  generalize n * 2 ^ m = q at h
  exact kK (by omega) (by omega)
theorem qlG {n m : Nat} (hm : m ≤ 62) : ishr .i64 (n : Int) (m : Int) = ((n / 2 ^ m : Nat) : Int) := by
  rw [qep (by simp only [IntKind.bits]; omega)]
  norm_cast
theorem qsJ {n m : Nat} (hm : m ≤ 62) (hn : n < 9223372036854775808) : iand .i64 (n : Int) ((2 ^ m - 1 : Nat) : Int) = ((n % 2 ^ m : Nat) : Int) := by
  unfold iand
  have h1 : (BitVec.ofInt (IntKind.bits .i64) (n : Int)) = BitVec.ofNat 64 n := by simp [IntKind.bits]
  have h2 : (BitVec.ofInt (IntKind.bits .i64) ((2 ^ m - 1 : Nat) : Int)) = BitVec.ofNat 64 (2 ^ m - 1) := by simp [IntKind.bits]
  have h3 : 2 ^ m ≤ 2 ^ 62 := Nat.pow_le_pow_right (by decide) hm
  rw [show (2 : Nat) ^ 62 = 4611686018427387904 from by decide] at h3
  rw [h1, h2]
  have h4 : (BitVec.ofNat 64 n &&& BitVec.ofNat 64 (2 ^ m - 1)).toNat = n % 2 ^ m := by
    rw [BitVec.toNat_and, BitVec.toNat_ofNat, BitVec.toNat_ofNat, Nat.mod_eq_of_lt (a := n) (by omega), Nat.mod_eq_of_lt (a := 2 ^ m - 1) (by omega), Nat.and_two_pow_sub_one_eq_mod]
  show IntKind.wrap .i64 ((BitVec.ofNat 64 n &&& BitVec.ofNat 64 (2 ^ m - 1)).toNat : Int) = _
  rw [h4]
  have := Nat.mod_le n (2 ^ m)
  generalize n % 2 ^ m = q at this
  exact kK (by omega) (by omega)
theorem qjl {a b : Nat} (h : a * b < 9223372036854775808) : imul .i64 (a : Int) (b : Int) = ((a * b : Nat) : Int) := by
  unfold imul
  rw [← Int.natCast_mul]
  generalize a * b = q at h
  exact kK (by omega) (by omega)
def wd (n t : Nat) : Nat := if n = 0 then 0 else len ((t + 1) / n) - 1
theorem qr0 {n t w : Nat} (hn : n ≠ 0) : n * 2 ^ (w + 1) ≤ t + 1 ↔ w < wd n t := by
  unfold wd
  rw [if_neg hn]
  have h1 := qdn (x := (t + 1) / n) (k := w + 1)
  have h2 := Nat.le_div_iff_mul_le (x := 2 ^ (w + 1)) (y := t + 1) (k := n) (by omega)
  rw [Nat.mul_comm] at h2
  omega
theorem qlk {n t : Nat} (ht : t ≤ 1048576) : wd n t ≤ 20 := by
  unfold wd
  split
  · omega
  · have h1 : (t + 1) / n ≤ t + 1 := Nat.div_le_self _ _
    have h2 : len ((t + 1) / n) ≤ 21 := qdn.2 (by omega)
    omega
theorem qnG {F n t : Nat} (hn : n ≤ 300) (ht : t ≤ 1048576) : ∀ (k w : Nat), wd n t < k + w → w ≤ wd n t →
    k7 F (n : Int) (t : Int) k (w : Int) = some ((wd n t : Nat) : Int)
  | 0, _, _, _ => by omega
  | k + 1, w, h, hw => by
    show qaC F (n : Int) (t : Int) (k7 F (n : Int) (t : Int) k) (w : Int) = _
    unfold qaC
    have h20 := qlk (n := n) ht
    by_cases h0 : n = 0
    · subst h0
      have : wd 0 t = 0 := rfl
      rw [if_neg (by simp)]
      unfold vW
      rw [if_neg (by simp)]
      obtain rfl : w = 0 := by omega
      rw [this]; rfl
    · have hp : 2 ^ (w + 1) ≤ 2 ^ 21 := Nat.pow_le_pow_right (by decide) (by omega)
      have hm : n * 2 ^ (w + 1) ≤ 300 * 2 ^ 21 := Nat.mul_le_mul hn hp
      rw [show (300 : Nat) * 2 ^ 21 = 629145600 from by decide] at hm
      have hc : decide ((0 : Int) ≤ ((w + 1 : Nat) : Int)) = true := decide_eq_true (by omega)
      rw [if_pos (by simp; omega), qr (by omega), hc]
      simp only [chk, if_true]
      rw [qlE (by omega) (by omega), qr (by omega)]
      unfold vW
      have hs := qr0 (n := n) (t := t) (w := w) h0
      by_cases hlt : w < wd n t
      · rw [if_pos (by simp only [decide_eq_true_eq]; have := hs.2 hlt; omega), qr (by omega)]
        exact qnG hn ht k (w + 1) (by omega) (by omega)
      · rw [if_neg (by simp only [decide_eq_true_eq]; intro hh; exact hlt (hs.1 (by omega)))]
        obtain rfl : w = wd n t := by omega
        rfl
theorem qlm {F n t : Nat} (hF : 20000 ≤ F) (hn : n ≤ 300) (ht : t ≤ 1048576) : qbr F (n : Int) (t : Int) = some ((wd n t : Nat) : Int) := by
  unfold qbr
  have := qlk (n := n) ht
  exact qnG hn ht F 0 (by omega) (by omega)
def fk (t : Int) : Int → List Int → Int
  | _, [] => 0
  | last, n :: l => if 0 ≤ n ∧ n ≤ t then (if n < last then 4 else fk t n l) else 3
def fkc (l : List Int) (t : Int) : Int := if 0 ≤ t ∧ t ≤ 1048576 then (if 300 < l.length then 2 else fk t 0 l) else 3
theorem qkn {F : Nat} {t : Int} {l : List Int} (hm : l.length ≤ 300) : ∀ (k i : Nat) (last : Int), l.length < k + i → i ≤ l.length →
    vk F l t k (last, (i : Int)) = some (fk t last (l.drop i))
  | 0, _, _, _, _ => by omega
  | k + 1, i, last, h, hi => by
    show qaX F l t (vk F l t k) last (i : Int) = _
    unfold qaX
    by_cases hlt : i < l.length
    · rw [if_pos (by simp; omega), qE, List.getElem?_eq_getElem hlt, List.drop_eq_getElem_cons hlt, fk]
      simp only [Option.bind_some]
      by_cases h1 : 0 ≤ l[i] ∧ l[i] ≤ t
      · rw [if_pos h1, if_neg (by simp; omega)]
        by_cases h2 : l[i] < last
        · rw [if_pos h2, if_pos (by simpa using h2)]
        · rw [if_neg h2, if_neg (by simpa using h2), qr (by omega)]
          exact qkn hm k (i + 1) _ (by omega) (by omega)
      · rw [if_neg h1, if_pos (by simp; omega)]
    · rw [if_neg (by simp; omega), List.drop_eq_nil_of_le (by omega)]
      rfl
theorem qia {F : Nat} (hF : 20000 ≤ F) {l : List Int} {t : Int} : qbp F l t = some (fkc l t) := by
  unfold qbp fkc
  by_cases h1 : 0 ≤ t ∧ t ≤ 1048576
  · rw [if_pos h1, if_neg (by simp; omega)]
    by_cases h : 300 < l.length
    · rw [if_pos h, if_pos (by simp; omega)]
    · rw [if_neg h, if_neg (by simp; omega)]
      exact qkn (by omega) F 0 0 (by omega) (by omega)
  · rw [if_neg h1, if_pos (by simp; omega)]
def Up (t : Nat) : Nat → List Nat → Prop
  | _, [] => True
  | last, n :: l => last ≤ n ∧ n ≤ t ∧ Up t n l
def lc (l : List Nat) : List Int := l.map fun x : Nat => (x : Int)
theorem qci (l : List Nat) : (lc l).length = l.length := by simp [lc]
theorem qr8 {t : Nat} : ∀ {l : List Int} {last : Nat}, fk (t : Int) (last : Int) l = 0 ↔ ∃ ns, l = lc ns ∧ Up t last ns
  | [], last => by
    constructor
    · intro _; exact ⟨[], rfl, trivial⟩
    · intro _; rfl
  | n :: l, last => by
    unfold fk
    by_cases h1 : 0 ≤ n ∧ n ≤ (t : Int)
    · rw [if_pos h1]
      obtain ⟨n, rfl⟩ := Int.eq_ofNat_of_zero_le h1.1
      by_cases h2 : (n : Int) < (last : Int)
      · rw [if_pos h2]
        constructor
        · intro h; simp at h
        · rintro ⟨ns, e, hu⟩
          cases ns with
          | nil => simp [lc] at e
          | cons m ns => simp [lc] at e; have := hu.1; omega
      · rw [if_neg h2, qr8]
        constructor
        · rintro ⟨ns, rfl, hu⟩; exact ⟨n :: ns, rfl, by omega, by omega, hu⟩
        · rintro ⟨ns, e, hu⟩
          cases ns with
          | nil => simp [lc] at e
          | cons m ns =>
            simp [lc] at e
            obtain ⟨e1, rfl⟩ := e
            obtain rfl : n = m := by omega
            exact ⟨ns, rfl, hu.2.2⟩
    · rw [if_neg h1]
      constructor
      · intro h; simp at h
      · rintro ⟨ns, e, hu⟩
        cases ns with
        | nil => simp [lc] at e
        | cons m ns =>
          simp [lc] at e
          have := hu.2.1
          exact absurd ⟨by omega, by omega⟩ h1
theorem qfL {l : List Int} {t : Int} : fkc l t = 0 ↔ ∃ (ns : List Nat) (k : Nat), t = k ∧ k ≤ 1048576 ∧ l = lc ns ∧ ns.length ≤ 300 ∧ Up k 0 ns := by
  unfold fkc
  by_cases h1 : 0 ≤ t ∧ t ≤ 1048576
  · rw [if_pos h1]
    obtain ⟨t, rfl⟩ := Int.eq_ofNat_of_zero_le h1.1
    by_cases h : 300 < l.length
    · rw [if_pos h]
      constructor
      · intro h; simp at h
      · rintro ⟨ns, k, _, _, rfl, h3, _⟩; rw [qci] at h; omega
    · rw [if_neg h]
      have := qr8 (t := t) (l := l) (last := 0)
      rw [show ((0 : Nat) : Int) = 0 from rfl] at this
      rw [this]
      constructor
      · rintro ⟨ns, rfl, hu⟩; exact ⟨ns, t, rfl, by omega, rfl, by rw [qci] at h; omega, hu⟩
      · rintro ⟨ns, k, e, _, rfl, _, hu⟩
        obtain rfl : t = k := by omega
        exact ⟨ns, rfl, hu⟩
  · rw [if_neg h1]
    constructor
    · intro h; simp at h
    · rintro ⟨ns, k, rfl, h2, _⟩; exact absurd ⟨by omega, by omega⟩ h1
theorem qnE {t : Nat} : ∀ {l : List Nat} {a : Nat}, Up t a l → ∀ x ∈ l, a ≤ x ∧ x ≤ t
  | [], _, _ => by intro x hx; simp at hx
  | n :: l, a, h => by
    intro x hx
    rcases List.mem_cons.1 hx with rfl | hx
    · exact ⟨h.1, h.2.1⟩
    · have := qnE h.2.2 x hx; have := h.1; omega
def lo' (w : Nat) (l : List Nat) : List Int := l.flatMap fun x => nb x w
theorem qed (w x : Nat) (l : List Nat) : lo' w (x :: l) = nb x w ++ lo' w l := rfl
theorem qmW (w : Nat) : ∀ l : List Nat, (lo' w l).length = l.length * w
  | [] => by simp [lo']
  | x :: l => by rw [qed, List.length_append, qbD, qmW w l, List.length_cons, Nat.add_mul, Nat.one_mul, Nat.add_comm]
theorem qfo (w : Nat) : ∀ l : List Nat, Bit (lo' w l)
  | [] => by intro x hx; simp [lo'] at hx
  | x :: l => by rw [qed]; exact kw (qhc _ _) (qfo w l)
def hp (w last : Nat) : Nat → List Nat → List Int
  | a, [] => List.replicate (last - a) 0
  | a, x :: l => List.replicate (x / 2 ^ w - a) 0 ++ (1 :: hp w last (x / 2 ^ w) l)
theorem qfQ (w last : Nat) : ∀ (a : Nat) (l : List Nat), Bit (hp w last a l)
  | a, [] => qdE _
  | a, x :: l => by
    rw [hp]
    exact kw (qdE _) (by
      intro y hy
      rcases List.mem_cons.1 hy with rfl | hy
      · right; rfl
      · exact qfQ w last _ l y hy)
theorem qpc {w t : Nat} : ∀ {a : Nat} {l : List Nat}, Up t a l → (hp w (t / 2 ^ w + 1) (a / 2 ^ w) l).length = l.length + (t / 2 ^ w + 1 - a / 2 ^ w)
  | a, [], _ => by simp [hp]
  | a, x :: l, h => by
    have h1 : a / 2 ^ w ≤ x / 2 ^ w := Nat.div_le_div_right h.1
    have h2 : x / 2 ^ w ≤ t / 2 ^ w := Nat.div_le_div_right h.2.1
    have := qpc (w := w) h.2.2
    rw [hp, List.length_append, List.length_replicate, List.length_cons, List.length_cons, this]
    omega
def loF (t : Nat) (l : List Nat) : List Int := lo' (wd l.length t) l
def hiF (t : Nat) (l : List Nat) : List Int := hp (wd l.length t) (t / 2 ^ wd l.length t + 1) 0 l
theorem qdJ (t : Nat) (l : List Nat) : (loF t l).length = l.length * wd l.length t := qmW _ _
theorem qfm {t : Nat} {l : List Nat} (h : Up t 0 l) : (hiF t l).length = l.length + (t / 2 ^ wd l.length t + 1) := by
  have := qpc (w := wd l.length t) h
  rw [Nat.zero_div, Nat.sub_zero] at this
  exact this
def Fits (t : Nat) (l : List Nat) : Prop := l.length * wd l.length t ≤ 8192 ∧ l.length + (t / 2 ^ wd l.length t + 1) ≤ 8192
instance fitsDec (t : Nat) (l : List Nat) : Decidable (Fits t l) := inferInstanceAs (Decidable (_ ∧ _))
theorem qpR {F : Nat} (hF : 20000 ≤ F) {to : Nat} (hto : to ≤ 10000) : ∀ (k a : Nat) (l : List Int), to < k + a → a ≤ to → Bit l → l.length + (to - a) ≤ 8192 →
    kb F (to : Int) k ((l.length : Int), pk l, (a : Int)) = some (((l ++ List.replicate (to - a) 0).length : Int), pk (l ++ List.replicate (to - a) 0), (to : Int))
  | 0, _, _, _, _, _, _ => by omega
  | k + 1, a, l, h, ha, hl, hm => by
    show y9 F (to : Int) (kb F (to : Int) k) (l.length : Int) (pk l) (a : Int) = _
    unfold y9
    by_cases hlt : a < to
    · have hadd := qeT (F := F) (n := 0) (w := 1) (l := l) (by decide) (by omega) hl (by omega) (by decide)
      rw [show ((0 : Nat) : Int) = 0 from rfl, show ((1 : Nat) : Int) = 1 from rfl, show nb 0 1 = [0] from rfl] at hadd
      rw [if_pos (by simp; omega), hadd]
      simp only [Option.bind_some]
      rw [qr (by omega), qpR hF hto k (a + 1) (l ++ [0]) (by omega) (by omega) (kw hl (qdE 1)) (by rw [List.length_append]; simp; omega)]
      have e : l ++ [0] ++ List.replicate (to - (a + 1)) 0 = l ++ List.replicate (to - a) 0 := by
        rw [List.append_assoc, show to - a = (to - (a + 1)) + 1 from by omega, List.replicate_succ]; rfl
      rw [e]
    · rw [if_neg (by simp; omega), show to - a = 0 from by omega]
      obtain rfl : a = to := by omega
      simp
theorem qnh {F : Nat} (hF : 20000 ≤ F) {to a : Nat} {l : List Int} (ha : a ≤ to) (hto : to ≤ 10000) (hl : Bit l) (hm : l.length + (to - a) ≤ 8192) :
    yR F (l.length : Int) (pk l) (a : Int) (to : Int) = some (((l ++ List.replicate (to - a) 0).length : Int), pk (l ++ List.replicate (to - a) 0), (to : Int)) := by
  unfold yR
  exact qpR hF hto F a l (by omega) ha hl hm
def T8 (t : Nat) (l : List Nat) (e : Bool) : Int × Int × Int × Int × List Int × Int × List Int × Bool :=
  ((l.length : Int), (t : Int), (wd l.length t : Int), ((loF t l).length : Int), pk (loF t l), ((hiF t l).length : Int), pk (hiF t l), e)
theorem qsh {F w t : Nat} (hF : 20000 ≤ F) (hw : w ≤ 20) (ht : t ≤ 1048576) {l : List Nat} (hlm : l.length ≤ 300) (f1 : l.length * w ≤ 8192) (f2 : l.length + (t / 2 ^ w + 1) ≤ 8192) : ∀ (k i : Nat) (q : Nat) (L H : List Int), l.length < k + i → i ≤ l.length → Up t q (l.drop i) → Bit L → Bit H → L.length + (l.length - i) * w ≤ 8192 → H.length + (l.length - i) + (t / 2 ^ w + 1 - q / 2 ^ w) ≤ 8192 → q ≤ t →
    jF F (lc l) (t : Int) (w : Int) k ((i : Int), (H.length : Int), pk H, ((q / 2 ^ w : Nat) : Int), (L.length : Int), pk L) =
      some ((l.length : Int), (t : Int), (w : Int), ((L ++ lo' w (l.drop i)).length : Int), pk (L ++ lo' w (l.drop i)), ((H ++ hp w (t / 2 ^ w + 1) (q / 2 ^ w) (l.drop i)).length : Int), pk (H ++ hp w (t / 2 ^ w + 1) (q / 2 ^ w) (l.drop i)), true)
  | 0, _, _, _, _, _, _, _, _, _, _, _, _ => by omega
  | k + 1, i, q, L, H, h, hi, hu, hL, hH, hLm, hHm, hq => by
    show qbV F (lc l) (t : Int) (w : Int) (jF F (lc l) (t : Int) (w : Int) k) (i : Int) (H.length : Int) (pk H) ((q / 2 ^ w : Nat) : Int) (L.length : Int) (pk L) = _
    unfold qbV
    have hqt : q / 2 ^ w ≤ t / 2 ^ w := Nat.div_le_div_right hq
    by_cases hlt : i < l.length
    · rw [List.drop_eq_getElem_cons hlt] at hu ⊢
      have hx1 := hu.1; have hx2 := hu.2.1; have hx3 := hu.2.2
      have hg : (lc l)[i]? = some ((l[i] : Nat) : Int) := by simp [lc, hlt]
      have hc : decide ((0 : Int) ≤ (w : Int)) = true := decide_eq_true (by omega)
      have hp20 : 2 ^ w ≤ 2 ^ 20 := Nat.pow_le_pow_right (by decide) hw
      rw [show (2 : Nat) ^ 20 = 1048576 from by decide] at hp20
      have hp0 : 0 < 2 ^ w := Nat.pow_pos (by decide)
      have e1 : ishl .i64 1 (w : Int) = ((2 ^ w : Nat) : Int) := by
        have := qlE (n := 1) (m := w) (by omega) (by rw [Nat.one_mul]; omega)
        rwa [Nat.one_mul] at this
      have hd1 : q / 2 ^ w ≤ l[i] / 2 ^ w := Nat.div_le_div_right hx1
      have hd2 : l[i] / 2 ^ w ≤ t / 2 ^ w := Nat.div_le_div_right hx2
      have hsplit : (l.length - i) * w = w + (l.length - (i + 1)) * w := by
        rw [show l.length - i = (l.length - (i + 1)) + 1 from by omega, Nat.add_mul, Nat.one_mul, Nat.add_comm]
      rw [qci, if_pos (by simp; omega), qE, hg]
      simp only [Option.bind_some]
      rw [hc]
      simp only [chk, if_true]
      have hmod : l[i] % 2 ^ w < 18446744073709551616 := by have := Nat.mod_le l[i] (2 ^ w); omega
      rw [e1, qbb (by omega) (by omega), qsJ (by omega) (by omega), yl hmod, qeT hmod (by omega) hL (by omega) (by omega), qpn (Nat.le_refl _)]
      simp only [Option.bind_some]
      rw [qlG (by omega), qnh hF hd1 (by omega) hH (by omega)]
      simp only [Option.bind_some]
      have hadd := qeT (F := F) (n := 1) (w := 1) (l := H ++ List.replicate (l[i] / 2 ^ w - q / 2 ^ w) 0) (by decide) (by omega) (kw hH (qdE _)) (by rw [List.length_append, List.length_replicate]; omega) (by decide)
      rw [show ((1 : Nat) : Int) = 1 from rfl, show nb 1 1 = [1] from rfl] at hadd
      rw [hadd]
      simp only [Option.bind_some]
      rw [qr (by omega)]
      rw [qsh hF hw ht hlm f1 f2 k (i + 1) l[i] (L ++ nb l[i] w) (H ++ List.replicate (l[i] / 2 ^ w - q / 2 ^ w) 0 ++ [1]) (by omega) (by omega) hx3 (kw hL (qhc _ _)) (kw (kw hH (qdE _)) qmw) (by rw [List.length_append, qbD]; omega) (by rw [List.length_append, List.length_append, List.length_replicate]; simp; omega) hx2]
      rw [hp, qed]
      simp [List.append_assoc]
    · rw [qci, if_neg (by simp; omega), List.drop_eq_nil_of_le (by omega)]
      unfold qdi
      rw [qlG (by omega), qr (by omega), qnh hF (by omega) (by omega) hH (by omega)]
      simp [lo', hp, qci]
theorem qmI {F t : Nat} (hF : 20000 ≤ F) (ht : t ≤ 1048576) {l : List Nat} (hlm : l.length ≤ 300) (hu : Up t 0 l) :
    qcJ F (lc l) (t : Int) = some (if Fits t l then T8 t l true else (0, 0, 0, 0, [], 0, [], false)) := by
  unfold qcJ
  have hw := qlk (n := l.length) ht
  have hc : decide ((0 : Int) ≤ ((wd l.length t : Nat) : Int)) = true := decide_eq_true (by omega)
  have hdt : t / 2 ^ wd l.length t ≤ t := Nat.div_le_self _ _
  have hmul : l.length * wd l.length t ≤ 300 * 20 := Nat.mul_le_mul hlm hw
  rw [qci, qlm hF hlm ht]
  simp only [Option.bind_some]
  rw [hc]
  simp only [chk, if_true]
  rw [qjl (by omega), qlG (by omega), qr (by omega), qaQ (by omega)]
  by_cases hf : Fits t l
  · rw [if_neg (by have h1 := hf.1; have h2 := hf.2; simp only [Bool.or_eq_true, decide_eq_true_eq]; omega), if_pos hf]
    have := qsh (F := F) hF hw ht hlm hf.1 hf.2 F 0 0 [] [] (by omega) (by omega) (by rw [List.drop_zero]; exact hu) qkf qkf (by simp; exact hf.1) (by simp; exact hf.2) (by omega)
    rw [List.drop_zero, List.nil_append, List.nil_append, Nat.zero_div] at this
    exact this
  · rw [if_pos (by unfold Fits at hf; simp only [Bool.or_eq_true, decide_eq_true_eq]; omega), if_neg hf]
def nl (l : List Int) : List Nat := l.map Int.toNat
theorem qkC (l : List Nat) : nl (lc l) = l := by
  induction l with
  | nil => rfl
  | cons x l ih => simp only [nl, lc, List.map_cons, Int.toNat_natCast] at ih ⊢; rw [ih]
abbrev F8 := Int × Int × Int × Int × List Int × Int × List Int × Int
def fz8 (e : Int) : F8 := (0, 0, 0, 0, [], 0, [], e)
def fo8 (t : Nat) (l : List Nat) : F8 := ((l.length : Int), (t : Int), (wd l.length t : Int), ((loF t l).length : Int), pk (loF t l), ((hiF t l).length : Int), pk (hiF t l), 0)
def fw (l : List Int) (t : Int) : F8 := if fkc l t ≠ 0 then fz8 (fkc l t) else if Fits t.toNat (nl l) then fo8 t.toNat (nl l) else fz8 8
theorem qo0 {l : List Int} {t : Int} (h : fkc l t ≠ 0) : fw l t = fz8 (fkc l t) := by unfold fw; rw [if_pos h]
theorem qmK {l : List Nat} {t : Nat} (ht : t ≤ 1048576) (hlm : l.length ≤ 300) (hu : Up t 0 l) : fkc (lc l) (t : Int) = 0 ∧ fw (lc l) (t : Int) = if Fits t l then fo8 t l else fz8 8 := by
  have h : fkc (lc l) (t : Int) = 0 := qfL.2 ⟨l, t, rfl, ht, rfl, hlm, hu⟩
  refine ⟨h, ?_⟩
  unfold fw
  rw [h, if_neg (by simp), Int.toNat_natCast, qkC]
theorem qnX {F : Nat} (hF : 20000 ≤ F) {l : List Int} {t : Int} : qbo F l t = some (fw l t) := by
  unfold qbo
  rw [qia hF]
  simp only [Option.bind_some]
  by_cases h : fkc l t = 0
  · obtain ⟨ns, k, rfl, hk, rfl, hm, hu⟩ := qfL.1 h
    rw [(qmK hk hm hu).2, h, if_neg (by simp), qmI hF hk hm hu]
    simp only [Option.bind_some]
    by_cases hf : Fits k ns
    · rw [if_pos hf, if_pos hf]; rfl
    · rw [if_neg hf, if_neg hf]; rfl
  · rw [if_pos (by simpa using h), qo0 h]; rfl
theorem qm4 (k : Nat) (r : List Int) (i : Nat) : plc 1 (List.replicate k 0 ++ r) i = (plc 1 r i).map (· + k) := by
  induction k with
  | zero => simp
  | succ k ih =>
    rw [List.replicate_succ, List.cons_append, qhg, if_neg (by decide), ih, Option.map_map]
    congr 1
theorem qpD {w last : Nat} : ∀ {l : List Nat} {a i : Nat}, (∀ x ∈ l, a ≤ x / 2 ^ w) → (∀ j x, l[j]? = some x → ∀ y ∈ l.drop (j + 1), x / 2 ^ w ≤ y / 2 ^ w) →
    plc 1 (hp w last a l) i = (l[i]?).map fun x => x / 2 ^ w - a + i
  | [], a, i, _, _ => by
    have := qm4 (last - a) [] i
    rw [List.append_nil] at this
    rw [hp, this]; rfl
  | x :: l, a, i, h, hs => by
    have hx := h x List.mem_cons_self
    rw [hp, qm4, qhg, if_pos rfl]
    cases i with
    | zero => simp
    | succ i =>
      simp only
      have h0 := hs 0 x rfl
      rw [List.drop_succ_cons, List.drop_zero] at h0
      rw [qpD (a := x / 2 ^ w) h0 (fun j y hj => by
        have := hs (j + 1) y (by simpa using hj)
        rwa [List.drop_succ_cons] at this)]
      simp only [List.getElem?_cons_succ, Option.map_map]
      cases hl : l[i]? with
      | none => rfl
      | some y =>
        have := h0 y (List.mem_of_getElem? hl)
        simp only [Option.map_some, Function.comp]
        congr 1
        omega
theorem qjS {t w : Nat} : ∀ {l : List Nat} {a : Nat}, Up t a l → ∀ j x, l[j]? = some x → ∀ y ∈ l.drop (j + 1), x / 2 ^ w ≤ y / 2 ^ w
  | [], _, _, j, x, h => by simp at h
  | n :: l, a, h, 0, x, hx => by
    simp at hx; subst hx
    intro y hy
    rw [List.drop_succ_cons, List.drop_zero] at hy
    exact Nat.div_le_div_right (qnE h.2.2 y hy).1
  | n :: l, a, h, j + 1, x, hx => by
    intro y hy
    rw [List.drop_succ_cons] at hy
    exact qjS h.2.2 j x (by simpa using hx) y hy
theorem qm3 {t : Nat} {l : List Nat} (h : Up t 0 l) (i : Nat) : plc 1 (hiF t l) i = (l[i]?).map fun x => x / 2 ^ wd l.length t + i := by
  unfold hiF
  rw [qpD (fun x _ => Nat.zero_le _) (qjS h)]
  simp
theorem qlO {w : Nat} : ∀ {l : List Nat} {i x : Nat}, l[i]? = some x → ((lo' w l).drop (i * w)).take w = nb x w
  | [], i, x, h => by simp at h
  | y :: l, 0, x, h => by
    simp at h; subst h
    rw [Nat.zero_mul, List.drop_zero, qed, List.take_left' (qbD _ _)]
  | y :: l, i + 1, x, h => by
    rw [qed, Nat.add_mul, Nat.one_mul, Nat.add_comm, ← List.drop_drop, List.drop_left' (qbD _ _)]
    exact qlO (by simpa using h)
theorem qtk {a b m : Nat} (ha : a < 2 ^ m) (hb : b % 2 ^ m = 0) (h : a + b < 9223372036854775808) : ior .i64 (b : Int) (a : Int) = ((b + a : Nat) : Int) := by
  unfold ior
  have h1 : (BitVec.ofInt (IntKind.bits .i64) (b : Int)) = BitVec.ofNat 64 b := by simp [IntKind.bits]
  have h2 : (BitVec.ofInt (IntKind.bits .i64) (a : Int)) = BitVec.ofNat 64 a := by simp [IntKind.bits]
  rw [h1, h2]
  have h3 : b ||| a = b + a := by
    have hy2 : b = 2 ^ m * (b / 2 ^ m) := by have := Nat.div_add_mod b (2 ^ m); omega
    have h4 := Nat.two_pow_add_eq_or_of_lt ha (b / 2 ^ m)
    rw [← hy2] at h4
    rw [← h4]
  have h4 : (BitVec.ofNat 64 b ||| BitVec.ofNat 64 a).toNat = b + a := by
    rw [BitVec.toNat_or, BitVec.toNat_ofNat, BitVec.toNat_ofNat, Nat.mod_eq_of_lt (a := b) (by omega), Nat.mod_eq_of_lt (a := a) (by omega), h3]
  show IntKind.wrap .i64 ((BitVec.ofNat 64 b ||| BitVec.ofNat 64 a).toNat : Int) = _
  rw [h4]
  exact kK (by omega) (by omega)
theorem qoT {F t i x : Nat} (hF : 20000 ≤ F) (ht : t ≤ 1048576) {l : List Nat} (hlm : l.length ≤ 300) (hu : Up t 0 l) (hf : Fits t l) (hx : l[i]? = some x) :
    qaB F (l.length : Int) (t : Int) (wd l.length t : Int) ((loF t l).length : Int) (pk (loF t l)) ((hiF t l).length : Int) (pk (hiF t l)) (i : Int) = some (x : Int) := by
  unfold qaB
  have hw := qlk (n := l.length) ht
  have hi : i < l.length := (List.getElem?_eq_some_iff.1 hx).1
  have hL : (loF t l).length ≤ 8192 := by rw [qdJ]; exact hf.1
  have hH : (hiF t l).length ≤ 8192 := by rw [qfm hu]; exact hf.2
  have hxt := (qnE hu x (List.mem_of_getElem? hx)).2
  have hmul : i * wd l.length t + wd l.length t ≤ (loF t l).length := by
    rw [qdJ, ← Nat.succ_mul]; exact Nat.mul_le_mul_right _ hi
  rw [qhf hF (l := hiF t l) (qfQ _ _ _ _) (by omega) (by omega), qm3 hu, hx]
  simp only [Option.map_some, Option.bind_some]
  have hdx : x / 2 ^ wd l.length t ≤ x := Nat.div_le_self _ _
  have hz : 0 ≤ x / 2 ^ wd l.length t := Nat.zero_le _
  rw [qjl (by omega), qdP (l := loF t l) (by omega) (qfo _ _) hL (by omega) (by omega), if_pos hmul]
  simp only [Option.bind_some]
  have hc : decide ((0 : Int) ≤ ((wd l.length t : Nat) : Int)) = true := decide_eq_true (by omega)
  rw [hc]
  simp only [chk, if_true, lett]
  have hg : ((loF t l).drop (i * wd l.length t)).take (wd l.length t) = nb x (wd l.length t) := qlO hx
  have hp20 : 2 ^ wd l.length t ≤ 2 ^ 20 := Nat.pow_le_pow_right (by decide) hw
  rw [show (2 : Nat) ^ 20 = 1048576 from by decide] at hp20
  have hml := Nat.mod_lt x (show 0 < 2 ^ wd l.length t from Nat.pow_pos (by decide))
  have hdm := Nat.div_add_mod x (2 ^ wd l.length t)
  have hdm2 : x / 2 ^ wd l.length t * 2 ^ wd l.length t ≤ x := Nat.div_mul_le_self _ _
  rw [hg, qgM, qlH (by omega) (by omega), Nat.add_sub_cancel, qlE (by omega) (by omega), qbg (by omega), qtk (m := wd l.length t) hml (Nat.mul_mod_left _ _) (by omega)]
  rw [Nat.mul_comm] at hdm
  rw [hdm]
theorem qfV {F : Nat} {l : List Int} (hl : Bit l) (hm : l.length ≤ 10000) (bit : Int) : ∀ (k j c : Nat), l.length < k + j → j ≤ l.length → 1 ≤ c → c + (l.length - j) ≤ 100000 →
    ∃ s, qT F (fun (x31 : Int) (x37 : Int) => qU F x31 x37) (l.length : Int) (pk l) bit k ((j : Int), -(c : Int)) = some (.inl s)
  | 0, _, _, _, _, _, _ => by omega
  | k + 1, j, c, h, hj, hc, hcm => by
    have e : qT F (fun (x31 : Int) (x37 : Int) => qU F x31 x37) (l.length : Int) (pk l) bit (k + 1) ((j : Int), -(c : Int)) =
      k9 F (fun (x31 : Int) (x37 : Int) => qU F x31 x37) (l.length : Int) (pk l) bit (qT F (fun (x31 : Int) (x37 : Int) => qU F x31 x37) (l.length : Int) (pk l) bit k) (j : Int) (-(c : Int)) := rfl
    rw [e]
    unfold k9
    by_cases hlt : j < l.length
    · rw [if_pos (by simp; omega), qkd hl (by omega) hlt]
      simp only [Option.bind_some]
      have hr : qU F (-(c : Int)) (j : Int) = some (.inl (-((c + 1 : Nat) : Int))) := by
        unfold qU
        rw [if_neg (by simp; omega), zH (by omega) (by omega)]
        congr 2; omega
      by_cases h1 : l[j] = bit
      · rw [if_pos (by simpa using h1), hr]
        simp only [Option.bind_some, Sum.elim_inl, kq]
        rw [qr (by omega)]
        exact qfV hl hm bit k (j + 1) (c + 1) (by omega) (by omega) (by omega) (by omega)
      · rw [if_neg (by simpa using h1)]
        simp only [kq]
        rw [qr (by omega)]
        exact qfV hl hm bit k (j + 1) c (by omega) (by omega) hc (by omega)
    · rw [if_neg (by simp; omega)]
      exact ⟨_, rfl⟩
theorem qpC {F : Nat} (hF : 20000 ≤ F) {l : List Int} (hl : Bit l) (hm : l.length ≤ 10000) {bit : Int} : jp F (l.length : Int) (pk l) bit (-1) = some (-1) := by
  unfold jp
  simp only [qb4, Option.bind_some, qa6]
  obtain ⟨s, hs⟩ := qfV (F := F) hl hm bit F 0 1 (by omega) (by omega) (by omega) (by omega)
  have h2 : qT F (fun (x31 : Int) (x37 : Int) => qU F x31 x37) (l.length : Int) (pk l) bit F (0, -1) = some (.inl s) := hs
  rw [h2]
  rfl
theorem qoU {F : Nat} {xs ys : List Int} (he : xs.length = ys.length) (hm : xs.length ≤ 9223372036854775807) : ∀ (k i : Nat), xs.length < k + i → i ≤ xs.length → qS F xs ys k (i : Int) = some (decide (xs.drop i = ys.drop i))
  | 0, _, _, _ => by omega
  | k + 1, i, h, hi => by
    show zu F xs ys (qS F xs ys k) (i : Int) = _
    unfold zu
    by_cases hlt : i < xs.length
    · have hlt' : i < ys.length := by omega
      rw [if_pos (by simp; omega), qE, List.getElem?_eq_getElem hlt, qE, List.getElem?_eq_getElem hlt']
      simp only [Option.bind_some]
      rw [List.drop_eq_getElem_cons hlt, List.drop_eq_getElem_cons hlt']
      by_cases hc : xs[i] = ys[i]
      · rw [if_neg (by simp [hc]), qr (by omega), qoU he hm k (i + 1) (by omega) (by omega)]
        congr 1
        rw [decide_eq_decide, List.cons.injEq]
        exact ⟨fun h => ⟨hc, h⟩, fun h => h.2⟩
      · rw [if_pos (by simpa using hc), decide_eq_false (fun e => hc (List.cons.inj e).1)]
    · rw [if_neg (by simp; omega), List.drop_eq_nil_of_le (by omega), List.drop_eq_nil_of_le (by omega)]
      rfl
theorem feqb {F : Nat} {xs ys : List Int} (hF : xs.length < F) (hm : xs.length ≤ 9223372036854775807) : qV F xs ys = some (decide (xs = ys)) := by
  unfold qV
  by_cases h : xs.length = ys.length
  · rw [if_neg (by simp [h])]
    have := qoU (F := F) h hm F 0 (by omega) (Nat.zero_le _)
    rw [List.drop_zero, List.drop_zero] at this
    exact this
  · rw [if_pos (by simp; omega), decide_eq_false (fun e => h (by rw [e]))]
theorem qkr {F : Nat} {n m : Int} {xs ys : List Int} (hF : xs.length < F) (hm : xs.length ≤ 9223372036854775807) : qb8 F n xs m ys = some (decide (n = m ∧ xs = ys)) := by
  unfold qb8
  by_cases h : n = m
  · have hb : (n == m) = true := by simp [h]
    rw [if_pos hb, feqb hF hm]
    simp [qaq, h]
  · have hb : (n == m) = false := by simpa using h
    rw [hb]
    simp [qaq, h]
def FWr (t : Nat) (ns : List Nat) (lw : Int) (lb : List Int) (hw : Int) (hb : List Int) : Prop :=
  ns.length ≤ 300 ∧ Up t 0 ns ∧ Fits t ns ∧ lw = ((loF t ns).length : Int) ∧ lb = pk (loF t ns) ∧ hw = ((hiF t ns).length : Int) ∧ hb = pk (hiF t ns)
theorem qtm {F t : Nat} (hF : 20000 ≤ F) (ht : t ≤ 1048576) {lw hw : Int} {lb hb out : List Int} :
    (∃ ns, out = lc ns ∧ FWr t ns lw lb hw hb ∧ yn F (t : Int) lw lb hw hb out = some (out, 0)) ∨
    ((¬ ∃ ns, out = lc ns ∧ FWr t ns lw lb hw hb) ∧ yn F (t : Int) lw lb hw hb out = some ([], 1)) := by
  unfold yn
  rw [qia hF]
  simp only [Option.bind_some]
  by_cases h : fkc out (t : Int) = 0
  · obtain ⟨ns, k, e, hk, rfl, hm, hu⟩ := qfL.1 h
    obtain rfl : t = k := by omega
    rw [h, if_neg (by simp), qmI hF hk hm hu]
    simp only [Option.bind_some]
    have huniq : ∀ ns', lc ns = lc ns' → ns = ns' := fun ns' e => by have := congrArg nl e; rwa [qkC, qkC] at this
    by_cases hf : Fits t ns
    · have hL : (loF t ns).length ≤ 8192 := by rw [qdJ]; exact hf.1
      have hH : (hiF t ns).length ≤ 8192 := by rw [qfm hu]; exact hf.2
      have hpL := qkJ hL
      have hpH := qkJ hH
      rw [if_pos hf]
      simp only [T8, Bool.not_true, Bool.false_eq_true, if_false]
      rw [qkr (by omega) (by omega)]
      simp only [Option.bind_some]
      by_cases h1 : ((loF t ns).length : Int) = lw ∧ pk (loF t ns) = lb
      · rw [decide_eq_true h1]
        simp only [Bool.not_true, j1, Bool.false_eq_true, if_false]
        rw [qkr (by omega) (by omega)]
        simp only [Option.bind_some]
        by_cases h2 : ((hiF t ns).length : Int) = hw ∧ pk (hiF t ns) = hb
        · rw [decide_eq_true h2]
          left
          exact ⟨ns, rfl, ⟨hm, hu, hf, h1.1.symm, h1.2.symm, h2.1.symm, h2.2.symm⟩, rfl⟩
        · rw [decide_eq_false h2]
          right
          refine ⟨?_, rfl⟩
          rintro ⟨ns', e1, w⟩
          rw [← huniq ns' e1] at w
          exact h2 ⟨w.2.2.2.2.2.1.symm, w.2.2.2.2.2.2.symm⟩
      · rw [decide_eq_false h1]
        right
        refine ⟨?_, rfl⟩
        rintro ⟨ns', e1, w⟩
        rw [← huniq ns' e1] at w
        exact h1 ⟨w.2.2.2.1.symm, w.2.2.2.2.1.symm⟩
    · rw [if_neg hf]
      right
      refine ⟨?_, rfl⟩
      rintro ⟨ns', e1, w⟩
      rw [← huniq ns' e1] at w
      exact hf w.2.2.1
  · rw [if_pos (by simpa using h)]
    right
    refine ⟨?_, rfl⟩
    rintro ⟨ns, rfl, w⟩
    exact h (qfL.2 ⟨ns, t, rfl, ht, rfl, w.1, w.2.1⟩)
def Good (l : List Nat) (n t w lw : Int) (lb : List Int) (hw : Int) (hb : List Int) : Prop :=
  ∃ k : Nat, t = k ∧ k ≤ 1048576 ∧ n = (l.length : Int) ∧ w = ((wd l.length k : Nat) : Int) ∧ FWr k l lw lb hw hb
def Rg (n t : Int) : Prop := 0 ≤ n ∧ n ≤ 300 ∧ 0 ≤ t ∧ t ≤ 1048576
instance rgDec (n t : Int) : Decidable (Rg n t) := inferInstanceAs (Decidable (_ ∧ _))
theorem qq5 {l : List Nat} {n t w lw hw : Int} {lb hb : List Int} (h : Good l n t w lw lb hw hb) : Rg n t := by
  obtain ⟨k, rfl, hk, rfl, _, h1, _⟩ := h
  exact ⟨by omega, by omega, by omega, by omega⟩
theorem qpr {F t n w : Nat} {lw hw : Int} {lb hb : List Int} (f : Nat → Int) (hn : n ≤ 300) (hat : ∀ i, i < n → qaB F (n : Int) (t : Int) (w : Int) lw lb hw hb (i : Int) = some (f i)) : ∀ (k i : Nat), n < k + i → i ≤ n →
    yo F (n : Int) (t : Int) (w : Int) lw lb hw hb k ((List.range i).map f, (i : Int)) = yn F (t : Int) lw lb hw hb ((List.range n).map f)
  | 0, _, _, _ => by omega
  | k + 1, i, h, hi => by
    show jZ F (n : Int) (t : Int) (w : Int) lw lb hw hb (yo F (n : Int) (t : Int) (w : Int) lw lb hw hb k) ((List.range i).map f) (i : Int) = _
    unfold jZ
    by_cases hlt : i < n
    · rw [if_pos (by simp; omega), hat i hlt]
      simp only [Option.bind_some]
      rw [vh (by simp; omega), qr (by omega)]
      simp only [Option.bind_some]
      have e : (List.range i).map f ++ [f i] = (List.range (i + 1)).map f := by rw [List.range_succ, List.map_append]; rfl
      rw [e]
      exact qpr f hn hat k (i + 1) (by omega) (by omega)
    · rw [if_neg (by simp; omega)]
      obtain rfl : i = n := by omega
      rfl
theorem qhV {F : Nat} (hF : 20000 ≤ F) {n t w lw hw : Int} {lb hb : List Int} (ul : U8s lb) (uh : U8s hb) (il : I64 lw) (ih : I64 hw) (ll : lb.length ≤ 9223372036854775807) (lh : hb.length ≤ 9223372036854775807) :
    (∃ l, Good l n t w lw lb hw hb ∧ vV F n t w lw lb hw hb = some (lc l, 0)) ∨
    ((¬ ∃ l, Good l n t w lw lb hw hb) ∧ vV F n t w lw lb hw hb = some ([], if Rg n t then 1 else 3)) := by
  unfold vV
  by_cases hr : Rg n t
  · obtain ⟨n, rfl⟩ := Int.eq_ofNat_of_zero_le hr.1
    obtain ⟨t, rfl⟩ := Int.eq_ofNat_of_zero_le hr.2.2.1
    have hn : n ≤ 300 := by have := hr.2.1; omega
    have ht : t ≤ 1048576 := by have := hr.2.2.2; omega
    have hw20 := qlk (n := n) ht
    rw [if_neg (by simp; omega), if_pos hr, qlm hF hn ht]
    simp only [Option.bind_some]
    by_cases hw1 : w = ((wd n t : Nat) : Int)
    · subst hw1
      rw [if_neg (by simp), qgO ul il.1 il.2 ll]
      simp only [Option.bind_some]
      rcases qgP ul (n := lw) with h1 | ⟨L, hL, hLm, rfl, rfl⟩
      · right
        refine ⟨?_, by rw [if_pos (by simpa using h1)]; rfl⟩
        rintro ⟨l, k, e, hk, e2, _, g1, g2, g3, rfl, rfl, _⟩
        exact h1 (qgQ (by rw [qdJ]; exact g3.1))
      rw [qgQ hLm, if_neg (by simp), qgO uh ih.1 ih.2 lh]
      simp only [Option.bind_some]
      rcases qgP uh (n := hw) with h1 | ⟨H, hH, hHm, rfl, rfl⟩
      · right
        refine ⟨?_, by rw [if_pos (by simpa using h1)]; rfl⟩
        rintro ⟨l, k, e, hk, e2, _, g1, g2, g3, _, _, rfl, rfl⟩
        exact h1 (qgQ (by rw [qfm g2]; exact g3.2))
      have hmul : n * wd n t ≤ 300 * 20 := Nat.mul_le_mul hn hw20
      rw [qgQ hHm, if_neg (by simp), qjl (by omega)]
      by_cases hl1 : L.length = n * wd n t
      · rw [if_neg (by rw [hl1]; simp)]
        have hfin : (n = 0 ∨ ∃ q, plc 1 H (n - 1) = some q) →
            (∃ l, Good l (n : Int) (t : Int) ((wd n t : Nat) : Int) (L.length : Int) (pk L) (H.length : Int) (pk H) ∧ zG F (n : Int) (t : Int) ((wd n t : Nat) : Int) (L.length : Int) (pk L) (H.length : Int) (pk H) false = some (lc l, 0)) ∨
            ((¬ ∃ l, Good l (n : Int) (t : Int) ((wd n t : Nat) : Int) (L.length : Int) (pk L) (H.length : Int) (pk H)) ∧ zG F (n : Int) (t : Int) ((wd n t : Nat) : Int) (L.length : Int) (pk L) (H.length : Int) (pk H) false = some ([], 1)) := by
          intro hpl
          unfold zG
          rw [if_neg (by simp)]
          have hat : ∃ f : Nat → Int, ∀ i, i < n → qaB F (n : Int) (t : Int) ((wd n t : Nat) : Int) (L.length : Int) (pk L) (H.length : Int) (pk H) (i : Int) = some (f i) := by
            have h1 : ∀ i, ∃ v : Int, i < n → qaB F (n : Int) (t : Int) ((wd n t : Nat) : Int) (L.length : Int) (pk L) (H.length : Int) (pk H) (i : Int) = some v := by
              intro i
              by_cases hi : i < n
              · unfold qaB
                have hm2 : i * wd n t + wd n t ≤ L.length := by rw [hl1, ← Nat.succ_mul]; exact Nat.mul_le_mul_right _ hi
                have hc : decide ((0 : Int) ≤ ((wd n t : Nat) : Int)) = true := decide_eq_true (by omega)
                rw [qhf hF hH (by omega) (by omega)]
                simp only [Option.bind_some]
                rw [qjl (by omega), qdP (by omega) hL hLm (by omega) (by omega)]
                simp only [Option.bind_some]
                rw [hc]
                simp only [chk, if_true, lett]
                exact ⟨_, fun _ => rfl⟩
              · exact ⟨0, fun h => absurd h hi⟩
            exact ⟨fun i => Classical.choose (h1 i), fun i hi => Classical.choose_spec (h1 i) hi⟩
          obtain ⟨f, hat⟩ := hat
          have hl9 := qpr (F := F) (t := t) (n := n) (w := wd n t) f hn hat F 0 (by omega) (by omega)
          rw [show (List.range 0).map f = [] from rfl, show ((0 : Nat) : Int) = 0 from rfl] at hl9
          rw [hl9]
          rcases qtm (F := F) (t := t) hF ht (lw := (L.length : Int)) (lb := pk L) (hw := (H.length : Int)) (hb := pk H) (out := (List.range n).map f) with ⟨ns, e, w, hM⟩ | ⟨hno, hM⟩
          · have hnl : ns.length = n := by have := congrArg List.length e; rw [qci] at this; simp at this; omega
            left
            exact ⟨ns, ⟨t, rfl, ht, by rw [hnl], by rw [hnl], w⟩, by rw [hM, e]⟩
          · right
            refine ⟨?_, hM⟩
            rintro ⟨l, k, e1, hk, e2, e3, w⟩
            obtain rfl : t = k := by omega
            have hnl : n = l.length := by omega
            apply hno
            refine ⟨l, ?_, w⟩
            obtain ⟨w1, w2, w3, w4, w5, w6, w7⟩ := w
            apply List.ext_getElem?
            intro i
            by_cases hi : i < n
            · have hx : l[i]? = some l[i] := List.getElem?_eq_getElem (by omega)
              have h2 := qoT hF ht w1 w2 w3 hx
              have h3 := hat i hi
              rw [hnl, w4, w5, w6, w7, h2] at h3
              have h4 : (lc l)[i]? = some ((l[i] : Nat) : Int) := by simp [lc, show i < l.length by omega]
              rw [h4, List.getElem?_map, List.getElem?_range hi]
              exact h3.symm
            · rw [List.getElem?_eq_none (by simp; omega), List.getElem?_eq_none (by rw [qci]; omega)]
        have hnoform : n ≠ 0 → plc 1 H (n - 1) = none → ¬ ∃ l, Good l (n : Int) (t : Int) ((wd n t : Nat) : Int) (L.length : Int) (pk L) (H.length : Int) (pk H) := by
          rintro h0 hp ⟨l, k, e1, hk, e2, e3, w1, w2, w3, w4, w5, w6, w7⟩
          obtain rfl : t = k := by omega
          have hnl : n = l.length := by omega
          have hHe : H = hiF t l := qlR hH (qfQ _ _ _ _) (by omega) w7
          rw [hHe, qm3 w2, List.getElem?_eq_getElem (show n - 1 < l.length by omega)] at hp
          simp at hp
        by_cases h0 : n = 0
        · subst h0
          have : isub .i64 ((0 : Nat) : Int) 1 = -1 := by decide
          rw [this, qpC hF hH (by omega)]
          simp only [Option.bind_some]
          rw [if_pos (by simp)]
          exact hfin (.inl rfl)
        · rw [qbb (by omega) (by omega), qhf hF hH (by omega) (by omega)]
          simp only [Option.bind_some]
          cases hp : plc 1 H (n - 1) with
          | none =>
            right
            refine ⟨hnoform h0 hp, ?_⟩
            simp only
            rw [if_pos (by simp), decide_eq_true (show (0 : Int) < (n : Int) by omega)]
            rfl
          | some q =>
            simp only
            rw [if_neg (by simp)]
            exact hfin (.inr ⟨q, hp⟩)
      · right
        refine ⟨?_, by rw [if_pos (by rw [bne_iff_ne]; omega)]; rfl⟩
        rintro ⟨l, k, e1, hk, e2, e3, w1, w2, w3, w4, _⟩
        obtain rfl : t = k := by omega
        have hnl : n = l.length := by omega
        rw [qdJ] at w4
        rw [hnl] at hl1
        omega
    · right
      refine ⟨?_, by rw [if_pos (by simpa using hw1)]; rfl⟩
      rintro ⟨l, k, e1, hk, e2, e3, _⟩
      obtain rfl : t = k := by omega
      have hnl : n = l.length := by omega
      rw [← hnl] at e3
      exact hw1 e3
  · right
    refine ⟨fun ⟨l, h⟩ => hr (qq5 h), ?_⟩
    rw [if_pos (by unfold Rg at hr; simp only [Bool.or_eq_true, decide_eq_true_eq]; omega), if_neg hr]
theorem qlK {l : List Nat} {i : Nat} (hi : i < l.length) : (lc l)[i]? = some ((l[i] : Nat) : Int) := by simp [lc, hi]
def rdn (w : Nat) (L : List Int) : List Int → Nat → Nat → Nat → List Nat
  | [], _, _, _ => []
  | _ :: _, _, 0, _ => []
  | b :: H, h, m + 1, k => if b = 0 then rdn w L H (h + 1) (m + 1) k else (h * 2 ^ w + bv ((L.drop (k * w)).take w)) :: rdn w L H h m (k + 1)
theorem qtr {w : Nat} {L X : List Int} {h k : Nat} : rdn w L X h 0 k = [] := by cases X <;> rfl
theorem qne {w : Nat} {L X : List Int} {m k : Nat} : ∀ {c h : Nat}, rdn w L (List.replicate c 0 ++ X) h (m + 1) k = rdn w L X (h + c) (m + 1) k
  | 0, h => by simp
  | c + 1, h => by
    rw [List.replicate_succ, List.cons_append, rdn, if_pos rfl, qne, show h + 1 + c = h + (c + 1) from by omega]
theorem qpN {w last : Nat} {L : List Int} : ∀ {l : List Nat} {a k : Nat}, (∀ x ∈ l, a ≤ x / 2 ^ w) → (∀ j x, l[j]? = some x → ∀ y ∈ l.drop (j + 1), x / 2 ^ w ≤ y / 2 ^ w) →
    (∀ i x, l[i]? = some x → (L.drop ((k + i) * w)).take w = nb x w) → rdn w L (hp w last a l) a l.length k = l
  | [], a, k, _, _, _ => qtr
  | x :: l, a, k, h, hs, hL => by
    have hx := h x List.mem_cons_self
    have h0 := hs 0 x rfl
    rw [List.drop_succ_cons, List.drop_zero] at h0
    have h1 := hL 0 x rfl
    rw [Nat.add_zero] at h1
    have ih := qpN (w := w) (last := last) (L := L) (l := l) (a := x / 2 ^ w) (k := k + 1) h0 (fun j y hj => by
        have := hs (j + 1) y (by simpa using hj)
        rwa [List.drop_succ_cons] at this) (fun i y hy => by
        have := hL (i + 1) y (by simpa using hy)
        rwa [show k + 1 + i = k + (i + 1) from by omega])
    have hdm := Nat.div_add_mod x (2 ^ w)
    rw [hp, List.length_cons, qne, rdn, if_neg (by decide), h1, qgM, show a + (x / 2 ^ w - a) = x / 2 ^ w from by omega, Nat.mul_comm, hdm, ih]
theorem qo1 {l : List Int} {t : Int} : (∃ (ns : List Nat) (k : Nat), l = lc ns ∧ t = k ∧ k ≤ 1048576 ∧ ns.length ≤ 300 ∧ Up k 0 ns ∧ Fits k ns ∧ fw l t = fo8 k ns) ∨ (∃ e : Int, e ≠ 0 ∧ fw l t = fz8 e ∧ ¬ ∃ (ns : List Nat) (k : Nat), l = lc ns ∧ t = k ∧ k ≤ 1048576 ∧ ns.length ≤ 300 ∧ Up k 0 ns ∧ Fits k ns) := by
  by_cases h : fkc l t = 0
  · obtain ⟨ns, k, rfl, hk, rfl, hm, hu⟩ := qfL.1 h
    have hf2 := (qmK hk hm hu).2
    by_cases hf : Fits k ns
    · left; exact ⟨ns, k, rfl, rfl, hk, hm, hu, hf, by rw [hf2, if_pos hf]⟩
    · right
      refine ⟨8, by decide, by rw [hf2, if_neg hf], ?_⟩
      rintro ⟨ns', k', e1, e2, _, _, _, f⟩
      obtain rfl : k = k' := by omega
      have := congrArg nl e1
      rw [qkC, qkC] at this
      rw [← this] at f
      exact hf f
  · right
    refine ⟨fkc l t, h, qo0 h, ?_⟩
    rintro ⟨ns', k', e1, e2, h1, h2, h3, f⟩
    exact h (qfL.2 ⟨ns', k', e2, h1, e1, h2, h3⟩)
theorem qkv {l : List Nat} {t : Nat} (hu : Up t 0 l) : rdn (wd l.length t) (loF t l) (hiF t l) 0 l.length 0 = l := by
  unfold hiF
  refine qpN (fun x _ => Nat.zero_le _) (qjS hu) (fun i x hx => ?_)
  rw [Nat.zero_add]
  exact qlO hx
theorem qnY {l l' : List Nat} {n t w lw hw : Int} {lb hb : List Int} (g : Good l n t w lw lb hw hb) (g' : Good l' n t w lw lb hw hb) : l = l' := by
  obtain ⟨k, rfl, hk, a1, a2, a3, a4, a5, a6, a7, a8, a9⟩ := g
  obtain ⟨k', e, hk', b1, b2, b3, b4, b5, b6, b7, b8, b9⟩ := g'
  obtain rfl : k = k' := by omega
  have hlen : l.length = l'.length := by omega
  have e1 : loF k l = loF k l' := qlR (qfo _ _) (qfo _ _) (by omega) (by rw [← a7, ← b7])
  have e2 : hiF k l = hiF k l' := qlR (qfQ _ _ _ _) (qfQ _ _ _ _) (by omega) (by rw [← a9, ← b9])
  rw [← qkv a4, ← qkv b4, e1, e2, hlen]
theorem qgx {t : Nat} : ∀ {l : List Nat} {a : Nat}, Up t a l → ∀ {i j x y : Nat}, i ≤ j → l[i]? = some x → l[j]? = some y → x ≤ y
  | [], _, _, i, j, x, y, _, h, _ => by simp at h
  | n :: l, a, h, 0, 0, x, y, _, hx, hy => by simp at hx hy; omega
  | n :: l, a, h, 0, j + 1, x, y, _, hx, hy => by
    simp at hx hy
    have := (qnE h.2.2 y (List.mem_of_getElem? hy)).1
    omega
  | n :: l, a, h, i + 1, 0, x, y, hij, _, _ => by omega
  | n :: l, a, h, i + 1, j + 1, x, y, hij, hx, hy => qgx h.2.2 (i := i) (j := j) (by omega) (by simpa using hx) (by simpa using hy)
def At (l : List Nat) (v : Int) (c : Nat) : Prop := c ≤ l.length ∧ (∀ (i x : Nat), i < c → l[i]? = some x → (x : Int) < v) ∧ (∀ (i x : Nat), c ≤ i → l[i]? = some x → v ≤ (x : Int))
theorem qto {a b : Nat} (h : a + b < 9223372036854775808) : iconv .i64 (ishr .u64 (iconv .u64 (iadd .i64 (a : Int) (b : Int))) 1) = (((a + b) / 2 : Nat) : Int) := by
  have h1 := qg5 (n := a + b) (k := 1) (by omega)
  rw [show ((1 : Nat) : Int) = 1 from rfl, Nat.pow_one] at h1
  rw [qaQ (by omega), yl (by omega), h1, qbg (by omega)]
theorem qpe {F : Nat} {x : Int} : ya F x = some false := by simp [ya]
theorem qoX {F : Nat} {x y : Int} : vT F x y = some (decide (x < y)) := by
  simp [vT, kQ, vy]
def gf (l : List Nat) (i : Int) : Int × Int := match (if 0 ≤ i then l[i.toNat]? else none) with | none => (0, 3) | some x => ((x : Int), 0)
structure Bd (lw : Int) (lb : List Int) (hw : Int) (hb : List Int) : Prop where
  ul : U8s lb
  uh : U8s hb
  il : I64 lw
  ih : I64 hw
  ll : lb.length ≤ 9223372036854775807
  lh : hb.length ≤ 9223372036854775807
theorem qpq (hF : 20000 ≤ F) (b : Bd lw lb hw hb) (g : Good l n t w lw lb hw hb) : vV F n t w lw lb hw hb = some (lc l, 0) := by
  rcases qhV (F := F) (n := n) (t := t) (w := w) hF b.ul b.uh b.il b.ih b.ll b.lh with ⟨k, g', h⟩ | ⟨h, _⟩
  · rw [h, qnY g' g]
  · exact absurd ⟨l, g⟩ h
theorem qoK (hF : 20000 ≤ F) (b : Bd lw lb hw hb) (g : Good l n t w lw lb hw hb) : qcn F n t w lw lb hw hb = some 0 := by
  unfold qcn; rw [qpq hF b g]; rfl
theorem qo4 (hF : 20000 ≤ F) (b : Bd lw lb hw hb) (g : Good l n t w lw lb hw hb) {i : Int} : qcI F n t w lw lb hw hb i = some (gf l i) := by
  unfold qcI
  rw [qoK hF b g]
  simp only [Option.bind_some]
  rw [if_pos (by rfl)]
  obtain ⟨k, rfl, hk, rfl, rfl, w1, w2, w3, rfl, rfl, rfl, rfl⟩ := g
  unfold gf qbU
  by_cases hi : 0 ≤ i ∧ i < (l.length : Int)
  · obtain ⟨i, rfl⟩ := Int.eq_ofNat_of_zero_le hi.1
    have hx : l[i]? = some l[i] := List.getElem?_eq_getElem (by omega)
    rw [if_neg (by simp; omega), if_pos hi.1, Int.toNat_natCast, hx]
    unfold qbT
    rw [if_neg (by simp), qoT hF hk w1 w2 w3 hx]
    rfl
  · rw [if_pos (by simp; omega)]
    have : (if 0 ≤ i then l[i.toNat]? else none) = none := by
      by_cases h0 : 0 ≤ i
      · rw [if_pos h0, List.getElem?_eq_none (by omega)]
      · rw [if_neg h0]
    rw [this]; rfl
theorem qq4 {k : Nat} (hk : k ≤ 1048576) (hm : l.length ≤ 300) (hu : Up k 0 l) (hf : Fits k l) : Good l (l.length : Int) (k : Int) ((wd l.length k : Nat) : Int) ((loF k l).length : Int) (pk (loF k l)) ((hiF k l).length : Int) (pk (hiF k l)) :=
  ⟨k, rfl, hk, rfl, rfl, hm, hu, hf, rfl, rfl, rfl, rfl⟩
theorem qte {k : Nat} (hu : Up k 0 l) (hf : Fits k l) : Bd ((loF k l).length : Int) (pk (loF k l)) ((hiF k l).length : Int) (pk (hiF k l)) := by
  have hL : (loF k l).length ≤ 8192 := by rw [qdJ]; exact hf.1
  have hH : (hiF k l).length ≤ 8192 := by rw [qfm hu]; exact hf.2
  exact ⟨qd2 (qfo _ _), qd2 (qfQ _ _ _ _), ⟨by omega, by omega⟩, ⟨by omega, by omega⟩, qm2 hL, qm2 hH⟩
theorem qoF {F : Nat} (hF : 2000000 ≤ F) {g : List (List Int)} {N B least k m : Int} {b : List Int} (hp : pkE g B least k = 0) :
    jN F g N B least k m b = some (if (fw (pkA g B least k.toNat g.length).2.2 m).2.2.2.2.2.2.2 ≠ 0 then (0, 0, 0, 0, 0, [], 0, 0, 0, 0, [], 0, [], (fw (pkA g B least k.toNat g.length).2.2 m).2.2.2.2.2.2.2) else
      (N, B, least, k, m, b, (fw (pkA g B least k.toNat g.length).2.2 m).1, (fw (pkA g B least k.toNat g.length).2.2 m).2.1, (fw (pkA g B least k.toNat g.length).2.2 m).2.2.1, (fw (pkA g B least k.toNat g.length).2.2 m).2.2.2.1, (fw (pkA g B least k.toNat g.length).2.2 m).2.2.2.2.1, (fw (pkA g B least k.toNat g.length).2.2 m).2.2.2.2.2.1, (fw (pkA g B least k.toNat g.length).2.2 m).2.2.2.2.2.2.1, 0)) := by
  unfold jN
  rw [qpH hF]
  simp only [Option.bind_some]
  have ht : ptl g B least k = ((pkA g B least k.toNat g.length).2.1, (pkA g B least k.toNat g.length).2.2, 0) := by unfold ptl; rw [if_neg (fun h => h hp)]
  rw [ht]
  simp only
  rw [if_neg (by decide), qnX (by omega)]
  simp only [Option.bind_some]
  by_cases h : (fw (pkA g B least k.toNat g.length).2.2 m).2.2.2.2.2.2.2 = 0
  · rw [if_neg (by simp [h]), if_neg (fun hh => hh h)]
  · rw [if_pos (by simpa using h), if_pos h]
theorem qhr {g : List (List Int)} {B least : Int} {k : Nat} : ∀ n : Nat, (pkA g B least k n).2.2 = (List.range n).map fun i => ((pkA g B least k i).1.length : Int)
  | 0 => rfl
  | n + 1 => by
    rw [List.range_succ, List.map_append, ← qhr (g := g) (B := B) (least := least) (k := k) n]
    rfl
def dpt (g : List (List Int)) (B least : Int) (k : Nat) : Nat → Nat → Nat
  | 0, _ => 0
  | f + 1, i => 1 + if (pkN g B least k i).1 = 0 then 0 else dpt g B least k f (i - (pkN g B least k i).1)
theorem qsP {g : List (List Int)} {B least : Int} {k i : Nat} : (pkN g B least k i).1 ≤ i := by
  have := (qeY (g := g) (B := B) (least := least) (k := k) (i := i)).1
  omega
theorem qsX {g : List (List Int)} (hg : Gr g) {B least : Int} {k : Nat} (hh : hcE B least (k : Int) = 0) (hl : (pkA g B least k g.length).1.length ≤ 8192) {i : Nat} (hi : i < g.length) :
    ∃ p q : Nat, p ≤ (pkA g B least k g.length).1.length ∧ pkO (pkA g B least k g.length).1 B i (pkA g B least k i).1.length = some (((pkN g B least k i).1 : Int), p) ∧
      rdl (pkA g B least k g.length).1 p (i : Int) (pkF g i (pkN g B least k i).1) ((pkN g B least k i).1 : Int) least k = some (g.getD i [], q) := by
  obtain ⟨k1, k2, k', hk, k3, k4⟩ := qch hh
  have hkk : k = k' := by omega
  subst hkk
  obtain ⟨hr, _⟩ := qeY (g := g) (B := B) (least := least) (k := k) (i := i)
  have hgl := hg.1
  obtain ⟨R, hR⟩ := qkH (g := g) (B := B) (least := least) (k := k) hi
  have hA : (pkA g B least k (i + 1)).1.length = (pkA g B least k i).1.length + (pkH B (pkN g B least k i).1).length + (enc (i : Int) (g.getD i []) (pkF g i (pkN g B least k i).1) ((pkN g B least k i).1 : Int) least k).length := by
    have := (qeY (g := g) (B := B) (least := least) (k := k) (i := i)).2
    rw [pkA, this]
    unfold pkW
    simp only [List.length_append]; omega
  have hM := qfs (g := g) (B := B) (least := least) (k := k) (show i + 1 ≤ g.length from hi)
  refine ⟨(pkA g B least k i).1.length + (pkH B (pkN g B least k i).1).length, (pkA g B least k i).1.length + (pkH B (pkN g B least k i).1).length + (enc (i : Int) (g.getD i []) (pkF g i (pkN g B least k i).1) ((pkN g B least k i).1 : Int) least k).length, by omega, ?_, ?_⟩
  · unfold pkO pkH
    by_cases hB : B = 0
    · have : (pkN g B least k i).1 = 0 := by rw [hB] at hr ⊢; simp at hr; exact hr
      rw [if_pos hB, this, if_neg (by omega)]
      simp
    · rw [if_neg hB, if_pos (by omega)]
      rw [hR]
      unfold pkH
      rw [if_pos (by omega)]
      simp only [List.append_assoc]
      exact qes (by omega) (by omega) _ _
  · have hE : (enc (i : Int) (g.getD i []) (pkF g i (pkN g B least k i).1) ((pkN g B least k i).1 : Int) least k).length ≤ 8192 := by omega
    have hD := qnd (k := k) k3 k4 (node := (i : Int)) (back := ((pkN g B least k i).1 : Int)) (least := least) (x := g.getD i []) (fr := pkF g i (pkN g B least k i).1) (by unfold Nd; omega) k2 (qg0 hg i) (fun _ => qgt hg _ _) ((pkA g B least k i).1 ++ pkH B (pkN g B least k i).1) R hE
    rw [hR]
    simp only [List.append_assoc, List.length_append] at hD ⊢
    exact hD
theorem qsD {l : List Nat} {i : Nat} (h : i < l.length) : gf l (i : Int) = (((l[i] : Nat) : Int), 0) := by
  unfold gf; rw [if_pos (by omega), Int.toNat_natCast, List.getElem?_eq_getElem h]
abbrev S14 := Int × Int × Int × Int × Int × List Int × Int × Int × Int × Int × List Int × Int × List Int × Int
def shz (e : Int) : S14 := (0, 0, 0, 0, 0, [], 0, 0, 0, 0, [], 0, [], e)
def fwp (g : List (List Int)) (B least k : Int) : F8 := fw (pkA g B least k.toNat g.length).2.2 ((pkA g B least k.toNat g.length).1.length : Int)
def shE (g : List (List Int)) (B least k : Int) : Int := if pkE g B least k ≠ 0 then pkE g B least k else (fwp g B least k).2.2.2.2.2.2.2
def shb (g : List (List Int)) (B least k : Int) : S14 :=
  if shE g B least k ≠ 0 then shz (shE g B least k) else ((g.length : Int), B, least, k, ((pkA g B least k.toNat g.length).1.length : Int), pk (pkA g B least k.toNat g.length).1, (fwp g B least k).1, (fwp g B least k).2.1, (fwp g B least k).2.2.1, (fwp g B least k).2.2.2.1, (fwp g B least k).2.2.2.2.1, (fwp g B least k).2.2.2.2.2.1, (fwp g B least k).2.2.2.2.2.2.1, 0)
theorem qp6 {g : List (List Int)} {B least k : Int} : shE g B least k = 0 ↔ pkE g B least k = 0 ∧ (fwp g B least k).2.2.2.2.2.2.2 = 0 := by
  unfold shE
  by_cases h : pkE g B least k = 0
  · rw [if_neg (by simp [h])]; simp [h]
  · rw [if_pos h]; simp [h]
theorem qjB {g : List (List Int)} {B least k : Int} (h : shE g B least k = 0) : shb g B least k = ((g.length : Int), B, least, k, ((pkA g B least k.toNat g.length).1.length : Int), pk (pkA g B least k.toNat g.length).1, (fwp g B least k).1, (fwp g B least k).2.1, (fwp g B least k).2.2.1, (fwp g B least k).2.2.2.1, (fwp g B least k).2.2.2.2.1, (fwp g B least k).2.2.2.2.2.1, (fwp g B least k).2.2.2.2.2.2.1, 0) := by
  unfold shb; rw [if_neg (by simp [h])]
theorem qgv {g : List (List Int)} {B least k : Int} (h : shE g B least k ≠ 0) : shb g B least k = shz (shE g B least k) := by
  unfold shb; rw [if_pos h]
def blt (N B least k m : Int) (b : List Int) (f : F8) : S14 := if f.2.2.2.2.2.2.2 ≠ 0 then shz f.2.2.2.2.2.2.2 else (N, B, least, k, m, b, f.1, f.2.1, f.2.2.1, f.2.2.2.1, f.2.2.2.2.1, f.2.2.2.2.2.1, f.2.2.2.2.2.2.1, 0)
theorem qh1 {F : Nat} (hF : 2000000 ≤ F) {g : List (List Int)} {N B least k m : Int} {b : List Int} (hp : pkE g B least k = 0) :
    jN F g N B least k m b = some (blt N B least k m b (fw (pkA g B least k.toNat g.length).2.2 m)) := qoF hF hp
theorem qgK {F : Nat} (hF : 2000000 ≤ F) {g : List (List Int)} {B least k : Int} : jL F g B least k = some (shb g B least k) := by
  unfold jL
  rw [qio hF]
  simp only [Option.bind_some]
  by_cases hp : pkE g B least k = 0
  · have e : pwr g B least k = ((g.length : Int), B, least, k, ((pkA g B least k.toNat g.length).1.length : Int), pk (pkA g B least k.toNat g.length).1, 0) := by
      unfold pwr; rw [if_neg (by simp [hp])]
    rw [e]
    simp only
    rw [if_neg (by decide), qh1 hF hp]
    show some (blt _ _ _ _ _ _ (fwp g B least k)) = _
    unfold blt
    by_cases h : (fwp g B least k).2.2.2.2.2.2.2 = 0
    · rw [if_neg (by simp [h]), qjB (qp6.2 ⟨hp, h⟩)]
    · have hs : shE g B least k = (fwp g B least k).2.2.2.2.2.2.2 := by unfold shE; rw [if_neg (by simp [hp])]
      rw [if_pos h, qgv (by rw [hs]; exact h), hs]
  · have e : pwr g B least k = (0, 0, 0, 0, 0, [], pkE g B least k) := by
      unfold pwr; rw [if_pos hp]
    have hs : shE g B least k = pkE g B least k := by unfold shE; rw [if_pos hp]
    rw [e]
    simp only
    rw [if_pos (by simpa using hp), qgv (by rw [hs]; exact hp), hs]
    rfl
theorem qnR (F : Nat) (g : List (List Int)) (N B least k m : Int) (b : List Int) : qcg F g N B least k m b = jN F g N B least k m b := rfl
theorem qid {g : List (List Int)} {B least k : Int} : (∃ (ns : List Nat) (kk : Nat), (pkA g B least k.toNat g.length).2.2 = lc ns ∧ ((pkA g B least k.toNat g.length).1.length : Int) = kk ∧ kk ≤ 1048576 ∧ ns.length ≤ 300 ∧ Up kk 0 ns ∧ Fits kk ns ∧ fwp g B least k = fo8 kk ns) ∨ (∃ e : Int, e ≠ 0 ∧ fwp g B least k = fz8 e) := by
  rcases qo1 (l := (pkA g B least k.toNat g.length).2.2) (t := ((pkA g B least k.toNat g.length).1.length : Int)) with ⟨ns, kk, h1, h2, h3, h4, h5, h6, h7⟩ | ⟨e, h1, h2, _⟩
  · exact Or.inl ⟨ns, kk, h1, h2, h3, h4, h5, h6, h7⟩
  · exact Or.inr ⟨e, h1, h2⟩
theorem qq2 {g : List (List Int)} {B least k : Int} : (fwp g B least k).2.2.2.2.1.length ≤ 1100 ∧ (fwp g B least k).2.2.2.2.2.2.1.length ≤ 1100 := by
  rcases qid (g := g) (B := B) (least := least) (k := k) with ⟨ns, kk, h1, h2, h3, h4, h5, h6, h7⟩ | ⟨e, h1, h2⟩
  · rw [h7]
    have e1 := qdJ kk ns
    have e2 := qfm h5
    unfold Fits at h6
    unfold fo8
    simp only [qeg]
    omega
  · rw [h2]; unfold fz8; simp
theorem qof {F : Nat} {a1 a2 a3 a4 a6 n t w lw hw : Int} {a5 a7 xl xh : List Int} (h1 : a5.length < F) (h2 : a7.length < F) (h3 : a5.length ≤ 1000000) (h4 : a7.length ≤ 1000000) :
    qct F a1 a2 a3 a4 a5 a6 a7 n t w lw xl hw xh = some (decide ((a1, a2, a3, a4, a5, a6, a7) = (n, t, w, lw, xl, hw, xh))) := by
  unfold qct qa7 qa8
  by_cases h : a1 = n ∧ a2 = t ∧ a3 = w ∧ a4 = lw ∧ a6 = hw
  · obtain ⟨rfl, rfl, rfl, rfl, rfl⟩ := h
    rw [if_pos (by simp), peqb h1 h3]
    simp only [Option.bind_some]
    by_cases h5 : a5 = xl
    · subst h5
      rw [if_pos (by simp), peqb h2 h4]
      simp
    · rw [if_neg (by simpa using h5)]
      simp [h5]
  · rw [if_neg (by simp; intros; simp_all), if_neg (by decide)]
    congr 1
    symm
    rw [decide_eq_false_iff_not]
    intro hc
    simp only [Prod.mk.injEq] at hc
    exact h ⟨hc.1, hc.2.1, hc.2.2.1, hc.2.2.2.1, hc.2.2.2.2.2.1⟩
instance f8Dec : DecidableEq F8 := fun a b => decidable_of_iff (a.1 = b.1 ∧ a.2 = b.2) ⟨fun h => Prod.ext h.1 h.2, fun h => by rw [h]; exact ⟨rfl, rfl⟩⟩
def shc (N B least k m : Int) (b : List Int) (n t w lw : Int) (xl : List Int) (hw : Int) (xh : List Int) : Int :=
  if (prd N B least k m b).2 ≠ 0 then (prd N B least k m b).2 else if fwp (prd N B least k m b).1 B least k = (n, t, w, lw, xl, hw, xh, 0) then 0 else 4
theorem qdQ {F : Nat} (hF : 2000000 ≤ F) {N B least k m n t w lw hw : Int} {b xl xh : List Int} (hb : U8s b) (hm : I64 m) (lb : b.length ≤ 9223372036854775807) :
    jM F N B least k m b n t w lw xl hw xh = some (shc N B least k m b n t w lw xl hw xh) := by
  unfold jM shc
  rw [qpG hF hb hm lb]
  simp only [Option.bind_some]
  by_cases h : (prd N B least k m b).2 = 0
  · obtain ⟨g, h1, h2, h3, h4, h5⟩ := qsR hb h
    rw [h1]
    simp only
    rw [if_neg (by decide), if_neg (by simp), qnR, qh1 hF h2]
    simp only [Option.bind_some]
    subst h4
    have ef : fw (pkA g B least k.toNat g.length).2.2 ((pkA g B least k.toNat g.length).1.length : Int) = fwp g B least k := rfl
    rw [ef]
    by_cases he : (fwp g B least k).2.2.2.2.2.2.2 = 0
    · have e2 : ∀ m', blt N B least k m' b (fwp g B least k) = (N, B, least, k, m', b, (fwp g B least k).1, (fwp g B least k).2.1, (fwp g B least k).2.2.1, (fwp g B least k).2.2.2.1, (fwp g B least k).2.2.2.2.1, (fwp g B least k).2.2.2.2.2.1, (fwp g B least k).2.2.2.2.2.2.1, 0) := by
        intro m'; unfold blt; rw [if_neg (by simp [he])]
      rw [e2]
      simp only
      rw [if_neg (by decide)]
      obtain ⟨l1, l2⟩ := qq2 (g := g) (B := B) (least := least) (k := k)
      rw [qof (by omega) (by omega) (by omega) (by omega)]
      simp only [Option.bind_some]
      unfold vZ
      by_cases hs : fwp g B least k = (n, t, w, lw, xl, hw, xh, 0)
      · rw [if_pos hs, hs]; simp
      · rw [if_neg hs, if_pos]
        simp only [Bool.not_eq_true', decide_eq_false_iff_not]
        intro hc
        apply hs
        simp only [Prod.mk.injEq] at hc
        obtain ⟨c1, c2, c3, c4, c5, c6, c7⟩ := hc
        rw [← c1, ← c2, ← c3, ← c4, ← c5, ← c6, ← c7, ← he]
    · have e2 : ∀ m', blt N B least k m' b (fwp g B least k) = shz (fwp g B least k).2.2.2.2.2.2.2 := by
        intro m'; unfold blt; rw [if_pos he]
      rw [e2, if_pos (by simpa [shz] using he)]
      unfold vZ
      rw [if_pos (by rfl), if_neg]
      intro hc
      rw [hc] at he
      exact he rfl
  · rw [if_pos (by simpa using h), if_pos h]
theorem ql0 {g : List (List Int)} {B least k n t w lw hw : Int} {xl xh : List Int} (h : pkE g B least k = 0) (hs : fwp g B least k = (n, t, w, lw, xl, hw, xh, 0)) :
    shc (g.length : Int) B least k ((pkA g B least k.toNat g.length).1.length : Int) (pk (pkA g B least k.toNat g.length).1) n t w lw xl hw xh = 0 := by
  unfold shc
  rw [qpF h]
  simp only
  rw [if_neg (by decide), if_pos hs]
theorem qib {g : List (List Int)} {B least : Int} {k : Nat} (hp : pkE g B least (k : Int) = 0) {n t w lw hw : Int} {xl xh : List Int} (hf : fwp g B least (k : Int) = (n, t, w, lw, xl, hw, xh, 0)) :
    ∀ (f F i rd : Nat), 2000000 + f ≤ F → i < f → i < g.length → rd + f ≤ 1000000 →
    kM F (g.length : Int) B least (k : Int) ((pkA g B least k g.length).1.length : Int) (pk (pkA g B least k g.length).1) n t w lw xl hw xh (rd : Int) (i : Int) =
      some (g.getD i [], (g.length : Int), B, least, (k : Int), ((pkA g B least k g.length).1.length : Int), n, t, w, lw, hw, ((rd + dpt g B least k f i : Nat) : Int))
  | 0, _, _, _, _, h, _, _ => by omega
  | f + 1, F, i, rd, hF, hi, hg, hr => by
    obtain ⟨F, rfl⟩ : ∃ F', F = F' + 1 := ⟨F - 1, by omega⟩
    obtain ⟨p1, p2, p3⟩ := qeX hp
    rw [Int.toNat_natCast] at p3
    have hG := qba.1 p1
    have hgl := hG.1
    obtain ⟨k1, k2, k', hk, k3, k4⟩ := qch p2
    have hkk : k = k' := by omega
    subst hkk
    obtain ⟨p, q, q1, q2, q3⟩ := qsX hG p2 p3 hg
    have hri := qsP (g := g) (B := B) (least := least) (k := k) (i := i)
    have hbit := qdO (g := g) (B := B) (least := least) (k := k) g.length
    have hmono := qfs (g := g) (B := B) (least := least) (k := k) (show i ≤ g.length by omega)
    have hget : qcI F n t w lw xl hw xh (i : Int) = some (((pkA g B least k i).1.length : Int), 0) := by
      rcases qid (g := g) (B := B) (least := least) (k := (k : Int)) with ⟨ns, kk, h1, h2, h3, h4, h5, h6, h7⟩ | ⟨e, h1, h2⟩
      · rw [hf] at h7
        unfold fo8 at h7
        simp only [Prod.mk.injEq] at h7
        obtain ⟨rfl, rfl, rfl, rfl, rfl, rfl, rfl, -⟩ := h7
        rw [Int.toNat_natCast, qhr] at h1
        have hlen : ns.length = g.length := by
          have := congrArg List.length h1
          rw [qci] at this
          simpa using this.symm
        rw [qo4 (by omega) (qte h5 h6) (qq4 h3 h4 h5 h6), qsD (show i < ns.length by omega)]
        have h8 := qlK (l := ns) (i := i) (by omega)
        rw [← h1] at h8
        simp only [List.getElem?_map, List.getElem?_range hg, Option.map_some, Option.some.injEq] at h8
        rw [← h8]
      · rw [hf] at h2
        unfold fz8 at h2
        simp only [Prod.mk.injEq] at h2
        exact absurd h2.2.2.2.2.2.2.2.symm h1
    unfold kM
    simp only
    rw [hget]
    simp only [Option.bind_some]
    rw [qm5 (by omega) hbit p3 k1 (by omega) (by omega), q2]
    simp only [Option.bind_some]
    have hfrom : ∀ fr : List Int, fr = pkF g i (pkN g B least k i).1 → jf F ((pkA g B least k g.length).1.length : Int) (pk (pkA g B least k g.length).1) (p : Int) (i : Int) fr ((pkN g B least k i).1 : Int) least (k : Int) = some (g.getD i [], (q : Int), 0) := by
      rintro fr rfl
      rw [qkX (by omega) k3 k4 hbit p3 (by unfold Nd; omega) q1 (fun _ => qgt hG _ _) k2, q3]
    by_cases h0 : (pkN g B least k i).1 = 0
    · rw [if_neg (by simp [h0])]
      unfold kF
      simp only
      rw [hfrom [] (by unfold pkF; rw [h0, if_neg (by omega)])]
      simp only [Option.bind_some]
      rw [qr (by omega)]
      unfold dpt
      rw [if_pos h0]
    · rw [if_pos (by simp; omega), qr (by omega)]
      have e1 : isub .i64 (i : Int) ((pkN g B least k i).1 : Int) = ((i - (pkN g B least k i).1 : Nat) : Int) := by
        rw [zH (by omega) (by omega)]; omega
      rw [e1, qib hp hf f F (i - (pkN g B least k i).1) (rd + 1) (by omega) (by omega) (by omega) (by omega)]
      simp only [Option.bind_some]
      unfold kF
      simp only
      rw [hfrom _ (by unfold pkF; rw [if_pos (by omega)])]
      simp only [Option.bind_some]
      have e2 : rd + dpt g B least k (f + 1) i = rd + 1 + dpt g B least k f (i - (pkN g B least k i).1) := by
        rw [dpt, if_neg h0]; omega
      rw [e2]
structure Shf (g : List (List Int)) (B least k n t w lw : Int) (xl : List Int) (hw : Int) (xh : List Int) : Prop where
  pe : pkE g B least k = 0
  fe : fwp g B least k = (n, t, w, lw, xl, hw, xh, 0)
theorem qjC {g : List (List Int)} {B least k : Int} (h : shE g B least k = 0) : Shf g B least k (fwp g B least k).1 (fwp g B least k).2.1 (fwp g B least k).2.2.1 (fwp g B least k).2.2.2.1 (fwp g B least k).2.2.2.2.1 (fwp g B least k).2.2.2.2.2.1 (fwp g B least k).2.2.2.2.2.2.1 := by
  obtain ⟨h1, h2⟩ := qp6.1 h
  refine ⟨h1, ?_⟩
  rw [← h2]
theorem qqa {g : List (List Int)} {B least k n t w lw hw : Int} {xl xh : List Int} (s : Shf g B least k n t w lw xl hw xh) :
    U8s (pk (pkA g B least k.toNat g.length).1) ∧ I64 ((pkA g B least k.toNat g.length).1.length : Int) ∧ (pk (pkA g B least k.toNat g.length).1).length ≤ 9223372036854775807 := by
  obtain ⟨p1, p2, p3⟩ := qeX s.pe
  refine ⟨qd2 (qdO _), ⟨by omega, by omega⟩, ?_⟩
  rw [qeg]; omega
def rdn' (g : List (List Int)) (B least k : Int) (i : Nat) : Nat := dpt g B least k.toNat 101 i
theorem qmV {F : Nat} (hF : 2000200 ≤ F) {g : List (List Int)} {B least k n t w lw hw : Int} {xl xh : List Int} (s : Shf g B least k n t w lw xl hw xh) {i : Nat} (hi : i < g.length) :
    vD F (g.length : Int) B least k ((pkA g B least k.toNat g.length).1.length : Int) (pk (pkA g B least k.toNat g.length).1) n t w lw xl hw xh (i : Int) = some (g.getD i [], (rdn' g B least k i : Int), 0) := by
  obtain ⟨p1, p2, p3⟩ := qeX s.pe
  have hgl := (qba.1 p1).1
  obtain ⟨k1, k2, k', rfl, k3, k4⟩ := qch p2
  obtain ⟨b1, b2, b3⟩ := qqa s
  unfold vD
  rw [qdQ (by omega) b1 b2 b3, ql0 s.pe s.fe]
  simp only [Option.bind_some]
  rw [if_pos (by rfl)]
  unfold jz
  rw [if_neg (by simp; omega)]
  unfold jy
  rw [if_neg (by decide)]
  have := qib s.pe s.fe 101 F i 0 (by omega) (by omega) hi (by omega)
  rw [Int.toNat_natCast] at *
  rw [show ((0 : Nat) : Int) = 0 from rfl] at this
  rw [this]
  simp only [Option.bind_some]
  unfold rdn'
  rw [Int.toNat_natCast, Nat.zero_add]
theorem qkz {F : Nat} (hF : 2000200 ≤ F) {g : List (List Int)} {B least k n t w lw hw : Int} {xl xh : List Int} (s : Shf g B least k n t w lw xl hw xh) {i : Int} (hi : i < 0 ∨ (g.length : Int) ≤ i) :
    vD F (g.length : Int) B least k ((pkA g B least k.toNat g.length).1.length : Int) (pk (pkA g B least k.toNat g.length).1) n t w lw xl hw xh i = some ([], 0, 3) := by
  obtain ⟨b1, b2, b3⟩ := qqa s
  unfold vD
  rw [qdQ (by omega) b1 b2 b3, ql0 s.pe s.fe]
  simp only [Option.bind_some]
  rw [if_pos (by rfl)]
  unfold jz
  rw [if_pos (by simpa using hi)]
  unfold jy
  rw [if_pos (by decide)]
theorem qtz {F : Nat} {l : List Nat} {v : Int} {c : Nat} : q5 F (lc l) v (c : Int) = some ((c : Int), decide ((l[c]?).map (fun x : Nat => (x : Int)) = some v)) := by
  unfold q5
  rw [qci]
  by_cases h : c < l.length
  · rw [if_pos (by simpa using h), qE, qlK h, List.getElem?_eq_getElem h]
    simp only [Option.bind_some, Option.map_some]
    by_cases h2 : ((l[c] : Nat) : Int) = v
    · rw [if_pos (by simpa using h2), decide_eq_true (by rw [h2])]; rfl
    · rw [if_neg (by simpa using h2), qpe]
      simp only [Option.bind_some]
      rw [if_neg (by decide), decide_eq_false (by simpa using h2)]; rfl
  · rw [if_neg (by simpa using h), List.getElem?_eq_none (by omega)]; rfl
theorem qsx {F t : Nat} {l : List Nat} {v : Int} (hlm : l.length ≤ 300) (hu : Up t 0 l) : ∀ (k i j : Nat), j - i < k → i ≤ j → j ≤ l.length → (∀ (a x : Nat), a < i → l[a]? = some x → (x : Int) < v) → (∀ (a x : Nat), j ≤ a → l[a]? = some x → v ≤ (x : Int)) →
    ∃ c, At l v c ∧ qs F (lc l) v k ((i : Int), (j : Int)) = q5 F (lc l) v (c : Int)
  | 0, _, _, _, _, _, _, _ => by omega
  | k + 1, i, j, hk, hij, hj, h1, h2 => by
    have e : qs F (lc l) v (k + 1) ((i : Int), (j : Int)) = qX F (lc l) v (qs F (lc l) v k) (i : Int) (j : Int) := rfl
    rw [e]
    unfold qX
    by_cases hlt : i < j
    · have hmid : (i + j) / 2 < l.length := by omega
      rw [if_pos (by simpa using hlt), qto (by omega)]
      simp only [lett]
      rw [qE, qlK hmid]
      simp only [Option.bind_some]
      rw [qoX]
      simp only [Option.bind_some]
      have hg : l[(i + j) / 2]? = some l[(i + j) / 2] := List.getElem?_eq_getElem hmid
      by_cases hv : ((l[(i + j) / 2] : Nat) : Int) < v
      · rw [if_pos (by simpa using hv), qr (by omega)]
        refine qsx hlm hu k _ _ (by omega) (by omega) hj (fun a x ha hx => ?_) h2
        have := qgx hu (show a ≤ (i + j) / 2 by omega) hx hg
        omega
      · rw [if_neg (by simpa using hv)]
        refine qsx hlm hu k _ _ (by omega) (by omega) (by omega) h1 (fun a x ha hx => ?_)
        have := qgx hu ha hg hx
        omega
    · obtain rfl : i = j := by omega
      rw [if_neg (by simp)]
      exact ⟨i, ⟨hj, h1, h2⟩, rfl⟩
theorem qsy {F t : Nat} (hF : 20000 ≤ F) {l : List Nat} {v : Int} (hlm : l.length ≤ 300) (hu : Up t 0 l) : ∃ c : Int, qC F (lc l) v = some (c, decide (v ∈ lc l)) := by
  obtain ⟨c, ⟨g1, g2, g3⟩, h5⟩ := qsx (F := F) (v := v) hlm hu F 0 l.length (by omega) (Nat.zero_le _) (Nat.le_refl _) (fun a x ha => by omega) (fun a x ha hx => by rw [List.getElem?_eq_none (by omega)] at hx; simp at hx)
  refine ⟨(c : Int), ?_⟩
  unfold qC
  rw [qci]
  rw [show ((0 : Nat) : Int) = 0 from rfl] at h5
  rw [h5, qtz]
  congr 2
  rw [decide_eq_decide]
  unfold lc
  constructor
  · intro h
    rw [Option.map_eq_some_iff] at h
    obtain ⟨x, h1, h2⟩ := h
    rw [← h2]
    exact List.mem_map.2 ⟨x, List.mem_of_getElem? h1, rfl⟩
  · intro h
    obtain ⟨x, h1, h2⟩ := List.mem_map.1 h
    obtain ⟨i, hi, h3⟩ := List.mem_iff_getElem.1 h1
    have h4 : l[i]? = some x := by rw [List.getElem?_eq_getElem hi, h3]
    have h6 : c ≤ i := by
      by_cases hc : c ≤ i
      · exact hc
      · have := g2 i x (by omega) h4; omega
    have hcl : c < l.length := by omega
    have h7 : l[c]? = some l[c] := List.getElem?_eq_getElem hcl
    have h8 := g3 c _ (Nat.le_refl _) h7
    have h9 := qgx hu h6 h7 h4
    rw [h7, Option.map_some]
    congr 1
    omega
theorem qso {t : Nat} : ∀ {l : List Int} {a : Int}, 0 ≤ a → (∀ x ∈ l, a ≤ x ∧ x ≤ t) → l.Pairwise (· < ·) → ∃ ns, l = lc ns ∧ Up t a.toNat ns
  | [], a, _, _, _ => ⟨[], rfl, trivial⟩
  | x :: l, a, ha, h, hp => by
    have h1 := h x (by simp)
    rw [List.pairwise_cons] at hp
    obtain ⟨ns, e, hu⟩ := qso (t := t) (l := l) (a := x) (by omega) (fun y hy => ⟨Int.le_of_lt (hp.1 y hy), (h y (by simp [hy])).2⟩) hp.2
    refine ⟨x.toNat :: ns, ?_, by omega, by omega, hu⟩
    rw [e]
    show _ = ((x.toNat : Nat) : Int) :: lc ns
    rw [Int.toNat_of_nonneg (by omega)]
theorem qsz {F : Nat} (hF : 20000 ≤ F) {g : List (List Int)} (hg : Gr g) {i : Nat} (hi : i < g.length) {v : Int} : ∃ c : Int, qC F (g.getD i []) v = some (c, decide (v ∈ g.getD i [])) := by
  have hm : g.getD i [] ∈ g := by
    rw [List.getD_eq_getElem?_getD, List.getElem?_eq_getElem hi]; exact List.getElem_mem hi
  have h1 := hg.2.1 _ hm
  have h2 := qg2 hg hm
  have h3 := hg.1
  obtain ⟨ns, e, hu⟩ := qso (t := 100) (l := g.getD i []) (a := 0) (by omega) (fun x hx => by have := h1.2 x hx; omega) h1.1
  have hl : ns.length ≤ 300 := by rw [← qci, ← e]; omega
  rw [e]
  exact qsy hF hl hu
theorem qec {F : Nat} (hF : 2000200 ≤ F) {g : List (List Int)} {B least k n t w lw hw : Int} {xl xh : List Int} (s : Shf g B least k n t w lw xl hw xh) {i : Nat} (hi : i < g.length) {v : Int} :
    yd F (g.length : Int) B least k ((pkA g B least k.toNat g.length).1.length : Int) (pk (pkA g B least k.toNat g.length).1) n t w lw xl hw xh (i : Int) v = some (if v < 0 ∨ (g.length : Int) ≤ v then (false, 3) else (decide (v ∈ g.getD i []), 0)) := by
  unfold yd
  rw [qmV hF s hi]
  simp only [Option.bind_some]
  rw [if_pos (by rfl)]
  unfold v7 v6
  by_cases hv : v < 0 ∨ (g.length : Int) ≤ v
  · rw [if_pos (by simpa using hv), if_pos (by decide), if_pos hv]
  · rw [if_neg (by simpa using hv), if_neg (by simp), if_neg hv]
    obtain ⟨c, hc⟩ := qsz (F := F) (by omega) (qba.1 (qeX s.pe).1) hi (v := v)
    simp only
    rw [hc]
    rfl
theorem qfR {F : Nat} (hF : 2000200 ≤ F) {g : List (List Int)} {B least k n t w lw hw : Int} {xl xh : List Int} (s : Shf g B least k n t w lw xl hw xh) {i v : Int} (hi : i < 0 ∨ (g.length : Int) ≤ i) :
    yd F (g.length : Int) B least k ((pkA g B least k.toNat g.length).1.length : Int) (pk (pkA g B least k.toNat g.length).1) n t w lw xl hw xh i v = some (false, 3) := by
  unfold yd
  rw [qkz hF s hi]
  simp only [Option.bind_some]
  rw [if_neg (by simp)]
  unfold v7 v6
  rw [if_neg (by decide), if_pos (by simp)]
theorem qm9 {F : Nat} {xs ys : List Int} (he : xs.length = ys.length) (hm : xs.length ≤ 1000000) : ∀ (k i : Nat), xs.length < k + i → i ≤ xs.length → kO F xs ys k (i : Int) = some (decide (xs.drop i = ys.drop i))
  | 0, _, _, _ => by omega
  | k + 1, i, h, hi => by
    show vj F xs ys (kO F xs ys k) (i : Int) = _
    unfold vj
    by_cases hlt : i < xs.length
    · have hlt' : i < ys.length := by omega
      rw [if_pos (by simp; omega), qE, List.getElem?_eq_getElem hlt, qE, List.getElem?_eq_getElem hlt']
      simp only [Option.bind_some]
      rw [List.drop_eq_getElem_cons hlt, List.drop_eq_getElem_cons hlt']
      by_cases hc : xs[i] = ys[i]
      · rw [if_neg (by simp [hc]), qr (by omega), qm9 he hm k (i + 1) (by omega) (by omega)]
        congr 1
        rw [decide_eq_decide, List.cons.injEq]
        exact ⟨fun h => ⟨hc, h⟩, fun h => h.2⟩
      · rw [if_pos (by simpa using hc), decide_eq_false (fun e => hc (List.cons.inj e).1)]
    · rw [if_neg (by simp; omega), List.drop_eq_nil_of_le (by omega), List.drop_eq_nil_of_le (by omega)]
      rfl
theorem qlU {F : Nat} {xs ys : List Int} (hF : xs.length < F) (hm : xs.length ≤ 1000000) : yF F xs ys = some (decide (xs = ys)) := by
  unfold yF
  by_cases h : xs.length = ys.length
  · rw [if_neg (by simp [h])]
    have := qm9 (F := F) h hm F 0 (by omega) (Nat.zero_le _)
    rw [List.drop_zero, List.drop_zero] at this
    exact this
  · rw [if_pos (by simp; omega), decide_eq_false (fun e => h (by rw [e]))]
theorem qp7 : shE pkSome 3 3 2 = 0 := by decide +kernel
theorem qp9 : rdn' pkSome 3 3 2 1 = 2 := by decide +kernel
theorem qp8 : fwp pkSome 3 3 2 ≠ (0, 0, 0, 0, [], 0, [], 0) := by decide +kernel
theorem qrt {F : Nat} (hF : 2000200 ≤ F) : qbl F = some true := by
  have hS : qdg F = some pkSome := rfl
  have hE := qp7
  have s := qjC hE
  obtain ⟨b1, b2, b3⟩ := qqa s
  have l1 := qmV hF s (i := 1) (by decide)
  have l2 := qec hF s (i := 4) (by decide) (v := 4)
  have l3 := qec hF s (i := 4) (by decide) (v := 5)
  have l4 := qkz hF s (i := 6) (by decide)
  have l5 := qdQ (F := F) (by omega) (N := (pkSome.length : Int)) (B := 3) (least := 3) (k := 2) (n := (fwp pkSome 3 3 2).1) (t := (fwp pkSome 3 3 2).2.1) (w := (fwp pkSome 3 3 2).2.2.1) (lw := (fwp pkSome 3 3 2).2.2.2.1) (xl := (fwp pkSome 3 3 2).2.2.2.2.1) (hw := (fwp pkSome 3 3 2).2.2.2.2.2.1) (xh := (fwp pkSome 3 3 2).2.2.2.2.2.2.1) b1 b2 b3
  rw [ql0 s.pe s.fe] at l5
  have l6 := qdQ (F := F) (by omega) (N := (pkSome.length : Int)) (B := 3) (least := 3) (k := 2) (n := 0) (t := 0) (w := 0) (lw := 0) (xl := []) (hw := 0) (xh := []) b1 b2 b3
  have e6 : shc (pkSome.length : Int) 3 3 2 ((pkA pkSome 3 3 (2 : Int).toNat pkSome.length).1.length : Int) (pk (pkA pkSome 3 3 (2 : Int).toNat pkSome.length).1) 0 0 0 0 [] 0 [] = 4 := by
    unfold shc
    rw [qpF s.pe]
    simp only
    rw [if_neg (by decide), if_neg qp8]
  rw [e6] at l6
  rw [show ((1 : Nat) : Int) = 1 from rfl, qp9] at l1
  rw [show ((4 : Nat) : Int) = 4 from rfl] at l2 l3
  rw [if_neg (by decide), decide_eq_true (by decide)] at l2
  rw [if_neg (by decide), decide_eq_false (by decide)] at l3
  unfold qbl
  rw [hS]
  simp only [Option.bind_some]
  rw [qgK (by omega), qjB hE]
  simp only [Option.bind_some]
  rw [l1]
  simp only [Option.bind_some]
  rw [l2]
  simp only [Option.bind_some]
  rw [l3]
  simp only [Option.bind_some]
  rw [l4]
  simp only [Option.bind_some]
  rw [if_pos (by rfl), show pkSome.getD 1 [] = [1, 2, 3, 5] from rfl, qlU (by simp; omega) (by simp), decide_eq_true rfl]
  simp only [Option.bind_some]
  unfold jX
  simp only
  rw [if_pos (by rfl), l5]
  simp only [Option.bind_some]
  unfold jY
  simp only
  rw [if_pos (by rfl), l6]
  rfl
def lexLt (p q : Int × Int) : Prop := p.1 < q.1 ∨ (p.1 = q.1 ∧ p.2 < q.2)
instance decLex (p q : Int × Int) : Decidable (lexLt p q) := by unfold lexLt; infer_instance
theorem qig (a : Int × Int) : ¬ lexLt a a := by unfold lexLt; omega
theorem qpj (a b d : Int × Int) : lexLt a b → lexLt b d → lexLt a d := by unfold lexLt; omega
theorem qfT (a b : Int × Int) : lexLt a b ∨ a = b ∨ lexLt b a := by
  obtain ⟨a1, a2⟩ := a
  obtain ⟨b1, b2⟩ := b
  simp only [lexLt, Prod.mk.injEq]; omega
theorem qgT {F : Nat} {x y : Int} : vx F x y = some (if x < y then -1 else if y < x then 1 else 0) := by
  unfold vx kQ
  simp only [bne_self_eq_false, Option.bind_some, Bool.false_eq_true, if_false, decide_eq_true_eq]
  split
  · rfl
  · split <;> rfl
theorem qtq {F : Nat} (hF : 3 ≤ F) {x y : Int} : qcl F [x, y] = some (if x ≠ 0 then x else y) := by
  obtain ⟨k, rfl⟩ := Nat.exists_eq_add_of_le hF
  rw [Nat.add_comm]
  unfold qcl
  show kP (k + 3) [x, y] (yB (k + 3) [x, y] (k + 2)) 0 = _
  unfold kP
  rw [if_pos (by simp)]
  show ((some x).bind _) = _
  simp only [Option.bind_some]
  by_cases hx : x = 0
  · rw [if_neg (by simp [hx]), if_neg (by simp [hx])]
    show kP (k + 3) [x, y] (yB (k + 3) [x, y] (k + 1)) 1 = _
    unfold kP
    rw [if_pos (by simp)]
    show ((some y).bind _) = _
    simp only [Option.bind_some]
    by_cases hy : y = 0
    · rw [if_neg (by simp [hy]), hy]
      show kP (k + 3) [x, y] (yB (k + 3) [x, y] k) 2 = _
      unfold kP
      rw [if_neg (by simp)]
      rfl
    · rw [if_pos (by simp [hy])]
  · rw [if_pos (by simp [hx]), if_pos hx]
theorem qpt {F : Nat} (hF : 3 ≤ F) (a b : Int × Int) : ∃ z, qb1 F a.1 a.2 b.1 b.2 = some z ∧ (z < 0 ↔ lexLt a b) := by
  unfold qb1
  rw [qgT, qgT]
  simp only [Option.bind_some]
  rw [qtq hF]
  simp only [Option.bind_some]
  unfold lexLt
  by_cases h1 : a.1 < b.1
  · exact ⟨-1, by simp [h1], by simp [h1]⟩
  · by_cases h2 : b.1 < a.1
    · exact ⟨1, by simp [h1, h2], by omega⟩
    · refine ⟨if a.2 < b.2 then -1 else if b.2 < a.2 then 1 else 0, by simp [h1, h2], ?_⟩
      split
      · omega
      · split <;> omega
def srtA (l : List (Int × Int)) : List (Int × Int) := l.mergeSort fun a b => decide (¬ lexLt b a)
theorem qaI (l : List (Int × Int)) : (srtA l).Perm l := List.mergeSort_perm l _
theorem qjF (l : List (Int × Int)) : (srtA l).Pairwise fun a b => ¬ lexLt b a := by
  have h := List.pairwise_mergeSort (le := fun a b : Int × Int => decide (¬ lexLt b a)) (fun a b c h1 h2 => by simp only [decide_eq_true_eq] at *; unfold lexLt at *; omega) (fun a b => by simp only [Bool.or_eq_true, decide_eq_true_eq]; unfold lexLt; omega) l
  exact h.imp (fun h => by simpa using h)
theorem qbF (l : List (Int × Int)) : (srtA l).length = l.length := (qaI l).length_eq
theorem qjE {l m : List (Int × Int)} (hp : l.Perm m) (hm : m.Pairwise fun a b => ¬ lexLt b a) : srtA l = m :=
  List.Perm.eq_of_pairwise (le := fun a b : Int × Int => ¬ lexLt b a) (fun a b _ _ h1 h2 => by rcases qfT a b with h | h | h <;> simp_all) (qjF l) hm ((qaI l).trans hp)
theorem qn0 {l : List (Int × Int)} (h : l.Pairwise lexLt) : l.Nodup := List.Pairwise.imp (S := fun a b => a ≠ b) (fun {a b} h (he : a = b) => qig a (by rw [← he] at h; exact h)) h
theorem qk1 {l : List (Int × Int)} (h : l.Nodup) : (srtA l).Pairwise lexLt := by
  have h1 : (srtA l).Nodup := (qaI l).nodup_iff.2 h
  refine (List.Pairwise.and (qjF l) h1).imp fun {a b} h => ?_
  rcases qfT a b with h2 | h2 | h2
  · exact h2
  · exact absurd h2 h.2
  · exact absurd h2 h.1
theorem qgh {F : Nat} {l : List (Int × Int)} (hF : 3 ≤ F) (hl : l.length ≤ 1000000) : qK F l = some (srtA l) :=
  qqc (lt := lexLt) (fun a _ b _ => qpt hF a b) qig qpj qfT (by omega) (qaI l) (qjF l)
theorem qeG {F : Nat} {l : List (Int × Int)} (hF : 3 ≤ F) (hF2 : l.length < F) (hl : l.length ≤ 1000000) : qg F l = some (srtA l) := by
  unfold qg
  rw [qi9 hF2 hl]
  simp only [Option.bind_some]
  rw [qgh hF hl]
  simp [chk, qbF]
theorem pwx : ∀ {A B : List Int}, A.Pairwise (· < ·) → B.Pairwise (· < ·) → (∀ z, z ∈ A ↔ z ∈ B) → A = B := by
  intro A B hA hB h
  have nd : ∀ {C : List Int}, C.Pairwise (· < ·) → C.Nodup := fun hC => hC.imp fun h => by omega
  exact List.Perm.eq_of_pairwise (le := fun x y : Int => x < y) (fun a b _ _ h1 h2 => by omega) hA hB ((List.perm_ext_iff_of_nodup (nd hA) (nd hB)).2 h)
def rowOf (l : List (Int × Int)) (i : Int) : List Int := (l.filter fun p => decide (p.1 = i)).map (·.2)
def tab (n : Nat) (l : List (Int × Int)) : List (List Int) := (List.range n).map fun (i : Nat) => rowOf l (i : Int)
theorem qgw (n : Nat) (l : List (Int × Int)) : (tab n l).length = n := by simp [tab]
theorem qjM {n i : Nat} {l : List (Int × Int)} (h : i < n) : (tab n l)[i]? = some (rowOf l i) := by simp [tab, h]
theorem qfY (l : List (Int × Int)) (i : Int) : (rowOf l i).length ≤ l.length := by
  unfold rowOf
  rw [List.length_map]
  exact List.length_filter_le _ _
theorem qli {n a : Nat} {l : List (Int × Int)} {b : Int} : tab n (l ++ [((a : Int), b)]) = (tab n l).set a (rowOf l a ++ [b]) := by
  apply List.ext_getElem (by simp [tab])
  intro i h1 h2
  rw [qgw] at h1
  rw [List.getElem_set]
  simp only [tab, List.getElem_map, List.getElem_range]
  by_cases h : a = i
  · rw [if_pos h, ← h]; simp [rowOf]
  · rw [if_neg h]
    have : ¬ (a : Int) = (i : Int) := by omega
    simp [rowOf, this]
theorem qnB (n : Nat) : tab n [] = List.replicate n [] := by
  apply List.ext_getElem (by simp [tab])
  intro i h1 h2
  simp [tab, rowOf]
theorem qsM {n : Nat} {lim : Nat} (h : n ≤ lim) : mk lim ([] : List Int) (n : Int) = some (tab n []) := by
  unfold mk
  rw [if_pos ⟨by omega, by omega⟩, qnB]; simp
def InR (n : Nat) (l : List (Int × Int)) : Prop := ∀ p ∈ l, 0 ≤ p.1 ∧ p.1 < (n : Int) ∧ 0 ≤ p.2 ∧ p.2 < (n : Int)
theorem qdA {α : Type} {l : List α} {j : Nat} (h : j < l.length) : l.take (j + 1) = l.take j ++ [l[j]] := by
  rw [List.take_add_one, List.getElem?_eq_getElem h]; rfl
theorem qmy {F n : Nat} {l : List (Int × Int)} (hl : ∀ p ∈ l, 0 ≤ p.1 ∧ p.1 < (n : Int)) (hm : l.length ≤ 1000000) : ∀ (k j : Nat), l.length < k + j → j ≤ l.length →
    yM F l k ((j : Int), tab n (l.take j)) = some (tab n l)
  | 0, _, _, _ => by omega
  | k + 1, j, h, hj => by
    show qaF F l (yM F l k) (j : Int) (tab n (l.take j)) = _
    unfold qaF
    by_cases hlt : j < l.length
    · obtain ⟨h1, h2⟩ := hl _ (List.getElem_mem hlt)
      have hrec := qmy (F := F) hl hm k (j + 1) (by omega) (by omega)
      obtain ⟨a, ha⟩ := Int.eq_ofNat_of_zero_le h1
      have e : l[j] = ((a : Int), l[j].2) := by rw [← ha]
      rw [qdA hlt, e, qli] at hrec
      have hrl := qfY (l.take j) (a : Int)
      rw [List.length_take] at hrl
      rw [if_pos (by simp; omega), qE, List.getElem?_eq_getElem hlt]
      simp only [Option.bind_some]
      rw [ha, qE, qjM (by omega)]
      simp only [Option.bind_some]
      rw [vh (by simp; omega)]
      simp only [Option.bind_some, lett]
      rw [qr (by omega), Int.toNat_natCast]
      exact hrec
    · rw [if_neg (by simp; omega), List.take_of_length_le (by omega)]
      rfl
theorem qgL {F n : Nat} {l : List (Int × Int)} (hl : ∀ p ∈ l, 0 ≤ p.1 ∧ p.1 < (n : Int)) (hm : l.length ≤ 1000000) (hF : l.length < F) (hn : n ≤ 1000000) : vM F (n : Int) l = some (tab n l) := by
  unfold vM
  rw [qsM (by omega)]
  simp only [Option.bind_some]
  have := qmy (F := F) hl hm F 0 (by omega) (by omega)
  rw [List.take_zero] at this
  exact this
def IsTab (n : Nat) (l : List (Int × Int)) (T : List (List Int)) : Prop :=
  T.length = n ∧ ∀ (i : Nat) (r : List Int), T[i]? = some r → r.Pairwise (· < ·) ∧ ∀ x, x ∈ r ↔ ((i : Int), x) ∈ l
theorem qlD {n : Nat} {l l' : List (Int × Int)} {T T' : List (List Int)} (h : IsTab n l T) (h' : IsTab n l' T') (hm : ∀ p, p ∈ l ↔ p ∈ l') : T = T' := by
  apply List.ext_getElem (by rw [h.1, h'.1])
  intro i h1 h2
  have a := h.2 i _ (List.getElem?_eq_getElem h1)
  have b := h'.2 i _ (List.getElem?_eq_getElem h2)
  exact pwx a.1 b.1 fun z => by rw [a.2, b.2, hm]
theorem qn3 {l : List (Int × Int)} {i x : Int} : x ∈ rowOf l i ↔ (i, x) ∈ l := by
  unfold rowOf
  rw [List.mem_map]
  constructor
  · rintro ⟨p, hp, rfl⟩
    obtain ⟨h1, h2⟩ := List.mem_filter.1 hp
    have : p.1 = i := by simpa using h2
    rw [← this]; exact h1
  · intro h
    exact ⟨(i, x), List.mem_filter.2 ⟨h, by simp⟩, rfl⟩
theorem qpU {l : List (Int × Int)} {i : Int} (h : l.Pairwise lexLt) : (rowOf l i).Pairwise (· < ·) := by
  unfold rowOf
  rw [List.pairwise_map]
  refine (h.filter _).imp_of_mem fun {a b} ha hb hab => ?_
  have h1 := (List.mem_filter.1 ha).2
  have h2 := (List.mem_filter.1 hb).2
  simp only [decide_eq_true_eq] at h1 h2
  unfold lexLt at hab; omega
theorem qoA {n : Nat} {l : List (Int × Int)} (h : l.Pairwise lexLt) : IsTab n l (tab n l) := by
  refine ⟨qgw n l, fun i r hr => ?_⟩
  have hi : i < n := by have := (List.getElem?_eq_some_iff.1 hr).1; rwa [qgw] at this
  rw [qjM hi] at hr
  cases hr
  exact ⟨qpU h, fun x => qn3⟩
theorem qky {n : Nat} {l l' : List (Int × Int)} {T : List (List Int)} (h : IsTab n l T) (hm : ∀ p, p ∈ l ↔ p ∈ l') : IsTab n l' T :=
  ⟨h.1, fun i r hr => ⟨(h.2 i r hr).1, fun x => by rw [(h.2 i r hr).2, hm]⟩⟩
theorem qjp : ∀ {g : List (List Int)} {k : Nat} {p : Int × Int}, p ∈ af k g ↔ ∃ i r, g[i]? = some r ∧ p.1 = ((k + i : Nat) : Int) ∧ p.2 ∈ r
  | [], k, p => by simp [af]
  | l :: g, k, p => by
    unfold af
    rw [List.mem_append, qjp (g := g), List.mem_map]
    constructor
    · rintro (⟨x, hx, rfl⟩ | ⟨i, r, h1, h2, h3⟩)
      · exact ⟨0, l, by simp, by simp, hx⟩
      · exact ⟨i + 1, r, by simpa using h1, by omega, h3⟩
    · rintro ⟨i, r, h1, h2, h3⟩
      cases i with
      | zero =>
        simp only [List.getElem?_cons_zero, Option.some.injEq] at h1
        subst h1
        exact .inl ⟨p.2, h3, by rw [Nat.add_zero] at h2; rw [← h2]⟩
      | succ i =>
        refine .inr ⟨i, r, by simpa using h1, by omega, h3⟩
theorem qr6 : ∀ {g : List (List Int)} {k : Nat}, (∀ r ∈ g, r.Pairwise (· < ·)) → (af k g).Pairwise lexLt
  | [], k, _ => by simp [af]
  | l :: g, k, h => by
    unfold af
    rw [List.pairwise_append]
    refine ⟨?_, qr6 fun r hr => h r (by simp [hr]), ?_⟩
    · rw [List.pairwise_map]
      exact (h l (by simp)).imp fun h => .inr ⟨rfl, h⟩
    · intro a ha b hb
      obtain ⟨x, _, rfl⟩ := List.mem_map.1 ha
      obtain ⟨i, r, _, h2, _⟩ := qjp.1 hb
      left
      show (k : Int) < b.1
      omega
theorem qkc {g : List (List Int)} (h : ∀ r ∈ g, r.Pairwise (· < ·)) : IsTab g.length (af 0 g) g := by
  refine ⟨rfl, fun i r hr => ⟨h r (List.mem_of_getElem? hr), fun x => ?_⟩⟩
  rw [qjp]
  constructor
  · intro hx; exact ⟨i, r, hr, by simp, hx⟩
  · rintro ⟨i', r', h1, h2, h3⟩
    have : i' = i := by simp at h2; omega
    subst this
    rw [hr] at h1
    cases h1
    exact h3
theorem qmO {g : List (List Int)} (h : Gr g) : InR g.length (af 0 g) := fun p hp => by
  obtain ⟨i, r, h1, h2, h3⟩ := qjp.1 hp
  have h4 := (List.getElem?_eq_some_iff.1 h1).1
  have h5 := (h.2.1 r (List.mem_of_getElem? h1)).2 _ h3
  refine ⟨by omega, by omega, h5.1, h5.2⟩
theorem qpa {g : List (List Int)} (h : Gr g) : ∀ r ∈ g, r.Pairwise (· < ·) := fun r hr => (h.2.1 r hr).1
def ofE (n : Int) : List (Int × Int) → List (Int × Int) → Int
  | _, [] => 0
  | seen, p :: l => if p.1 < 0 ∨ n ≤ p.1 ∨ p.2 < 0 ∨ n ≤ p.2 then 3 else if p ∈ seen then 6 else ofE n (seen ++ [p]) l
theorem qps {n : Int} {seen : List (Int × Int)} {p : Int × Int} {l : List (Int × Int)} : ofE n seen (p :: l) = if p.1 < 0 ∨ n ≤ p.1 ∨ p.2 < 0 ∨ n ≤ p.2 then 3 else if p ∈ seen then 6 else ofE n (seen ++ [p]) l := rfl
theorem qlQ {n : Nat} : ∀ {l seen : List (Int × Int)}, ofE n seen l = 0 ↔ InR n l ∧ l.Nodup ∧ ∀ p ∈ l, p ∉ seen
  | [], seen => by simp [ofE, InR]
  | p :: l, seen => by
    unfold ofE
    by_cases h1 : p.1 < 0 ∨ (n : Int) ≤ p.1 ∨ p.2 < 0 ∨ (n : Int) ≤ p.2
    · rw [if_pos h1]
      refine ⟨fun h => by simp at h, fun h => ?_⟩
      have := h.1 p (by simp); omega
    · rw [if_neg h1]
      by_cases h2 : p ∈ seen
      · rw [if_pos h2]
        refine ⟨fun h => by simp at h, fun h => ?_⟩
        exact absurd h2 (h.2.2 p (by simp))
      · rw [if_neg h2, qlQ, List.nodup_cons]
        constructor
        · rintro ⟨a1, a2, a3⟩
          refine ⟨fun q hq => ?_, ⟨fun hp => a3 p hp (by simp), a2⟩, fun q hq => ?_⟩
          · rcases List.mem_cons.1 hq with rfl | hq
            · omega
            · exact a1 q hq
          · rcases List.mem_cons.1 hq with rfl | hq
            · exact h2
            · exact fun h => a3 q hq (by simp [h])
        · rintro ⟨a1, ⟨a2, a3⟩, a4⟩
          refine ⟨fun q hq => a1 q (by simp [hq]), a3, fun q hq h => ?_⟩
          rcases List.mem_append.1 h with h | h
          · exact a4 q (by simp [hq]) h
          · have : q = p := by simpa using h
            subst this; exact a2 hq
def ofM (n : Int) (l : List (Int × Int)) : List (List Int) × Int :=
  if n < 0 ∨ 100 < n then ([], 3) else if 600 < l.length then ([], 2) else if ofE n [] l ≠ 0 then ([], ofE n [] l) else (tab n.toNat (srtA l), 0)
theorem qtp {F n : Nat} {l : List (Int × Int)} (hF : 1000 ≤ F) (hn : n ≤ 100) (hl : l.length ≤ 600) : ∀ (k j : Nat), l.length < k + j → j ≤ l.length → (ofE n [] l = ofE n (l.take j) (l.drop j)) →
    jJ F (n : Int) l k ((j : Int), l.take j) = some (if ofE n [] l ≠ 0 then ([], ofE n [] l) else (tab n (srtA l), 0))
  | 0, _, _, _, _ => by omega
  | k + 1, j, h, hj, he => by
    show qb0 F (n : Int) l (jJ F (n : Int) l k) (j : Int) (l.take j) = _
    unfold qb0
    by_cases hlt : j < l.length
    · have hrec := qtp (F := F) hF hn hl k (j + 1) (by omega) (by omega)
      rw [if_pos (by simp; omega), qE, List.getElem?_eq_getElem hlt]
      simp only [Option.bind_some]
      rw [List.drop_eq_getElem_cons hlt, qps] at he
      by_cases h1 : l[j].1 < 0 ∨ (n : Int) ≤ l[j].1 ∨ l[j].2 < 0 ∨ (n : Int) ≤ l[j].2
      · rw [if_pos h1] at he
        rw [if_pos (by simp only [Bool.or_eq_true, decide_eq_true_eq]; omega), if_pos (by rw [he]; decide), he]
      · rw [if_neg h1] at he
        rw [if_neg (by simp only [Bool.or_eq_true, decide_eq_true_eq]; omega)]
        by_cases h2 : l[j] ∈ l.take j
        · rw [if_pos h2] at he
          rw [if_pos (by simpa using h2), if_pos (by rw [he]; decide), he]
        · rw [if_neg h2, ← qdA hlt] at he
          rw [if_neg (by simpa using h2)]
          have : sins (l.take j) (l[j].1, l[j].2) = some (l.take (j + 1)) := by
            unfold sins
            rw [if_neg h2, qdA hlt]
          rw [this]
          simp only [Option.bind_some]
          rw [qr (by omega)]
          exact hrec he
    · rw [List.drop_eq_nil_of_le (by omega)] at he
      have he : ofE n [] l = 0 := he
      obtain ⟨a1, a2, _⟩ := qlQ.1 he
      rw [if_neg (by simp; omega), if_neg (by rw [he]; decide)]
      unfold qdk za
      simp only [Option.bind_some]
      rw [qeG (by omega) (by omega) (by omega)]
      simp only [Option.bind_some]
      rw [qgL (fun p hp => by have := a1 p ((qaI l).mem_iff.1 hp); omega) (by rw [qbF]; omega) (by rw [qbF]; omega) (by omega)]
      rfl
theorem qsf {F : Nat} {n : Int} {l : List (Int × Int)} (hF : 1000 ≤ F) : qcM F n l = some (ofM n l) := by
  unfold qcM ofM
  by_cases h1 : n < 0 ∨ 100 < n
  · rw [if_pos (by simpa using h1), if_pos h1]
  · rw [if_neg (by simpa using h1), if_neg h1]
    by_cases h2 : 600 < l.length
    · rw [if_pos (by simp; omega), if_pos h2]
    · rw [if_neg (by simp; omega), if_neg h2]
      obtain ⟨m, rfl⟩ := Int.eq_ofNat_of_zero_le (show 0 ≤ n by omega)
      have := qtp (F := F) (n := m) (l := l) hF (by omega) (by omega) F 0 (by omega) (by omega) (by simp)
      rw [List.take_zero] at this
      exact this
theorem qrh {n : Nat} {l : List (Int × Int)} (hn : n ≤ 100) (hl : l.length ≤ 600) (h1 : InR n l) (h2 : l.Nodup) : ofM n l = (tab n (srtA l), 0) := by
  have h3 : ofE n [] l = 0 := qlQ.2 ⟨h1, h2, fun p _ => by simp⟩
  unfold ofM
  rw [if_neg (by omega), if_neg (by omega), if_neg (by rw [h3]; decide), Int.toNat_natCast]
theorem qiu {n : Nat} {l : List (Int × Int)} (h : l.Nodup) : IsTab n l (tab n (srtA l)) :=
  qky (qoA (qk1 h)) fun _ => (qaI l).mem_iff
theorem qqK {F : Nat} {g : List (List Int)} (hF : 1000 ≤ F) : qco F g = some (if gchk g ≠ 0 then ([], gchk g) else (af 0 g, 0)) := by
  unfold qco vB
  rw [jO hF]
  simp only [Option.bind_some]
  by_cases h : gchk g = 0
  · rw [if_neg (by simp [h]), if_neg (by simp [h]), qf7 hF (qba.1 h)]
    rfl
  · rw [if_pos (by simpa using h), if_pos h]
def gsw (l : List (Int × Int)) : List (Int × Int) := l.map fun p => (p.2, p.1)
theorem qe0 (l : List (Int × Int)) : (gsw l).length = l.length := by simp [gsw]
theorem qqd {l : List (Int × Int)} {p : Int × Int} : p ∈ gsw l ↔ (p.2, p.1) ∈ l := by
  unfold gsw
  rw [List.mem_map]
  constructor
  · rintro ⟨q, hq, rfl⟩; exact hq
  · intro h; exact ⟨_, h, rfl⟩
theorem qsn {n : Nat} {l : List (Int × Int)} (h : InR n l) : InR n (gsw l) := fun p hp => by
  have := h _ (qqd.1 hp)
  exact ⟨this.2.2.1, this.2.2.2, this.1, this.2.1⟩
theorem qk3 {l : List (Int × Int)} (h : l.Nodup) : (gsw l).Nodup := by
  have h : l.Pairwise fun a b => a ≠ b := h
  show (gsw l).Pairwise fun a b => a ≠ b
  unfold gsw
  rw [List.pairwise_map]
  exact h.imp fun {a b} hab he => hab (by cases a; cases b; simp_all)
theorem qjg {g : List (List Int)} (h : Gr g) : (af 0 g).length ≤ 600 := by rw [qi4]; exact h.2.2
theorem qg1 {g : List (List Int)} (h : Gr g) : (af 0 g).Nodup := qn0 (qr6 (qpa h))
def tn (g : List (List Int)) : List (List Int) := tab g.length (srtA (gsw (af 0 g)))
theorem qlj {g : List (List Int)} (h : Gr g) : IsTab g.length (gsw (af 0 g)) (tn g) := qiu (qk3 (qg1 h))
theorem qhw (g : List (List Int)) : (tn g).length = g.length := qgw _ _
theorem qnD {F : Nat} {g : List (List Int)} (hF : 1000 ≤ F) : qbw F g = some (if gchk g ≠ 0 then ([], gchk g) else (tn g, 0)) := by
  unfold qbw
  rw [jO hF]
  simp only [Option.bind_some]
  by_cases h : gchk g = 0
  · have hg := qba.1 h
    have h1 := hg.1
    have h2 := qjg hg
    rw [if_neg (by simp [h]), if_neg (by simp [h]), qiz hF hg]
    simp only [Option.bind_some]
    show (za F (gsw (af 0 g))).bind _ = _
    unfold za
    simp only [Option.bind_some]
    show (qg F (gsw (af 0 g))).bind _ = _
    rw [qeG (by omega) (by rw [qe0]; omega) (by rw [qe0]; omega)]
    simp only [Option.bind_some]
    rw [qgL (fun p hp => by have := qsn (qmO hg) p ((qaI _).mem_iff.1 hp); omega) (by rw [qbF, qe0]; omega) (by rw [qbF, qe0]; omega) (by omega)]
    rfl
  · rw [if_pos (by simpa using h), if_pos h]
theorem qrD (l : List (Int × Int)) (p : Int × Int) : gsw (l ++ [p]) = gsw l ++ [(p.2, p.1)] := by simp [gsw]
def ddA : Int × Int → List (Int × Int) → List (Int × Int)
  | _, [] => []
  | p, q :: l => if q = p then ddA p l else q :: ddA q l
def ddP : List (Int × Int) → List (Int × Int)
  | [] => []
  | p :: l => p :: ddA p l
theorem qjc : ∀ {l : List (Int × Int)} {p x : Int × Int}, x ∈ p :: ddA p l ↔ x ∈ p :: l
  | [], p, x => by simp [ddA]
  | q :: l, p, x => by
    unfold ddA
    by_cases h : q = p
    · rw [if_pos h, qjc, h]; simp
    · rw [if_neg h, List.mem_cons, qjc, List.mem_cons (a := x) (b := p)]
theorem qqY {l : List (Int × Int)} {x : Int × Int} : x ∈ ddP l ↔ x ∈ l := by
  cases l with
  | nil => simp [ddP]
  | cons p l => exact qjc
theorem qjb : ∀ (l : List (Int × Int)) (p : Int × Int), (ddA p l).length ≤ l.length
  | [], p => by simp [ddA]
  | q :: l, p => by
    unfold ddA
    split
    · have := qjb l p; simp; omega
    · have := qjb l q; simp; omega
theorem qqX (l : List (Int × Int)) : (ddP l).length ≤ l.length := by
  cases l with
  | nil => simp [ddP]
  | cons p l => have := qjb l p; simp [ddP]; omega
theorem qkm {α : Type} {xs : List α} {a b : Nat} {v : α} (h : a < b) : (xs.set a v).drop b = xs.drop b := by
  apply List.ext_getElem (by simp)
  intro i h1 h2
  simp only [List.getElem_drop]
  rw [List.getElem_set, if_neg (by omega)]
theorem qgR {F K : Nat} {l : List (Int × Int)} (hm : l.length ≤ 1000000) (hK : K < l.length) : ∀ (n k2 k : Nat) (x : List (Int × Int)), l.length < n + (K + k2) → 1 ≤ k2 → K + k2 ≤ l.length → x.length = l.length → k < K + k2 → x.drop (K + k2 - 1) = l.drop (K + k2 - 1) → x.take k ++ ddA (l.getD (K + k2 - 1) (0, 0)) (l.drop (K + k2)) = ddP l →
    qx F l (K : Int) n (x, (k : Int), (k2 : Int)) = some (ddP l)
  | 0, _, _, _, _, _, _, _, _, _, _ => by omega
  | n + 1, k2, k, x, h, h1, h2, hx, hk, hd, he => by
    have hat : ∀ j, K + k2 - 1 ≤ j → x[j]? = l[j]? := fun j hj => by
      have := congrArg (fun z => z[j - (K + k2 - 1)]?) hd
      simp only [List.getElem?_drop] at this
      rwa [show K + k2 - 1 + (j - (K + k2 - 1)) = j from by omega] at this
    show zr F l (K : Int) (qx F l (K : Int) n) x (k : Int) (k2 : Int) = _
    unfold zr
    rw [Int.toNat_natCast]
    by_cases hlt : K + k2 < l.length
    · have hlt1 : K + k2 - 1 < l.length := by omega
      rw [if_pos (by simp; omega)]
      simp only [chk]
      rw [if_pos (by simp [hx]), qE, List.getElem?_drop, hat _ (by omega), List.getElem?_eq_getElem hlt]
      simp only [Option.bind_some]
      rw [if_pos (by simp [hx]), qbb h1 (by omega), qE, List.getElem?_drop, show K + (k2 - 1) = K + k2 - 1 from by omega, hat _ (by omega), List.getElem?_eq_getElem hlt1]
      simp only [Option.bind_some]
      rw [List.drop_eq_getElem_cons hlt, show l.getD (K + k2 - 1) (0, 0) = l[K + k2 - 1] from by simp [List.getD, List.getElem?_eq_getElem hlt1]] at he
      unfold ddA at he
      have hgd : l.getD (K + (k2 + 1) - 1) (0, 0) = l[K + k2] := by rw [show K + (k2 + 1) - 1 = K + k2 from by omega]; simp [List.getD, List.getElem?_eq_getElem hlt]
      have hrec := qgR (F := F) hm hK n (k2 + 1)
      by_cases hc : l[K + k2] = l[K + k2 - 1]
      · rw [if_pos hc] at he
        rw [if_neg (by simp [hc])]
        unfold q6
        rw [qr (by omega)]
        refine hrec k x (by omega) (by omega) (by omega) hx (by omega) ?_ ?_
        · have := congrArg (fun z => z.drop 1) hd
          simp only [List.drop_drop] at this
          rwa [show K + k2 - 1 + 1 = K + (k2 + 1) - 1 from by omega] at this
        · rw [hgd, hc]; exact he
      · rw [if_neg hc] at he
        rw [if_pos (by simp only [Bool.not_eq_true', Bool.and_eq_false_iff, beq_eq_false_iff_ne, ne_eq]; by_cases h5 : l[K + k2].1 = l[K + k2 - 1].1
                       · exact .inr fun h6 => hc (Prod.ext h5 h6)
                       · exact .inl h5), if_pos (by simp [hx]), qE, List.getElem?_eq_getElem (by omega)]
        simp only [Option.bind_some, lett, Int.toNat_natCast]
        unfold q6
        rw [qr (by omega), qr (by omega)]
        refine hrec (k + 1) _ (by omega) (by omega) (by omega) (by simp [hx]) (by omega) ?_ ?_
        · rw [qkm (by omega)]
          have := congrArg (fun z => z.drop 1) hd
          simp only [List.drop_drop] at this
          rwa [show K + k2 - 1 + 1 = K + (k2 + 1) - 1 from by omega] at this
        · have hkl : k < x.length := by omega
          rw [hgd, qdA (by simp; omega), List.take_set_of_le (by omega), List.getElem_set_self, List.append_assoc]
          exact he
    · rw [if_neg (by simp; omega)]
      unfold zX
      rw [List.drop_eq_nil_of_le (by omega)] at he
      simp only [ddA, List.append_nil] at he
      simp only [chk, lett]
      rw [if_pos (by simp; omega), Int.toNat_natCast]
      have := qk2 (l := x.take k ++ List.replicate (x.length - k) ((0 : Int), (0 : Int))) (i := 0) (j := k) (by omega) (by simp; omega)
      rw [show ((0 : Nat) : Int) = 0 from rfl, List.drop_zero, List.take_append_of_le_length (by simp; omega), List.take_take, Nat.min_self] at this
      rw [this, he]
      rfl
theorem qf9 {F : Nat} {l : List (Int × Int)} (hF : l.length < F) (hm : l.length ≤ 1000000) : ∀ (n k : Nat), l.length < n + k → 1 ≤ k → k ≤ l.length → l.take k ++ ddA (l.getD (k - 1) (0, 0)) (l.drop k) = ddP l →
    qA F l n (k : Int) = some (ddP l)
  | 0, _, _, _, _, _ => by omega
  | n + 1, k, h, h1, h2, he => by
    show zB F l (qA F l n) (k : Int) = _
    unfold zB
    by_cases hlt : k < l.length
    · have hlt1 : k - 1 < l.length := by omega
      have hgd0 : l.getD (k - 1) (0, 0) = l[k - 1] := by simp [List.getD, List.getElem?_eq_getElem hlt1]
      have hgd : l.getD (k + 1 - 1) (0, 0) = l[k] := by rw [show k + 1 - 1 = k from by omega]; simp [List.getD, List.getElem?_eq_getElem hlt]
      rw [List.drop_eq_getElem_cons hlt, hgd0] at he
      unfold ddA at he
      rw [if_pos (by simp; omega), qE, List.getElem?_eq_getElem hlt]
      simp only [Option.bind_some]
      rw [qbb h1 (by omega), qE, List.getElem?_eq_getElem hlt1]
      simp only [Option.bind_some]
      by_cases hc : l[k] = l[k - 1]
      · rw [if_pos hc] at he
        rw [if_pos (by simp [hc])]
        simp only [chk]
        rw [if_pos (by simp; omega)]
        refine qgR (F := F) hm hlt F 1 k l (by omega) (by omega) (by omega) rfl (by omega) rfl ?_
        rw [hgd, hc]; exact he
      · rw [if_neg hc] at he
        rw [if_neg (by simp only [Bool.and_eq_true, beq_iff_eq]; exact fun h => hc (Prod.ext h.1 h.2))]
        unfold zW
        rw [qr (by omega)]
        refine qf9 hF hm n (k + 1) (by omega) (by omega) (by omega) ?_
        rw [hgd, qdA hlt, List.append_assoc]; exact he
    · rw [if_neg (by simp; omega)]
      unfold zZ
      rw [List.drop_eq_nil_of_le (by omega), List.take_of_length_le (by omega)] at he
      simp only [ddA, List.append_nil] at he
      exact congrArg some he
theorem qkj {F : Nat} {l : List (Int × Int)} (hF : l.length < F) (hm : l.length ≤ 1000000) : zK F l = some (ddP l) := by
  unfold zK
  by_cases h : l.length < 2
  · rw [if_pos (by simp; omega)]
    match l, h with
    | [], _ => rfl
    | [p], _ => rfl
  · rw [if_neg (by simp; omega)]
    refine qf9 hF hm F 1 (by omega) (by omega) (by omega) ?_
    cases l with
    | nil => simp at h
    | cons p l => rfl
def bw (g : List (List Int)) : List (Int × Int) := af 0 g ++ gsw (af 0 g)
def bd (g : List (List Int)) : List (Int × Int) := ddP (srtA (bw g))
def bt (g : List (List Int)) : List (List Int) := tab g.length (bd g)
theorem qsu {g : List (List Int)} {p : Int × Int} : p ∈ bd g ↔ p ∈ bw g := by
  unfold bd
  rw [qqY, (qaI _).mem_iff]
theorem qth {g : List (List Int)} (h : Gr g) : InR g.length (bw g) := fun p hp => by
  rcases List.mem_append.1 hp with hp | hp
  · exact qmO h p hp
  · exact qsn (qmO h) p hp
theorem qtf {g : List (List Int)} (h : Gr g) : InR g.length (bd g) := fun p hp => qth h p (qsu.1 hp)
theorem qoH {g : List (List Int)} (h : Gr g) : (bw g).length ≤ 1200 := by
  have := qjg h
  unfold bw
  rw [List.length_append, qe0]; omega
theorem qst {g : List (List Int)} (h : Gr g) : (bd g).length ≤ 1200 := by
  have h1 := qqX (srtA (bw g))
  rw [qbF] at h1
  have := qoH h
  unfold bd; omega
def bothM (g : List (List Int)) : List (List Int) × Int := if 600 < (bd g).length then ([], 2) else (bt g, 0)
theorem qo3 {F : Nat} {g : List (List Int)} (hF : 2000 ≤ F) : qcp F g = some (if gchk g ≠ 0 then ([], gchk g) else bothM g) := by
  unfold qcp vB
  rw [jO (by omega)]
  simp only [Option.bind_some]
  by_cases h : gchk g = 0
  · have hg := qba.1 h
    have h1 := hg.1
    have h2 := qjg hg
    have h3 := qoH hg
    have h4 := qst hg
    rw [if_neg (by simp [h]), if_neg (by simp [h]), qf7 (by omega) hg]
    simp only [Option.bind_some]
    rw [qiz (by omega) hg]
    simp only [Option.bind_some]
    show (app _ (af 0 g) (gsw (af 0 g))).bind _ = _
    rw [vh (by rw [qe0]; omega)]
    simp only [Option.bind_some]
    show (qK F (bw g)).bind _ = _
    rw [qgh (by omega) (by omega)]
    simp only [Option.bind_some, chk]
    rw [if_pos (by rw [qbF]; simp [bw]), qkj (by rw [qbF]; omega) (by rw [qbF]; omega)]
    simp only [Option.bind_some]
    show (if decide (600 < ((bd g).length : Int)) then _ else (vM F (g.length : Int) (bd g)).bind _) = _
    unfold bothM
    by_cases h5 : 600 < (bd g).length
    · rw [if_pos (by simp; omega), if_pos h5]
    · rw [if_neg (by simp; omega), if_neg h5, qgL (fun p hp => by have := qtf hg p hp; omega) (by omega) (by omega) (by omega)]
      rfl
  · rw [if_pos (by simpa using h), if_pos h]
def lens (g : List (List Int)) : List Int := g.map fun r => (r.length : Int)
def deg (n : Nat) (l : List (Int × Int)) : List Int := lens (tab n l)
theorem qmF {n i : Nat} {l : List (Int × Int)} (h : i < n) : (deg n l)[i]? = some ((rowOf l i).length : Int) := by
  unfold deg lens
  rw [List.getElem?_map, qjM h]; rfl
theorem qkl {n a : Nat} {l : List (Int × Int)} {b : Int} : deg n (l ++ [((a : Int), b)]) = (deg n l).set a (((rowOf l a).length + 1 : Nat) : Int) := by
  unfold deg lens
  rw [qli, List.map_set, List.length_append, List.length_singleton]
theorem qoS {n : Nat} {l l' : List (Int × Int)} (h : l.Perm l') : deg n l = deg n l' := by
  unfold deg lens tab
  rw [List.map_map, List.map_map]
  refine List.map_congr_left fun i _ => ?_
  show ((rowOf l i).length : Int) = ((rowOf l' i).length : Int)
  unfold rowOf
  rw [List.length_map, List.length_map, (h.filter _).length_eq]
theorem qh8 {n : Nat} {l : List (Int × Int)} {T : List (List Int)} (h : IsTab n l T) (hn : l.Nodup) : deg n l = lens T := by
  rw [qlD h (qiu hn) fun p => Iff.rfl, ← qoS (qaI l)]
  rfl
theorem qff {F n : Nat} {yy : (List Int × List Int) → (Int × Int) → Option ((List Int × List Int) ⊕ Empty)} (hy : ∀ s p, yy s p = yS F s.1 s.2 p.1 p.2) : ∀ (A acc : List (Int × Int)), InR n A → acc.length + A.length ≤ 1000000 →
    vg yy A (deg n (gsw acc), deg n acc) = some (.inl (deg n (gsw (acc ++ A)), deg n (acc ++ A)))
  | [], acc, _, _ => by rw [List.append_nil]; rfl
  | p :: A, acc, h, hm => by
    rw [List.length_cons] at hm
    obtain ⟨h1, h2, h3, h4⟩ := h p (by simp)
    have hrec := qff hy A (acc ++ [p]) (fun q hq => h q (by simp [hq])) (by simp; omega)
    rw [List.append_assoc] at hrec
    show (yy _ p).bind _ = _
    rw [hy]
    unfold yS
    obtain ⟨a, ha⟩ := Int.eq_ofNat_of_zero_le h1
    obtain ⟨b, hb⟩ := Int.eq_ofNat_of_zero_le h3
    have e : p = ((a : Int), (b : Int)) := Prod.ext ha hb
    have hl1 := qfY acc (a : Int)
    have hl2 := qfY (gsw acc) (b : Int)
    rw [qe0] at hl2
    subst e
    simp only at *
    rw [qE, qmF (by omega)]
    simp only [Option.bind_some, lett]
    rw [qE, qmF (by omega)]
    simp only [Option.bind_some]
    rw [qr (by omega), qr (by omega), Int.toNat_natCast, Int.toNat_natCast, ← qkl (b := (a : Int)), ← qkl (b := (b : Int))]
    rw [qrD] at hrec
    simp only [Sum.elim_inl]
    exact hrec
theorem qjo (n : Nat) : deg n [] = List.replicate n 0 := by
  unfold deg lens
  rw [qnB, List.map_replicate]; rfl
def degM (g : List (List Int)) : List Int × List Int × Int := if gchk g ≠ 0 then ([], [], gchk g) else (lens g, lens (tn g), 0)
theorem qlA {F : Nat} {g : List (List Int)} (hF : 1000 ≤ F) : qaZ F g = some (degM g) := by
  unfold qaZ degM
  rw [jO hF]
  simp only [Option.bind_some]
  by_cases h : gchk g = 0
  · have hg := qba.1 h
    have h1 := hg.1
    have h2 := qjg hg
    rw [if_neg (by simp [h]), if_neg (by simp [h])]
    have hmk : mk 17592186044416 (0 : Int) (g.length : Int) = some (deg g.length []) := by
      unfold mk
      rw [if_pos ⟨by omega, by omega⟩, qjo, Int.toNat_natCast]
    rw [hmk]
    simp only [Option.bind_some]
    unfold k8 vB
    simp only [Option.bind_some]
    rw [qlx (by omega) (by omega) (fun l hl => by have := qg2 hg hl; omega)]
    have := qff (F := F) (n := g.length) (yy := fun x x_1 => yS F x.1 x.2 x_1.1 x_1.2) (fun _ _ => rfl) (af 0 g) [] (qmO hg) (by simp; omega)
    rw [List.nil_append] at this
    refine (congrArg (fun z => Option.bind z _) this).trans ?_
    simp only [Option.bind_some, Sum.elim_inl]
    rw [qh8 (qkc (qpa hg)) (qg1 hg), qh8 (qlj hg) (qk3 (qg1 hg))]
  · rw [if_pos (by simpa using h), if_pos h]
theorem qgf {F : Nat} {xs : List (Int × Int)} (hm : xs.length ≤ 1000000) : ∀ (k i : Nat), xs.length < k + i → i ≤ xs.length → vi F xs xs k (i : Int) = some true
  | 0, _, _, _ => by omega
  | k + 1, i, h, hi => by
    show qaW F xs xs (vi F xs xs k) (i : Int) = _
    unfold qaW
    by_cases hlt : i < xs.length
    · rw [if_pos (by simp; omega), qE, List.getElem?_eq_getElem hlt]
      simp only [Option.bind_some]
      rw [if_neg (by simp), qr (by omega)]
      exact qgf hm k (i + 1) (by omega) (by omega)
    · rw [if_neg (by simp; omega)]
      rfl
theorem qod {F : Nat} {xs : List (Int × Int)} (hF : xs.length < F) (hm : xs.length ≤ 1000000) : qck F xs xs = some true := by
  unfold qck
  rw [if_neg (by simp)]
  exact qgf hm F 0 (by omega) (by omega)
theorem qfw {F : Nat} {xs : List (List Int)} (hm : xs.length ≤ 1000000) (hr : ∀ r ∈ xs, r.length ≤ 1000000 ∧ r.length < F) : ∀ (k i : Nat), xs.length < k + i → i ≤ xs.length → yL F xs xs k (i : Int) = some true
  | 0, _, _, _ => by omega
  | k + 1, i, h, hi => by
    show qaz F xs xs (yL F xs xs k) (i : Int) = _
    unfold qaz
    by_cases hlt : i < xs.length
    · have := hr _ (List.getElem_mem hlt)
      rw [if_pos (by simp; omega), qE, List.getElem?_eq_getElem hlt]
      simp only [Option.bind_some]
      rw [qeZ this.2 this.1]
      simp only [Option.bind_some]
      rw [if_neg (by simp), qr (by omega)]
      exact qfw hm hr k (i + 1) (by omega) (by omega)
    · rw [if_neg (by simp; omega)]
      rfl
theorem qlX {F : Nat} {xs : List (List Int)} (hF : xs.length < F) (hm : xs.length ≤ 1000000) (hr : ∀ r ∈ xs, r.length ≤ 1000000 ∧ r.length < F) : vL F xs xs = some true := by
  unfold vL
  rw [if_neg (by simp)]
  exact qfw hm hr F 0 (by omega) (by omega)
theorem qsF {F : Nat} (hF : 2000 ≤ F) : qbj F = some true := by
  have s1 : srtA [(2, 0), (0, 1), (0, 0)] = [(0, 0), (0, 1), (2, 0)] := qjE (by decide) (by decide)
  have o1 : ofM 3 [(2, 0), (0, 1), (0, 0)] = ([[0, 1], [], [0]], 0) := by
    rw [show (3 : Int) = ((3 : Nat) : Int) from rfl, qrh (by decide) (by decide) (by unfold InR; decide) (by decide), s1]; rfl
  have c1 : gchk [[0, 1], [], [0]] = 0 := by decide
  have hg := qba.1 c1
  have a1 : af 0 [[0, 1], [], [0]] = [(0, 0), (0, 1), (2, 0)] := rfl
  have t1 : tn [[0, 1], [], [0]] = [[0, 2], [0], []] := by
    unfold tn
    rw [a1, show gsw [(0, 0), (0, 1), (2, 0)] = [(0, 0), (1, 0), (0, 2)] from rfl, qjE (m := [(0, 0), (0, 2), (1, 0)]) (by decide) (by decide)]; rfl
  have b0 : bd [[0, 1], [], [0]] = [(0, 0), (0, 1), (0, 2), (1, 0), (2, 0)] := by
    unfold bd bw
    rw [a1, show gsw [(0, 0), (0, 1), (2, 0)] = [(0, 0), (1, 0), (0, 2)] from rfl, qjE (m := [(0, 0), (0, 0), (0, 1), (0, 2), (1, 0), (2, 0)]) (by decide) (by decide)]; rfl
  have b1 : bothM [[0, 1], [], [0]] = ([[0, 1, 2], [0], [0]], 0) := by
    unfold bothM bt
    rw [b0]; rfl
  have d1 : degM [[0, 1], [], [0]] = ([2, 0, 1], [2, 1, 0], 0) := by
    unfold degM
    rw [c1, t1]; rfl
  have o2 : ofM 1 [(0, 0), (0, 0)] = ([], 6) := by decide
  unfold qbj
  rw [qsf (by omega), o1]
  simp only [Option.bind_some]
  rw [qqK (by omega), c1, if_neg (by decide), a1]
  simp only [Option.bind_some]
  rw [qnD (by omega), c1, if_neg (by decide), t1]
  simp only [Option.bind_some]
  rw [qo3 hF, c1, if_neg (by decide), b1]
  simp only [Option.bind_some]
  rw [qlA (by omega), d1]
  simp only [Option.bind_some]
  rw [qsf (by omega), o2]
  simp only [Option.bind_some]
  have sl : ∀ g : List (List Int), g.length ≤ 3 → (∀ r ∈ g, r.length ≤ 3) → vL F g g = some true := fun g h1 h2 => qlX (by omega) (by omega) (fun r hr => by have := h2 r hr; omega)
  rw [sl _ (by decide) (by decide)]
  simp only [Option.bind_some]
  rw [if_pos (by decide), qod (by simp; omega) (by decide)]
  simp only [Option.bind_some]
  unfold jS
  rw [if_pos (by decide), sl _ (by decide) (by decide)]
  simp only [Option.bind_some]
  unfold jT
  rw [if_pos (by decide), sl _ (by decide) (by decide)]
  simp only [Option.bind_some]
  unfold jU
  rw [if_pos (by decide), qeZ (by simp; omega) (by decide)]
  simp only [Option.bind_some]
  unfold jV
  rw [if_pos (by decide), qeZ (by simp; omega) (by decide)]
  simp only [Option.bind_some]
  unfold jW
  rw [if_pos (by decide), jO (by omega)]
  simp only [Option.bind_some]
  rfl
theorem qnA {n : Nat} {l : List (Int × Int)} {T : List (List Int)} (h : IsTab n l T) {i : Nat} (hi : i < T.length) {v : Int} : v ∈ T.getD i [] ↔ ((i : Int), v) ∈ l := by
  have := (h.2 i _ (List.getElem?_eq_getElem hi)).2 v
  rw [List.getD_eq_getElem?_getD, List.getElem?_eq_getElem hi]
  exact this
theorem qs5 {g : List (List Int)} (hg : Gr g) {i j : Nat} (hi : i < g.length) (hj : j < g.length) : (j : Int) ∈ g.getD i [] ↔ (i : Int) ∈ (tn g).getD j [] := by
  rw [qnA (qkc (qpa hg)) hi, qnA (qlj hg) (by rw [qhw]; exact hj), qqd]
theorem qlJ {F : Nat} (hF : 2000200 ≤ F) {g : List (List Int)} {B least k v u : Int} : qcF F g B least k v u = some true := by
  unfold qcF
  rw [qnD (by omega)]
  simp only [Option.bind_some]
  rw [qgK (by omega)]
  simp only [Option.bind_some]
  rw [qgK (by omega)]
  simp only [Option.bind_some]
  rw [qrt hF]
  simp only [Option.bind_some]
  rw [if_neg (by decide), qsF (by omega)]
  simp only [Option.bind_some]
  unfold jR
  rw [if_neg (by decide)]
  by_cases hc : gchk g = 0
  · have e : (if gchk g ≠ 0 then (([] : List (List Int)), gchk g) else (tn g, 0)) = (tn g, 0) := if_neg (by simp [hc])
    rw [e]
    simp only
    by_cases h1 : shE g B least k = 0
    · by_cases h2 : shE (tn g) B least k = 0
      · have s1 := qjC h1
        have s2 := qjC h2
        have hg := qba.1 hc
        rw [qjB h1, qjB h2]
        simp only
        rw [if_neg (by simp)]
        by_cases hv : v < 0 ∨ (g.length : Int) ≤ v
        · rw [qfR hF s1 hv]
          simp only [Option.bind_some]
          by_cases hu : u < 0 ∨ ((tn g).length : Int) ≤ u
          · rw [qfR hF s2 hu]
            rfl
          · obtain ⟨j, rfl⟩ := Int.eq_ofNat_of_zero_le (a := u) (by omega)
            rw [qec hF s2 (by omega), if_pos (by rw [qhw]; exact hv)]
            rfl
        · obtain ⟨i, rfl⟩ := Int.eq_ofNat_of_zero_le (a := v) (by omega)
          rw [qec hF s1 (by omega)]
          simp only [Option.bind_some]
          by_cases hu : u < 0 ∨ (g.length : Int) ≤ u
          · rw [if_pos hu, qfR hF s2 (by rw [qhw]; exact hu)]
            rfl
          · obtain ⟨j, rfl⟩ := Int.eq_ofNat_of_zero_le (a := u) (by omega)
            rw [if_neg hu, qec hF s2 (by rw [qhw]; omega), if_neg (by rw [qhw]; exact hv)]
            simp only [Option.bind_some]
            have := qs5 hg (i := i) (j := j) (by omega) (by omega)
            have hd : decide ((j : Int) ∈ g.getD i []) = decide ((i : Int) ∈ (tn g).getD j []) := by rw [decide_eq_decide]; exact this
            rw [hd]
            simp
      · rw [if_pos (by rw [qgv h2]; simp [shz, h2])]
    · rw [if_pos (by rw [qgv h1]; simp [shz, h1])]
  · have e : (if gchk g ≠ 0 then (([] : List (List Int)), gchk g) else (tn g, 0)) = ([], gchk g) := if_pos hc
    rw [e, if_pos (by simp [hc])]
end Go.Proofs.YtmhggdbfbmkpeaaGreat
