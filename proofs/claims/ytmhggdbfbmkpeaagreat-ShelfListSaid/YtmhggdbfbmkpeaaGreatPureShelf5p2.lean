/- Plain facts of what the functions of this seat compute, part 2. -/
import Derived.Test.YtmhggdbfbmkpeaaGreatPureShelf5
import Derived.KernelRfl
import Derived.Lib.SlicesCompact
namespace Go.Proofs.YtmhggdbfbmkpeaaGreat
open Go SX
variable {F : Nat} {rec68 : (List (Int × Int) × List Int × Int) → Option (List (Int × Int) × List Int)} {l : List Int} {least : Int} {o : List (Int × Int)} {rest : List Int} {i : Int}
variable {F : Nat} {n t w lw hw : Int} {lb hb : List Int} {l : List Nat}
theorem qhu {g : List (List Int)} (hg : Gr g) {B least : Int} {k : Nat} (hh : hcE B least (k : Int) = 0) (hl : (pkA g B least k g.length).1.length ≤ 8192) (T : List Int) : ∀ (m i : Nat), i + m = g.length →
    pkR ((pkA g B least k g.length).1 ++ T) B least k m (g.take i) (pkA g B least k i).1.length = some (g, (pkA g B least k g.length).1.length)
  | 0, i, h => by
    have : i = g.length := by omega
    subst this
    simp [pkR]
  | m + 1, i, h => by
    have hi : i < g.length := by omega
    obtain ⟨k1, k2, k', hk, k3, k4⟩ := qbb hh
    have hkk : k = k' := by omega
    subst hkk
    obtain ⟨hr, _⟩ := qdA (g := g) (B := B) (least := least) (k := k) (i := i)
    have hgl := hg.1
    have hti : (g.take i).length = i := by rw [List.length_take]; omega
    obtain ⟨R, hR⟩ := qiy (g := g) (B := B) (least := least) (k := k) hi
    have hnext := qhu hg hh hl T m (i + 1) (by omega)
    have hA : (pkA g B least k (i + 1)).1.length = (pkA g B least k i).1.length + (pkH B (pkN g B least k i).1).length + (enc (i : Int) (g.getD i []) (pkF g i (pkN g B least k i).1) ((pkN g B least k i).1 : Int) least k).length := by
      have := (qdA (g := g) (B := B) (least := least) (k := k) (i := i)).2
      rw [pkA, this]
      unfold pkW
      simp only [List.length_append]; omega
    have hO : pkO ((pkA g B least k g.length).1 ++ T) B i (pkA g B least k i).1.length = some (((pkN g B least k i).1 : Int), (pkA g B least k i).1.length + (pkH B (pkN g B least k i).1).length) := by
      unfold pkO pkH
      by_cases hB : B = 0
      · have : (pkN g B least k i).1 = 0 := by rw [hB] at hr ⊢; simp at hr; exact hr
        rw [if_pos hB, this, if_neg (by omega)]
        simp
      · rw [if_neg hB, if_pos (by omega)]
        rw [hR]
        unfold pkH
        rw [if_pos (by omega)]
        simp only [List.append_assoc]
        exact qc7 (by omega) (by omega) _ _
    unfold pkR
    rw [hti, hO]
    simp only [Option.bind_some, Int.toNat_natCast]
    rw [qmN (by omega) (by omega)]
    have hE : (enc (i : Int) (g.getD i []) (pkF g i (pkN g B least k i).1) ((pkN g B least k i).1 : Int) least k).length ≤ 8192 := by
      have := qd1 (g := g) (B := B) (least := least) (k := k) (show i + 1 ≤ g.length from hi)
      omega
    have hD := qkF (k := k) k3 k4 (node := (i : Int)) (back := ((pkN g B least k i).1 : Int)) (least := least) (x := g.getD i []) (fr := pkF g i (pkN g B least k i).1) (by unfold Nd; omega) k2 (qfg hg i) (fun _ => qeR hg _ _) ((pkA g B least k i).1 ++ pkH B (pkN g B least k i).1) (R ++ T) hE
    rw [hR]
    simp only [List.append_assoc, List.length_append] at hD ⊢
    rw [hD]
    simp only [Option.bind_some]
    rw [qjQ hi]
    rw [hR] at hnext
    simp only [List.append_assoc, List.length_append] at hnext
    rw [← hnext, hA]
theorem qpI {B least k : Int} {r : Nat} (h : hcE B least k = 0) (hr : (r : Int) ≤ B) : hcE (r : Int) least k = 0 := by
  unfold hcE at h ⊢
  by_cases hb : hcB B least k
  · rw [if_pos hb] at h; simp at h
  · rw [if_neg (by unfold hcB at hb ⊢; omega)]
theorem qk3 {F : Nat} (hF : 2000000 ≤ F) {A : List (List Int)} {x fr H : List Int} {r i k : Nat} {least : Int} (hA : A.length = i) (hi : i ≤ 100) (hx : gkc x = 0) (hfr : gkc fr = 0) (hh : hcE (r : Int) least (k : Int) = 0) (hH : Bit H) (hHl : H.length ≤ 100) :
    jv F A x (r : Int) least (k : Int) (H.length : Int) (pk H) fr = some (if (H ++ enc (i : Int) x fr (r : Int) least k).length ≤ 8192 then ((r : Int), ((H ++ enc (i : Int) x fr (r : Int) least k).length : Int), pk (H ++ enc (i : Int) x fr (r : Int) least k), true) else (0, 0, [], false)) := by
  unfold jv
  rw [qlG hF, hA]
  simp only [Option.bind_some]
  have hE : swE (i : Int) x fr (r : Int) least (k : Int) = 0 := qpY hh (by unfold Nd; omega) hx (fun _ => hfr)
  rw [List.length_append]
  by_cases h1 : (enc (i : Int) x fr (r : Int) least k).length ≤ 8192
  · have hs := qqr hE (by rw [Int.toNat_natCast]; exact h1)
    rw [Int.toNat_natCast] at hs
    rw [hs]
    simp only
    rw [qO (by omega) (by omega)]
    by_cases h2 : H.length + (enc (i : Int) x fr (r : Int) least k).length ≤ 8192
    · rw [if_neg (by simp; omega), if_pos h2, qha (by omega) (qcI hH) (qcI qhf) (qd0 (by omega)) (qd0 h1), qbd hH, qbd qhf]
      rfl
    · rw [if_pos (by simp; omega), if_neg h2]
  · have hs : sw (i : Int) x fr (r : Int) least (k : Int) = (0, [], 8) := by
      unfold sw
      rw [if_neg (by simp [hE]), Int.toNat_natCast, if_pos (by omega)]
    rw [hs, if_pos (by simp), if_neg (by omega)]
theorem qo6 {F : Nat} (hF : 2000000 ≤ F) {g : List (List Int)} (hg : Gr g) {B least : Int} {k i r : Nat} (hh : hcE B least (k : Int) = 0) (hi : i ≤ g.length) (hr : r ≤ min B.toNat i) :
    qbR F (g.take i) (g.getD i []) (r : Int) B least (k : Int) = some (if (pkW g B least k i r).length ≤ 8192 then ((r : Int), ((pkW g B least k i r).length : Int), pk (pkW g B least k i r), true) else (0, 0, [], false)) := by
  have hgl := hg.1
  have hti : (g.take i).length = i := by rw [List.length_take]; omega
  obtain ⟨k1, -, -⟩ := qbb hh
  have hh' : hcE (r : Int) least (k : Int) = 0 := qpI hh (by omega)
  have hj : ∀ H : List Int, Bit H → H.length ≤ 100 → ju F (g.take i) (g.getD i []) (r : Int) least (k : Int) (H.length : Int) (pk H) = some (if (H ++ enc (i : Int) (g.getD i []) (pkF g i r) (r : Int) least k).length ≤ 8192 then ((r : Int), ((H ++ enc (i : Int) (g.getD i []) (pkF g i r) (r : Int) least k).length : Int), pk (H ++ enc (i : Int) (g.getD i []) (pkF g i r) (r : Int) least k), true) else (0, 0, [], false)) := by
    intro H hH hHl
    unfold ju
    by_cases h0 : 0 < r
    · rw [if_pos (by simpa using h0), hti, zg (by omega) (by omega), show ((i : Int) - (r : Int)) = ((i - r : Nat) : Int) from by omega, qR, List.getElem?_take, if_pos (by omega), List.getElem?_eq_getElem (show i - r < g.length by omega)]
      simp only [Option.bind_some]
      have e : g[i - r]'(by omega) = pkF g i r := by
        unfold pkF
        rw [if_pos h0, List.getD_eq_getElem?_getD, List.getElem?_eq_getElem (show i - r < g.length by omega)]
        rfl
      rw [e]
      exact qk3 hF hti (by omega) (qfg hg i) (qeR hg i r) hh' hH hHl
    · rw [if_neg (by simpa using h0)]
      have e : pkF g i r = [] := by unfold pkF; rw [if_neg h0]
      rw [e]
      exact qk3 hF hti (by omega) (qfg hg i) (by decide) hh' hH hHl
  unfold qbR pkW pkH
  by_cases hB : 0 < B
  · have hga := qph (n := r) (by omega)
    rw [if_pos (by simpa using hB), if_pos hB, kA (by omega), qeG (by omega) (by omega)]
    simp only [Option.bind_some]
    exact hj (ga r) (qcq r) (by omega)
  · rw [if_neg (by simpa using hB), if_neg hB]
    exact hj [] (by intro z hz; simp at hz) (by simp)
def bst (f : Nat → List Int) (j : Nat) : Bool × Int × Int × List Int := if j = 0 then (false, 0, 0, []) else if (bwy f (j - 1)).2.length ≤ 8192 then (true, ((bwy f (j - 1)).1 : Int), ((bwy f (j - 1)).2.length : Int), pk (bwy f (j - 1)).2) else (false, 0, 0, [])
theorem qlX {F : Nat} (hF : 2000000 ≤ F) {g : List (List Int)} (hg : Gr g) {B least : Int} {k i : Nat} (hh : hcE B least (k : Int) = 0) (hi : i ≤ g.length) : ∀ (n j : Nat), min B.toNat i + 1 < n + j → j ≤ min B.toNat i + 1 →
    zA F (g.take i) (g.getD i []) B least (k : Int) n ((bst (pkW g B least k i) j).1, (j : Int), (bst (pkW g B least k i) j).2.1, (bst (pkW g B least k i) j).2.2.1, (bst (pkW g B least k i) j).2.2.2) = some (if (pkN g B least k i).2.length ≤ 8192 then (((pkN g B least k i).1 : Int), ((pkN g B least k i).2.length : Int), pk (pkN g B least k i).2, true) else (0, 0, [], false))
  | 0, _, _, _ => by omega
  | n + 1, j, h, hj => by
    have hgl := hg.1
    have hti : (g.take i).length = i := by rw [List.length_take]; omega
    obtain ⟨k1, -, -⟩ := qbb hh
    show j2 F (g.take i) (g.getD i []) B least (k : Int) (zA F (g.take i) (g.getD i []) B least (k : Int) n) (bst (pkW g B least k i) j).1 (j : Int) (bst (pkW g B least k i) j).2.1 (bst (pkW g B least k i) j).2.2.1 (bst (pkW g B least k i) j).2.2.2 = _
    unfold j2
    have hmin : imin B ((g.take i).length : Int) = ((min B.toNat i : Nat) : Int) := by
      rw [hti]; unfold imin; split <;> omega
    rw [hmin, qO (by omega) (by omega)]
    by_cases hlt : j < min B.toNat i + 1
    · rw [if_pos (by simp; omega), qo6 hF hg hh hi (by omega)]
      simp only [Option.bind_some]
      have hrec := qlX hF hg hh hi n (j + 1) (by omega) (by omega)
      have hnew : (pkW g B least k i j).length ≤ 8192 → bwy (pkW g B least k i) j = (j, pkW g B least k i j) → kM F (zA F (g.take i) (g.getD i []) B least (k : Int) n) (j : Int) true (j : Int) ((pkW g B least k i j).length : Int) (pk (pkW g B least k i j)) = some (if (pkN g B least k i).2.length ≤ 8192 then (((pkN g B least k i).1 : Int), ((pkN g B least k i).2.length : Int), pk (pkN g B least k i).2, true) else (0, 0, [], false)) := by
        intro h1 h2
        unfold kM
        rw [qs (by omega), ← hrec]
        unfold bst
        rw [if_neg (by omega), Nat.add_sub_cancel, h2, if_pos h1]
      have hold : bst (pkW g B least k i) (j + 1) = bst (pkW g B least k i) j → kM F (zA F (g.take i) (g.getD i []) B least (k : Int) n) (j : Int) (bst (pkW g B least k i) j).1 (bst (pkW g B least k i) j).2.1 (bst (pkW g B least k i) j).2.2.1 (bst (pkW g B least k i) j).2.2.2 = some (if (pkN g B least k i).2.length ≤ 8192 then (((pkN g B least k i).1 : Int), ((pkN g B least k i).2.length : Int), pk (pkN g B least k i).2, true) else (0, 0, [], false)) := by
        intro h1
        unfold kM
        rw [qs (by omega), ← hrec, h1]
      unfold j3
      by_cases hl : (pkW g B least k i j).length ≤ 8192
      · rw [if_pos hl]
        simp only [if_true]
        by_cases h0 : j = 0
        · subst h0
          rw [if_pos (by simp [bst])]
          exact hnew hl rfl
        · obtain ⟨q, rfl⟩ : ∃ q, j = q + 1 := ⟨j - 1, by omega⟩
          by_cases hb : (bwy (pkW g B least k i) q).2.length ≤ 8192
          · have e : bst (pkW g B least k i) (q + 1) = (true, ((bwy (pkW g B least k i) q).1 : Int), ((bwy (pkW g B least k i) q).2.length : Int), pk (bwy (pkW g B least k i) q).2) := by
              unfold bst
              rw [if_neg (by omega), Nat.add_sub_cancel, if_pos hb]
            by_cases hc : (pkW g B least k i (q + 1)).length < (bwy (pkW g B least k i) q).2.length
            · rw [if_pos (by rw [e]; simp; omega)]
              exact hnew hl (by rw [bwy, if_pos hc])
            · rw [if_neg (by rw [e]; simp; omega)]
              refine hold ?_
              rw [e]
              unfold bst
              rw [if_neg (by omega), Nat.add_sub_cancel, bwy, if_neg hc, if_pos hb]
          · have e : bst (pkW g B least k i) (q + 1) = (false, 0, 0, []) := by
              unfold bst
              rw [if_neg (by omega), Nat.add_sub_cancel, if_neg hb]
            rw [if_pos (by rw [e]; simp)]
            exact hnew hl (by rw [bwy, if_pos (by omega)])
      · rw [if_neg hl]
        simp only [Bool.false_eq_true, if_false]
        refine hold ?_
        unfold bst
        rw [if_neg (by omega), Nat.add_sub_cancel]
        by_cases h0 : j = 0
        · subst h0
          rw [if_pos rfl, bwy, if_neg hl]
        · obtain ⟨q, rfl⟩ : ∃ q, j = q + 1 := ⟨j - 1, by omega⟩
          rw [if_neg (show ¬ q + 1 = 0 by omega), Nat.add_sub_cancel, bwy]
          by_cases hc : (pkW g B least k i (q + 1)).length < (bwy (pkW g B least k i) q).2.length
          · rw [if_pos hc, if_neg hl, if_neg (by omega)]
          · rw [if_neg hc]
    · rw [if_neg (by simp; omega)]
      have : j = min B.toNat i + 1 := by omega
      subst this
      unfold qbC bst pkN
      rw [if_neg (by omega), Nat.add_sub_cancel]
      split <;> rfl
theorem qnV {F : Nat} (hF : 2000000 ≤ F) {g : List (List Int)} (hg : Gr g) {B least : Int} {k i : Nat} (hh : hcE B least (k : Int) = 0) (hi : i ≤ g.length) :
    qbQ F (g.take i) (g.getD i []) B least (k : Int) = some (if (pkN g B least k i).2.length ≤ 8192 then (((pkN g B least k i).1 : Int), ((pkN g B least k i).2.length : Int), pk (pkN g B least k i).2, true) else (0, 0, [], false)) := by
  have hgl := hg.1
  have := qlX hF hg hh hi F 0 (by omega) (Nat.zero_le _)
  exact this
theorem qot {g : List (List Int)} {B least : Int} {k i r : Nat} : Bit (pkW g B least k i r) := by
  unfold pkW pkH
  refine zL ?_ qhf
  split
  · exact qcq r
  · intro z hz; simp at hz
theorem qht {g : List (List Int)} {B least : Int} {k i : Nat} : Bit (pkN g B least k i).2 := by
  rw [qdA.2]; exact qot
theorem qcx {g : List (List Int)} {B least : Int} {k : Nat} : ∀ n : Nat, Bit (pkA g B least k n).1
  | 0 => by intro z hz; simp [pkA] at hz
  | n + 1 => by unfold pkA; exact zL (qcx n) qht
theorem qfe {g : List (List Int)} {i : Nat} (h : i < g.length) : idx g (i : Int) = some (g.getD i []) := by
  rw [qR, List.getD_eq_getElem?_getD, List.getElem?_eq_getElem h]
  rfl
theorem qkz {F : Nat} (hF : 2000000 ≤ F) {g : List (List Int)} (hg : Gr g) {N B least : Int} {k : Nat} (hh : hcE B least (k : Int) = 0) : ∀ (j i : Nat), g.length < j + i → i ≤ g.length → (pkA g B least k i).1.length ≤ 8192 →
    ∃ z, qw F N B least (k : Int) g j ((i : Int), ((pkA g B least k i).1.length : Int), pk (pkA g B least k i).1, (pkA g B least k i).2.1, (pkA g B least k i).2.2) = some z ∧ z.1 = decide ((pkA g B least k g.length).1.length ≤ 8192) ∧
      (z.1 = true → z = (true, N, B, least, (k : Int), ((pkA g B least k g.length).1.length : Int), pk (pkA g B least k g.length).1, (pkA g B least k g.length).2.1, (pkA g B least k g.length).2.2))
  | 0, _, _, _, _ => by omega
  | j + 1, i, h, hi, hA => by
    have hgl := hg.1
    show ∃ z, kQ F N B least (k : Int) g (qw F N B least (k : Int) g j) (i : Int) ((pkA g B least k i).1.length : Int) (pk (pkA g B least k i).1) (pkA g B least k i).2.1 (pkA g B least k i).2.2 = some z ∧ _
    unfold kQ
    by_cases hlt : i < g.length
    · have e0 : sub g 0 (i : Int) = some (g.take i) := by
        have := qkX (l := g) (i := 0) (j := i) (by omega) hi
        simpa using this
      have hstep : (pkA g B least k (i + 1)).1.length = (pkA g B least k i).1.length + (pkN g B least k i).2.length := by rw [pkA, List.length_append]
      have hmono := qd1 (g := g) (B := B) (least := least) (k := k) (show i + 1 ≤ g.length from hlt)
      rw [if_pos (by simp; omega), qfe hlt, e0]
      simp only [Option.bind_some]
      rw [qnV hF hg hh hi]
      simp only [Option.bind_some]
      unfold kR
      by_cases h1 : (pkN g B least k i).2.length ≤ 8192
      · rw [if_pos h1]
        simp only [Bool.not_true, Bool.false_eq_true, if_false]
        rw [qO (by omega) (by omega)]
        unfold zM
        by_cases h2 : (pkA g B least k i).1.length + (pkN g B least k i).2.length ≤ 8192
        · rw [if_neg (by simp; omega)]
          have hl := qix (g := g) (B := B) (least := least) (k := k) i
          rw [vp (by rw [hl.1]; simp; omega)]
          simp only [Option.bind_some]
          rw [vp (by rw [hl.2]; simp; omega)]
          simp only [Option.bind_some]
          unfold zN
          rw [qha (by omega) (qcI (qcx i)) (qcI qht) (qd0 hA) (qd0 h1), qbd (qcx i), qbd qht]
          simp only [Option.bind_some]
          have := qkz hF hg (N := N) hh j (i + 1) (by omega) (by omega) (by omega)
          rw [qs (by omega), ← hstep]
          exact this
        · rw [if_pos (by simp; omega)]
          exact ⟨_, rfl, by simp only; rw [decide_eq_false (by omega)], fun h => by simp at h⟩
      · rw [if_neg h1]
        simp only [Bool.not_false, if_true]
        unfold zM
        rw [if_pos rfl]
        exact ⟨_, rfl, by simp only; rw [decide_eq_false (by omega)], fun h => by simp at h⟩
    · rw [if_neg (by simp; omega)]
      have : i = g.length := by omega
      subst this
      unfold vi
      exact ⟨_, rfl, by simp only; rw [decide_eq_true hA], fun _ => rfl⟩
theorem qgw {F : Nat} (hF : 2000000 ≤ F) {g : List (List Int)} {B least k : Int} :
    ∃ z1 z2 z3 z4 z5 z6 z7 z8, jP F g B least k = some (z1, z2, z3, z4, z5, z6, z7, z8, pkE g B least k) ∧
      (pkE g B least k = 0 → (z1, z2, z3, z4, z5, z6, z7, z8) = ((g.length : Int), B, least, k, ((pkA g B least k.toNat g.length).1.length : Int), pk (pkA g B least k.toNat g.length).1, (pkA g B least k.toNat g.length).2.1, (pkA g B least k.toNat g.length).2.2)) := by
  unfold jP
  rw [qf8 (by omega)]
  simp only [Option.bind_some]
  by_cases h1 : gchk g = 0
  · rw [if_pos (by simpa using h1), qen]
    simp only [Option.bind_some]
    unfold yV
    by_cases h2 : hcE B least k = 0
    · rw [if_pos (by simpa using h2)]
      obtain ⟨_, _, k', rfl, _, _⟩ := qbb h2
      have hg := qcr.1 h1
      have hgl := hg.1
      obtain ⟨z, hz, hz1, hz2⟩ := qkz hF hg (N := (g.length : Int)) h2 F 0 (by omega) (Nat.zero_le _) (by simp [pkA])
      have hz' : qad F (g.length : Int) B least (k' : Int) 0 [] [] [] g = some z := by
        have e : pk ([] : List Int) = [] := by simp [pk]
        simp only [pkA, List.length_nil, e] at hz
        exact hz
      rw [hz']
      simp only [Option.bind_some]
      unfold kY kX
      rw [Int.toNat_natCast]
      by_cases h3 : (pkA g B least k' g.length).1.length ≤ 8192
      · rw [decide_eq_true h3] at hz1
        have := hz2 hz1
        have hE : pkE g B least (k' : Int) = 0 := qpN h1 h2 (by rw [Int.toNat_natCast]; exact h3)
        rw [hE, h2]
        subst this
        exact ⟨_, _, _, _, _, _, _, _, rfl, fun _ => rfl⟩
      · rw [decide_eq_false h3] at hz1
        have hE : pkE g B least (k' : Int) = 8 := by
          unfold pkE
          rw [if_neg (by simp [h1]), if_neg (by simp [h2]), if_pos (by rw [Int.toNat_natCast]; omega)]
        rw [hE, hz1]
        exact ⟨_, _, _, _, _, _, _, _, rfl, fun h => by simp at h⟩
    · have hE : pkE g B least k = hcE B least k := by
        unfold pkE
        rw [if_neg (by simp [h1]), if_pos h2]
      rw [if_neg (by simpa using h2), hE]
      unfold kY kX
      exact ⟨_, _, _, _, _, _, _, _, rfl, fun h => absurd h h2⟩
  · have hE : pkE g B least k = gchk g := by
      unfold pkE
      rw [if_pos h1]
    rw [if_neg (by simpa using h1), hE]
    unfold yV kY kX
    rw [if_neg (by simpa using h1)]
    exact ⟨_, _, _, _, _, _, _, _, rfl, fun h => absurd h h1⟩
def pwr (g : List (List Int)) (B least k : Int) : Int × Int × Int × Int × Int × List Int × Int :=
  if pkE g B least k ≠ 0 then (0, 0, 0, 0, 0, [], pkE g B least k) else ((g.length : Int), B, least, k, ((pkA g B least k.toNat g.length).1.length : Int), pk (pkA g B least k.toNat g.length).1, 0)
def ptl (g : List (List Int)) (B least k : Int) : List Int × List Int × Int :=
  if pkE g B least k ≠ 0 then ([], [], pkE g B least k) else ((pkA g B least k.toNat g.length).2.1, (pkA g B least k.toNat g.length).2.2, 0)
theorem qgz {F : Nat} (hF : 2000000 ≤ F) {g : List (List Int)} {B least k : Int} : qau F g B least k = some (pwr g B least k) := by
  obtain ⟨z1, z2, z3, z4, z5, z6, z7, z8, hz, hz2⟩ := qgw hF (g := g) (B := B) (least := least) (k := k)
  unfold qau pwr
  rw [hz]
  simp only [Option.bind_some]
  by_cases h : pkE g B least k = 0
  · rw [if_neg (by simp [h]), if_neg (by simp [h])]
    have := hz2 h
    simp only [Prod.mk.injEq] at this
    obtain ⟨rfl, rfl, rfl, rfl, rfl, rfl, -, -⟩ := this
    rfl
  · rw [if_pos (by simpa using h), if_pos h]
theorem qmW {F : Nat} (hF : 2000000 ≤ F) {g : List (List Int)} {B least k : Int} : qa5 F g B least k = some (ptl g B least k) := by
  obtain ⟨z1, z2, z3, z4, z5, z6, z7, z8, hz, hz2⟩ := qgw hF (g := g) (B := B) (least := least) (k := k)
  unfold qa5 ptl
  rw [hz]
  simp only [Option.bind_some]
  by_cases h : pkE g B least k = 0
  · rw [if_neg (by simp [h]), if_neg (by simp [h])]
    have := hz2 h
    simp only [Prod.mk.injEq] at this
    obtain ⟨-, -, -, -, -, -, rfl, rfl⟩ := this
    rfl
  · rw [if_pos (by simpa using h), if_pos h]
theorem qmM {F : Nat} {xs ys : List Int} (he : xs.length = ys.length) (hm : xs.length ≤ 1000000) : ∀ (k i : Nat), xs.length < k + i → i ≤ xs.length → qB F xs ys k (i : Int) = some (decide (xs.drop i = ys.drop i))
  | 0, _, _, _ => by omega
  | k + 1, i, h, hi => by
    show qY F xs ys (qB F xs ys k) (i : Int) = _
    unfold qY
    by_cases hlt : i < xs.length
    · have hlt' : i < ys.length := by omega
      rw [if_pos (by simp; omega), qR, List.getElem?_eq_getElem hlt, qR, List.getElem?_eq_getElem hlt']
      simp only [Option.bind_some]
      rw [List.drop_eq_getElem_cons hlt, List.drop_eq_getElem_cons hlt']
      by_cases hc : xs[i] = ys[i]
      · rw [if_neg (by simp [hc]), qs (by omega), qmM he hm k (i + 1) (by omega) (by omega)]
        congr 1
        rw [decide_eq_decide, List.cons.injEq]
        exact ⟨fun h => ⟨hc, h⟩, fun h => h.2⟩
      · rw [if_pos (by simpa using hc), decide_eq_false (fun e => hc (List.cons.inj e).1)]
    · rw [if_neg (by simp; omega), List.drop_eq_nil_of_le (by omega), List.drop_eq_nil_of_le (by omega)]
      rfl
theorem peqb {F : Nat} {xs ys : List Int} (hF : xs.length < F) (hm : xs.length ≤ 1000000) : qF F xs ys = some (decide (xs = ys)) := by
  unfold qF
  by_cases h : xs.length = ys.length
  · rw [if_neg (by simp [h])]
    have := qmM (F := F) h hm F 0 (by omega) (Nat.zero_le _)
    rw [List.drop_zero, List.drop_zero] at this
    exact this
  · rw [if_pos (by simp; omega), decide_eq_false (fun e => h (by rw [e]))]
theorem qlw {l : List Int} {p : Nat} {most : Int} (h : rgam l p most = none) : (fg l p).2.2 ≠ 0 ∨ most < (fg l p).1 := by
  unfold rgam at h
  by_cases h1 : (fg l p).2.2 = 0
  · right
    by_cases h2 : (fg l p).1 ≤ most
    · rw [if_pos ⟨h1, h2⟩] at h; simp at h
    · omega
  · left; exact h1
theorem qkH {l : List Int} {p : Nat} {most : Int} {x : Int × Nat} (h : rgam l p most = some x) : fg l p = (x.1, (x.2 : Int), 0) ∧ x.1 ≤ most := by
  unfold rgam at h
  split at h
  · rename_i hc
    simp only [Option.some.injEq] at h
    rw [← h]
    have h3 : 0 ≤ (fg l p).2.1 := by
      rcases qme (l := l) (a := p) with h1 | ⟨n, q, h1, h2, h3⟩
      · exact absurd hc.1 h1
      · rw [h1]; simp
    refine ⟨?_, hc.2⟩
    simp only
    rw [Int.toNat_of_nonneg h3, ← hc.1]
  · simp at h
theorem qmP {l : List Int} {B : Int} (_hB : 0 ≤ B) {node p : Nat} (hp : p ≤ l.length) {o : Int × Nat} (h : pkO l B node p = some o) : 0 ≤ o.1 ∧ o.1 ≤ min B (node : Int) ∧ o.2 ≤ l.length := by
  unfold pkO at h
  split at h
  · simp only [Option.some.injEq] at h
    subst h
    simp only
    omega
  · have := vq h
    omega
theorem qkx {F : Nat} (hF : 20000 ≤ F) {l : List Int} (hl : Bit l) (hm : l.length ≤ 8192) {N B least k : Int} (hB : 0 ≤ B ∧ B ≤ 7) {node p : Nat} (hn : node ≤ 1000) (hp : p ≤ l.length) :
    qbB F N B least k (l.length : Int) (pk l) (p : Int) (node : Int) = some (match pkO l B node p with | none => (0, 0, false) | some o => (o.1, (o.2 : Int), true)) := by
  unfold qbB pkO
  by_cases h0 : B = 0
  · rw [if_pos (by simpa using h0), if_pos h0]
  · rw [if_neg (by simpa using h0), if_neg h0, qdR hF hl hm hp]
    simp only [Option.bind_some]
    have hmin : imin B (node : Int) = min B (node : Int) := by unfold imin; split <;> omega
    have hcv : iconv .u64 (min B (node : Int)) = min B (node : Int) := by
      obtain ⟨q, hq⟩ := Int.eq_ofNat_of_zero_le (a := min B (node : Int)) (by omega)
      rw [hq]; exact kA (by omega)
    unfold qaW
    rw [hmin, hcv]
    cases hr : rgam l p (min B (node : Int)) with
    | none =>
      rcases qlw hr with h1 | h1
      · rw [if_pos (by simpa using h1), if_pos rfl]
      · by_cases h2 : (fg l p).2.2 = 0
        · rw [if_neg (by simp [h2]), if_pos (by simpa using h1)]
        · rw [if_pos (by simpa using h2), if_pos rfl]
    | some x =>
      obtain ⟨h1, h2⟩ := qkH hr
      have hok := vq hr
      rw [h1]
      simp only
      rw [if_neg (by simp), if_neg (by simp; omega)]
      have e : iconv .i64 x.1 = x.1 := zW (by omega) (by omega)
      rw [e]
theorem qiC {F k : Nat} (hF : 2000000 ≤ F) {l : List Int} (hl : Bit l) (hm : l.length ≤ 8192) {B least : Int} (hh : hcE B least (k : Int) = 0) {n : Nat} (hn : n ≤ 100) : ∀ (j p : Nat) (out : List (List Int)), n < j + out.length → out.length ≤ n → p ≤ l.length → (∀ x ∈ out, gkc x = 0) →
    zZ F (n : Int) B least (k : Int) (l.length : Int) (pk l) j (out, (p : Int), (out.length : Int)) = some (match pkR l B least k (n - out.length) out p with | none => ([], false) | some r => (r.1, decide (r.2 = l.length)))
  | 0, _, _, _, _, _, _ => by omega
  | j + 1, p, out, h, ho, hp, hg => by
    obtain ⟨k1, k2, k', hk, k3, k4⟩ := qbb hh
    have hkk : k = k' := by omega
    subst hkk
    show j4 F (n : Int) B least (k : Int) (l.length : Int) (pk l) (zZ F (n : Int) B least (k : Int) (l.length : Int) (pk l) j) out (p : Int) (out.length : Int) = _
    unfold j4
    by_cases hlt : out.length < n
    · rw [if_pos (by simp; omega), qkx (by omega) hl hm k1 (by omega) hp, show n - out.length = (n - (out.length + 1)) + 1 from by omega]
      simp only [Option.bind_some, pkR]
      cases hO : pkO l B out.length p with
      | none => rfl
      | some o =>
        obtain ⟨o1, o2, o3⟩ := qmP k1.1 hp hO
        simp only [Bool.not_true, Bool.false_eq_true, if_false, Option.bind_some]
        have hfr : gkc (pkF out out.length o.1.toNat) = 0 := by
          unfold pkF
          split
          · rw [List.getD_eq_getElem?_getD]
            by_cases hq : out.length - o.1.toNat < out.length
            · rw [List.getElem?_eq_getElem hq]; exact hg _ (List.getElem_mem hq)
            · rw [List.getElem?_eq_none (by omega)]; decide
          · decide
        have hstep : ∀ fr : List Int, fr = pkF out out.length o.1.toNat → ((vb F (l.length : Int) (pk l) (o.2 : Int) (out.length : Int) fr o.1 least (k : Int)).bind fun x488 => (if ((x488.2.2 : Int) != 0) then some (([] : List (List Int)), false) else ((app 2199023255552 out ([x488.1] : List (List Int))).bind fun x494 => vy F (zZ F (n : Int) B least (k : Int) (l.length : Int) (pk l) j) (out.length : Int) x494 x488.2.1))) = some (match (rdl l o.2 (out.length : Int) (pkF out out.length o.1.toNat) o.1 least k).bind fun r => pkR l B least k (n - (out.length + 1)) (out ++ [r.1]) r.2 with | none => ([], false) | some r => (r.1, decide (r.2 = l.length))) := by
          intro fr hfe
          subst hfe
          rw [qiN hF k3 k4 hl hm (by unfold Nd; omega) o3 (fun _ => hfr) k2]
          simp only [Option.bind_some]
          cases hr : rdl l o.2 (out.length : Int) (pkF out out.length o.1.toNat) o.1 least k with
          | none => rfl
          | some r =>
            obtain ⟨r1, r2, r3, r4, r5⟩ := qiF hl k3 hr
            simp only [Option.bind_some]
            rw [if_neg (by simp), vp (by simp; omega)]
            simp only [Option.bind_some]
            unfold vy
            have hl1 : (out ++ [r.1]).length = out.length + 1 := by simp
            have hrec := qiC hF hl hm hh hn j r.2 (out ++ [r.1]) (by omega) (by omega) r5 (fun x hx => by
              rcases List.mem_append.1 hx with hx | hx
              · exact hg x hx
              · simp at hx; subst hx; exact r1)
            rw [hl1] at hrec
            rw [qs (by omega), hrec]
        by_cases h0 : 0 < o.1
        · rw [if_pos (by simpa using h0), zg (by omega) (by omega), show ((out.length : Int) - o.1) = ((out.length - o.1.toNat : Nat) : Int) from by omega, qfe (by omega)]
          simp only [Option.bind_some]
          exact hstep _ (by unfold pkF; rw [if_pos (by omega)])
        · rw [if_neg (by simpa using h0)]
          exact hstep _ (by unfold pkF; rw [if_neg (by omega)])
    · rw [if_neg (by simp; omega), show n - out.length = 0 from by omega]
      unfold qa9
      simp only [pkR]
      congr 2
      by_cases hpl : p = l.length
      · subst hpl; simp
      · rw [decide_eq_false hpl]; simp; omega
def pcE (N B least k m : Int) (b : List Int) : Int := if N < 0 ∨ 100 < N then 3 else if hcE B least k ≠ 0 then hcE B least k else chkOf m b
def prd (N B least k m : Int) (b : List Int) : List (List Int) × Int :=
  if pcE N B least k m b ≠ 0 then ([], pcE N B least k m b) else
  match pkR (bl b m.toNat) B least k.toNat N.toNat [] 0 with
  | none => ([], 1)
  | some r => if r.2 = m.toNat ∧ pkE r.1 B least k = 0 ∧ pk (pkA r.1 B least k.toNat r.1.length).1 = b then (r.1, 0) else ([], 1)
theorem qjv {F : Nat} {N B least k m : Int} {b : List Int} (hb : U8s b) (hm : I64 m) (lb : b.length ≤ 9223372036854775807) : qbh F N B least k m b = some (pcE N B least k m b) := by
  unfold qbh pcE
  by_cases h1 : N < 0 ∨ 100 < N
  · rw [if_pos (by simpa using h1), if_pos h1]
  · rw [if_neg (by simpa using h1), if_neg h1, qen]
    simp only [Option.bind_some]
    by_cases h2 : hcE B least k = 0
    · rw [if_neg (by simp [h2]), if_neg (by simp [h2]), qe5 hb hm.1 hm.2 lb]
      rfl
    · rw [if_pos (by simpa using h2), if_pos h2]
theorem qmL {N B least k m : Int} {b : List Int} (hb : U8s b) (h : pcE N B least k m b = 0) : ∃ (n : Nat) (l : List Int), N = (n : Int) ∧ n ≤ 100 ∧ hcE B least k = 0 ∧ Bit l ∧ l.length ≤ 8192 ∧ m = (l.length : Int) ∧ b = pk l := by
  unfold pcE at h
  by_cases h1 : N < 0 ∨ 100 < N
  · rw [if_pos h1] at h; simp at h
  · rw [if_neg h1] at h
    by_cases h2 : hcE B least k = 0
    · rw [if_neg (by simp [h2])] at h
      rcases qe6 hb (n := m) with h3 | ⟨l, hl, hm, e1, e2⟩
      · exact absurd h h3
      · exact ⟨N.toNat, l, by omega, by omega, h2, hl, hm, e1, e2⟩
    · rw [if_pos h2] at h; exact absurd h h2
theorem qmV {F : Nat} (hF : 2000000 ≤ F) {N B least k m : Int} {b : List Int} (hb : U8s b) (hm : I64 m) (lb : b.length ≤ 9223372036854775807) : qbP F N B least k m b = some (prd N B least k m b) := by
  unfold qbP prd
  rw [qjv hb hm lb]
  simp only [Option.bind_some]
  by_cases h : pcE N B least k m b = 0
  · rw [if_neg (by simp [h]), if_neg (by simp [h])]
    obtain ⟨n, l, rfl, hn, hh, hl, hlm, rfl, rfl⟩ := qmL hb h
    obtain ⟨k1, k2, k', rfl, k3, k4⟩ := qbb hh
    have hL := qiC (F := F) hF hl hlm hh hn F 0 [] (by simp; omega) (Nat.zero_le _) (Nat.zero_le _) (by simp)
    have hL' : qcm F (n : Int) B least (k' : Int) (l.length : Int) (pk l) = _ := hL
    rw [hL']
    simp only [Option.bind_some, List.length_nil, Nat.sub_zero, Int.toNat_natCast, qbd hl]
    cases hr : pkR l B least k' n [] 0 with
    | none => rfl
    | some r =>
      simp only
      by_cases hp : r.2 = l.length
      · rw [decide_eq_true hp, if_neg (by simp), qgz hF]
        simp only [Option.bind_some]
        unfold pwr qat
        by_cases hE : pkE r.1 B least (k' : Int) = 0
        · rw [if_neg (by simp [hE])]
          simp only [Int.toNat_natCast]
          obtain ⟨_, _, hA⟩ := qcU hE
          rw [Int.toNat_natCast] at hA
          rw [if_neg (by simp [hE]), peqb (by rw [qcV]; omega) (by rw [qcV]; omega)]
          simp only [Option.bind_some]
          by_cases hq : pk (pkA r.1 B least k' r.1.length).1 = pk l
          · rw [decide_eq_true hq, if_neg (by simp), if_pos ⟨hp, hE, hq⟩]
          · rw [decide_eq_false hq, if_pos (by simp), if_neg (fun hc => hq hc.2.2)]
        · rw [if_pos hE, if_pos (by simpa using hE), if_pos rfl, if_neg (fun hc => hE hc.2.1)]
      · rw [decide_eq_false hp, if_pos (by simp), if_neg (fun hc => hp hc.1)]
  · rw [if_pos (by simpa using h), if_pos h]
theorem qm4 {l : List Int} (hl : Bit l) {p : Nat} {most : Int} {x : Int × Nat} (h : rgam l p most = some x) : x.2 = p + (ga x.1.toNat).length := by
  have hf := (qkH h).1
  unfold fg at hf
  cases hz : fz (l.drop p) with
  | none => rw [hz] at hf; simp at hf
  | some k =>
    rw [hz] at hf
    simp only at hf
    unfold numOf at hf
    by_cases h1 : 64 ≤ k
    · rw [if_pos h1] at hf; simp at hf
    · rw [if_neg h1] at hf
      by_cases h2 : l.length < p + k + 1 + k
      · rw [if_pos h2] at hf; simp at hf
      · rw [if_neg h2] at hf
        by_cases h3 : 1099511627776 < bv ((l.drop (p + k + 1)).take k) + 2 ^ k - 1
        · rw [if_pos h3] at hf; simp at hf
        · rw [if_neg h3] at hf
          simp only [Prod.mk.injEq, and_true] at hf
          have hb := qj3 (qdN (qcP hl (p + k + 1)) k)
          rw [List.length_take, List.length_drop, Nat.min_eq_left (by omega)] at hb
          have hp0 : 0 < 2 ^ k := Nat.pow_pos (by decide)
          have hn : x.1.toNat = bv ((l.drop (p + k + 1)).take k) + 2 ^ k - 1 := by omega
          have hlg : lg x.1.toNat = k := qlq (by omega) (by rw [Nat.pow_succ]; omega)
          rw [qhi, hlg]
          omega
theorem qos {l : List Int} (hl : Bit l) {B : Int} (hB : 0 ≤ B) {node p : Nat} {o : Int × Nat} (h : pkO l B node p = some o) : o.2 = p + (pkH B o.1.toNat).length := by
  unfold pkO at h
  unfold pkH
  split at h
  · rename_i h0
    simp only [Option.some.injEq] at h
    subst h
    rw [if_neg (by omega)]
    simp
  · rw [if_pos (by omega)]
    exact qm4 hl h
theorem qim {g : List (List Int)} {x : List Int} {i : Nat} (h : i < g.length) : (g ++ [x]).getD i [] = g.getD i [] := by
  rw [List.getD_eq_getElem?_getD, List.getD_eq_getElem?_getD, List.getElem?_append_left h]
theorem qks {g : List (List Int)} {x : List Int} {i r : Nat} (h : i ≤ g.length) (hr : r ≤ i) : pkF (g ++ [x]) i r = pkF g i r := by
  unfold pkF
  split
  · exact qim (by omega)
  · rfl
theorem qor {g : List (List Int)} {x : List Int} {B least : Int} {k i : Nat} (h : i < g.length) : pkN (g ++ [x]) B least k i = pkN g B least k i := by
  unfold pkN
  refine qgi fun r hr => ?_
  unfold pkW
  rw [qim h, qks (by omega) (by omega)]
theorem qkr {g : List (List Int)} {x : List Int} {B least : Int} {k : Nat} : ∀ {i : Nat}, i ≤ g.length → pkA (g ++ [x]) B least k i = pkA g B least k i
  | 0, _ => rfl
  | i + 1, h => by
    unfold pkA
    rw [qkr (i := i) (by omega), qor (by omega)]
theorem qiz {l : List Int} (hl : Bit l) {B least : Int} {k : Nat} (hB : 0 ≤ B) (hk : 1 ≤ k) : ∀ (m p : Nat) (out : List (List Int)) (r : List (List Int) × Nat), pkR l B least k m out p = some r → p ≤ l.length → (pkA out B least k out.length).1.length ≤ p →
    r.1.length = out.length + m ∧ (pkA r.1 B least k r.1.length).1.length ≤ r.2
  | 0, p, out, r, h, _, hA => by
    simp only [pkR, Option.some.injEq] at h
    subst h
    exact ⟨rfl, hA⟩
  | m + 1, p, out, r, h, hp, hA => by
    unfold pkR at h
    rw [Option.bind_eq_some_iff] at h
    obtain ⟨o, ho, h⟩ := h
    rw [Option.bind_eq_some_iff] at h
    obtain ⟨d, hd, h⟩ := h
    obtain ⟨o1, o2, o3⟩ := qmP hB hp ho
    have hol := qos hl hB ho
    obtain ⟨d1, d2, d3, d4, d5⟩ := qiF hl hk hd
    have hn1 : (out ++ [d.1]).length = out.length + 1 := by simp
    have hmin := qj4 (pkW (out ++ [d.1]) B least k out.length) (n := min B.toNat out.length) (r := o.1.toNat) (by omega)
    have hW : (pkW (out ++ [d.1]) B least k out.length o.1.toNat).length = (pkH B o.1.toNat).length + (enc (out.length : Int) d.1 (pkF out out.length o.1.toNat) o.1 least k).length := by
      unfold pkW
      rw [List.length_append, qks (Nat.le_refl _) (by omega), show ((o.1.toNat : Nat) : Int) = o.1 from by omega]
      congr 3
      rw [List.getD_eq_getElem?_getD, List.getElem?_append_right (Nat.le_refl _)]
      simp
    have hrec := qiz hl hB hk m d.2 (out ++ [d.1]) r h d5 (by
      rw [hn1, pkA, List.length_append, qkr (Nat.le_refl _)]
      unfold pkN
      omega)
    rw [hn1] at hrec
    exact ⟨by omega, hrec.2⟩
theorem qmU {g : List (List Int)} {B least k : Int} (h : pkE g B least k = 0) : prd (g.length : Int) B least k ((pkA g B least k.toNat g.length).1.length : Int) (pk (pkA g B least k.toNat g.length).1) = (g, 0) := by
  obtain ⟨h1, h2, h3⟩ := qcU h
  have hg := qcr.1 h1
  have hgl := hg.1
  obtain ⟨k1, k2, k', rfl, k3, k4⟩ := qbb h2
  rw [Int.toNat_natCast] at h3 ⊢
  have hE : pcE (g.length : Int) B least (k' : Int) ((pkA g B least k' g.length).1.length : Int) (pk (pkA g B least k' g.length).1) = 0 := by
    unfold pcE
    rw [if_neg (by omega), if_neg (by simp [h2]), qe7 h3]
  have hr := qhu hg h2 h3 [] g.length 0 (by omega)
  have hr' : pkR (pkA g B least k' g.length).1 B least k' g.length [] 0 = some (g, (pkA g B least k' g.length).1.length) := by
    rw [List.append_nil] at hr
    exact hr
  unfold prd
  rw [if_neg (by simp [hE])]
  simp only [Int.toNat_natCast]
  rw [qbd (qcx _), hr']
  simp only
  rw [if_pos ⟨trivial, h, trivial⟩]
theorem qpP {N B least k m : Int} {b : List Int} (hb : U8s b) (h : (prd N B least k m b).2 = 0) : ∃ g, prd N B least k m b = (g, 0) ∧ pkE g B least k = 0 ∧ N = (g.length : Int) ∧ m = ((pkA g B least k.toNat g.length).1.length : Int) ∧ b = pk (pkA g B least k.toNat g.length).1 := by
  have h0 := h
  unfold prd at h
  by_cases hE : pcE N B least k m b = 0
  · rw [if_neg (by simp [hE])] at h
    obtain ⟨n, l, rfl, hn, hh, hl, hlm, rfl, rfl⟩ := qmL hb hE
    obtain ⟨k1, k2, k', rfl, k3, k4⟩ := qbb hh
    simp only [Int.toNat_natCast, qbd hl] at h
    cases hr : pkR l B least k' n [] 0 with
    | none => rw [hr] at h; simp at h
    | some r =>
      rw [hr] at h
      simp only at h
      split at h
      · rename_i hc
        obtain ⟨c1, c2, c3⟩ := hc
        obtain ⟨g1, g2, g3⟩ := qcU c2
        rw [Int.toNat_natCast] at g3
        have hg := qcr.1 g1
        obtain ⟨b1, b2⟩ := qiz hl k1.1 k3 n 0 [] r hr (Nat.zero_le _) (by simp [pkA])
        rw [List.length_nil, Nat.zero_add] at b1
        have hq : l = (pkA r.1 B least k' r.1.length).1 ++ l.drop (pkA r.1 B least k' r.1.length).1.length := by
          have e1 : l.take (pkA r.1 B least k' r.1.length).1.length = (pkA r.1 B least k' r.1.length).1 := by
            have := qnY (b := pk l) (n := (pkA r.1 B least k' r.1.length).1.length) (m := l.length) (by omega)
            rw [qbd hl, ← c3, qbd (qcx _)] at this
            exact this
          conv => lhs; rw [← List.take_append_drop (pkA r.1 B least k' r.1.length).1.length l, e1]
        have hr2 := qhu hg hh g3 (l.drop (pkA r.1 B least k' r.1.length).1.length) r.1.length 0 (by omega)
        rw [← hq] at hr2
        have hr3 : pkR l B least k' n [] 0 = some (r.1, (pkA r.1 B least k' r.1.length).1.length) := by
          rw [← b1]; exact hr2
        rw [hr] at hr3
        have e2 : r.2 = (pkA r.1 B least k' r.1.length).1.length := by
          have := Option.some.inj hr3
          rw [this]
        refine ⟨r.1, ?_, c2, by omega, by rw [Int.toNat_natCast]; omega, by rw [Int.toNat_natCast]; exact c3.symm⟩
        unfold prd
        rw [if_neg (by simp [hE])]
        simp only [Int.toNat_natCast, qbd hl, hr]
        rw [if_pos ⟨c1, c2, c3⟩]
      · simp at h
  · rw [if_pos hE] at h
    exact absurd h hE
def pkSome : List (List Int) := [[1, 2, 3, 5], [1, 2, 3, 5], [0, 1, 2, 3, 5], [], [4], [1, 2, 3]]
def plc (bit : Int) : List Int → Nat → Option Nat
  | [], _ => none
  | x :: l, i => if x = bit then (match i with | 0 => some 0 | i + 1 => (plc bit l i).map (· + 1)) else (plc bit l i).map (· + 1)
theorem qfu (bit x : Int) (l : List Int) (i : Nat) : plc bit (x :: l) i = if x = bit then (match i with | 0 => some 0 | i + 1 => (plc bit l i).map (· + 1)) else (plc bit l i).map (· + 1) := rfl
theorem qhv {F : Nat} {l : List Int} (hl : Bit l) (hm : l.length ≤ 10000) (bit : Int) : ∀ (k j i : Nat), l.length < k + j → j ≤ l.length → i < 9223372036854775808 →
    (∃ s, plc bit (l.drop j) i = none ∧ qC F (fun (x31 : Int) (x37 : Int) => qE F x31 x37) (l.length : Int) (pk l) bit k ((j : Int), (i : Int)) = some (.inl s)) ∨
    (∃ a q, plc bit (l.drop j) i = some a ∧ qC F (fun (x31 : Int) (x37 : Int) => qE F x31 x37) (l.length : Int) (pk l) bit k ((j : Int), (i : Int)) = some (.inr (((j + a : Nat) : Int), q)))
  | 0, _, _, _, _, _ => by omega
  | k + 1, j, i, h, hj, hi => by
    have e : qC F (fun (x31 : Int) (x37 : Int) => qE F x31 x37) (l.length : Int) (pk l) bit (k + 1) ((j : Int), (i : Int)) =
      ko F (fun (x31 : Int) (x37 : Int) => qE F x31 x37) (l.length : Int) (pk l) bit (qC F (fun (x31 : Int) (x37 : Int) => qE F x31 x37) (l.length : Int) (pk l) bit k) (j : Int) (i : Int) := rfl
    rw [e]
    unfold ko
    by_cases hlt : j < l.length
    · rw [if_pos (by simp; omega), qh7 hl (by omega) hlt, List.drop_eq_getElem_cons hlt, qfu]
      simp only [Option.bind_some]
      by_cases h1 : l[j] = bit
      · rw [if_pos h1, if_pos (by simpa using h1)]
        cases i with
        | zero =>
          right
          exact ⟨0, 0, rfl, rfl⟩
        | succ i =>
          have : qE F ((i + 1 : Nat) : Int) (j : Int) = some (.inl (i : Int)) := by
            unfold qE
            rw [if_neg (by simp; omega), qa1 (by omega) (by omega), Nat.add_sub_cancel]
          rw [this]
          simp only [Option.bind_some, Sum.elim_inl, zH]
          rw [qs (by omega)]
          rcases qhv (F := F) hl hm bit k (j + 1) i (by omega) (by omega) (by omega) with ⟨s, h2, h3⟩ | ⟨a, q, h2, h3⟩
          · left; exact ⟨s, by rw [h2]; rfl, h3⟩
          · right; exact ⟨a + 1, q, by rw [h2]; rfl, by rw [h3, show j + 1 + a = j + (a + 1) from by omega]⟩
      · rw [if_neg h1, if_neg (by simpa using h1)]
        simp only [zH]
        rw [qs (by omega)]
        rcases qhv (F := F) hl hm bit k (j + 1) i (by omega) (by omega) hi with ⟨s, h2, h3⟩ | ⟨a, q, h2, h3⟩
        · left; exact ⟨s, by rw [h2]; rfl, h3⟩
        · right; exact ⟨a + 1, q, by rw [h2]; rfl, by rw [h3, show j + 1 + a = j + (a + 1) from by omega]⟩
    · rw [if_neg (by simp; omega), List.drop_eq_nil_of_le (by omega)]
      left; exact ⟨_, rfl, rfl⟩
theorem qft {F : Nat} (hF : 20000 ≤ F) {l : List Int} (hl : Bit l) (hm : l.length ≤ 10000) {bit : Int} {i : Nat} (hi : i < 9223372036854775808) :
    vm F (l.length : Int) (pk l) bit (i : Int) = some (match plc bit l i with | none => -1 | some a => (a : Int)) := by
  unfold vm
  simp only [qaY, Option.bind_some, j8]
  rcases qhv (F := F) hl hm bit F 0 i (by omega) (by omega) hi with ⟨s, h2, h3⟩ | ⟨a, q, h2, h3⟩
  · rw [List.drop_zero] at h2
    rw [show ((0 : Nat) : Int) = 0 from rfl] at h3
    rw [h3, h2]; rfl
  · rw [List.drop_zero] at h2
    rw [show ((0 : Nat) : Int) = 0 from rfl] at h3
    rw [h3, h2, Nat.zero_add]; rfl
theorem qh9 : Bit [] := by intro x hx; simp at hx
theorem qjh {n m : Nat} (hm : m ≤ 62) (h : n * 2 ^ m < 9223372036854775808) : ishl .i64 (n : Int) (m : Int) = ((n * 2 ^ m : Nat) : Int) := by
  unfold ishl
  have h1 : min ((m : Int).toNat) (IntKind.bits .i64) = m := by simp [IntKind.bits]; omega
  rw [h1]
  have e : (n : Int) * 2 ^ m = ((n * 2 ^ m : Nat) : Int) := by rw [Int.natCast_mul, Int.natCast_pow]; rfl
  rw [e]
  generalize n * 2 ^ m = q at h
  exact zW (by omega) (by omega)
theorem qjj {n m : Nat} (hm : m ≤ 62) : ishr .i64 (n : Int) (m : Int) = ((n / 2 ^ m : Nat) : Int) := by
  rw [qc4 (by simp only [IntKind.bits]; omega)]
  norm_cast
theorem qpJ {n m : Nat} (hm : m ≤ 62) (hn : n < 9223372036854775808) : iand .i64 (n : Int) ((2 ^ m - 1 : Nat) : Int) = ((n % 2 ^ m : Nat) : Int) := by
  unfold iand
  have h1 : (BitVec.ofInt (IntKind.bits .i64) (n : Int)) = BitVec.ofNat 64 n := by simp [IntKind.bits]
  have h2 : (BitVec.ofInt (IntKind.bits .i64) ((2 ^ m - 1 : Nat) : Int)) = BitVec.ofNat 64 (2 ^ m - 1) := by simp [IntKind.bits]
  have h3 : 2 ^ m ≤ 2 ^ 62 := Nat.pow_le_pow_right (by decide) hm
  rw [show (2 : Nat) ^ 62 = 4611686018427387904 from by decide] at h3
  rw [h1, h2]
  have h4 : (BitVec.ofNat 64 n &&& BitVec.ofNat 64 (2 ^ m - 1)).toNat = n % 2 ^ m := by
    rw [BitVec.toNat_and, BitVec.toNat_ofNat, BitVec.toNat_ofNat, Nat.mod_eq_of_lt (a := n) (by omega), Nat.mod_eq_of_lt (a := 2 ^ m - 1) (by omega), Nat.and_two_pow_sub_one_eq_mod]
  show IntKind.wrap .i64 ((BitVec.ofNat 64 n &&& BitVec.ofNat 64 (2 ^ m - 1)).toNat : Int) = _
  rw [h4]
  have := Nat.mod_le n (2 ^ m)
  generalize n % 2 ^ m = q at this
  exact zW (by omega) (by omega)
theorem qhm {a b : Nat} (h : a * b < 9223372036854775808) : imul .i64 (a : Int) (b : Int) = ((a * b : Nat) : Int) := by
  unfold imul
  rw [← Int.natCast_mul]
  generalize a * b = q at h
  exact zW (by omega) (by omega)
def wd (n t : Nat) : Nat := if n = 0 then 0 else len ((t + 1) / n) - 1
theorem qo7 {n t w : Nat} (hn : n ≠ 0) : n * 2 ^ (w + 1) ≤ t + 1 ↔ w < wd n t := by
  unfold wd
  rw [if_neg hn]
  have h1 := qb7 (x := (t + 1) / n) (k := w + 1)
  have h2 := Nat.le_div_iff_mul_le (x := 2 ^ (w + 1)) (y := t + 1) (k := n) (by omega)
  rw [Nat.mul_comm] at h2
  omega
theorem qiZ {n t : Nat} (ht : t ≤ 1048576) : wd n t ≤ 20 := by
  unfold wd
  split
  · omega
  · have h1 : (t + 1) / n ≤ t + 1 := Nat.div_le_self _ _
    have h2 : len ((t + 1) / n) ≤ 21 := qb7.2 (by omega)
    omega
theorem qk5 {F n t : Nat} (hn : n ≤ 300) (ht : t ≤ 1048576) : ∀ (k w : Nat), wd n t < k + w → w ≤ wd n t →
    kn F (n : Int) (t : Int) k (w : Int) = some ((wd n t : Nat) : Int)
  | 0, _, _, _ => by omega
  | k + 1, w, h, hw => by
    show jF F (n : Int) (t : Int) (kn F (n : Int) (t : Int) k) (w : Int) = _
    unfold jF
    have h20 := qiZ (n := n) ht
    by_cases h0 : n = 0
    · subst h0
      have : wd 0 t = 0 := rfl
      rw [if_neg (by simp)]
      unfold yT
      rw [if_neg (by simp)]
      obtain rfl : w = 0 := by omega
      rw [this]; rfl
    · have hp : 2 ^ (w + 1) ≤ 2 ^ 21 := Nat.pow_le_pow_right (by decide) (by omega)
      have hm : n * 2 ^ (w + 1) ≤ 300 * 2 ^ 21 := Nat.mul_le_mul hn hp
      rw [show (300 : Nat) * 2 ^ 21 = 629145600 from by decide] at hm
      have hc : decide ((0 : Int) ≤ ((w + 1 : Nat) : Int)) = true := decide_eq_true (by omega)
      rw [if_pos (by simp; omega), qs (by omega), hc]
      simp only [chk, if_true]
      rw [qjh (by omega) (by omega), qs (by omega)]
      unfold yT
      have hs := qo7 (n := n) (t := t) (w := w) h0
      by_cases hlt : w < wd n t
      · rw [if_pos (by simp only [decide_eq_true_eq]; have := hs.2 hlt; omega), qs (by omega)]
        exact qk5 hn ht k (w + 1) (by omega) (by omega)
      · rw [if_neg (by simp only [decide_eq_true_eq]; intro hh; exact hlt (hs.1 (by omega)))]
        obtain rfl : w = wd n t := by omega
        rfl
theorem qi1 {F n t : Nat} (hF : 20000 ≤ F) (hn : n ≤ 300) (ht : t ≤ 1048576) : qao F (n : Int) (t : Int) = some ((wd n t : Nat) : Int) := by
  unfold qao
  have := qiZ (n := n) ht
  exact qk5 hn ht F 0 (by omega) (by omega)
def fk (t : Int) : Int → List Int → Int
  | _, [] => 0
  | last, n :: l => if 0 ≤ n ∧ n ≤ t then (if n < last then 4 else fk t n l) else 3
def fkc (l : List Int) (t : Int) : Int := if 0 ≤ t ∧ t ≤ 1048576 then (if 300 < l.length then 2 else fk t 0 l) else 3
theorem qig {F : Nat} {t : Int} {l : List Int} (hm : l.length ≤ 300) : ∀ (k i : Nat) (last : Int), l.length < k + i → i ≤ l.length →
    yl F l t k (last, (i : Int)) = some (fk t last (l.drop i))
  | 0, _, _, _, _ => by omega
  | k + 1, i, last, h, hi => by
    show jZ F l t (yl F l t k) last (i : Int) = _
    unfold jZ
    by_cases hlt : i < l.length
    · rw [if_pos (by simp; omega), qR, List.getElem?_eq_getElem hlt, List.drop_eq_getElem_cons hlt, fk]
      simp only [Option.bind_some]
      by_cases h1 : 0 ≤ l[i] ∧ l[i] ≤ t
      · rw [if_pos h1, if_neg (by simp; omega)]
        by_cases h2 : l[i] < last
        · rw [if_pos h2, if_pos (by simpa using h2)]
        · rw [if_neg h2, if_neg (by simpa using h2), qs (by omega)]
          exact qig hm k (i + 1) _ (by omega) (by omega)
      · rw [if_neg h1, if_pos (by simp; omega)]
    · rw [if_neg (by simp; omega), List.drop_eq_nil_of_le (by omega)]
      rfl
theorem qgn {F : Nat} (hF : 20000 ≤ F) {l : List Int} {t : Int} : qam F l t = some (fkc l t) := by
  unfold qam fkc
  by_cases h1 : 0 ≤ t ∧ t ≤ 1048576
  · rw [if_pos h1, if_neg (by simp; omega)]
    by_cases h : 300 < l.length
    · rw [if_pos h, if_pos (by simp; omega)]
    · rw [if_neg h, if_neg (by simp; omega)]
      exact qig (by omega) F 0 0 (by omega) (by omega)
  · rw [if_neg h1, if_pos (by simp; omega)]
def Up (t : Nat) : Nat → List Nat → Prop
  | _, [] => True
  | last, n :: l => last ≤ n ∧ n ≤ t ∧ Up t n l
def lc (l : List Nat) : List Int := l.map fun x : Nat => (x : Int)
theorem qbc (l : List Nat) : (lc l).length = l.length := by simp [lc]
theorem qpd {t : Nat} : ∀ {l : List Int} {last : Nat}, fk (t : Int) (last : Int) l = 0 ↔ ∃ ns, l = lc ns ∧ Up t last ns
  | [], last => by
    constructor
    · intro _; exact ⟨[], rfl, trivial⟩
    · intro _; rfl
  | n :: l, last => by
    unfold fk
    by_cases h1 : 0 ≤ n ∧ n ≤ (t : Int)
    · rw [if_pos h1]
      obtain ⟨n, rfl⟩ := Int.eq_ofNat_of_zero_le h1.1
      by_cases h2 : (n : Int) < (last : Int)
      · rw [if_pos h2]
        constructor
        · intro h; simp at h
        · rintro ⟨ns, e, hu⟩
          cases ns with
          | nil => simp [lc] at e
          | cons m ns => simp [lc] at e; have := hu.1; omega
      · rw [if_neg h2, qpd]
        constructor
        · rintro ⟨ns, rfl, hu⟩; exact ⟨n :: ns, rfl, by omega, by omega, hu⟩
        · rintro ⟨ns, e, hu⟩
          cases ns with
          | nil => simp [lc] at e
          | cons m ns =>
            simp [lc] at e
            obtain ⟨e1, rfl⟩ := e
            obtain rfl : n = m := by omega
            exact ⟨ns, rfl, hu.2.2⟩
    · rw [if_neg h1]
      constructor
      · intro h; simp at h
      · rintro ⟨ns, e, hu⟩
        cases ns with
        | nil => simp [lc] at e
        | cons m ns =>
          simp [lc] at e
          have := hu.2.1
          exact absurd ⟨by omega, by omega⟩ h1
theorem qej {l : List Int} {t : Int} : fkc l t = 0 ↔ ∃ (ns : List Nat) (k : Nat), t = k ∧ k ≤ 1048576 ∧ l = lc ns ∧ ns.length ≤ 300 ∧ Up k 0 ns := by
  unfold fkc
  by_cases h1 : 0 ≤ t ∧ t ≤ 1048576
  · rw [if_pos h1]
    obtain ⟨t, rfl⟩ := Int.eq_ofNat_of_zero_le h1.1
    by_cases h : 300 < l.length
    · rw [if_pos h]
      constructor
      · intro h; simp at h
      · rintro ⟨ns, k, _, _, rfl, h3, _⟩; rw [qbc] at h; omega
    · rw [if_neg h]
      have := qpd (t := t) (l := l) (last := 0)
      rw [show ((0 : Nat) : Int) = 0 from rfl] at this
      rw [this]
      constructor
      · rintro ⟨ns, rfl, hu⟩; exact ⟨ns, t, rfl, by omega, rfl, by rw [qbc] at h; omega, hu⟩
      · rintro ⟨ns, k, e, _, rfl, _, hu⟩
        obtain rfl : t = k := by omega
        exact ⟨ns, rfl, hu⟩
  · rw [if_neg h1]
    constructor
    · intro h; simp at h
    · rintro ⟨ns, k, rfl, h2, _⟩; exact absurd ⟨by omega, by omega⟩ h1
theorem qk4 {t : Nat} : ∀ {l : List Nat} {a : Nat}, Up t a l → ∀ x ∈ l, a ≤ x ∧ x ≤ t
  | [], _, _ => by intro x hx; simp at hx
  | n :: l, a, h => by
    intro x hx
    rcases List.mem_cons.1 hx with rfl | hx
    · exact ⟨h.1, h.2.1⟩
    · have := qk4 h.2.2 x hx; have := h.1; omega
def lo' (w : Nat) (l : List Nat) : List Int := l.flatMap fun x => nb x w
theorem qcR (w x : Nat) (l : List Nat) : lo' w (x :: l) = nb x w ++ lo' w l := rfl
theorem qko (w : Nat) : ∀ l : List Nat, (lo' w l).length = l.length * w
  | [] => by simp [lo']
  | x :: l => by rw [qcR, List.length_append, qaA, qko w l, List.length_cons, Nat.add_mul, Nat.one_mul, Nat.add_comm]
theorem qdX (w : Nat) : ∀ l : List Nat, Bit (lo' w l)
  | [] => by intro x hx; simp [lo'] at hx
  | x :: l => by rw [qcR]; exact zL (qfq _ _) (qdX w l)
def hp (w last : Nat) : Nat → List Nat → List Int
  | a, [] => List.replicate (last - a) 0
  | a, x :: l => List.replicate (x / 2 ^ w - a) 0 ++ (1 :: hp w last (x / 2 ^ w) l)
theorem qeo (w last : Nat) : ∀ (a : Nat) (l : List Nat), Bit (hp w last a l)
  | a, [] => qco _
  | a, x :: l => by
    rw [hp]
    exact zL (qco _) (by
      intro y hy
      rcases List.mem_cons.1 hy with rfl | hy
      · right; rfl
      · exact qeo w last _ l y hy)
theorem qmt {w t : Nat} : ∀ {a : Nat} {l : List Nat}, Up t a l → (hp w (t / 2 ^ w + 1) (a / 2 ^ w) l).length = l.length + (t / 2 ^ w + 1 - a / 2 ^ w)
  | a, [], _ => by simp [hp]
  | a, x :: l, h => by
    have h1 : a / 2 ^ w ≤ x / 2 ^ w := Nat.div_le_div_right h.1
    have h2 : x / 2 ^ w ≤ t / 2 ^ w := Nat.div_le_div_right h.2.1
    have := qmt (w := w) h.2.2
    rw [hp, List.length_append, List.length_replicate, List.length_cons, List.length_cons, this]
    omega
def loF (t : Nat) (l : List Nat) : List Int := lo' (wd l.length t) l
def hiF (t : Nat) (l : List Nat) : List Int := hp (wd l.length t) (t / 2 ^ wd l.length t + 1) 0 l
theorem qct (t : Nat) (l : List Nat) : (loF t l).length = l.length * wd l.length t := qko _ _
theorem qdU {t : Nat} {l : List Nat} (h : Up t 0 l) : (hiF t l).length = l.length + (t / 2 ^ wd l.length t + 1) := by
  have := qmt (w := wd l.length t) h
  rw [Nat.zero_div, Nat.sub_zero] at this
  exact this
def Fits (t : Nat) (l : List Nat) : Prop := l.length * wd l.length t ≤ 8192 ∧ l.length + (t / 2 ^ wd l.length t + 1) ≤ 8192
instance fitsDec (t : Nat) (l : List Nat) : Decidable (Fits t l) := inferInstanceAs (Decidable (_ ∧ _))
theorem qm5 {F : Nat} (hF : 20000 ≤ F) {to : Nat} (hto : to ≤ 10000) : ∀ (k a : Nat) (l : List Int), to < k + a → a ≤ to → Bit l → l.length + (to - a) ≤ 8192 →
    zB F (to : Int) k ((l.length : Int), pk l, (a : Int)) = some (((l ++ List.replicate (to - a) 0).length : Int), pk (l ++ List.replicate (to - a) 0), (to : Int))
  | 0, _, _, _, _, _, _ => by omega
  | k + 1, a, l, h, ha, hl, hm => by
    show ye F (to : Int) (zB F (to : Int) k) (l.length : Int) (pk l) (a : Int) = _
    unfold ye
    by_cases hlt : a < to
    · have hadd := qdv (F := F) (n := 0) (w := 1) (l := l) (by decide) (by omega) hl (by omega) (by decide)
      rw [show ((0 : Nat) : Int) = 0 from rfl, show ((1 : Nat) : Int) = 1 from rfl, show nb 0 1 = [0] from rfl] at hadd
      rw [if_pos (by simp; omega), hadd]
      simp only [Option.bind_some]
      rw [qs (by omega), qm5 hF hto k (a + 1) (l ++ [0]) (by omega) (by omega) (zL hl (qco 1)) (by rw [List.length_append]; simp; omega)]
      have e : l ++ [0] ++ List.replicate (to - (a + 1)) 0 = l ++ List.replicate (to - a) 0 := by
        rw [List.append_assoc, show to - a = (to - (a + 1)) + 1 from by omega, List.replicate_succ]; rfl
      rw [e]
    · rw [if_neg (by simp; omega), show to - a = 0 from by omega]
      obtain rfl : a = to := by omega
      simp
theorem qkJ {F : Nat} (hF : 20000 ≤ F) {to a : Nat} {l : List Int} (ha : a ≤ to) (hto : to ≤ 10000) (hl : Bit l) (hm : l.length + (to - a) ≤ 8192) :
    k7 F (l.length : Int) (pk l) (a : Int) (to : Int) = some (((l ++ List.replicate (to - a) 0).length : Int), pk (l ++ List.replicate (to - a) 0), (to : Int)) := by
  unfold k7
  exact qm5 hF hto F a l (by omega) ha hl hm
def T8 (t : Nat) (l : List Nat) (e : Bool) : Int × Int × Int × Int × List Int × Int × List Int × Bool :=
  ((l.length : Int), (t : Int), (wd l.length t : Int), ((loF t l).length : Int), pk (loF t l), ((hiF t l).length : Int), pk (hiF t l), e)
theorem qpl {F w t : Nat} (hF : 20000 ≤ F) (hw : w ≤ 20) (ht : t ≤ 1048576) {l : List Nat} (hlm : l.length ≤ 300) (f1 : l.length * w ≤ 8192) (f2 : l.length + (t / 2 ^ w + 1) ≤ 8192) : ∀ (k i : Nat) (q : Nat) (L H : List Int), l.length < k + i → i ≤ l.length → Up t q (l.drop i) → Bit L → Bit H → L.length + (l.length - i) * w ≤ 8192 → H.length + (l.length - i) + (t / 2 ^ w + 1 - q / 2 ^ w) ≤ 8192 → q ≤ t →
    vJ F (lc l) (t : Int) (w : Int) k ((i : Int), (H.length : Int), pk H, ((q / 2 ^ w : Nat) : Int), (L.length : Int), pk L) =
      some ((l.length : Int), (t : Int), (w : Int), ((L ++ lo' w (l.drop i)).length : Int), pk (L ++ lo' w (l.drop i)), ((H ++ hp w (t / 2 ^ w + 1) (q / 2 ^ w) (l.drop i)).length : Int), pk (H ++ hp w (t / 2 ^ w + 1) (q / 2 ^ w) (l.drop i)), true)
  | 0, _, _, _, _, _, _, _, _, _, _, _, _ => by omega
  | k + 1, i, q, L, H, h, hi, hu, hL, hH, hLm, hHm, hq => by
    show qaQ F (lc l) (t : Int) (w : Int) (vJ F (lc l) (t : Int) (w : Int) k) (i : Int) (H.length : Int) (pk H) ((q / 2 ^ w : Nat) : Int) (L.length : Int) (pk L) = _
    unfold qaQ
    have hqt : q / 2 ^ w ≤ t / 2 ^ w := Nat.div_le_div_right hq
    by_cases hlt : i < l.length
    · rw [List.drop_eq_getElem_cons hlt] at hu ⊢
      have hx1 := hu.1; have hx2 := hu.2.1; have hx3 := hu.2.2
      have hg : (lc l)[i]? = some ((l[i] : Nat) : Int) := by simp [lc, hlt]
      have hc : decide ((0 : Int) ≤ (w : Int)) = true := decide_eq_true (by omega)
      have hp20 : 2 ^ w ≤ 2 ^ 20 := Nat.pow_le_pow_right (by decide) hw
      rw [show (2 : Nat) ^ 20 = 1048576 from by decide] at hp20
      have hp0 : 0 < 2 ^ w := Nat.pow_pos (by decide)
      have e1 : ishl .i64 1 (w : Int) = ((2 ^ w : Nat) : Int) := by
        have := qjh (n := 1) (m := w) (by omega) (by rw [Nat.one_mul]; omega)
        rwa [Nat.one_mul] at this
      have hd1 : q / 2 ^ w ≤ l[i] / 2 ^ w := Nat.div_le_div_right hx1
      have hd2 : l[i] / 2 ^ w ≤ t / 2 ^ w := Nat.div_le_div_right hx2
      have hsplit : (l.length - i) * w = w + (l.length - (i + 1)) * w := by
        rw [show l.length - i = (l.length - (i + 1)) + 1 from by omega, Nat.add_mul, Nat.one_mul, Nat.add_comm]
      rw [qbc, if_pos (by simp; omega), qR, hg]
      simp only [Option.bind_some]
      rw [hc]
      simp only [chk, if_true]
      have hmod : l[i] % 2 ^ w < 18446744073709551616 := by have := Nat.mod_le l[i] (2 ^ w); omega
      rw [e1, qa1 (by omega) (by omega), qpJ (by omega) (by omega), kA hmod, qdv hmod (by omega) hL (by omega) (by omega), qmD (Nat.le_refl _)]
      simp only [Option.bind_some]
      rw [qjj (by omega), qkJ hF hd1 (by omega) hH (by omega)]
      simp only [Option.bind_some]
      have hadd := qdv (F := F) (n := 1) (w := 1) (l := H ++ List.replicate (l[i] / 2 ^ w - q / 2 ^ w) 0) (by decide) (by omega) (zL hH (qco _)) (by rw [List.length_append, List.length_replicate]; omega) (by decide)
      rw [show ((1 : Nat) : Int) = 1 from rfl, show nb 1 1 = [1] from rfl] at hadd
      rw [hadd]
      simp only [Option.bind_some]
      rw [qs (by omega)]
      rw [qpl hF hw ht hlm f1 f2 k (i + 1) l[i] (L ++ nb l[i] w) (H ++ List.replicate (l[i] / 2 ^ w - q / 2 ^ w) 0 ++ [1]) (by omega) (by omega) hx3 (zL hL (qfq _ _)) (zL (zL hH (qco _)) qj1) (by rw [List.length_append, qaA]; omega) (by rw [List.length_append, List.length_append, List.length_replicate]; simp; omega) hx2]
      rw [hp, qcR]
      simp [List.append_assoc]
    · rw [qbc, if_neg (by simp; omega), List.drop_eq_nil_of_le (by omega)]
      unfold qb3
      rw [qjj (by omega), qs (by omega), qkJ hF (by omega) (by omega) hH (by omega)]
      simp [lo', hp, qbc]
theorem qkb {F t : Nat} (hF : 20000 ≤ F) (ht : t ≤ 1048576) {l : List Nat} (hlm : l.length ≤ 300) (hu : Up t 0 l) :
    qby F (lc l) (t : Int) = some (if Fits t l then T8 t l true else (0, 0, 0, 0, [], 0, [], false)) := by
  unfold qby
  have hw := qiZ (n := l.length) ht
  have hc : decide ((0 : Int) ≤ ((wd l.length t : Nat) : Int)) = true := decide_eq_true (by omega)
  have hdt : t / 2 ^ wd l.length t ≤ t := Nat.div_le_self _ _
  have hmul : l.length * wd l.length t ≤ 300 * 20 := Nat.mul_le_mul hlm hw
  rw [qbc, qi1 hF hlm ht]
  simp only [Option.bind_some]
  rw [hc]
  simp only [chk, if_true]
  rw [qhm (by omega), qjj (by omega), qs (by omega), jN (by omega)]
  by_cases hf : Fits t l
  · rw [if_neg (by have h1 := hf.1; have h2 := hf.2; simp only [Bool.or_eq_true, decide_eq_true_eq]; omega), if_pos hf]
    have := qpl (F := F) hF hw ht hlm hf.1 hf.2 F 0 0 [] [] (by omega) (by omega) (by rw [List.drop_zero]; exact hu) qh9 qh9 (by simp; exact hf.1) (by simp; exact hf.2) (by omega)
    rw [List.drop_zero, List.nil_append, List.nil_append, Nat.zero_div] at this
    exact this
  · rw [if_pos (by unfold Fits at hf; simp only [Bool.or_eq_true, decide_eq_true_eq]; omega), if_neg hf]
def nl (l : List Int) : List Nat := l.map Int.toNat
theorem qiu (l : List Nat) : nl (lc l) = l := by
  induction l with
  | nil => rfl
  | cons x l ih => simp only [nl, lc, List.map_cons, Int.toNat_natCast] at ih ⊢; rw [ih]
abbrev F8 := Int × Int × Int × Int × List Int × Int × List Int × Int
def fz8 (e : Int) : F8 := (0, 0, 0, 0, [], 0, [], e)
def fo8 (t : Nat) (l : List Nat) : F8 := ((l.length : Int), (t : Int), (wd l.length t : Int), ((loF t l).length : Int), pk (loF t l), ((hiF t l).length : Int), pk (hiF t l), 0)
def fw (l : List Int) (t : Int) : F8 := if fkc l t ≠ 0 then fz8 (fkc l t) else if Fits t.toNat (nl l) then fo8 t.toNat (nl l) else fz8 8
theorem qmj {l : List Int} {t : Int} (h : fkc l t ≠ 0) : fw l t = fz8 (fkc l t) := by unfold fw; rw [if_pos h]
theorem qkd {l : List Nat} {t : Nat} (ht : t ≤ 1048576) (hlm : l.length ≤ 300) (hu : Up t 0 l) : fkc (lc l) (t : Int) = 0 ∧ fw (lc l) (t : Int) = if Fits t l then fo8 t l else fz8 8 := by
  have h : fkc (lc l) (t : Int) = 0 := qej.2 ⟨l, t, rfl, ht, rfl, hlm, hu⟩
  refine ⟨h, ?_⟩
  unfold fw
  rw [h, if_neg (by simp), Int.toNat_natCast, qiu]
theorem qll {F : Nat} (hF : 20000 ≤ F) {l : List Int} {t : Int} : qal F l t = some (fw l t) := by
  unfold qal
  rw [qgn hF]
  simp only [Option.bind_some]
  by_cases h : fkc l t = 0
  · obtain ⟨ns, k, rfl, hk, rfl, hm, hu⟩ := qej.1 h
    rw [(qkd hk hm hu).2, h, if_neg (by simp), qkb hF hk hm hu]
    simp only [Option.bind_some]
    by_cases hf : Fits k ns
    · rw [if_pos hf, if_pos hf]; rfl
    · rw [if_neg hf, if_neg hf]; rfl
  · rw [if_pos (by simpa using h), qmj h]; rfl
theorem qkw (k : Nat) (r : List Int) (i : Nat) : plc 1 (List.replicate k 0 ++ r) i = (plc 1 r i).map (· + k) := by
  induction k with
  | zero => simp
  | succ k ih =>
    rw [List.replicate_succ, List.cons_append, qfu, if_neg (by decide), ih, Option.map_map]
    congr 1
theorem qmS {w last : Nat} : ∀ {l : List Nat} {a i : Nat}, (∀ x ∈ l, a ≤ x / 2 ^ w) → (∀ j x, l[j]? = some x → ∀ y ∈ l.drop (j + 1), x / 2 ^ w ≤ y / 2 ^ w) →
    plc 1 (hp w last a l) i = (l[i]?).map fun x => x / 2 ^ w - a + i
  | [], a, i, _, _ => by
    have := qkw (last - a) [] i
    rw [List.append_nil] at this
    rw [hp, this]; rfl
  | x :: l, a, i, h, hs => by
    have hx := h x List.mem_cons_self
    rw [hp, qkw, qfu, if_pos rfl]
    cases i with
    | zero => simp
    | succ i =>
      simp only
      have h0 := hs 0 x rfl
      rw [List.drop_succ_cons, List.drop_zero] at h0
      rw [qmS (a := x / 2 ^ w) h0 (fun j y hj => by
        have := hs (j + 1) y (by simpa using hj)
        rwa [List.drop_succ_cons] at this)]
      simp only [List.getElem?_cons_succ, Option.map_map]
      cases hl : l[i]? with
      | none => rfl
      | some y =>
        have := h0 y (List.mem_of_getElem? hl)
        simp only [Option.map_some, Function.comp]
        congr 1
        omega
theorem qhP {t w : Nat} : ∀ {l : List Nat} {a : Nat}, Up t a l → ∀ j x, l[j]? = some x → ∀ y ∈ l.drop (j + 1), x / 2 ^ w ≤ y / 2 ^ w
  | [], _, _, j, x, h => by simp at h
  | n :: l, a, h, 0, x, hx => by
    simp at hx; subst hx
    intro y hy
    rw [List.drop_succ_cons, List.drop_zero] at hy
    exact Nat.div_le_div_right (qk4 h.2.2 y hy).1
  | n :: l, a, h, j + 1, x, hx => by
    intro y hy
    rw [List.drop_succ_cons] at hy
    exact qhP h.2.2 j x (by simpa using hx) y hy
theorem qkv {t : Nat} {l : List Nat} (h : Up t 0 l) (i : Nat) : plc 1 (hiF t l) i = (l[i]?).map fun x => x / 2 ^ wd l.length t + i := by
  unfold hiF
  rw [qmS (fun x _ => Nat.zero_le _) (qhP h)]
  simp
theorem qjq {w : Nat} : ∀ {l : List Nat} {i x : Nat}, l[i]? = some x → ((lo' w l).drop (i * w)).take w = nb x w
  | [], i, x, h => by simp at h
  | y :: l, 0, x, h => by
    simp at h; subst h
    rw [Nat.zero_mul, List.drop_zero, qcR, List.take_left' (qaA _ _)]
  | y :: l, i + 1, x, h => by
    rw [qcR, Nat.add_mul, Nat.one_mul, Nat.add_comm, ← List.drop_drop, List.drop_left' (qaA _ _)]
    exact qjq (by simpa using h)
theorem qqh {a b m : Nat} (ha : a < 2 ^ m) (hb : b % 2 ^ m = 0) (h : a + b < 9223372036854775808) : ior .i64 (b : Int) (a : Int) = ((b + a : Nat) : Int) := by
  unfold ior
  have h1 : (BitVec.ofInt (IntKind.bits .i64) (b : Int)) = BitVec.ofNat 64 b := by simp [IntKind.bits]
  have h2 : (BitVec.ofInt (IntKind.bits .i64) (a : Int)) = BitVec.ofNat 64 a := by simp [IntKind.bits]
  rw [h1, h2]
  have h3 : b ||| a = b + a := by
    have hy2 : b = 2 ^ m * (b / 2 ^ m) := by have := Nat.div_add_mod b (2 ^ m); omega
    have h4 := Nat.two_pow_add_eq_or_of_lt ha (b / 2 ^ m)
    rw [← hy2] at h4
    rw [← h4]
  have h4 : (BitVec.ofNat 64 b ||| BitVec.ofNat 64 a).toNat = b + a := by
    rw [BitVec.toNat_or, BitVec.toNat_ofNat, BitVec.toNat_ofNat, Nat.mod_eq_of_lt (a := b) (by omega), Nat.mod_eq_of_lt (a := a) (by omega), h3]
  show IntKind.wrap .i64 ((BitVec.ofNat 64 b ||| BitVec.ofNat 64 a).toNat : Int) = _
  rw [h4]
  exact zW (by omega) (by omega)
theorem qmc {F t i x : Nat} (hF : 20000 ≤ F) (ht : t ≤ 1048576) {l : List Nat} (hlm : l.length ≤ 300) (hu : Up t 0 l) (hf : Fits t l) (hx : l[i]? = some x) :
    jE F (l.length : Int) (t : Int) (wd l.length t : Int) ((loF t l).length : Int) (pk (loF t l)) ((hiF t l).length : Int) (pk (hiF t l)) (i : Int) = some (x : Int) := by
  unfold jE
  have hw := qiZ (n := l.length) ht
  have hi : i < l.length := (List.getElem?_eq_some_iff.1 hx).1
  have hL : (loF t l).length ≤ 8192 := by rw [qct]; exact hf.1
  have hH : (hiF t l).length ≤ 8192 := by rw [qdU hu]; exact hf.2
  have hxt := (qk4 hu x (List.mem_of_getElem? hx)).2
  have hmul : i * wd l.length t + wd l.length t ≤ (loF t l).length := by
    rw [qct, ← Nat.succ_mul]; exact Nat.mul_le_mul_right _ hi
  rw [qft hF (l := hiF t l) (qeo _ _ _ _) (by omega) (by omega), qkv hu, hx]
  simp only [Option.map_some, Option.bind_some]
  have hdx : x / 2 ^ wd l.length t ≤ x := Nat.div_le_self _ _
  have hz : 0 ≤ x / 2 ^ wd l.length t := Nat.zero_le _
  rw [qhm (by omega), qcy (l := loF t l) (by omega) (qdX _ _) hL (by omega) (by omega), if_pos hmul]
  simp only [Option.bind_some]
  have hc : decide ((0 : Int) ≤ ((wd l.length t : Nat) : Int)) = true := decide_eq_true (by omega)
  rw [hc]
  simp only [chk, if_true, lett]
  have hg : ((loF t l).drop (i * wd l.length t)).take (wd l.length t) = nb x (wd l.length t) := qjq hx
  have hp20 : 2 ^ wd l.length t ≤ 2 ^ 20 := Nat.pow_le_pow_right (by decide) hw
  rw [show (2 : Nat) ^ 20 = 1048576 from by decide] at hp20
  have hml := Nat.mod_lt x (show 0 < 2 ^ wd l.length t from Nat.pow_pos (by decide))
  have hdm := Nat.div_add_mod x (2 ^ wd l.length t)
  have hdm2 : x / 2 ^ wd l.length t * 2 ^ wd l.length t ≤ x := Nat.div_mul_le_self _ _
  rw [hg, qe3, qjk (by omega) (by omega), Nat.add_sub_cancel, qjh (by omega) (by omega), qaf (by omega), qqh (m := wd l.length t) hml (Nat.mul_mod_left _ _) (by omega)]
  rw [Nat.mul_comm] at hdm
  rw [hdm]
theorem qer {F : Nat} {l : List Int} (hl : Bit l) (hm : l.length ≤ 10000) (bit : Int) : ∀ (k j c : Nat), l.length < k + j → j ≤ l.length → 1 ≤ c → c + (l.length - j) ≤ 100000 →
    ∃ s, qC F (fun (x31 : Int) (x37 : Int) => qE F x31 x37) (l.length : Int) (pk l) bit k ((j : Int), -(c : Int)) = some (.inl s)
  | 0, _, _, _, _, _, _ => by omega
  | k + 1, j, c, h, hj, hc, hcm => by
    have e : qC F (fun (x31 : Int) (x37 : Int) => qE F x31 x37) (l.length : Int) (pk l) bit (k + 1) ((j : Int), -(c : Int)) =
      ko F (fun (x31 : Int) (x37 : Int) => qE F x31 x37) (l.length : Int) (pk l) bit (qC F (fun (x31 : Int) (x37 : Int) => qE F x31 x37) (l.length : Int) (pk l) bit k) (j : Int) (-(c : Int)) := rfl
    rw [e]
    unfold ko
    by_cases hlt : j < l.length
    · rw [if_pos (by simp; omega), qh7 hl (by omega) hlt]
      simp only [Option.bind_some]
      have hr : qE F (-(c : Int)) (j : Int) = some (.inl (-((c + 1 : Nat) : Int))) := by
        unfold qE
        rw [if_neg (by simp; omega), zg (by omega) (by omega)]
        congr 2; omega
      by_cases h1 : l[j] = bit
      · rw [if_pos (by simpa using h1), hr]
        simp only [Option.bind_some, Sum.elim_inl, zH]
        rw [qs (by omega)]
        exact qer hl hm bit k (j + 1) (c + 1) (by omega) (by omega) (by omega) (by omega)
      · rw [if_neg (by simpa using h1)]
        simp only [zH]
        rw [qs (by omega)]
        exact qer hl hm bit k (j + 1) c (by omega) (by omega) hc (by omega)
    · rw [if_neg (by simp; omega)]
      exact ⟨_, rfl⟩
theorem qmR {F : Nat} (hF : 20000 ≤ F) {l : List Int} (hl : Bit l) (hm : l.length ≤ 10000) {bit : Int} : vm F (l.length : Int) (pk l) bit (-1) = some (-1) := by
  unfold vm
  simp only [qaY, Option.bind_some, j8]
  obtain ⟨s, hs⟩ := qer (F := F) hl hm bit F 0 1 (by omega) (by omega) (by omega) (by omega)
  have h2 : qC F (fun (x31 : Int) (x37 : Int) => qE F x31 x37) (l.length : Int) (pk l) bit F (0, -1) = some (.inl s) := hs
  rw [h2]
  rfl
theorem qmd {F : Nat} {xs ys : List Int} (he : xs.length = ys.length) (hm : xs.length ≤ 9223372036854775807) : ∀ (k i : Nat), xs.length < k + i → i ≤ xs.length → qB F xs ys k (i : Int) = some (decide (xs.drop i = ys.drop i))
  | 0, _, _, _ => by omega
  | k + 1, i, h, hi => by
    show qY F xs ys (qB F xs ys k) (i : Int) = _
    unfold qY
    by_cases hlt : i < xs.length
    · have hlt' : i < ys.length := by omega
      rw [if_pos (by simp; omega), qR, List.getElem?_eq_getElem hlt, qR, List.getElem?_eq_getElem hlt']
      simp only [Option.bind_some]
      rw [List.drop_eq_getElem_cons hlt, List.drop_eq_getElem_cons hlt']
      by_cases hc : xs[i] = ys[i]
      · rw [if_neg (by simp [hc]), qs (by omega), qmd he hm k (i + 1) (by omega) (by omega)]
        congr 1
        rw [decide_eq_decide, List.cons.injEq]
        exact ⟨fun h => ⟨hc, h⟩, fun h => h.2⟩
      · rw [if_pos (by simpa using hc), decide_eq_false (fun e => hc (List.cons.inj e).1)]
    · rw [if_neg (by simp; omega), List.drop_eq_nil_of_le (by omega), List.drop_eq_nil_of_le (by omega)]
      rfl
theorem feqb {F : Nat} {xs ys : List Int} (hF : xs.length < F) (hm : xs.length ≤ 9223372036854775807) : qF F xs ys = some (decide (xs = ys)) := by
  unfold qF
  by_cases h : xs.length = ys.length
  · rw [if_neg (by simp [h])]
    have := qmd (F := F) h hm F 0 (by omega) (Nat.zero_le _)
    rw [List.drop_zero, List.drop_zero] at this
    exact this
  · rw [if_pos (by simp; omega), decide_eq_false (fun e => h (by rw [e]))]
theorem qik {F : Nat} {n m : Int} {xs ys : List Int} (hF : xs.length < F) (hm : xs.length ≤ 9223372036854775807) : qa3 F n xs m ys = some (decide (n = m ∧ xs = ys)) := by
  unfold qa3
  by_cases h : n = m
  · have hb : (n == m) = true := by simp [h]
    rw [if_pos hb, feqb hF hm]
    simp [jr, h]
  · have hb : (n == m) = false := by simpa using h
    rw [hb]
    simp [jr, h]
def FWr (t : Nat) (ns : List Nat) (lw : Int) (lb : List Int) (hw : Int) (hb : List Int) : Prop :=
  ns.length ≤ 300 ∧ Up t 0 ns ∧ Fits t ns ∧ lw = ((loF t ns).length : Int) ∧ lb = pk (loF t ns) ∧ hw = ((hiF t ns).length : Int) ∧ hb = pk (hiF t ns)
theorem qqj {F t : Nat} (hF : 20000 ≤ F) (ht : t ≤ 1048576) {lw hw : Int} {lb hb out : List Int} :
    (∃ ns, out = lc ns ∧ FWr t ns lw lb hw hb ∧ kB F (t : Int) lw lb hw hb out = some (out, 0)) ∨
    ((¬ ∃ ns, out = lc ns ∧ FWr t ns lw lb hw hb) ∧ kB F (t : Int) lw lb hw hb out = some ([], 1)) := by
  unfold kB
  rw [qgn hF]
  simp only [Option.bind_some]
  by_cases h : fkc out (t : Int) = 0
  · obtain ⟨ns, k, e, hk, rfl, hm, hu⟩ := qej.1 h
    obtain rfl : t = k := by omega
    rw [h, if_neg (by simp), qkb hF hk hm hu]
    simp only [Option.bind_some]
    have huniq : ∀ ns', lc ns = lc ns' → ns = ns' := fun ns' e => by have := congrArg nl e; rwa [qiu, qiu] at this
    by_cases hf : Fits t ns
    · have hL : (loF t ns).length ≤ 8192 := by rw [qct]; exact hf.1
      have hH : (hiF t ns).length ≤ 8192 := by rw [qdU hu]; exact hf.2
      have hpL := qiA hL
      have hpH := qiA hH
      rw [if_pos hf]
      simp only [T8, Bool.not_true, Bool.false_eq_true, if_false]
      rw [qik (by omega) (by omega)]
      simp only [Option.bind_some]
      by_cases h1 : ((loF t ns).length : Int) = lw ∧ pk (loF t ns) = lb
      · rw [decide_eq_true h1]
        simp only [Bool.not_true, vV, Bool.false_eq_true, if_false]
        rw [qik (by omega) (by omega)]
        simp only [Option.bind_some]
        by_cases h2 : ((hiF t ns).length : Int) = hw ∧ pk (hiF t ns) = hb
        · rw [decide_eq_true h2]
          left
          exact ⟨ns, rfl, ⟨hm, hu, hf, h1.1.symm, h1.2.symm, h2.1.symm, h2.2.symm⟩, rfl⟩
        · rw [decide_eq_false h2]
          right
          refine ⟨?_, rfl⟩
          rintro ⟨ns', e1, w⟩
          rw [← huniq ns' e1] at w
          exact h2 ⟨w.2.2.2.2.2.1.symm, w.2.2.2.2.2.2.symm⟩
      · rw [decide_eq_false h1]
        right
        refine ⟨?_, rfl⟩
        rintro ⟨ns', e1, w⟩
        rw [← huniq ns' e1] at w
        exact h1 ⟨w.2.2.2.1.symm, w.2.2.2.2.1.symm⟩
    · rw [if_neg hf]
      right
      refine ⟨?_, rfl⟩
      rintro ⟨ns', e1, w⟩
      rw [← huniq ns' e1] at w
      exact hf w.2.2.1
  · rw [if_pos (by simpa using h)]
    right
    refine ⟨?_, rfl⟩
    rintro ⟨ns, rfl, w⟩
    exact h (qej.2 ⟨ns, t, rfl, ht, rfl, w.1, w.2.1⟩)
def Good (l : List Nat) (n t w lw : Int) (lb : List Int) (hw : Int) (hb : List Int) : Prop :=
  ∃ k : Nat, t = k ∧ k ≤ 1048576 ∧ n = (l.length : Int) ∧ w = ((wd l.length k : Nat) : Int) ∧ FWr k l lw lb hw hb
def Rg (n t : Int) : Prop := 0 ≤ n ∧ n ≤ 300 ∧ 0 ≤ t ∧ t ≤ 1048576
instance rgDec (n t : Int) : Decidable (Rg n t) := inferInstanceAs (Decidable (_ ∧ _))
theorem qoe {l : List Nat} {n t w lw hw : Int} {lb hb : List Int} (h : Good l n t w lw lb hw hb) : Rg n t := by
  obtain ⟨k, rfl, hk, rfl, _, h1, _⟩ := h
  exact ⟨by omega, by omega, by omega, by omega⟩
theorem qmH {F t n w : Nat} {lw hw : Int} {lb hb : List Int} (f : Nat → Int) (hn : n ≤ 300) (hat : ∀ i, i < n → jE F (n : Int) (t : Int) (w : Int) lw lb hw hb (i : Int) = some (f i)) : ∀ (k i : Nat), n < k + i → i ≤ n →
    kC F (n : Int) (t : Int) (w : Int) lw lb hw hb k ((List.range i).map f, (i : Int)) = kB F (t : Int) lw lb hw hb ((List.range n).map f)
  | 0, _, _, _ => by omega
  | k + 1, i, h, hi => by
    show vU F (n : Int) (t : Int) (w : Int) lw lb hw hb (kC F (n : Int) (t : Int) (w : Int) lw lb hw hb k) ((List.range i).map f) (i : Int) = _
    unfold vU
    by_cases hlt : i < n
    · rw [if_pos (by simp; omega), hat i hlt]
      simp only [Option.bind_some]
      rw [vp (by simp; omega), qs (by omega)]
      simp only [Option.bind_some]
      have e : (List.range i).map f ++ [f i] = (List.range (i + 1)).map f := by rw [List.range_succ, List.map_append]; rfl
      rw [e]
      exact qmH f hn hat k (i + 1) (by omega) (by omega)
    · rw [if_neg (by simp; omega)]
      obtain rfl : i = n := by omega
      rfl
theorem qgb {F : Nat} (hF : 20000 ≤ F) {n t w lw hw : Int} {lb hb : List Int} (ul : U8s lb) (uh : U8s hb) (il : I64 lw) (ih : I64 hw) (ll : lb.length ≤ 9223372036854775807) (lh : hb.length ≤ 9223372036854775807) :
    (∃ l, Good l n t w lw lb hw hb ∧ yS F n t w lw lb hw hb = some (lc l, 0)) ∨
    ((¬ ∃ l, Good l n t w lw lb hw hb) ∧ yS F n t w lw lb hw hb = some ([], if Rg n t then 1 else 3)) := by
  unfold yS
  by_cases hr : Rg n t
  · obtain ⟨n, rfl⟩ := Int.eq_ofNat_of_zero_le hr.1
    obtain ⟨t, rfl⟩ := Int.eq_ofNat_of_zero_le hr.2.2.1
    have hn : n ≤ 300 := by have := hr.2.1; omega
    have ht : t ≤ 1048576 := by have := hr.2.2.2; omega
    have hw20 := qiZ (n := n) ht
    rw [if_neg (by simp; omega), if_pos hr, qi1 hF hn ht]
    simp only [Option.bind_some]
    by_cases hw1 : w = ((wd n t : Nat) : Int)
    · subst hw1
      rw [if_neg (by simp), qe5 ul il.1 il.2 ll]
      simp only [Option.bind_some]
      rcases qe6 ul (n := lw) with h1 | ⟨L, hL, hLm, rfl, rfl⟩
      · right
        refine ⟨?_, by rw [if_pos (by simpa using h1)]; rfl⟩
        rintro ⟨l, k, e, hk, e2, _, g1, g2, g3, rfl, rfl, _⟩
        exact h1 (qe7 (by rw [qct]; exact g3.1))
      rw [qe7 hLm, if_neg (by simp), qe5 uh ih.1 ih.2 lh]
      simp only [Option.bind_some]
      rcases qe6 uh (n := hw) with h1 | ⟨H, hH, hHm, rfl, rfl⟩
      · right
        refine ⟨?_, by rw [if_pos (by simpa using h1)]; rfl⟩
        rintro ⟨l, k, e, hk, e2, _, g1, g2, g3, _, _, rfl, rfl⟩
        exact h1 (qe7 (by rw [qdU g2]; exact g3.2))
      have hmul : n * wd n t ≤ 300 * 20 := Nat.mul_le_mul hn hw20
      rw [qe7 hHm, if_neg (by simp), qhm (by omega)]
      by_cases hl1 : L.length = n * wd n t
      · rw [if_neg (by rw [hl1]; simp)]
        have hfin : (n = 0 ∨ ∃ q, plc 1 H (n - 1) = some q) →
            (∃ l, Good l (n : Int) (t : Int) ((wd n t : Nat) : Int) (L.length : Int) (pk L) (H.length : Int) (pk H) ∧ zd F (n : Int) (t : Int) ((wd n t : Nat) : Int) (L.length : Int) (pk L) (H.length : Int) (pk H) false = some (lc l, 0)) ∨
            ((¬ ∃ l, Good l (n : Int) (t : Int) ((wd n t : Nat) : Int) (L.length : Int) (pk L) (H.length : Int) (pk H)) ∧ zd F (n : Int) (t : Int) ((wd n t : Nat) : Int) (L.length : Int) (pk L) (H.length : Int) (pk H) false = some ([], 1)) := by
          intro hpl
          unfold zd
          rw [if_neg (by simp)]
          have hat : ∃ f : Nat → Int, ∀ i, i < n → jE F (n : Int) (t : Int) ((wd n t : Nat) : Int) (L.length : Int) (pk L) (H.length : Int) (pk H) (i : Int) = some (f i) := by
            have h1 : ∀ i, ∃ v : Int, i < n → jE F (n : Int) (t : Int) ((wd n t : Nat) : Int) (L.length : Int) (pk L) (H.length : Int) (pk H) (i : Int) = some v := by
              intro i
              by_cases hi : i < n
              · unfold jE
                have hm2 : i * wd n t + wd n t ≤ L.length := by rw [hl1, ← Nat.succ_mul]; exact Nat.mul_le_mul_right _ hi
                have hc : decide ((0 : Int) ≤ ((wd n t : Nat) : Int)) = true := decide_eq_true (by omega)
                rw [qft hF hH (by omega) (by omega)]
                simp only [Option.bind_some]
                rw [qhm (by omega), qcy (by omega) hL hLm (by omega) (by omega)]
                simp only [Option.bind_some]
                rw [hc]
                simp only [chk, if_true, lett]
                exact ⟨_, fun _ => rfl⟩
              · exact ⟨0, fun h => absurd h hi⟩
            exact ⟨fun i => Classical.choose (h1 i), fun i hi => Classical.choose_spec (h1 i) hi⟩
          obtain ⟨f, hat⟩ := hat
          have hl9 := qmH (F := F) (t := t) (n := n) (w := wd n t) f hn hat F 0 (by omega) (by omega)
          rw [show (List.range 0).map f = [] from rfl, show ((0 : Nat) : Int) = 0 from rfl] at hl9
          rw [hl9]
          rcases qqj (F := F) (t := t) hF ht (lw := (L.length : Int)) (lb := pk L) (hw := (H.length : Int)) (hb := pk H) (out := (List.range n).map f) with ⟨ns, e, w, hM⟩ | ⟨hno, hM⟩
          · have hnl : ns.length = n := by have := congrArg List.length e; rw [qbc] at this; simp at this; omega
            left
            exact ⟨ns, ⟨t, rfl, ht, by rw [hnl], by rw [hnl], w⟩, by rw [hM, e]⟩
          · right
            refine ⟨?_, hM⟩
            rintro ⟨l, k, e1, hk, e2, e3, w⟩
            obtain rfl : t = k := by omega
            have hnl : n = l.length := by omega
            apply hno
            refine ⟨l, ?_, w⟩
            obtain ⟨w1, w2, w3, w4, w5, w6, w7⟩ := w
            apply List.ext_getElem?
            intro i
            by_cases hi : i < n
            · have hx : l[i]? = some l[i] := List.getElem?_eq_getElem (by omega)
              have h2 := qmc hF ht w1 w2 w3 hx
              have h3 := hat i hi
              rw [hnl, w4, w5, w6, w7, h2] at h3
              have h4 : (lc l)[i]? = some ((l[i] : Nat) : Int) := by simp [lc, show i < l.length by omega]
              rw [h4, List.getElem?_map, List.getElem?_range hi]
              exact h3.symm
            · rw [List.getElem?_eq_none (by simp; omega), List.getElem?_eq_none (by rw [qbc]; omega)]
        have hnoform : n ≠ 0 → plc 1 H (n - 1) = none → ¬ ∃ l, Good l (n : Int) (t : Int) ((wd n t : Nat) : Int) (L.length : Int) (pk L) (H.length : Int) (pk H) := by
          rintro h0 hp ⟨l, k, e1, hk, e2, e3, w1, w2, w3, w4, w5, w6, w7⟩
          obtain rfl : t = k := by omega
          have hnl : n = l.length := by omega
          have hHe : H = hiF t l := qju hH (qeo _ _ _ _) (by omega) w7
          rw [hHe, qkv w2, List.getElem?_eq_getElem (show n - 1 < l.length by omega)] at hp
          simp at hp
        by_cases h0 : n = 0
        · subst h0
          have : isub .i64 ((0 : Nat) : Int) 1 = -1 := by decide
          rw [this, qmR hF hH (by omega)]
          simp only [Option.bind_some]
          rw [if_pos (by simp)]
          exact hfin (.inl rfl)
        · rw [qa1 (by omega) (by omega), qft hF hH (by omega) (by omega)]
          simp only [Option.bind_some]
          cases hp : plc 1 H (n - 1) with
          | none =>
            right
            refine ⟨hnoform h0 hp, ?_⟩
            simp only
            rw [if_pos (by simp), decide_eq_true (show (0 : Int) < (n : Int) by omega)]
            rfl
          | some q =>
            simp only
            rw [if_neg (by simp)]
            exact hfin (.inr ⟨q, hp⟩)
      · right
        refine ⟨?_, by rw [if_pos (by rw [bne_iff_ne]; omega)]; rfl⟩
        rintro ⟨l, k, e1, hk, e2, e3, w1, w2, w3, w4, _⟩
        obtain rfl : t = k := by omega
        have hnl : n = l.length := by omega
        rw [qct] at w4
        rw [hnl] at hl1
        omega
    · right
      refine ⟨?_, by rw [if_pos (by simpa using hw1)]; rfl⟩
      rintro ⟨l, k, e1, hk, e2, e3, _⟩
      obtain rfl : t = k := by omega
      have hnl : n = l.length := by omega
      rw [← hnl] at e3
      exact hw1 e3
  · right
    refine ⟨fun ⟨l, h⟩ => hr (qoe h), ?_⟩
    rw [if_pos (by unfold Rg at hr; simp only [Bool.or_eq_true, decide_eq_true_eq]; omega), if_neg hr]
theorem qjm {l : List Nat} {i : Nat} (hi : i < l.length) : (lc l)[i]? = some ((l[i] : Nat) : Int) := by simp [lc, hi]
def rdn (w : Nat) (L : List Int) : List Int → Nat → Nat → Nat → List Nat
  | [], _, _, _ => []
  | _ :: _, _, 0, _ => []
  | b :: H, h, m + 1, k => if b = 0 then rdn w L H (h + 1) (m + 1) k else (h * 2 ^ w + bv ((L.drop (k * w)).take w)) :: rdn w L H h m (k + 1)
theorem qqn {w : Nat} {L X : List Int} {h k : Nat} : rdn w L X h 0 k = [] := by cases X <;> rfl
theorem qkG {w : Nat} {L X : List Int} {m k : Nat} : ∀ {c h : Nat}, rdn w L (List.replicate c 0 ++ X) h (m + 1) k = rdn w L X (h + c) (m + 1) k
  | 0, h => by simp
  | c + 1, h => by
    rw [List.replicate_succ, List.cons_append, rdn, if_pos rfl, qkG, show h + 1 + c = h + (c + 1) from by omega]
theorem qm1 {w last : Nat} {L : List Int} : ∀ {l : List Nat} {a k : Nat}, (∀ x ∈ l, a ≤ x / 2 ^ w) → (∀ j x, l[j]? = some x → ∀ y ∈ l.drop (j + 1), x / 2 ^ w ≤ y / 2 ^ w) →
    (∀ i x, l[i]? = some x → (L.drop ((k + i) * w)).take w = nb x w) → rdn w L (hp w last a l) a l.length k = l
  | [], a, k, _, _, _ => qqn
  | x :: l, a, k, h, hs, hL => by
    have hx := h x List.mem_cons_self
    have h0 := hs 0 x rfl
    rw [List.drop_succ_cons, List.drop_zero] at h0
    have h1 := hL 0 x rfl
    rw [Nat.add_zero] at h1
    have ih := qm1 (w := w) (last := last) (L := L) (l := l) (a := x / 2 ^ w) (k := k + 1) h0 (fun j y hj => by
        have := hs (j + 1) y (by simpa using hj)
        rwa [List.drop_succ_cons] at this) (fun i y hy => by
        have := hL (i + 1) y (by simpa using hy)
        rwa [show k + 1 + i = k + (i + 1) from by omega])
    have hdm := Nat.div_add_mod x (2 ^ w)
    rw [hp, List.length_cons, qkG, rdn, if_neg (by decide), h1, qe3, show a + (x / 2 ^ w - a) = x / 2 ^ w from by omega, Nat.mul_comm, hdm, ih]
theorem qiM {F : Nat} {n t w lw hw n' t' w' lw' hw' : Int} {lb hb lb' hb' : List Int} (h1 : lb.length < F) (h2 : hb.length < F) (h3 : lb.length ≤ 9223372036854775807) (h4 : hb.length ≤ 9223372036854775807) :
    qbe F n t w lw lb hw hb n' t' w' lw' lb' hw' hb' = some (decide (n = n' ∧ t = t' ∧ w = w' ∧ lw = lw' ∧ lb = lb' ∧ hw = hw' ∧ hb = hb')) := by
  unfold qbe
  have hj : ∀ b : Bool, vv F hw hb hw' hb' b = some (b && decide (hw = hw' ∧ hb = hb')) := by
    intro b
    unfold vv
    cases b with
    | true => rw [if_pos rfl, qcZ h2 h4]; simp [jX]
    | false => rw [if_neg (by decide)]; rfl
  by_cases h : (n = n' ∧ t = t') ∧ w = w'
  · rw [if_pos (by simpa using h), qcZ h1 h3]
    simp only [Option.bind_some]
    rw [hj]
    obtain ⟨⟨rfl, rfl⟩, rfl⟩ := h
    congr 1
    rw [← Bool.decide_and, decide_eq_decide]
    constructor
    · rintro ⟨⟨a, b⟩, c, d⟩; exact ⟨rfl, rfl, rfl, a, b, c, d⟩
    · rintro ⟨_, _, _, a, b, c, d⟩; exact ⟨⟨a, b⟩, c, d⟩
  · rw [if_neg (by simpa using h), hj, Bool.false_and, decide_eq_false (by rintro ⟨a, b, c, _⟩; exact h ⟨⟨a, b⟩, c⟩)]
theorem qmk {l : List Int} {t : Int} : (∃ (ns : List Nat) (k : Nat), l = lc ns ∧ t = k ∧ k ≤ 1048576 ∧ ns.length ≤ 300 ∧ Up k 0 ns ∧ Fits k ns ∧ fw l t = fo8 k ns) ∨ (∃ e : Int, e ≠ 0 ∧ fw l t = fz8 e ∧ ¬ ∃ (ns : List Nat) (k : Nat), l = lc ns ∧ t = k ∧ k ≤ 1048576 ∧ ns.length ≤ 300 ∧ Up k 0 ns ∧ Fits k ns) := by
  by_cases h : fkc l t = 0
  · obtain ⟨ns, k, rfl, hk, rfl, hm, hu⟩ := qej.1 h
    have hf2 := (qkd hk hm hu).2
    by_cases hf : Fits k ns
    · left; exact ⟨ns, k, rfl, rfl, hk, hm, hu, hf, by rw [hf2, if_pos hf]⟩
    · right
      refine ⟨8, by decide, by rw [hf2, if_neg hf], ?_⟩
      rintro ⟨ns', k', e1, e2, _, _, _, f⟩
      obtain rfl : k = k' := by omega
      have := congrArg nl e1
      rw [qiu, qiu] at this
      rw [← this] at f
      exact hf f
  · right
    refine ⟨fkc l t, h, qmj h, ?_⟩
    rintro ⟨ns', k', e1, e2, h1, h2, h3, f⟩
    exact h (qej.2 ⟨ns', k', e2, h1, e1, h2, h3⟩)
theorem qin {l : List Nat} {t : Nat} (hu : Up t 0 l) : rdn (wd l.length t) (loF t l) (hiF t l) 0 l.length 0 = l := by
  unfold hiF
  refine qm1 (fun x _ => Nat.zero_le _) (qhP hu) (fun i x hx => ?_)
  rw [Nat.zero_add]
  exact qjq hx
theorem qlm {l l' : List Nat} {n t w lw hw : Int} {lb hb : List Int} (g : Good l n t w lw lb hw hb) (g' : Good l' n t w lw lb hw hb) : l = l' := by
  obtain ⟨k, rfl, hk, a1, a2, a3, a4, a5, a6, a7, a8, a9⟩ := g
  obtain ⟨k', e, hk', b1, b2, b3, b4, b5, b6, b7, b8, b9⟩ := g'
  obtain rfl : k = k' := by omega
  have hlen : l.length = l'.length := by omega
  have e1 : loF k l = loF k l' := qju (qdX _ _) (qdX _ _) (by omega) (by rw [← a7, ← b7])
  have e2 : hiF k l = hiF k l' := qju (qeo _ _ _ _) (qeo _ _ _ _) (by omega) (by rw [← a9, ← b9])
  rw [← qin a4, ← qin b4, e1, e2, hlen]
theorem qeT {t : Nat} : ∀ {l : List Nat} {a : Nat}, Up t a l → ∀ {i j x y : Nat}, i ≤ j → l[i]? = some x → l[j]? = some y → x ≤ y
  | [], _, _, i, j, x, y, _, h, _ => by simp at h
  | n :: l, a, h, 0, 0, x, y, _, hx, hy => by simp at hx hy; omega
  | n :: l, a, h, 0, j + 1, x, y, _, hx, hy => by
    simp at hx hy
    have := (qk4 h.2.2 y (List.mem_of_getElem? hy)).1
    omega
  | n :: l, a, h, i + 1, 0, x, y, hij, _, _ => by omega
  | n :: l, a, h, i + 1, j + 1, x, y, hij, hx, hy => qeT h.2.2 (i := i) (j := j) (by omega) (by simpa using hx) (by simpa using hy)
def At (l : List Nat) (v : Int) (c : Nat) : Prop := c ≤ l.length ∧ (∀ (i x : Nat), i < c → l[i]? = some x → (x : Int) < v) ∧ (∀ (i x : Nat), c ≤ i → l[i]? = some x → v ≤ (x : Int))
theorem qql {a b : Nat} (h : a + b < 9223372036854775808) : iconv .i64 (ishr .u64 (iconv .u64 (iadd .i64 (a : Int) (b : Int))) 1) = (((a + b) / 2 : Nat) : Int) := by
  have h1 := qfj (n := a + b) (k := 1) (by omega)
  rw [show ((1 : Nat) : Int) = 1 from rfl, Nat.pow_one] at h1
  rw [jN (by omega), kA (by omega), h1, qaf (by omega)]
theorem qmv {F : Nat} {x : Int} : kp F x = some false := by simp [kp]
theorem qmg {F : Nat} {x y : Int} : yQ F x y = some (decide (x < y)) := by
  simp [yQ, vx, yA]
def gf (l : List Nat) (i : Int) : Int × Int := match (if 0 ≤ i then l[i.toNat]? else none) with | none => (0, 3) | some x => ((x : Int), 0)
structure Bd (lw : Int) (lb : List Int) (hw : Int) (hb : List Int) : Prop where
  ul : U8s lb
  uh : U8s hb
  il : I64 lw
  ih : I64 hw
  ll : lb.length ≤ 9223372036854775807
  lh : hb.length ≤ 9223372036854775807
theorem qmG (hF : 20000 ≤ F) (b : Bd lw lb hw hb) (g : Good l n t w lw lb hw hb) : yS F n t w lw lb hw hb = some (lc l, 0) := by
  rcases qgb (F := F) (n := n) (t := t) (w := w) hF b.ul b.uh b.il b.ih b.ll b.lh with ⟨k, g', h⟩ | ⟨h, _⟩
  · rw [h, qlm g' g]
  · exact absurd ⟨l, g⟩ h
theorem ql3 (hF : 20000 ≤ F) (b : Bd lw lb hw hb) (g : Good l n t w lw lb hw hb) : qbg F n t w lw lb hw hb = some 0 := by
  unfold qbg; rw [qmG hF b g]; rfl
theorem qmm (hF : 20000 ≤ F) (b : Bd lw lb hw hb) (g : Good l n t w lw lb hw hb) {i : Int} : qbx F n t w lw lb hw hb i = some (gf l i) := by
  unfold qbx
  rw [ql3 hF b g]
  simp only [Option.bind_some]
  rw [if_pos (by rfl)]
  obtain ⟨k, rfl, hk, rfl, rfl, w1, w2, w3, rfl, rfl, rfl, rfl⟩ := g
  unfold gf qaP
  by_cases hi : 0 ≤ i ∧ i < (l.length : Int)
  · obtain ⟨i, rfl⟩ := Int.eq_ofNat_of_zero_le hi.1
    have hx : l[i]? = some l[i] := List.getElem?_eq_getElem (by omega)
    rw [if_neg (by simp; omega), if_pos hi.1, Int.toNat_natCast, hx]
    unfold qaO
    rw [if_neg (by simp), qmc hF hk w1 w2 w3 hx]
    rfl
  · rw [if_pos (by simp; omega)]
    have : (if 0 ≤ i then l[i.toNat]? else none) = none := by
      by_cases h0 : 0 ≤ i
      · rw [if_pos h0, List.getElem?_eq_none (by omega)]
      · rw [if_neg h0]
    rw [this]; rfl
theorem qod {k : Nat} (hk : k ≤ 1048576) (hm : l.length ≤ 300) (hu : Up k 0 l) (hf : Fits k l) : Good l (l.length : Int) (k : Int) ((wd l.length k : Nat) : Int) ((loF k l).length : Int) (pk (loF k l)) ((hiF k l).length : Int) (pk (hiF k l)) :=
  ⟨k, rfl, hk, rfl, rfl, hm, hu, hf, rfl, rfl, rfl, rfl⟩
theorem qqb {k : Nat} (hu : Up k 0 l) (hf : Fits k l) : Bd ((loF k l).length : Int) (pk (loF k l)) ((hiF k l).length : Int) (pk (hiF k l)) := by
  have hL : (loF k l).length ≤ 8192 := by rw [qct]; exact hf.1
  have hH : (hiF k l).length ≤ 8192 := by rw [qdU hu]; exact hf.2
  exact ⟨qcI (qdX _ _), qcI (qeo _ _ _ _), ⟨by omega, by omega⟩, ⟨by omega, by omega⟩, qku hL, qku hH⟩
theorem qlZ {F : Nat} (hF : 2000000 ≤ F) {g : List (List Int)} {N B least k m : Int} {b : List Int} (hp : pkE g B least k = 0) :
    vP F g N B least k m b = some (if (fw (pkA g B least k.toNat g.length).2.2 m).2.2.2.2.2.2.2 ≠ 0 then (0, 0, 0, 0, 0, [], 0, 0, 0, 0, [], 0, [], (fw (pkA g B least k.toNat g.length).2.2 m).2.2.2.2.2.2.2) else
      (N, B, least, k, m, b, (fw (pkA g B least k.toNat g.length).2.2 m).1, (fw (pkA g B least k.toNat g.length).2.2 m).2.1, (fw (pkA g B least k.toNat g.length).2.2 m).2.2.1, (fw (pkA g B least k.toNat g.length).2.2 m).2.2.2.1, (fw (pkA g B least k.toNat g.length).2.2 m).2.2.2.2.1, (fw (pkA g B least k.toNat g.length).2.2 m).2.2.2.2.2.1, (fw (pkA g B least k.toNat g.length).2.2 m).2.2.2.2.2.2.1, 0)) := by
  unfold vP
  rw [qmW hF]
  simp only [Option.bind_some]
  have ht : ptl g B least k = ((pkA g B least k.toNat g.length).2.1, (pkA g B least k.toNat g.length).2.2, 0) := by unfold ptl; rw [if_neg (fun h => h hp)]
  rw [ht]
  simp only
  rw [if_neg (by decide), qll (by omega)]
  simp only [Option.bind_some]
  by_cases h : (fw (pkA g B least k.toNat g.length).2.2 m).2.2.2.2.2.2.2 = 0
  · rw [if_neg (by simp [h]), if_neg (fun hh => hh h)]
  · rw [if_pos (by simpa using h), if_pos h]
theorem qfG {g : List (List Int)} {B least : Int} {k : Nat} : ∀ n : Nat, (pkA g B least k n).2.2 = (List.range n).map fun i => ((pkA g B least k i).1.length : Int)
  | 0 => rfl
  | n + 1 => by
    rw [List.range_succ, List.map_append, ← qfG (g := g) (B := B) (least := least) (k := k) n]
    rfl
def dpt (g : List (List Int)) (B least : Int) (k : Nat) : Nat → Nat → Nat
  | 0, _ => 0
  | f + 1, i => 1 + if (pkN g B least k i).1 = 0 then 0 else dpt g B least k f (i - (pkN g B least k i).1)
theorem qmO {g : List (List Int)} {B least : Int} {k i : Nat} : (pkN g B least k i).1 ≤ i := by
  have := (qdA (g := g) (B := B) (least := least) (k := k) (i := i)).1
  omega
theorem qmb {g : List (List Int)} {B least : Int} {k : Nat} : ∀ {f i : Nat}, dpt g B least k f i ≤ i + 1
  | 0, i => by unfold dpt; omega
  | f + 1, i => by
    unfold dpt
    by_cases hr : (pkN g B least k i).1 = 0
    · rw [if_pos hr]; omega
    · rw [if_neg hr]
      have := qmO (g := g) (B := B) (least := least) (k := k) (i := i)
      have := qmb (g := g) (B := B) (least := least) (k := k) (f := f) (i := i - (pkN g B least k i).1)
      omega
theorem qn7 {g : List (List Int)} {B least : Int} {k f i : Nat} : 1 ≤ dpt g B least k (f + 1) i := by
  unfold dpt; omega
theorem qpV {g : List (List Int)} (hg : Gr g) {B least : Int} {k : Nat} (hh : hcE B least (k : Int) = 0) (hl : (pkA g B least k g.length).1.length ≤ 8192) {i : Nat} (hi : i < g.length) :
    ∃ p q : Nat, p ≤ (pkA g B least k g.length).1.length ∧ pkO (pkA g B least k g.length).1 B i (pkA g B least k i).1.length = some (((pkN g B least k i).1 : Int), p) ∧
      rdl (pkA g B least k g.length).1 p (i : Int) (pkF g i (pkN g B least k i).1) ((pkN g B least k i).1 : Int) least k = some (g.getD i [], q) := by
  obtain ⟨k1, k2, k', hk, k3, k4⟩ := qbb hh
  have hkk : k = k' := by omega
  subst hkk
  obtain ⟨hr, _⟩ := qdA (g := g) (B := B) (least := least) (k := k) (i := i)
  have hgl := hg.1
  obtain ⟨R, hR⟩ := qiy (g := g) (B := B) (least := least) (k := k) hi
  have hA : (pkA g B least k (i + 1)).1.length = (pkA g B least k i).1.length + (pkH B (pkN g B least k i).1).length + (enc (i : Int) (g.getD i []) (pkF g i (pkN g B least k i).1) ((pkN g B least k i).1 : Int) least k).length := by
    have := (qdA (g := g) (B := B) (least := least) (k := k) (i := i)).2
    rw [pkA, this]
    unfold pkW
    simp only [List.length_append]; omega
  have hM := qd1 (g := g) (B := B) (least := least) (k := k) (show i + 1 ≤ g.length from hi)
  refine ⟨(pkA g B least k i).1.length + (pkH B (pkN g B least k i).1).length, (pkA g B least k i).1.length + (pkH B (pkN g B least k i).1).length + (enc (i : Int) (g.getD i []) (pkF g i (pkN g B least k i).1) ((pkN g B least k i).1 : Int) least k).length, by omega, ?_, ?_⟩
  · unfold pkO pkH
    by_cases hB : B = 0
    · have : (pkN g B least k i).1 = 0 := by rw [hB] at hr ⊢; simp at hr; exact hr
      rw [if_pos hB, this, if_neg (by omega)]
      simp
    · rw [if_neg hB, if_pos (by omega)]
      rw [hR]
      unfold pkH
      rw [if_pos (by omega)]
      simp only [List.append_assoc]
      exact qc7 (by omega) (by omega) _ _
  · have hE : (enc (i : Int) (g.getD i []) (pkF g i (pkN g B least k i).1) ((pkN g B least k i).1 : Int) least k).length ≤ 8192 := by omega
    have hD := qkF (k := k) k3 k4 (node := (i : Int)) (back := ((pkN g B least k i).1 : Int)) (least := least) (x := g.getD i []) (fr := pkF g i (pkN g B least k i).1) (by unfold Nd; omega) k2 (qfg hg i) (fun _ => qeR hg _ _) ((pkA g B least k i).1 ++ pkH B (pkN g B least k i).1) R hE
    rw [hR]
    simp only [List.append_assoc, List.length_append] at hD ⊢
    exact hD
theorem qpE {l : List Nat} {i : Nat} (h : i < l.length) : gf l (i : Int) = (((l[i] : Nat) : Int), 0) := by
  unfold gf; rw [if_pos (by omega), Int.toNat_natCast, List.getElem?_eq_getElem h]
abbrev S14 := Int × Int × Int × Int × Int × List Int × Int × Int × Int × Int × List Int × Int × List Int × Int
def shz (e : Int) : S14 := (0, 0, 0, 0, 0, [], 0, 0, 0, 0, [], 0, [], e)
def fwp (g : List (List Int)) (B least k : Int) : F8 := fw (pkA g B least k.toNat g.length).2.2 ((pkA g B least k.toNat g.length).1.length : Int)
def shE (g : List (List Int)) (B least k : Int) : Int := if pkE g B least k ≠ 0 then pkE g B least k else (fwp g B least k).2.2.2.2.2.2.2
def shb (g : List (List Int)) (B least k : Int) : S14 :=
  if shE g B least k ≠ 0 then shz (shE g B least k) else ((g.length : Int), B, least, k, ((pkA g B least k.toNat g.length).1.length : Int), pk (pkA g B least k.toNat g.length).1, (fwp g B least k).1, (fwp g B least k).2.1, (fwp g B least k).2.2.1, (fwp g B least k).2.2.2.1, (fwp g B least k).2.2.2.2.1, (fwp g B least k).2.2.2.2.2.1, (fwp g B least k).2.2.2.2.2.2.1, 0)
theorem qnj {g : List (List Int)} {B least k : Int} : shE g B least k = 0 ↔ pkE g B least k = 0 ∧ (fwp g B least k).2.2.2.2.2.2.2 = 0 := by
  unfold shE
  by_cases h : pkE g B least k = 0
  · rw [if_neg (by simp [h])]; simp [h]
  · rw [if_pos h]; simp [h]
theorem qjB {g : List (List Int)} {B least k : Int} (h : shE g B least k = 0) : shb g B least k = ((g.length : Int), B, least, k, ((pkA g B least k.toNat g.length).1.length : Int), pk (pkA g B least k.toNat g.length).1, (fwp g B least k).1, (fwp g B least k).2.1, (fwp g B least k).2.2.1, (fwp g B least k).2.2.2.1, (fwp g B least k).2.2.2.2.1, (fwp g B least k).2.2.2.2.2.1, (fwp g B least k).2.2.2.2.2.2.1, 0) := by
  unfold shb; rw [if_neg (by simp [h])]
theorem qhC {g : List (List Int)} {B least k : Int} (h : shE g B least k ≠ 0) : shb g B least k = shz (shE g B least k) := by
  unfold shb; rw [if_pos h]
def blt (N B least k m : Int) (b : List Int) (f : F8) : S14 := if f.2.2.2.2.2.2.2 ≠ 0 then shz f.2.2.2.2.2.2.2 else (N, B, least, k, m, b, f.1, f.2.1, f.2.2.1, f.2.2.2.1, f.2.2.2.2.1, f.2.2.2.2.2.1, f.2.2.2.2.2.2.1, 0)
theorem qgh {F : Nat} (hF : 2000000 ≤ F) {g : List (List Int)} {N B least k m : Int} {b : List Int} (hp : pkE g B least k = 0) :
    vP F g N B least k m b = some (blt N B least k m b (fw (pkA g B least k.toNat g.length).2.2 m)) := qlZ hF hp
theorem qia {F : Nat} (hF : 2000000 ≤ F) {g : List (List Int)} {B least k : Int} : jT F g B least k = some (shb g B least k) := by
  unfold jT
  rw [qgz hF]
  simp only [Option.bind_some]
  by_cases hp : pkE g B least k = 0
  · have e : pwr g B least k = ((g.length : Int), B, least, k, ((pkA g B least k.toNat g.length).1.length : Int), pk (pkA g B least k.toNat g.length).1, 0) := by
      unfold pwr; rw [if_neg (by simp [hp])]
    rw [e]
    simp only
    rw [if_neg (by decide), qgh hF hp]
    show some (blt _ _ _ _ _ _ (fwp g B least k)) = _
    unfold blt
    by_cases h : (fwp g B least k).2.2.2.2.2.2.2 = 0
    · rw [if_neg (by simp [h]), qjB (qnj.2 ⟨hp, h⟩)]
    · have hs : shE g B least k = (fwp g B least k).2.2.2.2.2.2.2 := by unfold shE; rw [if_neg (by simp [hp])]
      rw [if_pos h, qhC (by rw [hs]; exact h), hs]
  · have e : pwr g B least k = (0, 0, 0, 0, 0, [], pkE g B least k) := by
      unfold pwr; rw [if_pos hp]
    have hs : shE g B least k = pkE g B least k := by unfold shE; rw [if_pos hp]
    rw [e]
    simp only
    rw [if_pos (by simpa using hp), qhC (by rw [hs]; exact hp), hs]
    rfl
theorem qlf (F : Nat) (g : List (List Int)) (N B least k m : Int) (b : List Int) : qba F g N B least k m b = vP F g N B least k m b := rfl
theorem qgp {g : List (List Int)} {B least k : Int} : (∃ (ns : List Nat) (kk : Nat), (pkA g B least k.toNat g.length).2.2 = lc ns ∧ ((pkA g B least k.toNat g.length).1.length : Int) = kk ∧ kk ≤ 1048576 ∧ ns.length ≤ 300 ∧ Up kk 0 ns ∧ Fits kk ns ∧ fwp g B least k = fo8 kk ns) ∨ (∃ e : Int, e ≠ 0 ∧ fwp g B least k = fz8 e) := by
  rcases qmk (l := (pkA g B least k.toNat g.length).2.2) (t := ((pkA g B least k.toNat g.length).1.length : Int)) with ⟨ns, kk, h1, h2, h3, h4, h5, h6, h7⟩ | ⟨e, h1, h2, _⟩
  · exact Or.inl ⟨ns, kk, h1, h2, h3, h4, h5, h6, h7⟩
  · exact Or.inr ⟨e, h1, h2⟩
theorem qob {g : List (List Int)} {B least k : Int} : (fwp g B least k).2.2.2.2.1.length ≤ 1100 ∧ (fwp g B least k).2.2.2.2.2.2.1.length ≤ 1100 := by
  rcases qgp (g := g) (B := B) (least := least) (k := k) with ⟨ns, kk, h1, h2, h3, h4, h5, h6, h7⟩ | ⟨e, h1, h2⟩
  · rw [h7]
    have e1 := qct kk ns
    have e2 := qdU h5
    unfold Fits at h6
    unfold fo8
    simp only [qcV]
    omega
  · rw [h2]; unfold fz8; simp
theorem qlD {F : Nat} {a1 a2 a3 a4 a6 n t w lw hw : Int} {a5 a7 xl xh : List Int} (h1 : a5.length < F) (h2 : a7.length < F) (h3 : a5.length ≤ 1000000) (h4 : a7.length ≤ 1000000) :
    qbk F a1 a2 a3 a4 a5 a6 a7 n t w lw xl hw xh = some (decide ((a1, a2, a3, a4, a5, a6, a7) = (n, t, w, lw, xl, hw, xh))) := by
  unfold qbk j9 qaa
  by_cases h : a1 = n ∧ a2 = t ∧ a3 = w ∧ a4 = lw ∧ a6 = hw
  · obtain ⟨rfl, rfl, rfl, rfl, rfl⟩ := h
    rw [if_pos (by simp), peqb h1 h3]
    simp only [Option.bind_some]
    by_cases h5 : a5 = xl
    · subst h5
      rw [if_pos (by simp), peqb h2 h4]
      simp
    · rw [if_neg (by simpa using h5)]
      simp [h5]
  · rw [if_neg (by simp; intros; simp_all), if_neg (by decide)]
    congr 1
    symm
    rw [decide_eq_false_iff_not]
    intro hc
    simp only [Prod.mk.injEq] at hc
    exact h ⟨hc.1, hc.2.1, hc.2.2.1, hc.2.2.2.1, hc.2.2.2.2.2.1⟩
instance f8Dec : DecidableEq F8 := fun a b => decidable_of_iff (a.1 = b.1 ∧ a.2 = b.2) ⟨fun h => Prod.ext h.1 h.2, fun h => by rw [h]; exact ⟨rfl, rfl⟩⟩
def shc (N B least k m : Int) (b : List Int) (n t w lw : Int) (xl : List Int) (hw : Int) (xh : List Int) : Int :=
  if (prd N B least k m b).2 ≠ 0 then (prd N B least k m b).2 else if fwp (prd N B least k m b).1 B least k = (n, t, w, lw, xl, hw, xh, 0) then 0 else 4
theorem qcz {F : Nat} (hF : 2000000 ≤ F) {N B least k m n t w lw hw : Int} {b xl xh : List Int} (hb : U8s b) (hm : I64 m) (lb : b.length ≤ 9223372036854775807) :
    vN F N B least k m b n t w lw xl hw xh = some (shc N B least k m b n t w lw xl hw xh) := by
  unfold vN shc
  rw [qmV hF hb hm lb]
  simp only [Option.bind_some]
  by_cases h : (prd N B least k m b).2 = 0
  · obtain ⟨g, h1, h2, h3, h4, h5⟩ := qpP hb h
    rw [h1]
    simp only
    rw [if_neg (by decide), if_neg (by simp), qlf, qgh hF h2]
    simp only [Option.bind_some]
    subst h4
    have ef : fw (pkA g B least k.toNat g.length).2.2 ((pkA g B least k.toNat g.length).1.length : Int) = fwp g B least k := rfl
    rw [ef]
    by_cases he : (fwp g B least k).2.2.2.2.2.2.2 = 0
    · have e2 : ∀ m', blt N B least k m' b (fwp g B least k) = (N, B, least, k, m', b, (fwp g B least k).1, (fwp g B least k).2.1, (fwp g B least k).2.2.1, (fwp g B least k).2.2.2.1, (fwp g B least k).2.2.2.2.1, (fwp g B least k).2.2.2.2.2.1, (fwp g B least k).2.2.2.2.2.2.1, 0) := by
        intro m'; unfold blt; rw [if_neg (by simp [he])]
      rw [e2]
      simp only
      rw [if_neg (by decide)]
      obtain ⟨l1, l2⟩ := qob (g := g) (B := B) (least := least) (k := k)
      rw [qlD (by omega) (by omega) (by omega) (by omega)]
      simp only [Option.bind_some]
      unfold yW
      by_cases hs : fwp g B least k = (n, t, w, lw, xl, hw, xh, 0)
      · rw [if_pos hs, hs]; simp
      · rw [if_neg hs, if_pos]
        simp only [Bool.not_eq_true', decide_eq_false_iff_not]
        intro hc
        apply hs
        simp only [Prod.mk.injEq] at hc
        obtain ⟨c1, c2, c3, c4, c5, c6, c7⟩ := hc
        rw [← c1, ← c2, ← c3, ← c4, ← c5, ← c6, ← c7, ← he]
    · have e2 : ∀ m', blt N B least k m' b (fwp g B least k) = shz (fwp g B least k).2.2.2.2.2.2.2 := by
        intro m'; unfold blt; rw [if_pos he]
      rw [e2, if_pos (by simpa [shz] using he)]
      unfold yW
      rw [if_pos (by rfl), if_neg]
      intro hc
      rw [hc] at he
      exact he rfl
  · rw [if_pos (by simpa using h), if_pos h]
theorem qjC {g : List (List Int)} {B least k n t w lw hw : Int} {xl xh : List Int} (h : pkE g B least k = 0) (hs : fwp g B least k = (n, t, w, lw, xl, hw, xh, 0)) :
    shc (g.length : Int) B least k ((pkA g B least k.toNat g.length).1.length : Int) (pk (pkA g B least k.toNat g.length).1) n t w lw xl hw xh = 0 := by
  unfold shc
  rw [qmU h]
  simp only
  rw [if_neg (by decide), if_pos hs]
theorem qgo {g : List (List Int)} {B least : Int} {k : Nat} (hp : pkE g B least (k : Int) = 0) {n t w lw hw : Int} {xl xh : List Int} (hf : fwp g B least (k : Int) = (n, t, w, lw, xl, hw, xh, 0)) :
    ∀ (f F i rd : Nat), 2000000 + f ≤ F → i < f → i < g.length → rd + f ≤ 1000000 →
    zY F (g.length : Int) B least (k : Int) ((pkA g B least k g.length).1.length : Int) (pk (pkA g B least k g.length).1) n t w lw xl hw xh (rd : Int) (i : Int) =
      some (g.getD i [], (g.length : Int), B, least, (k : Int), ((pkA g B least k g.length).1.length : Int), n, t, w, lw, hw, ((rd + dpt g B least k f i : Nat) : Int))
  | 0, _, _, _, _, h, _, _ => by omega
  | f + 1, F, i, rd, hF, hi, hg, hr => by
    obtain ⟨F, rfl⟩ : ∃ F', F = F' + 1 := ⟨F - 1, by omega⟩
    obtain ⟨p1, p2, p3⟩ := qcU hp
    rw [Int.toNat_natCast] at p3
    have hG := qcr.1 p1
    have hgl := hG.1
    obtain ⟨k1, k2, k', hk, k3, k4⟩ := qbb p2
    have hkk : k = k' := by omega
    subst hkk
    obtain ⟨p, q, q1, q2, q3⟩ := qpV hG p2 p3 hg
    have hri := qmO (g := g) (B := B) (least := least) (k := k) (i := i)
    have hbit := qcx (g := g) (B := B) (least := least) (k := k) g.length
    have hmono := qd1 (g := g) (B := B) (least := least) (k := k) (show i ≤ g.length by omega)
    have hget : qbx F n t w lw xl hw xh (i : Int) = some (((pkA g B least k i).1.length : Int), 0) := by
      rcases qgp (g := g) (B := B) (least := least) (k := (k : Int)) with ⟨ns, kk, h1, h2, h3, h4, h5, h6, h7⟩ | ⟨e, h1, h2⟩
      · rw [hf] at h7
        unfold fo8 at h7
        simp only [Prod.mk.injEq] at h7
        obtain ⟨rfl, rfl, rfl, rfl, rfl, rfl, rfl, -⟩ := h7
        rw [Int.toNat_natCast, qfG] at h1
        have hlen : ns.length = g.length := by
          have := congrArg List.length h1
          rw [qbc] at this
          simpa using this.symm
        rw [qmm (by omega) (qqb h5 h6) (qod h3 h4 h5 h6), qpE (show i < ns.length by omega)]
        have h8 := qjm (l := ns) (i := i) (by omega)
        rw [← h1] at h8
        simp only [List.getElem?_map, List.getElem?_range hg, Option.map_some, Option.some.injEq] at h8
        rw [← h8]
      · rw [hf] at h2
        unfold fz8 at h2
        simp only [Prod.mk.injEq] at h2
        exact absurd h2.2.2.2.2.2.2.2.symm h1
    unfold zY
    simp only
    rw [hget]
    simp only [Option.bind_some]
    rw [qkx (by omega) hbit p3 k1 (by omega) (by omega), q2]
    simp only [Option.bind_some]
    have hfrom : ∀ fr : List Int, fr = pkF g i (pkN g B least k i).1 → vb F ((pkA g B least k g.length).1.length : Int) (pk (pkA g B least k g.length).1) (p : Int) (i : Int) fr ((pkN g B least k i).1 : Int) least (k : Int) = some (g.getD i [], (q : Int), 0) := by
      rintro fr rfl
      rw [qiN (by omega) k3 k4 hbit p3 (by unfold Nd; omega) q1 (fun _ => qeR hG _ _) k2, q3]
    by_cases h0 : (pkN g B least k i).1 = 0
    · rw [if_neg (by simp [h0])]
      unfold zR
      simp only
      rw [hfrom [] (by unfold pkF; rw [h0, if_neg (by omega)])]
      simp only [Option.bind_some]
      rw [qs (by omega)]
      unfold dpt
      rw [if_pos h0]
    · rw [if_pos (by simp; omega), qs (by omega)]
      have e1 : isub .i64 (i : Int) ((pkN g B least k i).1 : Int) = ((i - (pkN g B least k i).1 : Nat) : Int) := by
        rw [zg (by omega) (by omega)]; omega
      rw [e1, qgo hp hf f F (i - (pkN g B least k i).1) (rd + 1) (by omega) (by omega) (by omega) (by omega)]
      simp only [Option.bind_some]
      unfold zR
      simp only
      rw [hfrom _ (by unfold pkF; rw [if_pos (by omega)])]
      simp only [Option.bind_some]
      have e2 : rd + dpt g B least k (f + 1) i = rd + 1 + dpt g B least k f (i - (pkN g B least k i).1) := by
        rw [dpt, if_neg h0]; omega
      rw [e2]
structure Shf (g : List (List Int)) (B least k n t w lw : Int) (xl : List Int) (hw : Int) (xh : List Int) : Prop where
  pe : pkE g B least k = 0
  fe : fwp g B least k = (n, t, w, lw, xl, hw, xh, 0)
theorem qkU {g : List (List Int)} {B least k : Int} (h : shE g B least k = 0) : Shf g B least k (fwp g B least k).1 (fwp g B least k).2.1 (fwp g B least k).2.2.1 (fwp g B least k).2.2.2.1 (fwp g B least k).2.2.2.2.1 (fwp g B least k).2.2.2.2.2.1 (fwp g B least k).2.2.2.2.2.2.1 := by
  obtain ⟨h1, h2⟩ := qnj.1 h
  refine ⟨h1, ?_⟩
  rw [← h2]
theorem qnn {g : List (List Int)} {B least k n t w lw hw : Int} {xl xh : List Int} (s : Shf g B least k n t w lw xl hw xh) :
    U8s (pk (pkA g B least k.toNat g.length).1) ∧ I64 ((pkA g B least k.toNat g.length).1.length : Int) ∧ (pk (pkA g B least k.toNat g.length).1).length ≤ 9223372036854775807 := by
  obtain ⟨p1, p2, p3⟩ := qcU s.pe
  refine ⟨qcI (qcx _), ⟨by omega, by omega⟩, ?_⟩
  rw [qcV]; omega
def rdn' (g : List (List Int)) (B least k : Int) (i : Nat) : Nat := dpt g B least k.toNat 101 i
theorem qhp {F : Nat} (hF : 2000200 ≤ F) {g : List (List Int)} {B least k n t w lw hw : Int} {xl xh : List Int} (s : Shf g B least k n t w lw xl hw xh) {i : Nat} (hi : i < g.length) :
    kS F (g.length : Int) B least k ((pkA g B least k.toNat g.length).1.length : Int) (pk (pkA g B least k.toNat g.length).1) n t w lw xl hw xh (i : Int) = some (g.getD i [], (rdn' g B least k i : Int), 0) := by
  obtain ⟨p1, p2, p3⟩ := qcU s.pe
  have hgl := (qcr.1 p1).1
  obtain ⟨k1, k2, k', rfl, k3, k4⟩ := qbb p2
  obtain ⟨b1, b2, b3⟩ := qnn s
  unfold kS
  rw [qcz (by omega) b1 b2 b3, qjC s.pe s.fe]
  simp only [Option.bind_some]
  rw [if_pos (by rfl)]
  unfold vC
  rw [if_neg (by simp; omega)]
  unfold vB
  rw [if_neg (by decide)]
  have := qgo s.pe s.fe 101 F i 0 (by omega) (by omega) hi (by omega)
  rw [Int.toNat_natCast] at *
  rw [show ((0 : Nat) : Int) = 0 from rfl] at this
  rw [this]
  simp only [Option.bind_some]
  unfold rdn'
  rw [Int.toNat_natCast, Nat.zero_add]
theorem qir {F : Nat} (hF : 2000200 ≤ F) {g : List (List Int)} {B least k n t w lw hw : Int} {xl xh : List Int} (s : Shf g B least k n t w lw xl hw xh) {i : Int} (hi : i < 0 ∨ (g.length : Int) ≤ i) :
    kS F (g.length : Int) B least k ((pkA g B least k.toNat g.length).1.length : Int) (pk (pkA g B least k.toNat g.length).1) n t w lw xl hw xh i = some ([], 0, 3) := by
  obtain ⟨b1, b2, b3⟩ := qnn s
  unfold kS
  rw [qcz (by omega) b1 b2 b3, qjC s.pe s.fe]
  simp only [Option.bind_some]
  rw [if_pos (by rfl)]
  unfold vC
  rw [if_pos (by simpa using hi)]
  unfold vB
  rw [if_pos (by decide)]
theorem qqv {F : Nat} {l : List Nat} {v : Int} {c : Nat} : qK F (lc l) v (c : Int) = some ((c : Int), decide ((l[c]?).map (fun x : Nat => (x : Int)) = some v)) := by
  unfold qK
  rw [qbc]
  by_cases h : c < l.length
  · rw [if_pos (by simpa using h), qR, qjm h, List.getElem?_eq_getElem h]
    simp only [Option.bind_some, Option.map_some]
    by_cases h2 : ((l[c] : Nat) : Int) = v
    · rw [if_pos (by simpa using h2), decide_eq_true (by rw [h2])]; rfl
    · rw [if_neg (by simpa using h2), qmv]
      simp only [Option.bind_some]
      rw [if_neg (by decide), decide_eq_false (by simpa using h2)]; rfl
  · rw [if_neg (by simpa using h), List.getElem?_eq_none (by omega)]; rfl
theorem qpy {F t : Nat} {l : List Nat} {v : Int} (hlm : l.length ≤ 300) (hu : Up t 0 l) : ∀ (k i j : Nat), j - i < k → i ≤ j → j ≤ l.length → (∀ (a x : Nat), a < i → l[a]? = some x → (x : Int) < v) → (∀ (a x : Nat), j ≤ a → l[a]? = some x → v ≤ (x : Int)) →
    ∃ c, At l v c ∧ qn F (lc l) v k ((i : Int), (j : Int)) = qK F (lc l) v (c : Int)
  | 0, _, _, _, _, _, _, _ => by omega
  | k + 1, i, j, hk, hij, hj, h1, h2 => by
    have e : qn F (lc l) v (k + 1) ((i : Int), (j : Int)) = qH F (lc l) v (qn F (lc l) v k) (i : Int) (j : Int) := rfl
    rw [e]
    unfold qH
    by_cases hlt : i < j
    · have hmid : (i + j) / 2 < l.length := by omega
      rw [if_pos (by simpa using hlt), qql (by omega)]
      simp only [lett]
      rw [qR, qjm hmid]
      simp only [Option.bind_some]
      rw [qmg]
      simp only [Option.bind_some]
      have hg : l[(i + j) / 2]? = some l[(i + j) / 2] := List.getElem?_eq_getElem hmid
      by_cases hv : ((l[(i + j) / 2] : Nat) : Int) < v
      · rw [if_pos (by simpa using hv), qs (by omega)]
        refine qpy hlm hu k _ _ (by omega) (by omega) hj (fun a x ha hx => ?_) h2
        have := qeT hu (show a ≤ (i + j) / 2 by omega) hx hg
        omega
      · rw [if_neg (by simpa using hv)]
        refine qpy hlm hu k _ _ (by omega) (by omega) (by omega) h1 (fun a x ha hx => ?_)
        have := qeT hu ha hg hx
        omega
    · obtain rfl : i = j := by omega
      rw [if_neg (by simp)]
      exact ⟨i, ⟨hj, h1, h2⟩, rfl⟩
theorem qpz {F t : Nat} (hF : 20000 ≤ F) {l : List Nat} {v : Int} (hlm : l.length ≤ 300) (hu : Up t 0 l) : ∃ c : Int, qr F (lc l) v = some (c, decide (v ∈ lc l)) := by
  obtain ⟨c, ⟨g1, g2, g3⟩, h5⟩ := qpy (F := F) (v := v) hlm hu F 0 l.length (by omega) (Nat.zero_le _) (Nat.le_refl _) (fun a x ha => by omega) (fun a x ha hx => by rw [List.getElem?_eq_none (by omega)] at hx; simp at hx)
  refine ⟨(c : Int), ?_⟩
  unfold qr
  rw [qbc]
  rw [show ((0 : Nat) : Int) = 0 from rfl] at h5
  rw [h5, qqv]
  congr 2
  rw [decide_eq_decide]
  unfold lc
  constructor
  · intro h
    rw [Option.map_eq_some_iff] at h
    obtain ⟨x, h1, h2⟩ := h
    rw [← h2]
    exact List.mem_map.2 ⟨x, List.mem_of_getElem? h1, rfl⟩
  · intro h
    obtain ⟨x, h1, h2⟩ := List.mem_map.1 h
    obtain ⟨i, hi, h3⟩ := List.mem_iff_getElem.1 h1
    have h4 : l[i]? = some x := by rw [List.getElem?_eq_getElem hi, h3]
    have h6 : c ≤ i := by
      by_cases hc : c ≤ i
      · exact hc
      · have := g2 i x (by omega) h4; omega
    have hcl : c < l.length := by omega
    have h7 : l[c]? = some l[c] := List.getElem?_eq_getElem hcl
    have h8 := g3 c _ (Nat.le_refl _) h7
    have h9 := qeT hu h6 h7 h4
    rw [h7, Option.map_some]
    congr 1
    omega
theorem qpr {t : Nat} : ∀ {l : List Int} {a : Int}, 0 ≤ a → (∀ x ∈ l, a ≤ x ∧ x ≤ t) → l.Pairwise (· < ·) → ∃ ns, l = lc ns ∧ Up t a.toNat ns
  | [], a, _, _, _ => ⟨[], rfl, trivial⟩
  | x :: l, a, ha, h, hp => by
    have h1 := h x (by simp)
    rw [List.pairwise_cons] at hp
    obtain ⟨ns, e, hu⟩ := qpr (t := t) (l := l) (a := x) (by omega) (fun y hy => ⟨Int.le_of_lt (hp.1 y hy), (h y (by simp [hy])).2⟩) hp.2
    refine ⟨x.toNat :: ns, ?_, by omega, by omega, hu⟩
    rw [e]
    show _ = ((x.toNat : Nat) : Int) :: lc ns
    rw [Int.toNat_of_nonneg (by omega)]
theorem qpA {F : Nat} (hF : 20000 ≤ F) {g : List (List Int)} (hg : Gr g) {i : Nat} (hi : i < g.length) {v : Int} : ∃ c : Int, qr F (g.getD i []) v = some (c, decide (v ∈ g.getD i [])) := by
  have hm : g.getD i [] ∈ g := by
    rw [List.getD_eq_getElem?_getD, List.getElem?_eq_getElem hi]; exact List.getElem_mem hi
  have h1 := hg.2.1 _ hm
  have h2 := qjg hg hm
  have h3 := hg.1
  obtain ⟨ns, e, hu⟩ := qpr (t := 100) (l := g.getD i []) (a := 0) (by omega) (fun x hx => by have := h1.2 x hx; omega) h1.1
  have hl : ns.length ≤ 300 := by rw [← qbc, ← e]; omega
  rw [e]
  exact qpz hF hl hu
theorem qfl {F : Nat} (hF : 2000200 ≤ F) {g : List (List Int)} {B least k n t w lw hw : Int} {xl xh : List Int} (s : Shf g B least k n t w lw xl hw xh) {i : Nat} (hi : i < g.length) {v : Int} :
    vO F (g.length : Int) B least k ((pkA g B least k.toNat g.length).1.length : Int) (pk (pkA g B least k.toNat g.length).1) n t w lw xl hw xh (i : Int) v = some (if v < 0 ∨ (g.length : Int) ≤ v then (false, 3) else (decide (v ∈ g.getD i []), 0)) := by
  unfold vO
  rw [qhp hF s hi]
  simp only [Option.bind_some]
  rw [if_pos (by rfl)]
  unfold jH jG
  by_cases hv : v < 0 ∨ (g.length : Int) ≤ v
  · rw [if_pos (by simpa using hv), if_pos (by decide), if_pos hv]
  · rw [if_neg (by simpa using hv), if_neg (by simp), if_neg hv]
    obtain ⟨c, hc⟩ := qpA (F := F) (by omega) (qcr.1 (qcU s.pe).1) hi (v := v)
    simp only
    rw [hc]
    rfl
theorem qkB {F : Nat} {xs ys : List Int} (he : xs.length = ys.length) (hm : xs.length ≤ 1000000) : ∀ (k i : Nat), xs.length < k + i → i ≤ xs.length → yk F xs ys k (i : Int) = some (decide (xs.drop i = ys.drop i))
  | 0, _, _, _ => by omega
  | k + 1, i, h, hi => by
    show jY F xs ys (yk F xs ys k) (i : Int) = _
    unfold jY
    by_cases hlt : i < xs.length
    · have hlt' : i < ys.length := by omega
      rw [if_pos (by simp; omega), qR, List.getElem?_eq_getElem hlt, qR, List.getElem?_eq_getElem hlt']
      simp only [Option.bind_some]
      rw [List.drop_eq_getElem_cons hlt, List.drop_eq_getElem_cons hlt']
      by_cases hc : xs[i] = ys[i]
      · rw [if_neg (by simp [hc]), qs (by omega), qkB he hm k (i + 1) (by omega) (by omega)]
        congr 1
        rw [decide_eq_decide, List.cons.injEq]
        exact ⟨fun h => ⟨hc, h⟩, fun h => h.2⟩
      · rw [if_pos (by simpa using hc), decide_eq_false (fun e => hc (List.cons.inj e).1)]
    · rw [if_neg (by simp; omega), List.drop_eq_nil_of_le (by omega), List.drop_eq_nil_of_le (by omega)]
      rfl
theorem qfx {F : Nat} {xs ys : List Int} (hF : xs.length < F) (hm : xs.length ≤ 1000000) : qaj F xs ys = some (decide (xs = ys)) := by
  unfold qaj
  by_cases h : xs.length = ys.length
  · rw [if_neg (by simp [h])]
    have := qkB (F := F) h hm F 0 (by omega) (Nat.zero_le _)
    rw [List.drop_zero, List.drop_zero] at this
    exact this
  · rw [if_pos (by simp; omega), decide_eq_false (fun e => h (by rw [e]))]
theorem qiO {F : Nat} (hF : 2000000 ≤ F) {N B least k m n t w lw hw : Int} {b xl xh : List Int} (h1 : b.length ≤ 1000000) (h2 : xl.length ≤ 1000000) (h3 : xh.length ≤ 1000000) :
    jO F N B least k m b n t w lw xl hw xh N B least k m b n t w lw xl hw xh = some true := by
  unfold jO qbu vT
  rw [if_pos (by simp), qlB (by omega) (by omega)]
  simp only [Option.bind_some]
  rw [if_pos (by trivial), qiM (by omega) (by omega) (by omega) (by omega), decide_eq_true ⟨rfl, rfl, rfl, rfl, rfl, rfl, rfl⟩]
  rfl
theorem qno {F : Nat} (hF : 2000000 ≤ F) : jO F 0 0 0 0 0 [] 0 0 0 0 [] 0 [] 0 0 0 0 0 [] 0 0 0 0 [] 0 [] = some true :=
  qiO hF (by simp) (by simp) (by simp)
theorem qnk : shE pkSome 3 3 2 = 0 := by decide +kernel
theorem qnm : rdn' pkSome 3 3 2 1 = 2 := by decide +kernel
theorem qnl : fwp pkSome 3 3 2 ≠ (0, 0, 0, 0, [], 0, [], 0) := by decide +kernel
theorem qoB {F : Nat} (hF : 2000200 ≤ F) : qah F = some true := by
  have hS : qb0 F = some pkSome := rfl
  have hE := qnk
  have s := qkU hE
  obtain ⟨b1, b2, b3⟩ := qnn s
  have l1 := qhp hF s (i := 1) (by decide)
  have l2 := qfl hF s (i := 4) (by decide) (v := 4)
  have l3 := qfl hF s (i := 4) (by decide) (v := 5)
  have l4 := qir hF s (i := 6) (by decide)
  have l5 := qcz (F := F) (by omega) (N := (pkSome.length : Int)) (B := 3) (least := 3) (k := 2) (n := (fwp pkSome 3 3 2).1) (t := (fwp pkSome 3 3 2).2.1) (w := (fwp pkSome 3 3 2).2.2.1) (lw := (fwp pkSome 3 3 2).2.2.2.1) (xl := (fwp pkSome 3 3 2).2.2.2.2.1) (hw := (fwp pkSome 3 3 2).2.2.2.2.2.1) (xh := (fwp pkSome 3 3 2).2.2.2.2.2.2.1) b1 b2 b3
  rw [qjC s.pe s.fe] at l5
  have l6 := qcz (F := F) (by omega) (N := (pkSome.length : Int)) (B := 3) (least := 3) (k := 2) (n := 0) (t := 0) (w := 0) (lw := 0) (xl := []) (hw := 0) (xh := []) b1 b2 b3
  have e6 : shc (pkSome.length : Int) 3 3 2 ((pkA pkSome 3 3 (2 : Int).toNat pkSome.length).1.length : Int) (pk (pkA pkSome 3 3 (2 : Int).toNat pkSome.length).1) 0 0 0 0 [] 0 [] = 4 := by
    unfold shc
    rw [qmU s.pe]
    simp only
    rw [if_neg (by decide), if_neg qnl]
  rw [e6] at l6
  rw [show ((1 : Nat) : Int) = 1 from rfl, qnm] at l1
  rw [show ((4 : Nat) : Int) = 4 from rfl] at l2 l3
  rw [if_neg (by decide), decide_eq_true (by decide)] at l2
  rw [if_neg (by decide), decide_eq_false (by decide)] at l3
  unfold qah
  rw [hS]
  simp only [Option.bind_some]
  rw [qia (by omega), qjB hE]
  simp only [Option.bind_some]
  rw [l1]
  simp only [Option.bind_some]
  rw [l2]
  simp only [Option.bind_some]
  rw [l3]
  simp only [Option.bind_some]
  rw [l4]
  simp only [Option.bind_some]
  rw [if_pos (by rfl), show pkSome.getD 1 [] = [1, 2, 3, 5] from rfl, qfx (by simp; omega) (by simp), decide_eq_true rfl]
  simp only [Option.bind_some]
  unfold vR
  simp only
  rw [if_pos (by rfl), l5]
  simp only [Option.bind_some]
  unfold vS
  simp only
  rw [if_pos (by rfl), l6]
  rfl
theorem qqg {g : List (List Int)} {i : Nat} (hi : i < g.length) : g.getD i [] ∈ g := by
  rw [List.getD_eq_getElem?_getD, List.getElem?_eq_getElem hi]; exact List.getElem_mem hi
theorem qlp {F : Nat} (hF : 2000200 ≤ F) {g : List (List Int)} {B least k node to : Int} : qbZ F g B least k node to = some true := by
  unfold qbZ
  rw [qia (by omega)]
  simp only [Option.bind_some]
  rw [qoB hF]
  simp only [Option.bind_some]
  rw [if_neg (by decide)]
  by_cases hE : shE g B least k = 0
  · have s := qkU hE
    have hG := qcr.1 (qcU s.pe).1
    have hgl := hG.1
    rw [qjB hE]
    simp only
    rw [if_neg (by decide)]
    by_cases ho : node < 0 ∨ (g.length : Int) ≤ node
    · rw [qir hF s ho]
      simp only [Option.bind_some]
      rw [if_pos (by simpa using ho)]
      rfl
    · obtain ⟨i, rfl⟩ := Int.eq_ofNat_of_zero_le (a := node) (by omega)
      have hi : i < g.length := by omega
      have hm := qqg hi
      have hr := qjg hG hm
      rw [qhp hF s hi]
      simp only [Option.bind_some]
      rw [if_neg (by simp; omega), if_neg (by decide), qfe hi]
      simp only [Option.bind_some]
      rw [qfx (by omega) (by omega), decide_eq_true rfl]
      simp only [Option.bind_some]
      unfold jy
      simp only
      have d1 : 1 ≤ rdn' g B least k i := qn7
      have d2 : rdn' g B least k i ≤ i + 1 := qmb
      rw [qs (by omega), if_neg (by simp; omega), qfl hF s hi]
      simp only [Option.bind_some]
      unfold jz jB jA
      by_cases ht : to < 0 ∨ (g.length : Int) ≤ to
      · rw [if_pos ht]
        simp only
        rw [if_pos (by rfl), if_pos (by simpa using ht)]
      · rw [if_neg ht]
        simp only
        rw [if_neg (by decide), if_neg (by decide), if_pos (by rfl), qln (by omega) (by omega)]
        simp
  · rw [qhC hE]
    unfold shz
    simp only
    rw [if_pos (by simpa using hE), qno (by omega)]
    rfl
end Go.Proofs.YtmhggdbfbmkpeaaGreat
