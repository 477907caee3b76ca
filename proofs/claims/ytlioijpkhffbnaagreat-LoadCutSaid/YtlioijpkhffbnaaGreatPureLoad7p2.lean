/- Plain facts of what the functions of this seat compute, part 2. -/
import Derived.Test.YtlioijpkhffbnaaGreatPureLoad7
import Derived.KernelRfl
import Derived.Lib.SlicesCompact
namespace Go.Proofs.YtlioijpkhffbnaaGreat
open Go SX
variable {F : Nat} {rec68 : (List (Int × Int) × List Int × Int) → Option (List (Int × Int) × List Int)} {l : List Int} {least : Int} {o : List (Int × Int)} {rest : List Int} {i : Int}
def pkR (l : List Int) (B least : Int) (k : Nat) : Nat → List (List Int) → Nat → Option (List (List Int) × Nat)
  | 0, out, p => some (out, p)
  | m + 1, out, p => (pkO l B out.length p).bind fun o => (rdl l o.2 (out.length : Int) (pkF out out.length o.1.toNat) o.1 least k).bind fun r => pkR l B least k m (out ++ [r.1]) r.2
theorem qjz {g : List (List Int)} {i : Nat} (h : i < g.length) : g.take i ++ [g.getD i []] = g.take (i + 1) := by
  rw [List.take_add_one, List.getD_eq_getElem?_getD, List.getElem?_eq_getElem h]
  rfl
theorem qmx {g : List (List Int)} {i r : Nat} (h : r ≤ i) (_hi : i ≤ g.length) : pkF (g.take i) i r = pkF g i r := by
  unfold pkF
  split
  · rw [List.getD_eq_getElem?_getD, List.getD_eq_getElem?_getD, List.getElem?_take, if_pos (by omega)]
  · rfl
theorem qg6 {g : List (List Int)} (hg : Gr g) {B least : Int} {k : Nat} (hh : hcE B least (k : Int) = 0) (hl : (pkA g B least k g.length).1.length ≤ 8192) (T : List Int) : ∀ (m i : Nat), i + m = g.length →
    pkR ((pkA g B least k g.length).1 ++ T) B least k m (g.take i) (pkA g B least k i).1.length = some (g, (pkA g B least k g.length).1.length)
  | 0, i, h => by
    have : i = g.length := by omega
    subst this
    simp [pkR]
  | m + 1, i, h => by
    have hi : i < g.length := by omega
    obtain ⟨k1, k2, k', hk, k3, k4⟩ := qal hh
    have hkk : k = k' := by omega
    subst hkk
    obtain ⟨hr, _⟩ := qg4 (g := g) (B := B) (least := least) (k := k) (i := i)
    have hgl := hg.1
    have hti : (g.take i).length = i := by rw [List.length_take]; omega
    obtain ⟨R, hR⟩ := qmw (g := g) (B := B) (least := least) (k := k) hi
    have hnext := qg6 hg hh hl T m (i + 1) (by omega)
    have hA : (pkA g B least k (i + 1)).1.length = (pkA g B least k i).1.length + (pkH B (pkN g B least k i).1).length + (enc (i : Int) (g.getD i []) (pkF g i (pkN g B least k i).1) ((pkN g B least k i).1 : Int) least k).length := by
      have := (qg4 (g := g) (B := B) (least := least) (k := k) (i := i)).2
      rw [pkA, this]
      unfold pkW
      simp only [List.length_append]; omega
    have hO : pkO ((pkA g B least k g.length).1 ++ T) B i (pkA g B least k i).1.length = some (((pkN g B least k i).1 : Int), (pkA g B least k i).1.length + (pkH B (pkN g B least k i).1).length) := by
      unfold pkO pkH
      by_cases hB : B = 0
      · have : (pkN g B least k i).1 = 0 := by rw [hB] at hr ⊢; simp at hr; exact hr
        rw [if_pos hB, this, if_neg (by omega)]
        simp
      · rw [if_neg hB, if_pos (by omega)]
        rw [hR]
        unfold pkH
        rw [if_pos (by omega)]
        simp only [List.append_assoc]
        exact qdH (by omega) (by omega) _ _
    unfold pkR
    rw [hti, hO]
    simp only [Option.bind_some, Int.toNat_natCast]
    rw [qmx (by omega) (by omega)]
    have hE : (enc (i : Int) (g.getD i []) (pkF g i (pkN g B least k i).1) ((pkN g B least k i).1 : Int) least k).length ≤ 8192 := by
      have := qik (g := g) (B := B) (least := least) (k := k) (show i + 1 ≤ g.length from hi)
      omega
    have hD := qoe (k := k) k3 k4 (node := (i : Int)) (back := ((pkN g B least k i).1 : Int)) (least := least) (x := g.getD i []) (fr := pkF g i (pkN g B least k i).1) (by unfold Nd; omega) k2 (qgP hg i) (fun _ => qkg hg _ _) ((pkA g B least k i).1 ++ pkH B (pkN g B least k i).1) (R ++ T) hE
    rw [hR]
    simp only [List.append_assoc, List.length_append] at hD ⊢
    rw [hD]
    simp only [Option.bind_some]
    rw [qjz hi]
    rw [hR] at hnext
    simp only [List.append_assoc, List.length_append] at hnext
    rw [← hnext, hA]
theorem qpw {B least k : Int} {r : Nat} (h : hcE B least k = 0) (hr : (r : Int) ≤ B) : hcE (r : Int) least k = 0 := by
  unfold hcE at h ⊢
  by_cases hb : hcB B least k
  · rw [if_pos hb] at h; simp at h
  · rw [if_neg (by unfold hcB at hb ⊢; omega)]
theorem qkG {F : Nat} (hF : 2000000 ≤ F) {A : List (List Int)} {x fr H : List Int} {r i k : Nat} {least : Int} (hA : A.length = i) (hi : i ≤ 100) (hx : gkc x = 0) (hfr : gkc fr = 0) (hh : hcE (r : Int) least (k : Int) = 0) (hH : Bit H) (hHl : H.length ≤ 100) :
    jq F A x (r : Int) least (k : Int) (H.length : Int) (pk H) fr = some (if (H ++ enc (i : Int) x fr (r : Int) least k).length ≤ 8192 then ((r : Int), ((H ++ enc (i : Int) x fr (r : Int) least k).length : Int), pk (H ++ enc (i : Int) x fr (r : Int) least k), true) else (0, 0, [], false)) := by
  unfold jq
  rw [qll hF, hA]
  simp only [Option.bind_some]
  have hE : swE (i : Int) x fr (r : Int) least (k : Int) = 0 := qpO hh (by unfold Nd; omega) hx (fun _ => hfr)
  rw [List.length_append]
  by_cases h1 : (enc (i : Int) x fr (r : Int) least k).length ≤ 8192
  · have hs := qqi hE (by rw [Int.toNat_natCast]; exact h1)
    rw [Int.toNat_natCast] at hs
    rw [hs]
    simp only
    rw [qC (by omega) (by omega)]
    by_cases h2 : H.length + (enc (i : Int) x fr (r : Int) least k).length ≤ 8192
    · rw [if_neg (by simp; omega), if_pos h2, qgF (by omega) (qcT hH) (qcT qgK) (qdE (by omega)) (qdE h1), qbx hH, qbx qgK]
      rfl
    · rw [if_pos (by simp; omega), if_neg h2]
  · have hs : sw (i : Int) x fr (r : Int) least (k : Int) = (0, [], 8) := by
      unfold sw
      rw [if_neg (by simp [hE]), Int.toNat_natCast, if_pos (by omega)]
    rw [hs, if_pos (by simp), if_neg (by omega)]
theorem qoR {F : Nat} (hF : 2000000 ≤ F) {g : List (List Int)} (hg : Gr g) {B least : Int} {k i r : Nat} (hh : hcE B least (k : Int) = 0) (hi : i ≤ g.length) (hr : r ≤ min B.toNat i) :
    qbu F (g.take i) (g.getD i []) (r : Int) B least (k : Int) = some (if (pkW g B least k i r).length ≤ 8192 then ((r : Int), ((pkW g B least k i r).length : Int), pk (pkW g B least k i r), true) else (0, 0, [], false)) := by
  have hgl := hg.1
  have hti : (g.take i).length = i := by rw [List.length_take]; omega
  obtain ⟨k1, -, -⟩ := qal hh
  have hh' : hcE (r : Int) least (k : Int) = 0 := qpw hh (by omega)
  have hj : ∀ H : List Int, Bit H → H.length ≤ 100 → jp F (g.take i) (g.getD i []) (r : Int) least (k : Int) (H.length : Int) (pk H) = some (if (H ++ enc (i : Int) (g.getD i []) (pkF g i r) (r : Int) least k).length ≤ 8192 then ((r : Int), ((H ++ enc (i : Int) (g.getD i []) (pkF g i r) (r : Int) least k).length : Int), pk (H ++ enc (i : Int) (g.getD i []) (pkF g i r) (r : Int) least k), true) else (0, 0, [], false)) := by
    intro H hH hHl
    unfold jp
    by_cases h0 : 0 < r
    · rw [if_pos (by simpa using h0), hti, zo (by omega) (by omega), show ((i : Int) - (r : Int)) = ((i - r : Nat) : Int) from by omega, qQ, List.getElem?_take, if_pos (by omega), List.getElem?_eq_getElem (show i - r < g.length by omega)]
      simp only [Option.bind_some]
      have e : g[i - r]'(by omega) = pkF g i r := by
        unfold pkF
        rw [if_pos h0, List.getD_eq_getElem?_getD, List.getElem?_eq_getElem (show i - r < g.length by omega)]
        rfl
      rw [e]
      exact qkG hF hti (by omega) (qgP hg i) (qkg hg i r) hh' hH hHl
    · rw [if_neg (by simpa using h0)]
      have e : pkF g i r = [] := by unfold pkF; rw [if_neg h0]
      rw [e]
      exact qkG hF hti (by omega) (qgP hg i) (by decide) hh' hH hHl
  unfold qbu pkW pkH
  by_cases hB : 0 < B
  · have hga := qo1 (n := r) (by omega)
    rw [if_pos (by simpa using hB), if_pos hB, yJ (by omega), qel (by omega) (by omega)]
    simp only [Option.bind_some]
    exact hj (ga r) (qb0 r) (by omega)
  · rw [if_neg (by simpa using hB), if_neg hB]
    exact hj [] (by intro z hz; simp at hz) (by simp)
def bst (f : Nat → List Int) (j : Nat) : Bool × Int × Int × List Int := if j = 0 then (false, 0, 0, []) else if (bwy f (j - 1)).2.length ≤ 8192 then (true, ((bwy f (j - 1)).1 : Int), ((bwy f (j - 1)).2.length : Int), pk (bwy f (j - 1)).2) else (false, 0, 0, [])
theorem qlI {F : Nat} (hF : 2000000 ≤ F) {g : List (List Int)} (hg : Gr g) {B least : Int} {k i : Nat} (hh : hcE B least (k : Int) = 0) (hi : i ≤ g.length) : ∀ (n j : Nat), min B.toNat i + 1 < n + j → j ≤ min B.toNat i + 1 →
    zE F (g.take i) (g.getD i []) B least (k : Int) n ((bst (pkW g B least k i) j).1, (j : Int), (bst (pkW g B least k i) j).2.1, (bst (pkW g B least k i) j).2.2.1, (bst (pkW g B least k i) j).2.2.2) = some (if (pkN g B least k i).2.length ≤ 8192 then (((pkN g B least k i).1 : Int), ((pkN g B least k i).2.length : Int), pk (pkN g B least k i).2, true) else (0, 0, [], false))
  | 0, _, _, _ => by omega
  | n + 1, j, h, hj => by
    have hgl := hg.1
    have hti : (g.take i).length = i := by rw [List.length_take]; omega
    obtain ⟨k1, -, -⟩ := qal hh
    show jP F (g.take i) (g.getD i []) B least (k : Int) (zE F (g.take i) (g.getD i []) B least (k : Int) n) (bst (pkW g B least k i) j).1 (j : Int) (bst (pkW g B least k i) j).2.1 (bst (pkW g B least k i) j).2.2.1 (bst (pkW g B least k i) j).2.2.2 = _
    unfold jP
    have hmin : imin B ((g.take i).length : Int) = ((min B.toNat i : Nat) : Int) := by
      rw [hti]; unfold imin; split <;> omega
    rw [hmin, qC (by omega) (by omega)]
    by_cases hlt : j < min B.toNat i + 1
    · rw [if_pos (by simp; omega), qoR hF hg hh hi (by omega)]
      simp only [Option.bind_some]
      have hrec := qlI hF hg hh hi n (j + 1) (by omega) (by omega)
      have hnew : (pkW g B least k i j).length ≤ 8192 → bwy (pkW g B least k i) j = (j, pkW g B least k i j) → kR F (zE F (g.take i) (g.getD i []) B least (k : Int) n) (j : Int) true (j : Int) ((pkW g B least k i j).length : Int) (pk (pkW g B least k i j)) = some (if (pkN g B least k i).2.length ≤ 8192 then (((pkN g B least k i).1 : Int), ((pkN g B least k i).2.length : Int), pk (pkN g B least k i).2, true) else (0, 0, [], false)) := by
        intro h1 h2
        unfold kR
        rw [qS (by omega), ← hrec]
        unfold bst
        rw [if_neg (by omega), Nat.add_sub_cancel, h2, if_pos h1]
      have hold : bst (pkW g B least k i) (j + 1) = bst (pkW g B least k i) j → kR F (zE F (g.take i) (g.getD i []) B least (k : Int) n) (j : Int) (bst (pkW g B least k i) j).1 (bst (pkW g B least k i) j).2.1 (bst (pkW g B least k i) j).2.2.1 (bst (pkW g B least k i) j).2.2.2 = some (if (pkN g B least k i).2.length ≤ 8192 then (((pkN g B least k i).1 : Int), ((pkN g B least k i).2.length : Int), pk (pkN g B least k i).2, true) else (0, 0, [], false)) := by
        intro h1
        unfold kR
        rw [qS (by omega), ← hrec, h1]
      unfold jQ
      by_cases hl : (pkW g B least k i j).length ≤ 8192
      · rw [if_pos hl]
        simp only [if_true]
        by_cases h0 : j = 0
        · subst h0
          rw [if_pos (by simp [bst])]
          exact hnew hl rfl
        · obtain ⟨q, rfl⟩ : ∃ q, j = q + 1 := ⟨j - 1, by omega⟩
          by_cases hb : (bwy (pkW g B least k i) q).2.length ≤ 8192
          · have e : bst (pkW g B least k i) (q + 1) = (true, ((bwy (pkW g B least k i) q).1 : Int), ((bwy (pkW g B least k i) q).2.length : Int), pk (bwy (pkW g B least k i) q).2) := by
              unfold bst
              rw [if_neg (by omega), Nat.add_sub_cancel, if_pos hb]
            by_cases hc : (pkW g B least k i (q + 1)).length < (bwy (pkW g B least k i) q).2.length
            · rw [if_pos (by rw [e]; simp; omega)]
              exact hnew hl (by rw [bwy, if_pos hc])
            · rw [if_neg (by rw [e]; simp; omega)]
              refine hold ?_
              rw [e]
              unfold bst
              rw [if_neg (by omega), Nat.add_sub_cancel, bwy, if_neg hc, if_pos hb]
          · have e : bst (pkW g B least k i) (q + 1) = (false, 0, 0, []) := by
              unfold bst
              rw [if_neg (by omega), Nat.add_sub_cancel, if_neg hb]
            rw [if_pos (by rw [e]; simp)]
            exact hnew hl (by rw [bwy, if_pos (by omega)])
      · rw [if_neg hl]
        simp only [Bool.false_eq_true, if_false]
        refine hold ?_
        unfold bst
        rw [if_neg (by omega), Nat.add_sub_cancel]
        by_cases h0 : j = 0
        · subst h0
          rw [if_pos rfl, bwy, if_neg hl]
        · obtain ⟨q, rfl⟩ : ∃ q, j = q + 1 := ⟨j - 1, by omega⟩
          rw [if_neg (show ¬ q + 1 = 0 by omega), Nat.add_sub_cancel, bwy]
          by_cases hc : (pkW g B least k i (q + 1)).length < (bwy (pkW g B least k i) q).2.length
          · rw [if_pos hc, if_neg hl, if_neg (by omega)]
          · rw [if_neg hc]
    · rw [if_neg (by simp; omega)]
      have : j = min B.toNat i + 1 := by omega
      subst this
      unfold qbc bst pkN
      rw [if_neg (by omega), Nat.add_sub_cancel]
      split <;> rfl
theorem qnG {F : Nat} (hF : 2000000 ≤ F) {g : List (List Int)} (hg : Gr g) {B least : Int} {k i : Nat} (hh : hcE B least (k : Int) = 0) (hi : i ≤ g.length) :
    qbt F (g.take i) (g.getD i []) B least (k : Int) = some (if (pkN g B least k i).2.length ≤ 8192 then (((pkN g B least k i).1 : Int), ((pkN g B least k i).2.length : Int), pk (pkN g B least k i).2, true) else (0, 0, [], false)) := by
  have hgl := hg.1
  have := qlI hF hg hh hi F 0 (by omega) (Nat.zero_le _)
  exact this
theorem qob {g : List (List Int)} {B least : Int} {k i r : Nat} : Bit (pkW g B least k i r) := by
  unfold pkW pkH
  refine yI ?_ qgK
  split
  · exact qb0 r
  · intro z hz; simp at hz
theorem qg5 {g : List (List Int)} {B least : Int} {k i : Nat} : Bit (pkN g B least k i).2 := by
  rw [qg4.2]; exact qob
theorem qcG {g : List (List Int)} {B least : Int} {k : Nat} : ∀ n : Nat, Bit (pkA g B least k n).1
  | 0 => by intro z hz; simp [pkA] at hz
  | n + 1 => by unfold pkA; exact yI (qcG n) qg5
theorem qia {g : List (List Int)} {i : Nat} (h : i < g.length) : idx g (i : Int) = some (g.getD i []) := by
  rw [qQ, List.getD_eq_getElem?_getD, List.getElem?_eq_getElem h]
  rfl
theorem qkj {F : Nat} (hF : 2000000 ≤ F) {g : List (List Int)} (hg : Gr g) {N B least : Int} {k : Nat} (hh : hcE B least (k : Int) = 0) : ∀ (j i : Nat), g.length < j + i → i ≤ g.length → (pkA g B least k i).1.length ≤ 8192 →
    ∃ z, qs F N B least (k : Int) g j ((i : Int), ((pkA g B least k i).1.length : Int), pk (pkA g B least k i).1, (pkA g B least k i).2.1, (pkA g B least k i).2.2) = some z ∧ z.1 = decide ((pkA g B least k g.length).1.length ≤ 8192) ∧
      (z.1 = true → z = (true, N, B, least, (k : Int), ((pkA g B least k g.length).1.length : Int), pk (pkA g B least k g.length).1, (pkA g B least k g.length).2.1, (pkA g B least k g.length).2.2))
  | 0, _, _, _, _ => by omega
  | j + 1, i, h, hi, hA => by
    have hgl := hg.1
    show ∃ z, kU F N B least (k : Int) g (qs F N B least (k : Int) g j) (i : Int) ((pkA g B least k i).1.length : Int) (pk (pkA g B least k i).1) (pkA g B least k i).2.1 (pkA g B least k i).2.2 = some z ∧ _
    unfold kU
    by_cases hlt : i < g.length
    · have e0 : sub g 0 (i : Int) = some (g.take i) := by
        have := qfd (l := g) (i := 0) (j := i) (by omega) hi
        simpa using this
      have hstep : (pkA g B least k (i + 1)).1.length = (pkA g B least k i).1.length + (pkN g B least k i).2.length := by rw [pkA, List.length_append]
      have hmono := qik (g := g) (B := B) (least := least) (k := k) (show i + 1 ≤ g.length from hlt)
      rw [if_pos (by simp; omega), qia hlt, e0]
      simp only [Option.bind_some]
      rw [qnG hF hg hh hi]
      simp only [Option.bind_some]
      unfold kV
      by_cases h1 : (pkN g B least k i).2.length ≤ 8192
      · rw [if_pos h1]
        simp only [Bool.not_true, Bool.false_eq_true, if_false]
        rw [qC (by omega) (by omega)]
        unfold zY
        by_cases h2 : (pkA g B least k i).1.length + (pkN g B least k i).2.length ≤ 8192
        · rw [if_neg (by simp; omega)]
          have hl := qij (g := g) (B := B) (least := least) (k := k) i
          rw [zM (by rw [hl.1]; simp; omega)]
          simp only [Option.bind_some]
          rw [zM (by rw [hl.2]; simp; omega)]
          simp only [Option.bind_some]
          unfold zZ
          rw [qgF (by omega) (qcT (qcG i)) (qcT qg5) (qdE hA) (qdE h1), qbx (qcG i), qbx qg5]
          simp only [Option.bind_some]
          have := qkj hF hg (N := N) hh j (i + 1) (by omega) (by omega) (by omega)
          rw [qS (by omega), ← hstep]
          exact this
        · rw [if_pos (by simp; omega)]
          exact ⟨_, rfl, by simp only; rw [decide_eq_false (by omega)], fun h => by simp at h⟩
      · rw [if_neg h1]
        simp only [Bool.not_false, if_true]
        unfold zY
        rw [if_pos rfl]
        exact ⟨_, rfl, by simp only; rw [decide_eq_false (by omega)], fun h => by simp at h⟩
    · rw [if_neg (by simp; omega)]
      have : i = g.length := by omega
      subst this
      unfold vl
      exact ⟨_, rfl, by simp only; rw [decide_eq_true hA], fun _ => rfl⟩
theorem qk9 {F : Nat} (hF : 2000000 ≤ F) {g : List (List Int)} {B least k : Int} :
    ∃ z1 z2 z3 z4 z5 z6 z7 z8, qaJ F g B least k = some (z1, z2, z3, z4, z5, z6, z7, z8, pkE g B least k) ∧
      (pkE g B least k = 0 → (z1, z2, z3, z4, z5, z6, z7, z8) = ((g.length : Int), B, least, k, ((pkA g B least k.toNat g.length).1.length : Int), pk (pkA g B least k.toNat g.length).1, (pkA g B least k.toNat g.length).2.1, (pkA g B least k.toNat g.length).2.2)) := by
  unfold qaJ
  rw [qbG (by omega)]
  simp only [Option.bind_some]
  by_cases h1 : gchk g = 0
  · rw [if_pos (by simpa using h1), qd3]
    simp only [Option.bind_some]
    unfold yX
    by_cases h2 : hcE B least k = 0
    · rw [if_pos (by simpa using h2)]
      obtain ⟨_, _, k', rfl, _, _⟩ := qal h2
      have hg := je.1 h1
      have hgl := hg.1
      obtain ⟨z, hz, hz1, hz2⟩ := qkj hF hg (N := (g.length : Int)) h2 F 0 (by omega) (Nat.zero_le _) (by simp [pkA])
      have hz' : j1 F (g.length : Int) B least (k' : Int) 0 [] [] [] g = some z := by
        have e : pk ([] : List Int) = [] := by simp [pk]
        simp only [pkA, List.length_nil, e] at hz
        exact hz
      rw [hz']
      simp only [Option.bind_some]
      unfold k9 k8
      rw [Int.toNat_natCast]
      by_cases h3 : (pkA g B least k' g.length).1.length ≤ 8192
      · rw [decide_eq_true h3] at hz1
        have := hz2 hz1
        have hE : pkE g B least (k' : Int) = 0 := qpC h1 h2 (by rw [Int.toNat_natCast]; exact h3)
        rw [hE, h2]
        subst this
        exact ⟨_, _, _, _, _, _, _, _, rfl, fun _ => rfl⟩
      · rw [decide_eq_false h3] at hz1
        have hE : pkE g B least (k' : Int) = 8 := by
          unfold pkE
          rw [if_neg (by simp [h1]), if_neg (by simp [h2]), if_pos (by rw [Int.toNat_natCast]; omega)]
        rw [hE, hz1]
        exact ⟨_, _, _, _, _, _, _, _, rfl, fun h => by simp at h⟩
    · have hE : pkE g B least k = hcE B least k := by
        unfold pkE
        rw [if_neg (by simp [h1]), if_pos h2]
      rw [if_neg (by simpa using h2), hE]
      unfold k9 k8
      exact ⟨_, _, _, _, _, _, _, _, rfl, fun h => absurd h h2⟩
  · have hE : pkE g B least k = gchk g := by
      unfold pkE
      rw [if_pos h1]
    rw [if_neg (by simpa using h1), hE]
    unfold yX k9 k8
    rw [if_neg (by simpa using h1)]
    exact ⟨_, _, _, _, _, _, _, _, rfl, fun h => absurd h h1⟩
def pwr (g : List (List Int)) (B least k : Int) : Int × Int × Int × Int × Int × List Int × Int :=
  if pkE g B least k ≠ 0 then (0, 0, 0, 0, 0, [], pkE g B least k) else ((g.length : Int), B, least, k, ((pkA g B least k.toNat g.length).1.length : Int), pk (pkA g B least k.toNat g.length).1, 0)
theorem qf4 {F : Nat} (hF : 2000000 ≤ F) {g : List (List Int)} {B least k : Int} : qag F g B least k = some (pwr g B least k) := by
  obtain ⟨z1, z2, z3, z4, z5, z6, z7, z8, hz, hz2⟩ := qk9 hF (g := g) (B := B) (least := least) (k := k)
  unfold qag pwr
  rw [hz]
  simp only [Option.bind_some]
  by_cases h : pkE g B least k = 0
  · rw [if_neg (by simp [h]), if_neg (by simp [h])]
    have := hz2 h
    simp only [Prod.mk.injEq] at this
    obtain ⟨rfl, rfl, rfl, rfl, rfl, rfl, -, -⟩ := this
    rfl
  · rw [if_pos (by simpa using h), if_pos h]
theorem qmu {F : Nat} {xs ys : List Int} (he : xs.length = ys.length) (hm : xs.length ≤ 1000000) : ∀ (k i : Nat), xs.length < k + i → i ≤ xs.length → qY F xs ys k (i : Int) = some (decide (xs.drop i = ys.drop i))
  | 0, _, _, _ => by omega
  | k + 1, i, h, hi => by
    show zU F xs ys (qY F xs ys k) (i : Int) = _
    unfold zU
    by_cases hlt : i < xs.length
    · have hlt' : i < ys.length := by omega
      rw [if_pos (by simp; omega), qQ, List.getElem?_eq_getElem hlt, qQ, List.getElem?_eq_getElem hlt']
      simp only [Option.bind_some]
      rw [List.drop_eq_getElem_cons hlt, List.drop_eq_getElem_cons hlt']
      by_cases hc : xs[i] = ys[i]
      · rw [if_neg (by simp [hc]), qS (by omega), qmu he hm k (i + 1) (by omega) (by omega)]
        congr 1
        rw [decide_eq_decide, List.cons.injEq]
        exact ⟨fun h => ⟨hc, h⟩, fun h => h.2⟩
      · rw [if_pos (by simpa using hc), decide_eq_false (fun e => hc (List.cons.inj e).1)]
    · rw [if_neg (by simp; omega), List.drop_eq_nil_of_le (by omega), List.drop_eq_nil_of_le (by omega)]
      rfl
theorem peqb {F : Nat} {xs ys : List Int} (hF : xs.length < F) (hm : xs.length ≤ 1000000) : kD F xs ys = some (decide (xs = ys)) := by
  unfold kD
  by_cases h : xs.length = ys.length
  · rw [if_neg (by simp [h])]
    have := qmu (F := F) h hm F 0 (by omega) (Nat.zero_le _)
    rw [List.drop_zero, List.drop_zero] at this
    exact this
  · rw [if_pos (by simp; omega), decide_eq_false (fun e => h (by rw [e]))]
theorem qld {l : List Int} {p : Nat} {most : Int} (h : rgam l p most = none) : (fg l p).2.2 ≠ 0 ∨ most < (fg l p).1 := by
  unfold rgam at h
  by_cases h1 : (fg l p).2.2 = 0
  · right
    by_cases h2 : (fg l p).1 ≤ most
    · rw [if_pos ⟨h1, h2⟩] at h; simp at h
    · omega
  · left; exact h1
theorem qko {l : List Int} {p : Nat} {most : Int} {x : Int × Nat} (h : rgam l p most = some x) : fg l p = (x.1, (x.2 : Int), 0) ∧ x.1 ≤ most := by
  unfold rgam at h
  split at h
  · rename_i hc
    simp only [Option.some.injEq] at h
    rw [← h]
    have h3 : 0 ≤ (fg l p).2.1 := by
      rcases ql0 (l := l) (a := p) with h1 | ⟨n, q, h1, h2, h3⟩
      · exact absurd hc.1 h1
      · rw [h1]; simp
    refine ⟨?_, hc.2⟩
    simp only
    rw [Int.toNat_of_nonneg h3, ← hc.1]
  · simp at h
theorem qmy {l : List Int} {B : Int} (_hB : 0 ≤ B) {node p : Nat} (hp : p ≤ l.length) {o : Int × Nat} (h : pkO l B node p = some o) : 0 ≤ o.1 ∧ o.1 ≤ min B (node : Int) ∧ o.2 ≤ l.length := by
  unfold pkO at h
  split at h
  · simp only [Option.some.injEq] at h
    subst h
    simp only
    omega
  · have := vv h
    omega
theorem qoc {F : Nat} (hF : 20000 ≤ F) {l : List Int} (hl : Bit l) (hm : l.length ≤ 8192) {N B least k : Int} (hB : 0 ≤ B ∧ B ≤ 7) {node p : Nat} (hn : node ≤ 1000) (hp : p ≤ l.length) :
    qbW F N B least k (l.length : Int) (pk l) (p : Int) (node : Int) = some (match pkO l B node p with | none => (0, 0, false) | some o => (o.1, (o.2 : Int), true)) := by
  unfold qbW pkO
  by_cases h0 : B = 0
  · rw [if_pos (by simpa using h0), if_pos h0]
  · rw [if_neg (by simpa using h0), if_neg h0, qdx hF hl hm hp]
    simp only [Option.bind_some]
    have hmin : imin B (node : Int) = min B (node : Int) := by unfold imin; split <;> omega
    have hcv : iconv .u64 (min B (node : Int)) = min B (node : Int) := by
      obtain ⟨q, hq⟩ := Int.eq_ofNat_of_zero_le (a := min B (node : Int)) (by omega)
      rw [hq]; exact yJ (by omega)
    unfold qaI
    rw [hmin, hcv]
    cases hr : rgam l p (min B (node : Int)) with
    | none =>
      rcases qld hr with h1 | h1
      · rw [if_pos (by simpa using h1), if_pos rfl]
      · by_cases h2 : (fg l p).2.2 = 0
        · rw [if_neg (by simp [h2]), if_pos (by simpa using h1)]
        · rw [if_pos (by simpa using h2), if_pos rfl]
    | some x =>
      obtain ⟨h1, h2⟩ := qko hr
      have hok := vv hr
      rw [h1]
      simp only
      rw [if_neg (by simp), if_neg (by simp; omega)]
      have e : iconv .i64 x.1 = x.1 := km (by omega) (by omega)
      rw [e]
theorem qin {F k : Nat} (hF : 2000000 ≤ F) {l : List Int} (hl : Bit l) (hm : l.length ≤ 8192) {B least : Int} (hh : hcE B least (k : Int) = 0) {n : Nat} (hn : n ≤ 100) : ∀ (j p : Nat) (out : List (List Int)), n < j + out.length → out.length ≤ n → p ≤ l.length → (∀ x ∈ out, gkc x = 0) →
    kp F (n : Int) B least (k : Int) (l.length : Int) (pk l) j (out, (p : Int), (out.length : Int)) = some (match pkR l B least k (n - out.length) out p with | none => ([], false) | some r => (r.1, decide (r.2 = l.length)))
  | 0, _, _, _, _, _, _ => by omega
  | j + 1, p, out, h, ho, hp, hg => by
    obtain ⟨k1, k2, k', hk, k3, k4⟩ := qal hh
    have hkk : k = k' := by omega
    subst hkk
    show jR F (n : Int) B least (k : Int) (l.length : Int) (pk l) (kp F (n : Int) B least (k : Int) (l.length : Int) (pk l) j) out (p : Int) (out.length : Int) = _
    unfold jR
    by_cases hlt : out.length < n
    · rw [if_pos (by simp; omega), qoc (by omega) hl hm k1 (by omega) hp, show n - out.length = (n - (out.length + 1)) + 1 from by omega]
      simp only [Option.bind_some, pkR]
      cases hO : pkO l B out.length p with
      | none => rfl
      | some o =>
        obtain ⟨o1, o2, o3⟩ := qmy k1.1 hp hO
        simp only [Bool.not_true, Bool.false_eq_true, if_false, Option.bind_some]
        have hfr : gkc (pkF out out.length o.1.toNat) = 0 := by
          unfold pkF
          split
          · rw [List.getD_eq_getElem?_getD]
            by_cases hq : out.length - o.1.toNat < out.length
            · rw [List.getElem?_eq_getElem hq]; exact hg _ (List.getElem_mem hq)
            · rw [List.getElem?_eq_none (by omega)]; decide
          · decide
        have hstep : ∀ fr : List Int, fr = pkF out out.length o.1.toNat → ((j4 F (l.length : Int) (pk l) (o.2 : Int) (out.length : Int) fr o.1 least (k : Int)).bind fun x488 => (if ((x488.2.2 : Int) != 0) then some (([] : List (List Int)), false) else ((app 2199023255552 out ([x488.1] : List (List Int))).bind fun x494 => vy F (kp F (n : Int) B least (k : Int) (l.length : Int) (pk l) j) (out.length : Int) x494 x488.2.1))) = some (match (rdl l o.2 (out.length : Int) (pkF out out.length o.1.toNat) o.1 least k).bind fun r => pkR l B least k (n - (out.length + 1)) (out ++ [r.1]) r.2 with | none => ([], false) | some r => (r.1, decide (r.2 = l.length))) := by
          intro fr hfe
          subst hfe
          rw [qm1 hF k3 k4 hl hm (by unfold Nd; omega) o3 (fun _ => hfr) k2]
          simp only [Option.bind_some]
          cases hr : rdl l o.2 (out.length : Int) (pkF out out.length o.1.toNat) o.1 least k with
          | none => rfl
          | some r =>
            obtain ⟨r1, r2, r3, r4, r5⟩ := qiu hl k3 hr
            simp only [Option.bind_some]
            rw [if_neg (by simp), zM (by simp; omega)]
            simp only [Option.bind_some]
            unfold vy
            have hl1 : (out ++ [r.1]).length = out.length + 1 := by simp
            have hrec := qin hF hl hm hh hn j r.2 (out ++ [r.1]) (by omega) (by omega) r5 (fun x hx => by
              rcases List.mem_append.1 hx with hx | hx
              · exact hg x hx
              · simp at hx; subst hx; exact r1)
            rw [hl1] at hrec
            rw [qS (by omega), hrec]
        by_cases h0 : 0 < o.1
        · rw [if_pos (by simpa using h0), zo (by omega) (by omega), show ((out.length : Int) - o.1) = ((out.length - o.1.toNat : Nat) : Int) from by omega, qia (by omega)]
          simp only [Option.bind_some]
          exact hstep _ (by unfold pkF; rw [if_pos (by omega)])
        · rw [if_neg (by simpa using h0)]
          exact hstep _ (by unfold pkF; rw [if_neg (by omega)])
    · rw [if_neg (by simp; omega), show n - out.length = 0 from by omega]
      unfold qaU
      simp only [pkR]
      congr 2
      by_cases hpl : p = l.length
      · subst hpl; simp
      · rw [decide_eq_false hpl]; simp; omega
def pcE (N B least k m : Int) (b : List Int) : Int := if N < 0 ∨ 100 < N then 3 else if hcE B least k ≠ 0 then hcE B least k else chkOf m b
def prd (N B least k m : Int) (b : List Int) : List (List Int) × Int :=
  if pcE N B least k m b ≠ 0 then ([], pcE N B least k m b) else
  match pkR (bl b m.toNat) B least k.toNat N.toNat [] 0 with
  | none => ([], 1)
  | some r => if r.2 = m.toNat ∧ pkE r.1 B least k = 0 ∧ pk (pkA r.1 B least k.toNat r.1.length).1 = b then (r.1, 0) else ([], 1)
theorem qjd {F : Nat} {N B least k m : Int} {b : List Int} (hb : U8s b) (hm : I64 m) (lb : b.length ≤ 9223372036854775807) : qaZ F N B least k m b = some (pcE N B least k m b) := by
  unfold qaZ pcE
  by_cases h1 : N < 0 ∨ 100 < N
  · rw [if_pos (by simpa using h1), if_pos h1]
  · rw [if_neg (by simpa using h1), if_neg h1, qd3]
    simp only [Option.bind_some]
    by_cases h2 : hcE B least k = 0
    · rw [if_neg (by simp [h2]), if_neg (by simp [h2]), qhY hb hm.1 hm.2 lb]
      rfl
    · rw [if_pos (by simpa using h2), if_pos h2]
theorem qmt {N B least k m : Int} {b : List Int} (hb : U8s b) (h : pcE N B least k m b = 0) : ∃ (n : Nat) (l : List Int), N = (n : Int) ∧ n ≤ 100 ∧ hcE B least k = 0 ∧ Bit l ∧ l.length ≤ 8192 ∧ m = (l.length : Int) ∧ b = pk l := by
  unfold pcE at h
  by_cases h1 : N < 0 ∨ 100 < N
  · rw [if_pos h1] at h; simp at h
  · rw [if_neg h1] at h
    by_cases h2 : hcE B least k = 0
    · rw [if_neg (by simp [h2])] at h
      rcases qlS hb (n := m) with h3 | ⟨l, hl, hm, e1, e2⟩
      · exact absurd h h3
      · exact ⟨N.toNat, l, by omega, by omega, h2, hl, hm, e1, e2⟩
    · rw [if_pos h2] at h; exact absurd h h2
theorem qmE {F : Nat} (hF : 2000000 ≤ F) {N B least k m : Int} {b : List Int} (hb : U8s b) (hm : I64 m) (lb : b.length ≤ 9223372036854775807) : qbs F N B least k m b = some (prd N B least k m b) := by
  unfold qbs prd
  rw [qjd hb hm lb]
  simp only [Option.bind_some]
  by_cases h : pcE N B least k m b = 0
  · rw [if_neg (by simp [h]), if_neg (by simp [h])]
    obtain ⟨n, l, rfl, hn, hh, hl, hlm, rfl, rfl⟩ := qmt hb h
    obtain ⟨k1, k2, k', rfl, k3, k4⟩ := qal hh
    have hL := qin (F := F) hF hl hlm hh hn F 0 [] (by simp; omega) (Nat.zero_le _) (Nat.zero_le _) (by simp)
    have hL' : qbX F (n : Int) B least (k' : Int) (l.length : Int) (pk l) = _ := hL
    rw [hL']
    simp only [Option.bind_some, List.length_nil, Nat.sub_zero, Int.toNat_natCast, qbx hl]
    cases hr : pkR l B least k' n [] 0 with
    | none => rfl
    | some r =>
      simp only
      by_cases hp : r.2 = l.length
      · rw [decide_eq_true hp, if_neg (by simp), qf4 hF]
        simp only [Option.bind_some]
        unfold pwr qaf
        by_cases hE : pkE r.1 B least (k' : Int) = 0
        · rw [if_neg (by simp [hE])]
          simp only [Int.toNat_natCast]
          obtain ⟨_, _, hA⟩ := qbi hE
          rw [Int.toNat_natCast] at hA
          rw [if_neg (by simp [hE]), peqb (by rw [qdf]; omega) (by rw [qdf]; omega)]
          simp only [Option.bind_some]
          by_cases hq : pk (pkA r.1 B least k' r.1.length).1 = pk l
          · rw [decide_eq_true hq, if_neg (by simp), if_pos ⟨hp, hE, hq⟩]
          · rw [decide_eq_false hq, if_pos (by simp), if_neg (fun hc => hq hc.2.2)]
        · rw [if_pos hE, if_pos (by simpa using hE), if_pos rfl, if_neg (fun hc => hE hc.2.1)]
      · rw [decide_eq_false hp, if_pos (by simp), if_neg (fun hc => hp hc.1)]
  · rw [if_pos (by simpa using h), if_pos h]
theorem qmN {l : List Int} (hl : Bit l) {p : Nat} {most : Int} {x : Int × Nat} (h : rgam l p most = some x) : x.2 = p + (ga x.1.toNat).length := by
  have hf := (qko h).1
  unfold fg at hf
  cases hz : fz (l.drop p) with
  | none => rw [hz] at hf; simp at hf
  | some k =>
    rw [hz] at hf
    simp only at hf
    unfold numOf at hf
    by_cases h1 : 64 ≤ k
    · rw [if_pos h1] at hf; simp at hf
    · rw [if_neg h1] at hf
      by_cases h2 : l.length < p + k + 1 + k
      · rw [if_pos h2] at hf; simp at hf
      · rw [if_neg h2] at hf
        by_cases h3 : 1099511627776 < bv ((l.drop (p + k + 1)).take k) + 2 ^ k - 1
        · rw [if_pos h3] at hf; simp at hf
        · rw [if_neg h3] at hf
          simp only [Prod.mk.injEq, and_true] at hf
          have hb := qjO (qdt (qcp hl (p + k + 1)) k)
          rw [List.length_take, List.length_drop, Nat.min_eq_left (by omega)] at hb
          have hp0 : 0 < 2 ^ k := Nat.pow_pos (by decide)
          have hn : x.1.toNat = bv ((l.drop (p + k + 1)).take k) + 2 ^ k - 1 := by omega
          have hlg : lg x.1.toNat = k := qk5 (by omega) (by rw [Nat.pow_succ]; omega)
          rw [qgO, hlg]
          omega
theorem qoa {l : List Int} (hl : Bit l) {B : Int} (hB : 0 ≤ B) {node p : Nat} {o : Int × Nat} (h : pkO l B node p = some o) : o.2 = p + (pkH B o.1.toNat).length := by
  unfold pkO at h
  unfold pkH
  split at h
  · rename_i h0
    simp only [Option.some.injEq] at h
    subst h
    rw [if_neg (by omega)]
    simp
  · rw [if_pos (by omega)]
    exact qmN hl h
theorem qh9 {g : List (List Int)} {x : List Int} {i : Nat} (h : i < g.length) : (g ++ [x]).getD i [] = g.getD i [] := by
  rw [List.getD_eq_getElem?_getD, List.getD_eq_getElem?_getD, List.getElem?_append_left h]
theorem qkf {g : List (List Int)} {x : List Int} {i r : Nat} (h : i ≤ g.length) (hr : r ≤ i) : pkF (g ++ [x]) i r = pkF g i r := by
  unfold pkF
  split
  · exact qh9 (by omega)
  · rfl
theorem qn9 {g : List (List Int)} {x : List Int} {B least : Int} {k i : Nat} (h : i < g.length) : pkN (g ++ [x]) B least k i = pkN g B least k i := by
  unfold pkN
  refine qfL fun r hr => ?_
  unfold pkW
  rw [qh9 h, qkf (by omega) (by omega)]
theorem qke {g : List (List Int)} {x : List Int} {B least : Int} {k : Nat} : ∀ {i : Nat}, i ≤ g.length → pkA (g ++ [x]) B least k i = pkA g B least k i
  | 0, _ => rfl
  | i + 1, h => by
    unfold pkA
    rw [qke (i := i) (by omega), qn9 (by omega)]
theorem qil {l : List Int} (hl : Bit l) {B least : Int} {k : Nat} (hB : 0 ≤ B) (hk : 1 ≤ k) : ∀ (m p : Nat) (out : List (List Int)) (r : List (List Int) × Nat), pkR l B least k m out p = some r → p ≤ l.length → (pkA out B least k out.length).1.length ≤ p →
    r.1.length = out.length + m ∧ (pkA r.1 B least k r.1.length).1.length ≤ r.2
  | 0, p, out, r, h, _, hA => by
    simp only [pkR, Option.some.injEq] at h
    subst h
    exact ⟨rfl, hA⟩
  | m + 1, p, out, r, h, hp, hA => by
    unfold pkR at h
    rw [Option.bind_eq_some_iff] at h
    obtain ⟨o, ho, h⟩ := h
    rw [Option.bind_eq_some_iff] at h
    obtain ⟨d, hd, h⟩ := h
    obtain ⟨o1, o2, o3⟩ := qmy hB hp ho
    have hol := qoa hl hB ho
    obtain ⟨d1, d2, d3, d4, d5⟩ := qiu hl hk hd
    have hn1 : (out ++ [d.1]).length = out.length + 1 := by simp
    have hmin := qjP (pkW (out ++ [d.1]) B least k out.length) (n := min B.toNat out.length) (r := o.1.toNat) (by omega)
    have hW : (pkW (out ++ [d.1]) B least k out.length o.1.toNat).length = (pkH B o.1.toNat).length + (enc (out.length : Int) d.1 (pkF out out.length o.1.toNat) o.1 least k).length := by
      unfold pkW
      rw [List.length_append, qkf (Nat.le_refl _) (by omega), show ((o.1.toNat : Nat) : Int) = o.1 from by omega]
      congr 3
      rw [List.getD_eq_getElem?_getD, List.getElem?_append_right (Nat.le_refl _)]
      simp
    have hrec := qil hl hB hk m d.2 (out ++ [d.1]) r h d5 (by
      rw [hn1, pkA, List.length_append, qke (Nat.le_refl _)]
      unfold pkN
      omega)
    rw [hn1] at hrec
    exact ⟨by omega, hrec.2⟩
theorem qcU {F : Nat} {xs : List (List Int)} (hm : xs.length ≤ 1000000) (hr : ∀ r ∈ xs, r.length ≤ 1000000 ∧ r.length < F) : ∀ (k i : Nat), xs.length < k + i → i ≤ xs.length → k7 F xs xs k (i : Int) = some true
  | 0, _, _, _ => by omega
  | k + 1, i, h, hi => by
    show jx F xs xs (k7 F xs xs k) (i : Int) = _
    unfold jx
    by_cases hlt : i < xs.length
    · have := hr _ (List.getElem_mem hlt)
      rw [if_pos (by simp; omega), qQ, List.getElem?_eq_getElem hlt]
      simp only [Option.bind_some]
      rw [qji this.2 this.1]
      simp only [Option.bind_some]
      rw [if_neg (by simp), qS (by omega)]
      exact qcU hm hr k (i + 1) (by omega) (by omega)
    · rw [if_neg (by simp; omega)]
      rfl
theorem qek {F : Nat} {xs : List (List Int)} (hF : xs.length < F) (hm : xs.length ≤ 1000000) (hr : ∀ r ∈ xs, r.length ≤ 1000000 ∧ r.length < F) : jF F xs xs = some true := by
  unfold jF
  rw [if_neg (by simp)]
  exact qcU hm hr F 0 (by omega) (by omega)
def PSm (g : List (List Int)) : Prop := g.length ≤ 100 ∧ ∀ r ∈ g, r.length ≤ 1200
theorem qiq {F : Nat} {g : List (List Int)} (hF : 2000 ≤ F) (h : PSm g) : qaD F g g = some true := by
  unfold qaD
  have := h.1
  rw [qek (by omega) (by omega) (fun r hr => by have := h.2 r hr; omega)]
  rfl
theorem qpF {g : List (List Int)} (h : Gr g) : PSm g := ⟨h.1, fun r hr => by have := qi2 h hr; omega⟩
theorem qpE {g : List (List Int)} {B least k : Int} (h : pkE g B least k = 0) : prd (g.length : Int) B least k ((pkA g B least k.toNat g.length).1.length : Int) (pk (pkA g B least k.toNat g.length).1) = (g, 0) := by
  obtain ⟨h1, h2, h3⟩ := qbi h
  have hg := je.1 h1
  have hgl := hg.1
  obtain ⟨k1, k2, k', rfl, k3, k4⟩ := qal h2
  rw [Int.toNat_natCast] at h3 ⊢
  have hE : pcE (g.length : Int) B least (k' : Int) ((pkA g B least k' g.length).1.length : Int) (pk (pkA g B least k' g.length).1) = 0 := by
    unfold pcE
    rw [if_neg (by omega), if_neg (by simp [h2]), qlT h3]
  have hr := qg6 hg h2 h3 [] g.length 0 (by omega)
  have hr' : pkR (pkA g B least k' g.length).1 B least k' g.length [] 0 = some (g, (pkA g B least k' g.length).1.length) := by
    rw [List.append_nil] at hr
    exact hr
  unfold prd
  rw [if_neg (by simp [hE])]
  simp only [Int.toNat_natCast]
  rw [qbx (qcG _), hr']
  simp only
  rw [if_pos ⟨trivial, h, trivial⟩]
theorem qmD {N B least k m : Int} {b : List Int} (hb : U8s b) (h : (prd N B least k m b).2 = 0) : ∃ g, prd N B least k m b = (g, 0) ∧ pkE g B least k = 0 ∧ N = (g.length : Int) ∧ m = ((pkA g B least k.toNat g.length).1.length : Int) ∧ b = pk (pkA g B least k.toNat g.length).1 := by
  have h0 := h
  unfold prd at h
  by_cases hE : pcE N B least k m b = 0
  · rw [if_neg (by simp [hE])] at h
    obtain ⟨n, l, rfl, hn, hh, hl, hlm, rfl, rfl⟩ := qmt hb hE
    obtain ⟨k1, k2, k', rfl, k3, k4⟩ := qal hh
    simp only [Int.toNat_natCast, qbx hl] at h
    cases hr : pkR l B least k' n [] 0 with
    | none => rw [hr] at h; simp at h
    | some r =>
      rw [hr] at h
      simp only at h
      split at h
      · rename_i hc
        obtain ⟨c1, c2, c3⟩ := hc
        obtain ⟨g1, g2, g3⟩ := qbi c2
        rw [Int.toNat_natCast] at g3
        have hg := je.1 g1
        obtain ⟨b1, b2⟩ := qil hl k1.1 k3 n 0 [] r hr (Nat.zero_le _) (by simp [pkA])
        rw [List.length_nil, Nat.zero_add] at b1
        have hq : l = (pkA r.1 B least k' r.1.length).1 ++ l.drop (pkA r.1 B least k' r.1.length).1.length := by
          have e1 : l.take (pkA r.1 B least k' r.1.length).1.length = (pkA r.1 B least k' r.1.length).1 := by
            have := qnK (b := pk l) (n := (pkA r.1 B least k' r.1.length).1.length) (m := l.length) (by omega)
            rw [qbx hl, ← c3, qbx (qcG _)] at this
            exact this
          conv => lhs; rw [← List.take_append_drop (pkA r.1 B least k' r.1.length).1.length l, e1]
        have hr2 := qg6 hg hh g3 (l.drop (pkA r.1 B least k' r.1.length).1.length) r.1.length 0 (by omega)
        rw [← hq] at hr2
        have hr3 : pkR l B least k' n [] 0 = some (r.1, (pkA r.1 B least k' r.1.length).1.length) := by
          rw [← b1]; exact hr2
        rw [hr] at hr3
        have e2 : r.2 = (pkA r.1 B least k' r.1.length).1.length := by
          have := Option.some.inj hr3
          rw [this]
        refine ⟨r.1, ?_, c2, by omega, by rw [Int.toNat_natCast]; omega, by rw [Int.toNat_natCast]; exact c3.symm⟩
        unfold prd
        rw [if_neg (by simp [hE])]
        simp only [Int.toNat_natCast, qbx hl, hr]
        rw [if_pos ⟨c1, c2, c3⟩]
      · simp at h
  · rw [if_pos hE] at h
    exact absurd h hE
def pkSome : List (List Int) := [[1, 2, 3, 5], [1, 2, 3, 5], [0, 1, 2, 3, 5], [], [4], [1, 2, 3]]
def vb : Nat → Int → List Int
  | 0, n => [n]
  | j + 1, n => if n < 128 then [n] else (n % 128 + 128) :: vb j (n / 128)
theorem qdT (j : Nat) {n : Int} (h : n < 128) : vb j n = [n] := by cases j <;> simp [vb, h]
theorem qhv (j : Nat) {n : Int} (h : ¬ n < 128) : vb (j + 1) n = (n % 128 + 128) :: vb j (n / 128) := by simp [vb, h]
theorem qpW (j : Nat) (n : Int) : 1 ≤ (vb j n).length := by
  cases j with
  | zero => simp [vb]
  | succ j => unfold vb; split <;> simp
theorem qnA : ∀ (j : Nat) (n : Int), (vb j n).length ≤ j + 1
  | 0, n => by simp [vb]
  | j + 1, n => by
    unfold vb
    split
    · simp
    · have := qnA j (n / 128); simp; omega
theorem qkI : ∀ (j : Nat) (n : Int), 0 ≤ n → n < 128 ^ (j + 1) → ∀ x ∈ vb j n, 0 ≤ x ∧ x < 256
  | 0, n, h0, h1, x, hx => by simp [vb] at hx; subst hx; simp at h1; omega
  | j + 1, n, h0, h1, x, hx => by
    unfold vb at hx
    split at hx
    · simp at hx; subst hx; omega
    · rcases List.mem_cons.1 hx with rfl | hx
      · omega
      · refine qkI j (n / 128) (by omega) ?_ x hx
        rw [Int.pow_succ] at h1
        omega
def vn (n : Int) : List Int := vb 9 n
theorem qnB {n : Int} : ior .u8 (iconv .u8 n) 128 = n % 128 + 128 := by
  have h1 : iconv .u8 n = n % 256 := qes n
  rw [h1]
  by_cases h : n % 256 < 128
  · rw [qeB (m := 7) (by omega) (by simpa using h) (by decide) (by decide) rfl (by simp [IntKind.bits]; omega)]
    omega
  · have hx : ∃ y : Nat, n % 256 = (y : Int) ∧ 128 ≤ y ∧ y < 256 := ⟨(n % 256).toNat, by omega, by omega, by omega⟩
    obtain ⟨y, hy, h2, h3⟩ := hx
    have key : ∀ y : Fin 256, 128 ≤ y.val → ior .u8 (y.val : Int) 128 = (y.val : Int) := by decide +kernel
    have := key ⟨y, h3⟩ h2
    simp only at this
    rw [hy, this]
    omega
theorem qoS (n : Int) : ishr .u64 n 7 = n / 128 := by
  have := qcC (k := .u64) (a := n) (m := 7) (by decide)
  simpa using this
theorem qnz (F : Nat) : ∀ (j k : Nat) (out : List Int) (n : Int), 0 ≤ n → n < 128 ^ (j + 1) → j < k → out.length + j + 1 ≤ 70368744177664 →
    yx F k (out, n) = some (out ++ vb j n)
  | j, 0, out, n, _, _, h, _ => by omega
  | j, k + 1, out, n, h0, h1, hk, hl => by
    show jW F (yx F k) out n = _
    unfold jW
    by_cases hn : 128 ≤ n
    · cases j with
      | zero => simp at h1; omega
      | succ j =>
        simp only [hn, decide_true, if_true]
        rw [qnB, qoS, zM (by simp; omega)]
        simp only [Option.bind_some]
        rw [qnz F j k _ _ (by omega) (by rw [Int.pow_succ] at h1; omega) (by omega) (by simp; omega), qhv j (by omega)]
        simp
    · simp only [hn, decide_false, Bool.false_eq_true, if_false]
      unfold qaV
      rw [zM (by simp; omega), qdT j (by omega)]
      have : iconv .u8 n = n := qkL h0 (by omega)
      simp [this]
theorem qeF {F : Nat} (hF : 10 ≤ F) {out : List Int} {n : Int} (h0 : 0 ≤ n) (h1 : n < 18446744073709551616) (hl : out.length ≤ 1000000) : kY F out n = some (out ++ vn n) := by
  unfold kY
  exact qnz F 9 F out n h0 (Int.lt_of_lt_of_le h1 (by decide)) (by omega) (by omega)
def vrd : List Int → Nat → Int → Int × Nat × Int
  | [], _, _ => (0, 0, 7)
  | x :: s, i, n => if i = 9 ∧ 1 < x then (0, 0, 3) else if 0 < i ∧ x = 0 then (0, 0, 1) else
    if x < 128 then (n + x % 128 * 128 ^ i, i + 1, 0) else vrd s (i + 1) (n + x % 128 * 128 ^ i)
def vout (at' : Nat) (r : Int × Nat × Int) : Int × Int × Int := if r.2.2 = 0 then (r.1, (at' : Int) + (r.2.1 : Int), 0) else (0, 0, r.2.2)
theorem qoT : ∀ i : Fin 10, ((128 : Int) ^ i.val = 2 ^ (7 * i.val)) := by decide
theorem qdU {i : Nat} (hi : i ≤ 9) : (128 : Int) ^ i ≤ 9223372036854775808 ∧ 1 ≤ (128 : Int) ^ i := by
  have key : ∀ i : Fin 10, (128 : Int) ^ i.val ≤ 9223372036854775808 ∧ 1 ≤ (128 : Int) ^ i.val := by decide
  exact key ⟨i, by omega⟩
theorem qiQ {i : Nat} {x : Int} (hi : i ≤ 9) (hx : 0 ≤ x) (h9 : i = 9 → x ≤ 1) : 0 ≤ x % 128 * 128 ^ i ∧ x % 128 * 128 ^ i + 128 ^ i ≤ 18446744073709551616 := by
  have hp := qdU hi
  have h1 : 0 ≤ x % 128 := by omega
  have h2 : 0 ≤ x % 128 * 128 ^ i := Int.mul_nonneg h1 (by omega)
  refine ⟨h2, ?_⟩
  by_cases h : i = 9
  · subst h
    have := h9 rfl
    have h3 : x = 0 ∨ x = 1 := by omega
    rcases h3 with rfl | rfl <;> decide
  · have h4 : i ≤ 8 := by omega
    have key : ∀ i : Fin 9, (128 : Int) ^ i.val ≤ 72057594037927936 := by decide
    have h5 := key ⟨i, by omega⟩
    simp only at h5
    have h6 : x % 128 * 128 ^ i ≤ 127 * 128 ^ i := Int.mul_le_mul_of_nonneg_right (by omega) (by omega)
    omega
theorem qlC {x : Int} (h0 : 0 ≤ x) (h1 : x < 256) : iand .u8 x 127 = x % 128 := by
  have := qbR (k := .u8) (a := x) (m := 7) h0 (by simpa [IntKind.bits] using h1) (by decide) rfl
  simpa using this
theorem qkJ (F : Nat) {b : List Int} (hb : U8s b) (hm : b.length ≤ 4611686018427387904) {at' : Nat} (hat : at' ≤ b.length) : ∀ (k i : Nat) (n : Int), 9 < k + i → i ≤ 9 → at' + i ≤ b.length → 0 ≤ n → n < 128 ^ i →
    ya F b at' k (n, (i : Int)) = some (vout at' (vrd (b.drop (at' + i)) i n))
  | 0, i, n, h, hi, _, _, _ => by omega
  | k + 1, i, n, h, hi, hai, hn0, hn1 => by
    show jA F b at' (ya F b at' k) n i = _
    unfold jA
    have e1 : iadd .i64 (at' : Int) (i : Int) = ((at' + i : Nat) : Int) := by rw [qC (by omega) (by omega)]; omega
    have e2 : imul .i64 7 (i : Int) = ((7 * i : Nat) : Int) := by rw [qmf (by omega) (by omega)]; omega
    rw [e1, e2]
    by_cases hlt : at' + i < b.length
    · have h1 : ¬ ((b.length : Int) ≤ ((at' + i : Nat) : Int)) := by omega
      have hg : b[at' + i]? = some b[at' + i] := by simp [hlt]
      have hx := hb b[at' + i] (List.getElem_mem hlt)
      rw [List.drop_eq_getElem_cons hlt]
      simp only [h1, decide_false, Bool.false_eq_true, if_false, qQ, hg, Option.bind_some]
      generalize b[at' + i] = x at hx
      unfold vrd
      by_cases c1 : i = 9 ∧ 1 < x
      · have : (((i : Int) == 9) && decide (1 < x)) = true := by simp [c1.1, c1.2]
        rw [if_pos this, if_pos c1]
        rfl
      · have hc1 : (((i : Int) == 9) && decide (1 < x)) = false := by
          rw [Bool.eq_false_iff]; intro h; apply c1; simp at h; exact ⟨by omega, h.2⟩
        simp only [hc1, Bool.false_eq_true, if_false, c1]
        by_cases c2 : 0 < i ∧ x = 0
        · have : (decide ((0 : Int) < i) && (x == 0)) = true := by simp [c2.2]; omega
          rw [if_pos this, if_pos c2]
          rfl
        · have hc2 : (decide ((0 : Int) < i) && (x == 0)) = false := by
            rw [Bool.eq_false_iff]; intro h; apply c2; simp at h; exact ⟨by omega, h.2⟩
          simp only [hc2, Bool.false_eq_true, if_false, c2]
          have hch : decide ((0 : Int) ≤ ((7 * i : Nat) : Int)) = true := decide_eq_true (by omega)
          simp only [hch, chk, if_true, lett]
          have hpl := qiQ (x := x) hi hx.1 (fun e => by omega)
          have hpw : (128 : Int) ^ i = 2 ^ (7 * i) := qoT ⟨i, by omega⟩
          have hv : ior .u64 n (ishl .u64 (iconv .u64 (iand .u8 x 127)) ((7 * i : Nat) : Int)) = n + x % 128 * 128 ^ i := by
            rw [qlC hx.1 hx.2, qdz (by omega)]
            have h1 : iconv .u64 (x % 128) = x % 128 := kT (by omega) (by omega)
            rw [h1, ← hpw, Int.emod_eq_of_lt hpl.1 (by omega)]
            refine qeB (m := 7 * i) hn0 (by rw [← hpw]; exact hn1) hpl.1 ?_ rfl ?_
            · rw [← hpw]; exact Int.mul_emod_left _ _
            · simp only [IntKind.bits]
              have : (2 : Int) ^ 64 = 18446744073709551616 := by decide
              omega
          rw [hv]
          by_cases c3 : x < 128
          · simp only [c3, decide_true, if_true]
            have e3 : iadd .i64 ((at' + i : Nat) : Int) 1 = ((at' + (i + 1) : Nat) : Int) := by rw [qC (by omega) (by omega)]; omega
            rw [e3]
            unfold vout
            simp
          · simp only [c3, decide_false, Bool.false_eq_true, if_false]
            have hi9 : i ≠ 9 := by intro e; apply c1; exact ⟨e, by omega⟩
            rw [qC (by omega) (by omega), show (i : Int) + 1 = ((i + 1 : Nat) : Int) from by omega,
              qkJ F hb hm hat k (i + 1) _ (by omega) (by omega) (by omega) (by omega) (by rw [Int.pow_succ]; have : x % 128 * 128 ^ i ≤ 127 * 128 ^ i := Int.mul_le_mul_of_nonneg_right (by omega) (by omega); omega)]
            rw [show at' + (i + 1) = at' + i + 1 from by omega]
    · have h1 : ((b.length : Int) ≤ ((at' + i : Nat) : Int)) := by omega
      simp only [h1, decide_true, if_true]
      rw [List.drop_eq_nil_of_le (by omega)]
      rfl
theorem qiP {F : Nat} (hF : 10 ≤ F) {b : List Int} (hb : U8s b) (hm : b.length ≤ 4611686018427387904) {at' : Nat} (hat : at' ≤ b.length) : qaN F b at' = some (vout at' (vrd (b.drop at') 0 0)) := by
  unfold qaN
  have := qkJ F hb hm hat F 0 0 (by omega) (by omega) (by omega) (by omega) (by decide)
  simpa using this
theorem qpa : ∀ (j i : Nat) (m n : Int) (t : List Int), i + j = 9 → 0 ≤ m → m * 128 ^ i < 18446744073709551616 → (0 < i → m ≠ 0) →
    vrd (vb j m ++ t) i n = (n + m * 128 ^ i, i + (vb j m).length, 0)
  | j, i, m, n, t, hij, h0, hm, hz => by
    by_cases hs : m < 128
    · rw [qdT j hs]
      simp only [List.cons_append, List.nil_append, vrd, List.length_cons, List.length_nil]
      have h9 : ¬ (i = 9 ∧ 1 < m) := by
        rintro ⟨rfl, h⟩
        have : (128 : Int) ^ 9 = 9223372036854775808 := by decide
        rw [this] at hm; omega
      have h2 : ¬ (0 < i ∧ m = 0) := fun h => hz h.1 h.2
      rw [if_neg h9, if_neg h2, if_pos hs, Int.emod_eq_of_lt h0 hs]
    · cases j with
      | zero =>
        have : i = 9 := by omega
        subst this
        have h9 : (128 : Int) ^ 9 = 9223372036854775808 := by decide
        rw [h9] at hm; omega
      | succ j =>
        rw [qhv j hs]
        have hi : i ≤ 8 := by omega
        simp only [List.cons_append, vrd, List.length_cons]
        have h9 : ¬ (i = 9 ∧ 1 < m % 128 + 128) := by rintro ⟨rfl, h⟩; omega
        have h2 : ¬ (0 < i ∧ m % 128 + 128 = 0) := by rintro ⟨_, h⟩; omega
        have h3 : ¬ (m % 128 + 128 < 128) := by omega
        rw [if_neg h9, if_neg h2, if_neg h3]
        have e1 : (m % 128 + 128) % 128 = m % 128 := by omega
        have e2 : m % 128 * 128 ^ i + m / 128 * 128 ^ (i + 1) = m * 128 ^ i := by
          rw [Int.pow_succ, Int.mul_comm ((128 : Int) ^ i) 128, ← Int.mul_assoc, ← Int.add_mul]
          congr 1
          omega
        have hp := qdU (i := i) (by omega)
        have e3 : 0 ≤ m % 128 * 128 ^ i := Int.mul_nonneg (by omega) (by omega)
        rw [qpa j (i + 1) (m / 128) _ t (by omega) (by omega) (by omega) (by omega), e1, ← e2]
        simp only [Prod.mk.injEq, and_true]
        exact ⟨by omega, by omega⟩
theorem qqf {x : Int} (h0 : 0 ≤ x) (h1 : x < 18446744073709551616) (t : List Int) : vrd (vn x ++ t) 0 0 = (x, (vn x).length, 0) := by
  have := qpa 9 0 x 0 t (by omega) h0 (by simpa using h1) (by omega)
  simpa [vn] using this
theorem qo9 : ∀ (s : List Int) (i : Nat) (n v : Int) (c : Nat), U8s s → i ≤ 9 → vrd s i n = (v, c, 0) →
    ∃ m, 0 ≤ m ∧ v = n + m * 128 ^ i ∧ m * 128 ^ i < 18446744073709551616 ∧ (0 < i → m ≠ 0) ∧ c = i + (vb (9 - i) m).length ∧ s = vb (9 - i) m ++ s.drop (c - i)
  | [], i, n, v, c, _, _, h => by simp [vrd] at h
  | x :: s, i, n, v, c, hu, hi, h => by
    have hx := hu x (by simp)
    have hp := qdU hi
    unfold vrd at h
    by_cases c1 : i = 9 ∧ 1 < x
    · rw [if_pos c1] at h; simp at h
    · rw [if_neg c1] at h
      by_cases c2 : 0 < i ∧ x = 0
      · rw [if_pos c2] at h; simp at h
      · rw [if_neg c2] at h
        by_cases c3 : x < 128
        · rw [if_pos c3] at h
          simp only [Prod.mk.injEq, and_true] at h
          obtain ⟨rfl, rfl⟩ := h
          have hpl := qiQ (x := x) hi hx.1 (fun e => by omega)
          have hxe : x % 128 = x := Int.emod_eq_of_lt hx.1 c3
          refine ⟨x, hx.1, by rw [hxe], by rw [hxe] at hpl; omega, fun h0 hz => c2 ⟨h0, hz⟩, by rw [qdT _ c3]; simp, ?_⟩
          rw [qdT _ c3, show i + 1 - i = 1 from by omega]
          simp
        · rw [if_neg c3] at h
          have hi8 : i ≤ 8 := by omega
          obtain ⟨m, h0, hv, hm, hz, hc, hs⟩ := qo9 s (i + 1) _ v c (fun y hy => hu y (List.mem_cons_of_mem _ hy)) (by omega) h
          have hz' := hz (by omega)
          have hj : 9 - i = (9 - (i + 1)) + 1 := by omega
          have e2 : x % 128 * 128 ^ i + m * 128 ^ (i + 1) = (x % 128 + 128 * m) * 128 ^ i := by
            rw [Int.pow_succ, Int.add_mul, Int.mul_comm 128 m, Int.mul_assoc m, Int.mul_comm 128 ((128 : Int) ^ i)]
          refine ⟨x % 128 + 128 * m, by omega, ?_, ?_, fun _ => by omega, ?_, ?_⟩
          · rw [← e2]; omega
          · rw [← e2]
            have : m * 128 ^ (i + 1) ≤ 18446744073709551616 - 128 ^ (i + 1) := by
              have hd : (18446744073709551616 : Int) = 18446744073709551616 / 128 ^ (i + 1) * 128 ^ (i + 1) := by
                have key : ∀ i : Fin 9, (18446744073709551616 : Int) = 18446744073709551616 / 128 ^ (i.val + 1) * 128 ^ (i.val + 1) := by decide
                exact key ⟨i, by omega⟩
              generalize (18446744073709551616 : Int) / 128 ^ (i + 1) = q at hd
              have hp1 := (qdU (i := i + 1) (by omega)).2
              rw [hd] at hm ⊢
              have hmq : m < q := Int.lt_of_mul_lt_mul_right hm (by omega)
              have : (m + 1) * 128 ^ (i + 1) ≤ q * 128 ^ (i + 1) := Int.mul_le_mul_of_nonneg_right (by omega) (by omega)
              rw [Int.add_mul] at this
              omega
            have hx2 : x % 128 * 128 ^ i ≤ 127 * 128 ^ i := Int.mul_le_mul_of_nonneg_right (by omega) (by omega)
            rw [Int.pow_succ] at this ⊢
            omega
          · rw [hj, qhv _ (by omega), show (x % 128 + 128 * m) / 128 = m from by omega]
            simp only [List.length_cons]
            omega
          · rw [hj, qhv _ (by omega), show (x % 128 + 128 * m) / 128 = m from by omega, show (x % 128 + 128 * m) % 128 + 128 = x from by omega]
            rw [show c - i = (c - (i + 1)) + 1 from by omega, List.drop_succ_cons, List.cons_append, ← hs]
theorem qjf {s : List Int} {v : Int} {c : Nat} (hu : U8s s) (h : vrd s 0 0 = (v, c, 0)) : 0 ≤ v ∧ v < 18446744073709551616 ∧ c = (vn v).length ∧ s = vn v ++ s.drop c := by
  obtain ⟨m, h0, hv, hm, _, hc, hs⟩ := qo9 s 0 0 v c hu (by omega) h
  simp at hv hm hc hs
  subst hv
  exact ⟨h0, hm, hc, hs⟩
theorem qpG {s : List Int} (hu : U8s s) (h : (vrd s 0 0).2.2 = 0) : 1 ≤ (vrd s 0 0).2.1 ∧ (vrd s 0 0).2.1 ≤ s.length := by
  have hr : vrd s 0 0 = ((vrd s 0 0).1, (vrd s 0 0).2.1, 0) := Prod.ext rfl (Prod.ext rfl h)
  obtain ⟨_, _, hc, hs⟩ := qjf hu hr
  have hp : 1 ≤ (vn (vrd s 0 0).1).length := qpW 9 (vrd s 0 0).1
  have hl : s.length = (vn (vrd s 0 0).1 ++ s.drop (vrd s 0 0).2.1).length := by rw [← hs]
  rw [List.length_append] at hl
  omega
theorem U8s.vdrop {s : List Int} (h : U8s s) (n : Nat) : U8s (s.drop n) := fun x hx => h x (List.mem_of_mem_drop hx)
theorem qer {x : Int} (h0 : 0 ≤ x) (h1 : x < 18446744073709551616) : U8s (vn x) := fun y hy => qkI 9 x h0 (Int.lt_of_lt_of_le h1 (by decide)) y hy
theorem qcd (n : Int) : (vn n).length ≤ 10 := qnA 9 n
theorem qkK : ∀ l : List Int, (l.flatMap vn).length ≤ 10 * l.length
  | [] => by simp
  | x :: t => by
    rw [List.flatMap_cons, List.length_append, List.length_cons]
    have h1 := qcd x
    have h2 := qkK t
    omega
def gfT : Int → List (List Int) → List Int
  | _, [] => []
  | i, l :: g => vn l.length ++ ((gp false i l).flatMap vn ++ gfT (i + 1) g)
theorem qcq (i : Int) (l : List Int) (g : List (List Int)) : gfT i (l :: g) = vn l.length ++ ((gp false i l).flatMap vn ++ gfT (i + 1) g) := rfl
def gfile (g : List (List Int)) : List Int := [76, 87, 1] ++ (vn g.length ++ gfT 0 g)
theorem qj3 : ∀ {b : Bool} {a q : Int} {l : List Int}, Nd a → Ris q l → (b = true → Ris a l) → ∀ x ∈ gp b a l, 0 ≤ x ∧ x ≤ 2097152
  | _, _, _, [], _, _, _, x, hx => by simp [gp] at hx
  | b, a, q, n :: l, ha, hr, hb, x, hx => by
    unfold gp at hx
    rcases List.mem_cons.1 hx with rfl | hx
    · obtain ⟨a1, a2⟩ := ha
      obtain ⟨⟨n1, n2⟩, n3, n4⟩ := hr
      cases b with
      | true => have := (hb rfl).2.1; simp only [if_true]; omega
      | false => simp only [Bool.false_eq_true, if_false]; unfold foldOf; split <;> omega
    · exact qj3 (b := true) hr.1 hr.2.2 (fun _ => hr.2.2) x hx
theorem qkH {n : Nat} (h : n ≤ 1000000) : iconv .u64 (n : Int) = (n : Int) := by
  have : iconv .u64 (n : Int) = (n : Int) % 18446744073709551616 := jB _
  rw [this]; omega
theorem jt {i : Nat} (h : i ≤ 1000000) : iadd .i64 (i : Int) 1 = ((i + 1 : Nat) : Int) := by
  have : iadd .i64 (i : Int) 1 = ((i : Int) + 1) := km (by omega) (by omega)
  rw [this]; omega
theorem qo2 {F : Nat} (hF : 20000 ≤ F) {rec19 : (List Int × Int) → Option (List Int)} {i : Int} {zs : List Int} (hz : N64 zs) (hm : zs.length ≤ 300) : ∀ (k j : Nat) (o : List Int), zs.length < k + j → j ≤ zs.length → o.length ≤ 100000 + 10 * j →
    ko F rec19 i zs k (o, (j : Int)) = yQ F rec19 i (o ++ (zs.drop j).flatMap vn)
  | 0, j, o, h, h1, h2 => by omega
  | k + 1, j, o, h, h1, h2 => by
    show yP F rec19 i zs (ko F rec19 i zs k) o (j : Int) = _
    unfold yP
    by_cases hlt : j < zs.length
    · rw [if_pos (by simp; omega), qQ, List.getElem?_eq_getElem hlt, List.drop_eq_getElem_cons hlt]
      have hx := hz _ (List.getElem_mem hlt)
      simp only [Option.bind_some]
      rw [qeF (by omega) hx.1 hx.2 (by omega)]
      simp only [Option.bind_some]
      have := qcd zs[j]
      rw [jt (by omega), qo2 hF hz hm k (j + 1) _ (by omega) (by omega) (by rw [List.length_append]; omega), List.flatMap_cons, List.append_assoc]
    · rw [if_neg (by simp; omega), List.drop_eq_nil_of_le (by omega), List.flatMap_nil, List.append_nil]
theorem qfT : ∀ {g : List (List Int)} {i : Nat} (h : i < g.length), gtot (g.drop i) = (g[i]).length + gtot (g.drop (i + 1))
  | g, i, h => by rw [List.drop_eq_getElem_cons h]; rfl
theorem qp7 {F : Nat} (hF : 20000 ≤ F) {g : List (List Int)} (hg : Gr g) : ∀ (k i : Nat) (o : List Int), g.length < k + i → i ≤ g.length → o.length + 10 * ((g.drop i).length + gtot (g.drop i)) ≤ 50000 →
    qL F g k (o, (i : Int)) = some (o ++ gfT i (g.drop i))
  | 0, i, o, h, h1, h2 => by omega
  | k + 1, i, o, h, h1, h2 => by
    show yO F g (qL F g k) o (i : Int) = _
    unfold yO
    have hgl := hg.1
    by_cases hlt : i < g.length
    · rw [if_pos (by simp; omega), qQ, List.getElem?_eq_getElem hlt]
      have hk := zV.1 (qgQ hg (List.getElem_mem hlt))
      have hrow := qi2 hg (List.getElem_mem hlt)
      have hd := qfT hlt
      have hdc := List.drop_eq_getElem_cons hlt
      generalize g[i] = L at hk hrow hd hdc ⊢
      have hn : Nd (i : Int) := ⟨by omega, by omega⟩
      have hdl : (g.drop i).length = (g.drop (i + 1)).length + 1 := by rw [hdc, List.length_cons]
      have ho : o.length ≤ 50000 := by omega
      simp only [Option.bind_some]
      rw [qkH (by omega), qeF (by omega) (by omega) (by omega) (by omega)]
      simp only [Option.bind_some]
      rw [qj4 hF hk.1 hn hk.2]
      simp only [Option.bind_some]
      have h3 := qcd (L.length : Int)
      have h4 := qkK (gp false (i : Int) L)
      rw [qdd] at h4
      have h5 : ∀ x ∈ gp false (i : Int) L, 0 ≤ x ∧ x < 18446744073709551616 := fun x hx => by
        have := qj3 hn hk.2 (fun h => by cases h) x hx; omega
      have h6 : (gp false (i : Int) L).length = L.length := qdd _ _ _
      have h7 : (o ++ vn (L.length : Int)).length ≤ 100000 := by rw [List.length_append]; omega
      have := qo2 (rec19 := qL F g k) (i := (i : Int)) hF h5 (by omega) F 0 (o ++ vn (L.length : Int)) (by omega) (by omega) (by omega)
      rw [show ((0 : Nat) : Int) = 0 from rfl] at this
      rw [this, List.drop_zero]
      unfold yQ
      have h8 : (o ++ vn (L.length : Int) ++ (gp false (i : Int) L).flatMap vn).length + 10 * ((g.drop (i + 1)).length + gtot (g.drop (i + 1))) ≤ 50000 := by
        rw [List.length_append, List.length_append]; omega
      rw [jt (by omega), qp7 hF hg k (i + 1) _ (by omega) (by omega) h8, hdc, qcq]
      simp only [List.append_assoc]
      rw [show ((i : Int) + 1) = ((i + 1 : Nat) : Int) from by omega]
    · rw [if_neg (by simp; omega), List.drop_eq_nil_of_le (by omega)]
      unfold jD gfT
      rw [List.append_nil]
theorem ql7 {F : Nat} (hF : 20000 ≤ F) {g : List (List Int)} (hg : Gr g) : jO F g = some (gfile g) := by
  unfold jO
  rw [zM (by decide)]
  simp only [Option.bind_some]
  have hgl := hg.1
  have hgt := hg.2.2
  have h3 := qcd (g.length : Int)
  rw [qkH (by omega), qeF (by omega) (by omega) (by omega) (by decide)]
  simp only [Option.bind_some]
  unfold ye
  have := qp7 hF hg F 0 ([76, 87] ++ [1] ++ vn (g.length : Int)) (by omega) (by omega) (by
    simp only [List.length_append, List.drop_zero, List.length_cons, List.length_nil]; omega)
  rw [show ((0 : Nat) : Int) = 0 from rfl] at this
  rw [this, List.drop_zero]
  unfold gfile
  simp only [List.append_assoc]
  rfl
def bfile (g : List (List Int)) (B least k : Int) : List Int :=
  [76, 87, 2] ++ (vn g.length ++ (vn B ++ (vn least ++ (vn k ++ (vn (pkA g B least k.toNat g.length).1.length ++ pk (pkA g B least k.toNat g.length).1)))))
theorem qqm {F : Nat} (hF : 20000 ≤ F) {a b c d e : Int} {t : List Int} {x9 : Int × Int × Int × Int × Int × List Int × Int} (h1 : x9.1 = a) (h2 : x9.2.2.2.2.1 = e) (h3 : x9.2.2.2.2.2.1 = t) (ha : 0 ≤ a ∧ a ≤ 1000000) (hb : 0 ≤ b ∧ b ≤ 1000000) (hc : 0 ≤ c ∧ c ≤ 1000000) (hd : 0 ≤ d ∧ d ≤ 1000000) (he : 0 ≤ e ∧ e ≤ 1000000) (ht : t.length ≤ 1000000) :
    zj F b c d x9 F ([76, 87, 2], 0) = some ([76, 87, 2] ++ (vn a ++ (vn b ++ (vn c ++ (vn d ++ (vn e ++ t))))), 0) := by
  obtain ⟨G, rfl⟩ : ∃ G, F = G + 6 := ⟨F - 6, by omega⟩
  have u : ∀ x : Int, 0 ≤ x ∧ x ≤ 1000000 → iconv .u64 x = x := fun x hx => by
    have : iconv .u64 x = x % 18446744073709551616 := jB _
    rw [this]; omega
  have st : ∀ (k : Nat) (o : List Int) (i : Nat) (x : Int), i < 5 → ([a, b, c, d, e] : List Int)[i]? = some x → 0 ≤ x ∧ x ≤ 1000000 → o.length ≤ 1000 →
      zj (G + 6) b c d x9 (k + 1) (o, (i : Int)) = zj (G + 6) b c d x9 k (o ++ vn x, ((i + 1 : Nat) : Int)) := fun k o i x hi hx hx2 ho => by
    show kC (G + 6) b c d x9 (zj (G + 6) b c d x9 k) o (i : Int) = _
    unfold kC
    rw [h1, h2, if_pos (by simp; omega), qQ, hx]
    simp only [Option.bind_some]
    rw [u x hx2, qeF (by omega) hx2.1 (by omega) (by omega)]
    simp only [Option.bind_some]
    rw [jt (by omega)]
  have v1 := qcd a; have v2 := qcd b; have v3 := qcd c; have v4 := qcd d; have v5 := qcd e
  have s0 := st (G + 5) [76, 87, 2] 0 a (by omega) rfl ha (by decide)
  rw [show ((0 : Nat) : Int) = 0 from rfl] at s0
  rw [show G + 6 = (G + 5) + 1 from rfl]
  rw [s0, st (G + 4) _ 1 b (by omega) rfl hb (by simp; omega), st (G + 3) _ 2 c (by omega) rfl hc (by simp; omega), st (G + 2) _ 3 d (by omega) rfl hd (by simp; omega), st (G + 1) _ 4 e (by omega) rfl he (by simp; omega)]
  show kC (G + 6) b c d x9 (zj (G + 6) b c d x9 G) _ _ = _
  unfold kC
  rw [if_neg (by simp)]
  unfold jZ
  rw [h3, zM (by simp; omega)]
  simp only [Option.bind_some, List.append_assoc]
theorem qlJ {F : Nat} (hF : 2000000 ≤ F) {g : List (List Int)} {B least k : Int} : jN F g B least k = some (if pkE g B least k ≠ 0 then ([], pkE g B least k) else (bfile g B least k, 0)) := by
  unfold jN
  rw [qf4 hF]
  simp only [Option.bind_some]
  by_cases h : pkE g B least k = 0
  · obtain ⟨g1, g2, g3⟩ := qbi h
    obtain ⟨k1, k2, k', rfl, k3, k4⟩ := qal g2
    have hg := je.1 g1
    have hgl := hg.1
    have e : pwr g B least (k' : Int) = ((g.length : Int), B, least, (k' : Int), ((pkA g B least (k' : Int).toNat g.length).1.length : Int), pk (pkA g B least (k' : Int).toNat g.length).1, 0) := by
      unfold pwr; rw [if_neg (fun hh => hh h)]
    rw [e, if_neg (by simp), if_neg (fun hh => hh h), zM (by decide)]
    simp only [Option.bind_some]
    rw [show ([76, 87] ++ [2] : List Int) = [76, 87, 2] from rfl, qqm (a := (g.length : Int)) (e := ((pkA g B least (k' : Int).toNat g.length).1.length : Int)) (by omega) rfl rfl rfl ⟨by omega, by omega⟩ ⟨by omega, by omega⟩ ⟨by omega, by omega⟩ ⟨by omega, by omega⟩ ⟨by omega, by omega⟩ (by rw [qdf]; omega)]
    rfl
  · have e : pwr g B least k = (0, 0, 0, 0, 0, [], pkE g B least k) := by unfold pwr; rw [if_pos h]
    rw [e, if_pos (by simpa using h), if_pos h]
def svE (g : List (List Int)) (kind B least k : Int) : Int :=
  if gchk g ≠ 0 then gchk g else if kind = 1 then (if 4096 < (gfile g).length then 2 else 0) else if kind = 2 then (if pkE g B least k ≠ 0 then pkE g B least k else if 4096 < (bfile g B least k).length then 2 else 0) else 3
def file (g : List (List Int)) (kind B least k : Int) : List Int := if kind = 1 then gfile g else bfile g B least k
def sv (g : List (List Int)) (kind B least k : Int) : List Int × Int := if svE g kind B least k ≠ 0 then ([], svE g kind B least k) else (file g kind B least k, 0)
theorem qhe {F : Nat} {o : List Int} {e : Int} (h : e ≠ 0) : zX F o e = some ([], e) := by
  unfold zX jo
  rw [if_neg (by simp [h]), if_pos (by simpa using h)]
theorem qkz {F : Nat} {o : List Int} : zX F o 0 = some (if 4096 < o.length then ([], 2) else (o, 0)) := by
  unfold zX jo
  by_cases h : 4096 < o.length
  · rw [if_pos (by simp; omega), if_pos h]; rfl
  · rw [if_neg (by simp; omega), if_neg h]; rfl
theorem qky {F : Nat} (hF : 2000000 ≤ F) {g : List (List Int)} {kind B least k : Int} : qaP F g kind B least k = some (sv g kind B least k) := by
  unfold qaP
  rw [qbG (by omega)]
  simp only [Option.bind_some]
  unfold sv
  by_cases h : gchk g = 0
  · rw [if_neg (show ¬ ((gchk g != 0) = true) by simp [h])]
    by_cases h1 : kind = 1
    · have e : svE g kind B least k = if 4096 < (gfile g).length then 2 else 0 := by unfold svE; rw [if_neg (fun hh => hh h), if_pos h1]
      rw [e, if_pos (by simpa using h1), ql7 (by omega) (je.1 h), h]
      simp only [Option.bind_some]
      rw [qkz, show file g kind B least k = gfile g from if_pos h1]
      by_cases h4 : 4096 < (gfile g).length
      · rw [if_pos h4, if_pos h4, if_pos (by decide)]
      · rw [if_neg h4, if_neg h4, if_neg (by decide)]
    · rw [if_neg (by simpa using h1)]
      by_cases h2 : kind = 2
      · rw [if_pos (by simpa using h2), qlJ hF]
        simp only [Option.bind_some]
        by_cases h3 : pkE g B least k = 0
        · have e : svE g kind B least k = if 4096 < (bfile g B least k).length then 2 else 0 := by unfold svE; rw [if_neg (fun hh => hh h), if_neg h1, if_pos h2, if_neg (fun hh => hh h3)]
          rw [if_neg (fun hh => hh h3), qkz, e, show file g kind B least k = bfile g B least k from if_neg h1]
          by_cases h4 : 4096 < (bfile g B least k).length
          · rw [if_pos h4, if_pos h4, if_pos (by decide)]
          · rw [if_neg h4, if_neg h4, if_neg (by decide)]
        · have e : svE g kind B least k = pkE g B least k := by unfold svE; rw [if_neg (fun hh => hh h), if_neg h1, if_pos h2, if_pos h3]
          rw [if_pos h3, qhe h3, e, if_pos h3]
      · have e : svE g kind B least k = 3 := by unfold svE; rw [if_neg (fun hh => hh h), if_neg h1, if_neg h2]
        rw [if_neg (by simpa using h2), qhe (by decide), e, if_pos (by decide)]
  · have e : svE g kind B least k = gchk g := by unfold svE; rw [if_pos h]
    rw [if_pos (by simpa using h), qhe h, e, if_pos h]
def pnum (b : List Int) (p : Nat) (most : Int) : Option (Int × Nat) :=
  if (vrd (b.drop p) 0 0).2.2 = 0 ∧ (vrd (b.drop p) 0 0).1 ≤ most then some ((vrd (b.drop p) 0 0).1, p + (vrd (b.drop p) 0 0).2.1) else none
theorem yR {b : List Int} (hb : U8s b) {p : Nat} (hp : p ≤ b.length) {most : Int} {x : Int × Nat} (h : pnum b p most = some x) :
    0 ≤ x.1 ∧ x.1 ≤ most ∧ x.1 < 18446744073709551616 ∧ x.2 ≤ b.length ∧ b.drop p = vn x.1 ++ b.drop x.2 ∧ x.2 = p + (vn x.1).length := by
  unfold pnum at h
  split at h
  · rename_i hc
    simp only [Option.some.injEq] at h
    have hu : U8s (b.drop p) := hb.vdrop p
    have hr : vrd (b.drop p) 0 0 = ((vrd (b.drop p) 0 0).1, (vrd (b.drop p) 0 0).2.1, 0) := Prod.ext rfl (Prod.ext rfl hc.1)
    obtain ⟨h0, h1, h2, h3⟩ := qjf hu hr
    have h4 := qpG hu hc.1
    rw [List.length_drop] at h4
    subst h
    refine ⟨h0, hc.2, h1, by simp only; omega, ?_, by simp only; omega⟩
    rw [List.drop_drop] at h3
    exact h3
  · cases h
theorem jX {b : List Int} {p : Nat} {x most : Int} {t : List Int} (h : b.drop p = vn x ++ t) (h0 : 0 ≤ x) (h1 : x ≤ most) (h2 : most < 18446744073709551616) :
    pnum b p most = some (x, p + (vn x).length) ∧ b.drop (p + (vn x).length) = t := by
  have hr := qqf h0 (by omega : x < 18446744073709551616) t
  constructor
  · unfold pnum
    rw [h, hr, if_pos ⟨rfl, h1⟩]
  · rw [← List.drop_drop, h, List.drop_left]
def nst (b : List Int) (p s : Nat) (most : Int) : Int × Int × Int × Bool := match pnum b p most with | none => (0, (p : Int), (s : Int), true) | some x => (x.1, (x.2 : Int), ((s + 1 : Nat) : Int), false)
theorem qpB {b : List Int} {p s : Nat} {most v e : Int} {c : Nat} (hr : vrd (b.drop p) 0 0 = (v, c, e)) : nst b p s most = if e = 0 ∧ v ≤ most then (v, ((p + c : Nat) : Int), ((s + 1 : Nat) : Int), false) else (0, (p : Int), (s : Int), true) := by
  unfold nst pnum
  rw [hr]
  by_cases h : e = 0 ∧ v ≤ most
  · rw [if_pos h, if_pos h]
  · rw [if_neg h, if_neg h]
theorem qg0 {F : Nat} (hF : 10 ≤ F) {b : List Int} (hb : U8s b) (hm : b.length ≤ 4096) {p s : Nat} (hp : p ≤ b.length) (hs : s ≤ 100000) {most : Int} (h0 : 0 ≤ most) (h1 : most ≤ 1000000000) :
    ql F b (p : Int) (s : Int) false most = some (nst b p s most) := by
  unfold ql
  rw [qiP hF hb (by omega) hp]
  simp only [Option.bind_some]
  have hmo : iconv .u64 most = most := by
    have : iconv .u64 most = most % 18446744073709551616 := jB _
    rw [this]; omega
  obtain ⟨⟨v, c, e⟩, hr⟩ : ∃ r, vrd (b.drop p) 0 0 = r := ⟨_, rfl⟩
  rw [qpB hr, hr, hmo]
  unfold vout
  by_cases h2 : e = 0
  · subst h2
    have h4 := (qjf (hb.vdrop p) hr).1
    simp only [if_pos]
    by_cases h3 : v ≤ most
    · have hd : decide (most < v) = false := by simp; omega
      have hi : iconv .i64 v = v := km (by omega) (by omega)
      simp only [hd, hi, jt (show s ≤ 1000000 by omega), h3]
      simp
    · have hd : decide (most < v) = true := by simp; omega
      simp only [hd, h3]
      simp
  · have hd : ((e : Int) != 0) = true := by simpa using h2
    simp only [h2, if_false, hd]
    simp
theorem qgZ {F : Nat} (hF : 10 ≤ F) {b : List Int} (hb : U8s b) (hm : b.length ≤ 4096) {p s : Nat} (hp : p ≤ b.length) {most : Int} :
    ql F b (p : Int) (s : Int) true most = some (0, (p : Int), (s : Int), true) := by
  unfold ql
  rw [qiP hF hb (by omega) hp]
  simp only [Option.bind_some]
  rw [if_pos (by simp)]
  simp
def pnums (b : List Int) (most : Int) : Nat → Nat → List Int → Option (List Int × Nat)
  | 0, p, acc => some (acc, p)
  | m + 1, p, acc => match pnum b p most with | none => none | some x => pnums b most m x.2 (acc ++ [x.1])
def plist (b : List Int) (p node : Nat) (n : Int) : Option (List Int × Nat × Nat) :=
  match pnum b p n with
  | none => none
  | some x => match pnums b 2097152 x.1.toNat x.2 [] with
    | none => none
    | some y => if (gb y.1 (node : Int)).2 = 0 then some ((gb y.1 (node : Int)).1, y.2, 1 + x.1.toNat) else none
theorem qhb {F : Nat} (hF : 10 ≤ F) {b : List Int} (hb : U8s b) (hm : b.length ≤ 4096) {p s : Nat} (hp : p ≤ b.length) {node : Int} {x : Int × Int × Int × Bool} (hx : x.1 ≤ 100) : ∀ (k i : Nat) (acc : List Int), x.1.toNat < k + i → (i : Int) ≤ x.1 → N64 acc → acc.length ≤ 1000 + i →
    ∃ gs, N64 gs ∧ qK F b node x k (acc, (i : Int), (p : Int), (s : Int), true) = zm F node gs (p : Int) (s : Int) true
  | 0, i, acc, h, h1, _, _ => by omega
  | k + 1, i, acc, h, h1, ha, hl => by
    show ∃ gs, N64 gs ∧ zJ F b node x (qK F b node x k) acc (i : Int) (p : Int) (s : Int) true = _
    unfold zJ
    by_cases hlt : (i : Int) < x.1
    · rw [if_pos (by simpa using hlt), qgZ hF hb hm hp]
      simp only [Option.bind_some]
      rw [zM (by simp; omega)]
      simp only [Option.bind_some]
      rw [jt (by omega)]
      refine qhb hF hb hm hp hx k (i + 1) _ (by omega) (by omega) (fun y hy => ?_) (by simp; omega)
      rcases List.mem_append.1 hy with hy | hy
      · exact ha y hy
      · rw [List.mem_singleton] at hy; subst hy; decide
    · rw [if_neg (by simpa using hlt)]
      exact ⟨acc, ha, rfl⟩
theorem qpc {F : Nat} (hF : 10 ≤ F) {b : List Int} (hb : U8s b) (hm : b.length ≤ 4096) {node : Int} {x : Int × Int × Int × Bool} (hx : x.1 ≤ 100) : ∀ (k i p s : Nat) (acc : List Int), x.1.toNat < k + i → (i : Int) ≤ x.1 → p ≤ b.length → s ≤ 50000 + i → N64 acc → acc.length = i →
    match pnums b 2097152 (x.1.toNat - i) p acc with
    | some y => y.2 ≤ b.length ∧ N64 y.1 ∧ qK F b node x k (acc, (i : Int), (p : Int), (s : Int), false) = zm F node y.1 (y.2 : Int) ((s + (x.1.toNat - i) : Nat) : Int) false
    | none => ∃ gs a q, N64 gs ∧ a ≤ b.length ∧ q ≤ 50100 ∧ qK F b node x k (acc, (i : Int), (p : Int), (s : Int), false) = zm F node gs ((a : Nat) : Int) ((q : Nat) : Int) true
  | 0, i, p, s, acc, h, h1, _, _, _, _ => by omega
  | k + 1, i, p, s, acc, h, h1, hp, hs, ha, hl => by
    have e : qK F b node x (k + 1) (acc, (i : Int), (p : Int), (s : Int), false) = zJ F b node x (qK F b node x k) acc (i : Int) (p : Int) (s : Int) false := rfl
    rw [e]
    unfold zJ
    by_cases hlt : (i : Int) < x.1
    · rw [if_pos (by simpa using hlt), qg0 hF hb hm hp (by omega) (by decide) (by decide)]
      simp only [Option.bind_some]
      obtain ⟨m, hmm⟩ : ∃ m, x.1.toNat - i = m + 1 := ⟨x.1.toNat - i - 1, by omega⟩
      rw [hmm]
      unfold pnums nst
      cases hq : pnum b p 2097152 with
      | none =>
        simp only
        rw [zM (by simp; omega)]
        simp only [Option.bind_some]
        rw [jt (by omega)]
        have hz : iconv .u64 (0 : Int) = 0 := by decide
        obtain ⟨gs, h2, h3⟩ := qhb (F := F) (node := node) (s := s) hF hb hm hp hx k (i + 1) (acc ++ [iconv .u64 0]) (by omega) (by omega) (fun y hy => by
          rcases List.mem_append.1 hy with hy | hy
          · exact ha y hy
          · rw [List.mem_singleton, hz] at hy; subst hy; decide) (by simp; omega)
        exact ⟨gs, p, s, h2, hp, by omega, h3⟩
      | some w =>
        simp only
        obtain ⟨w0, w1, w2, w3, _, _⟩ := yR hb hp hq
        have hz : iconv .u64 w.1 = w.1 := by
          have : iconv .u64 w.1 = w.1 % 18446744073709551616 := jB _
          rw [this]; omega
        rw [hz, zM (by simp; omega)]
        simp only [Option.bind_some]
        rw [jt (by omega)]
        have ih := qpc (F := F) (node := node) hF hb hm hx k (i + 1) w.2 (s + 1) (acc ++ [w.1]) (by omega) (by omega) w3 (by omega) (fun y hy => by
          rcases List.mem_append.1 hy with hy | hy
          · exact ha y hy
          · rw [List.mem_singleton] at hy; subst hy; exact ⟨w0, w2⟩) (by simp; omega)
        rw [show x.1.toNat - (i + 1) = m from by omega] at ih
        rw [show s + (m + 1) = s + 1 + m from by omega]
        exact ih
    · rw [if_neg (by simpa using hlt), show x.1.toNat - i = 0 from by omega]
      exact ⟨hp, ha, by rw [Nat.add_zero]⟩
theorem qcE {F : Nat} (hF : 20000 ≤ F) {gs : List Int} (hg : N64 gs) {node a s : Int} {bad : Bool} : zm F node gs a s bad = some ((gb gs node).1, a, s, (bad || ((gb gs node).2 != 0))) := by
  unfold zm
  rw [ql5 hF hg]
  rfl
theorem qk4 {F : Nat} (hF : 20000 ≤ F) {b : List Int} (hb : U8s b) (hm : b.length ≤ 4096) {p s node : Nat} (hp : p ≤ b.length) (hs : s ≤ 40000) {n : Int} (h0 : 0 ≤ n) (h1 : n ≤ 100) :
    match plist b p node n with
    | some y => y.2.1 ≤ b.length ∧ y.2.2 ≤ 101 ∧ zP F b (p : Int) (s : Int) false (node : Int) n = some (y.1, (y.2.1 : Int), ((s + y.2.2 : Nat) : Int), false)
    | none => ∃ (l : List Int) (a q : Nat), a ≤ b.length ∧ zP F b (p : Int) (s : Int) false (node : Int) n = some (l, (a : Int), (q : Int), true) := by
  unfold zP plist
  rw [qg0 (by omega) hb hm hp (by omega) h0 (by omega)]
  simp only [Option.bind_some]
  unfold nst
  cases hq : pnum b p n with
  | none =>
    simp only
    obtain ⟨gs, h2, h3⟩ := qhb (F := F) (node := (node : Int)) (s := s) (p := p) (x := (0, (p : Int), (s : Int), true)) (by omega) hb hm hp (by simp) F 0 [] (by simp; omega) (by simp) (fun y hy => by simp at hy) (by simp)
    rw [show ((0 : Nat) : Int) = 0 from rfl] at h3
    rw [h3, qcE hF h2]
    exact ⟨_, p, s, hp, rfl⟩
  | some w =>
    simp only
    obtain ⟨w0, w1, w2, w3, _, _⟩ := yR hb hp hq
    have := qpc (F := F) (node := (node : Int)) (x := (w.1, (w.2 : Int), ((s + 1 : Nat) : Int), false)) (by omega) hb hm (by simp only; omega) F 0 w.2 (s + 1) [] (by simp only; omega) (by simp only; omega) w3 (by omega) (fun y hy => by simp at hy) rfl
    simp only [Nat.sub_zero] at this
    rw [show ((0 : Nat) : Int) = 0 from rfl] at this
    cases hy : pnums b 2097152 w.1.toNat w.2 [] with
    | none =>
      rw [hy] at this
      obtain ⟨gs, a, q, h2, h3, h4, h5⟩ := this
      simp only
      rw [h5, qcE hF h2]
      exact ⟨_, a, q, h3, rfl⟩
    | some y =>
      rw [hy] at this
      obtain ⟨h2, h3, h4⟩ := this
      simp only
      rw [h4, qcE hF h3]
      by_cases he : (gb y.1 (node : Int)).2 = 0
      · rw [if_pos he]
        refine ⟨h2, by simp only; omega, ?_⟩
        simp only [he]
        rw [show s + (1 + w.1.toNat) = s + 1 + w.1.toNat from by omega]
        rfl
      · rw [if_neg he]
        have hd : (((gb y.1 (node : Int)).2 : Int) != 0) = true := by simpa using he
        refine ⟨(gb y.1 (node : Int)).1, y.2, s + 1 + w.1.toNat, h2, ?_⟩
        rw [hd]
        rfl
theorem qi5 {F : Nat} (hF : 20000 ≤ F) {b : List Int} (hb : U8s b) (hm : b.length ≤ 4096) {p s : Nat} (hp : p ≤ b.length) {node n : Int} :
    ∃ l : List Int, zP F b (p : Int) (s : Int) true node n = some (l, (p : Int), (s : Int), true) := by
  unfold zP
  rw [qgZ (by omega) hb hm hp]
  simp only [Option.bind_some]
  obtain ⟨gs, h2, h3⟩ := qhb (F := F) (node := node) (s := s) (p := p) (x := (0, (p : Int), (s : Int), true)) (by omega) hb hm hp (by simp) F 0 [] (by simp; omega) (by simp) (fun y hy => by simp at hy) (by simp)
  rw [show ((0 : Nat) : Int) = 0 from rfl] at h3
  rw [h3, qcE hF h2]
  exact ⟨_, rfl⟩
def pgr (b : List Int) (n : Nat) : Nat → Nat → Nat → List (List Int) → Option (List (List Int) × Nat × Nat)
  | 0, p, s, acc => some (acc, p, s)
  | j + 1, p, s, acc => match plist b p acc.length (n : Int) with | none => none | some y => pgr b n j y.2.1 (s + y.2.2) (acc ++ [y.1])
def pG (b : List Int) : Option (List (List Int) × Nat) :=
  match pnum b 3 100 with
  | none => none
  | some x => match pgr b x.1.toNat x.1.toNat x.2 1 [] with
    | none => none
    | some y => if y.2.1 = b.length ∧ gchk y.1 = 0 then some (y.1, y.2.2) else none
theorem qjg {F : Nat} (hF : 20000 ≤ F) {b : List Int} (hb : U8s b) (hm : b.length ≤ 4096) {p s : Nat} (hp : p ≤ b.length) {x : Int × Int × Int × Bool} (h1 : x.1 ≤ 100) : ∀ (k i : Nat) (acc : List (List Int)), x.1.toNat < k + i → (i : Int) ≤ x.1 → acc.length = i →
    ∃ gs, qJ F b x k ((i : Int), acc, (p : Int), (s : Int), true) = q7 F b gs (p : Int) (s : Int) true
  | 0, i, acc, h, h1, _ => by omega
  | k + 1, i, acc, h, h2, hl => by
    show ∃ gs, zH F b x (qJ F b x k) (i : Int) acc (p : Int) (s : Int) true = _
    unfold zH
    by_cases hlt : (i : Int) < x.1
    · obtain ⟨l, hl1⟩ := qi5 (s := s) (node := (i : Int)) (n := x.1) hF hb hm hp
      rw [if_pos (by simpa using hlt), hl1]
      simp only [Option.bind_some]
      rw [zM (by simp; omega)]
      simp only [Option.bind_some]
      rw [jt (by omega)]
      exact qjg hF hb hm hp h1 k (i + 1) _ (by omega) (by omega) (by simp; omega)
    · rw [if_neg (by simpa using hlt)]
      exact ⟨acc, rfl⟩
theorem qpb {F : Nat} (hF : 20000 ≤ F) {b : List Int} (hb : U8s b) (hm : b.length ≤ 4096) {x : Int × Int × Int × Bool} (h1 : x.1 ≤ 100) : ∀ (k i p s : Nat) (acc : List (List Int)), x.1.toNat < k + i → (i : Int) ≤ x.1 → acc.length = i → p ≤ b.length → s ≤ 1 + 101 * i →
    match pgr b x.1.toNat (x.1.toNat - i) p s acc with
    | some y => y.2.1 ≤ b.length ∧ qJ F b x k ((i : Int), acc, (p : Int), (s : Int), false) = q7 F b y.1 (y.2.1 : Int) (y.2.2 : Int) false
    | none => ∃ gs a q, qJ F b x k ((i : Int), acc, (p : Int), (s : Int), false) = q7 F b gs a q true
  | 0, i, p, s, acc, h, h2, _, _, _ => by omega
  | k + 1, i, p, s, acc, h, h2, hl, hp, hs => by
    have e : qJ F b x (k + 1) ((i : Int), acc, (p : Int), (s : Int), false) = zH F b x (qJ F b x k) (i : Int) acc (p : Int) (s : Int) false := rfl
    rw [e]
    unfold zH
    by_cases hlt : (i : Int) < x.1
    · obtain ⟨m, hmm⟩ : ∃ m, x.1.toNat - i = m + 1 := ⟨x.1.toNat - i - 1, by omega⟩
      rw [if_pos (by simpa using hlt), hmm]
      have hL := qk4 (F := F) (s := s) (node := i) (n := x.1) hF hb hm hp (by omega) (by omega) h1
      unfold pgr
      rw [hl, show ((x.1.toNat : Nat) : Int) = x.1 from by omega]
      cases hq : plist b p i x.1 with
      | none =>
        rw [hq] at hL
        obtain ⟨l, a, q, h3, h4⟩ := hL
        simp only
        rw [h4]
        simp only [Option.bind_some]
        rw [zM (by simp; omega)]
        simp only [Option.bind_some]
        rw [jt (by omega)]
        obtain ⟨gs, h5⟩ := qjg (F := F) (s := q) hF hb hm h3 h1 k (i + 1) (acc ++ [l]) (by omega) (by omega) (by simp; omega)
        exact ⟨gs, _, _, h5⟩
      | some y =>
        rw [hq] at hL
        obtain ⟨h3, h4, h5⟩ := hL
        simp only
        rw [h5]
        simp only [Option.bind_some]
        rw [zM (by simp; omega)]
        simp only [Option.bind_some]
        rw [jt (by omega)]
        have ih := qpb (F := F) hF hb hm h1 k (i + 1) y.2.1 (s + y.2.2) (acc ++ [y.1]) (by omega) (by omega) (by simp; omega) h3 (by omega)
        rw [show x.1.toNat - (i + 1) = m from by omega] at ih
        exact ih
    · rw [if_neg (by simpa using hlt), show x.1.toNat - i = 0 from by omega]
      exact ⟨hp, rfl⟩
theorem qiv {F : Nat} {b : List Int} {gs : List (List Int)} {a s : Int} : q7 F b gs a s true = some (gs, false, a, s, true) := rfl
theorem qoi {F : Nat} (hF : 1000 ≤ F) {b : List Int} {gs : List (List Int)} {a : Nat} {s : Int} : q7 F b gs (a : Int) s false = some (gs, decide (a = b.length ∧ gchk gs = 0), (a : Int), s, false) := by
  unfold q7
  rw [if_pos (by decide)]
  by_cases h : a = b.length
  · rw [if_pos (by simp [h]), qbG hF]
    simp only [Option.bind_some]
    unfold zI
    by_cases h2 : gchk gs = 0
    · simp [h, h2]
    · simp [h2]
  · rw [if_neg (by simp; omega)]
    unfold zI
    simp [h]
theorem qk3 {F : Nat} (hF : 20000 ≤ F) {b : List Int} (hb : U8s b) (hm : b.length ≤ 4096) (h3 : 3 ≤ b.length) : ∃ x, vk F b 3 0 false = some x ∧ match pG b with
    | some y => x.1 = y.1 ∧ x.2.1 = true ∧ x.2.2.2.1 = (y.2 : Int)
    | none => x.2.1 = false := by
  unfold vk pG
  have hn := qg0 (F := F) (p := 3) (s := 0) (most := 100) (by omega) hb hm h3 (by omega) (by decide) (by decide)
  rw [show ((3 : Nat) : Int) = 3 from rfl, show ((0 : Nat) : Int) = 0 from rfl] at hn
  rw [hn]
  simp only [Option.bind_some]
  unfold nst
  cases hq : pnum b 3 100 with
  | none =>
    simp only
    obtain ⟨gs, h5⟩ := qjg (F := F) (p := 3) (s := 0) (x := (0, ((3 : Nat) : Int), ((0 : Nat) : Int), true)) hF hb hm h3 (by simp) F 0 [] (by simp; omega) (by simp) rfl
    rw [show ((0 : Nat) : Int) = 0 from rfl] at h5 ⊢
    rw [h5, qiv]
    exact ⟨_, rfl, rfl⟩
  | some w =>
    simp only
    obtain ⟨w0, w1, w2, w3, _, _⟩ := yR hb h3 hq
    have := qpb (F := F) (x := (w.1, (w.2 : Int), ((0 + 1 : Nat) : Int), false)) hF hb hm w1 F 0 w.2 1 [] (by simp only; omega) (by simp only; omega) rfl w3 (by omega)
    simp only [Nat.sub_zero] at this
    rw [show ((0 : Nat) : Int) = 0 from rfl, show ((1 : Nat) : Int) = ((0 + 1 : Nat) : Int) from rfl] at this
    cases hy : pgr b w.1.toNat w.1.toNat w.2 1 [] with
    | none =>
      rw [hy] at this
      obtain ⟨gs, a, q, h5⟩ := this
      simp only
      rw [h5, qiv]
      exact ⟨_, rfl, rfl⟩
    | some y =>
      rw [hy] at this
      obtain ⟨h5, h6⟩ := this
      simp only
      rw [h6, qoi (by omega)]
      by_cases hc : y.2.1 = b.length ∧ gchk y.1 = 0
      · rw [if_pos hc]
        exact ⟨_, rfl, rfl, by simp [hc], rfl⟩
      · rw [if_neg hc]
        exact ⟨_, rfl, by simp only; exact decide_eq_false hc⟩
theorem qfS (l : List Int) (g : List (List Int)) : gtot (l :: g) = l.length + gtot g := rfl
theorem qip {b : List Int} {most : Int} (hmo : most < 18446744073709551616) : ∀ {zs : List Int} {p : Nat} {acc t : List Int}, b.drop p = zs.flatMap vn ++ t → (∀ x ∈ zs, 0 ≤ x ∧ x ≤ most) →
    pnums b most zs.length p acc = some (acc ++ zs, p + (zs.flatMap vn).length) ∧ b.drop (p + (zs.flatMap vn).length) = t
  | [], p, acc, t, h, _ => ⟨by simp [pnums], by simpa using h⟩
  | x :: zs, p, acc, t, h, hz => by
    rw [List.flatMap_cons, List.append_assoc] at h
    have hx := hz x List.mem_cons_self
    obtain ⟨h1, h2⟩ := jX h hx.1 hx.2 hmo
    obtain ⟨h3, h4⟩ := qip hmo (acc := acc ++ [x]) h2 fun y hy => hz y (List.mem_cons_of_mem _ hy)
    rw [List.flatMap_cons, List.length_append, ← Nat.add_assoc]
    refine ⟨?_, h4⟩
    rw [List.length_cons]
    unfold pnums
    rw [h1]
    simp only
    rw [h3, List.append_assoc]
    rfl
theorem qp6 {l : List Int} {node : Int} (hn : Nd node) (hk : gkc l = 0) : gb (gp false node l) node = (l, 0) := by
  have h := zV.1 hk
  unfold gb
  rw [qdd, if_neg (by omega), if_pos hn, qlL hn h.2 (fun hh => by cases hh)]
theorem qmA {b : List Int} {p node : Nat} {n : Nat} {l t : List Int} (hnode : node ≤ 1000) (hn : n ≤ 100) (hl : l.length ≤ n) (hk : gkc l = 0) (h : b.drop p = vn l.length ++ ((gp false (node : Int) l).flatMap vn ++ t)) :
    plist b p node (n : Int) = some (l, p + (vn l.length).length + ((gp false (node : Int) l).flatMap vn).length, 1 + l.length) ∧ b.drop (p + (vn l.length).length + ((gp false (node : Int) l).flatMap vn).length) = t := by
  obtain ⟨h1, h2⟩ := jX (most := (n : Int)) h (by omega) (by omega) (by omega)
  have hnd : Nd (node : Int) := ⟨by omega, by omega⟩
  obtain ⟨h3, h4⟩ := qip (most := 2097152) (acc := []) (by decide) h2 (qj3 hnd (zV.1 hk).2 (fun hh => by cases hh))
  refine ⟨?_, h4⟩
  unfold plist
  rw [h1]
  simp only
  rw [qdd] at h3
  rw [show ((l.length : Int)).toNat = l.length from by omega, h3]
  simp only [List.nil_append]
  rw [qp6 hnd hk, if_pos rfl]
theorem qg2 {b : List Int} {n : Nat} (hn : n ≤ 100) : ∀ {g : List (List Int)} {p s : Nat} {acc : List (List Int)} {t : List Int}, acc.length + g.length = n → (∀ l ∈ g, gkc l = 0 ∧ l.length ≤ n) → b.drop p = gfT (acc.length : Int) g ++ t →
    pgr b n g.length p s acc = some (acc ++ g, p + (gfT (acc.length : Int) g).length, s + (g.length + gtot g))
  | [], p, s, acc, t, _, _, h => by simp [pgr, gtot, gfT]
  | l :: g, p, s, acc, t, hl, hg, h => by
    rw [List.length_cons] at hl
    rw [qcq, List.append_assoc, List.append_assoc] at h
    have h0 := hg l List.mem_cons_self
    obtain ⟨h1, h2⟩ := qmA (n := n) (by omega) hn h0.2 h0.1 h
    have hac : (acc ++ [l]).length = acc.length + 1 := by simp
    have h3 := qg2 hn (p := p + (vn l.length).length + ((gp false (acc.length : Int) l).flatMap vn).length) (s := s + (1 + l.length)) (acc := acc ++ [l]) (g := g) (t := t) (by rw [hac]; omega) (fun y hy => hg y (List.mem_cons_of_mem _ hy)) (by rw [hac]; exact h2)
    rw [List.length_cons, qcq, qfS]
    unfold pgr
    rw [h1]
    simp only
    rw [h3, List.append_assoc, hac]
    simp only [List.length_append, Option.some.injEq, Prod.mk.injEq]
    refine ⟨rfl, ?_, by omega⟩
    rw [show (((acc.length + 1 : Nat)) : Int) = (acc.length : Int) + 1 from by omega]
    omega
theorem qn8 {b : List Int} {g : List (List Int)} (hg : gchk g = 0) (hb : b.drop 3 = vn g.length ++ gfT 0 g) (h3 : 3 ≤ b.length) : pG b = some (g, 1 + (g.length + gtot g)) := by
  have hG := je.1 hg
  have hl := hG.1
  obtain ⟨h1, h2⟩ := jX (most := 100) hb (by omega) (by omega) (by decide)
  have h4 := qg2 (n := g.length) hl (g := g) (p := 3 + (vn (g.length : Int)).length) (s := 1) (acc := []) (t := []) (by simp) (fun l hlg => ⟨qgQ hG hlg, by
    have h1 := (hG.2.1 l hlg).2
    have h2 : rowE g.length (-1) l = 0 := qcJ.2 ⟨⟨(hG.2.1 l hlg).1, fun x hx => by have := h1 x hx; omega⟩, h1⟩
    have := qdI (by omega) (by omega) h2
    omega⟩) (by rw [h2, List.append_nil]; rfl)
  unfold pG
  rw [h1]
  simp only
  rw [show ((g.length : Int)).toNat = g.length from by omega, h4]
  simp only [List.nil_append, List.length_nil]
  have hp := congrArg List.length hb
  rw [List.length_drop, List.length_append] at hp
  rw [show (((0 : Nat)) : Int) = 0 from rfl, if_pos ⟨by omega, hg⟩]
theorem qio {b : List Int} (hb : U8s b) {most : Int} : ∀ {m p : Nat} {acc : List Int} {y : List Int × Nat}, p ≤ b.length → pnums b most m p acc = some y →
    ∃ zs, y.1 = acc ++ zs ∧ zs.length = m ∧ (∀ x ∈ zs, 0 ≤ x ∧ x ≤ most) ∧ b.drop p = zs.flatMap vn ++ b.drop y.2 ∧ y.2 ≤ b.length
  | 0, p, acc, y, hp, h => by
    unfold pnums at h
    simp only [Option.some.injEq] at h
    subst h
    exact ⟨[], by simp, rfl, fun x hx => by simp at hx, rfl, hp⟩
  | m + 1, p, acc, y, hp, h => by
    unfold pnums at h
    cases hq : pnum b p most with
    | none => rw [hq] at h; cases h
    | some w =>
      rw [hq] at h
      simp only at h
      obtain ⟨w0, w1, w2, w3, w4, _⟩ := yR hb hp hq
      obtain ⟨zs, e1, e2, e3, e4, e5⟩ := qio hb w3 h
      refine ⟨w.1 :: zs, by rw [e1, List.append_assoc]; rfl, by rw [List.length_cons, e2], fun x hx => ?_, ?_, e5⟩
      · rcases List.mem_cons.1 hx with rfl | hx
        · exact ⟨w0, w1⟩
        · exact e3 x hx
      · rw [w4, e4, List.flatMap_cons, List.append_assoc]
theorem qmB {b : List Int} (hb : U8s b) {p node : Nat} (hp : p ≤ b.length) {n : Int} {y : List Int × Nat × Nat} (h : plist b p node n = some y) :
    b.drop p = vn y.1.length ++ ((gp false (node : Int) y.1).flatMap vn ++ b.drop y.2.1) ∧ y.2.1 ≤ b.length ∧ y.2.2 = 1 + y.1.length := by
  unfold plist at h
  cases hq : pnum b p n with
  | none => rw [hq] at h; cases h
  | some w =>
    rw [hq] at h
    simp only at h
    obtain ⟨w0, w1, w2, w3, w4, _⟩ := yR hb hp hq
    cases hz : pnums b 2097152 w.1.toNat w.2 [] with
    | none => rw [hz] at h; cases h
    | some z =>
      rw [hz] at h
      simp only at h
      obtain ⟨zs, e1, e2, e3, e4, e5⟩ := qio hb w3 hz
      rw [List.nil_append] at e1
      rw [e1] at h
      split at h
      · rename_i hg
        simp only [Option.some.injEq] at h
        unfold gb at h hg
        split at hg
        · cases hg
        · rename_i h300
          rw [if_neg h300] at h
          split at hg
          · rename_i hnd
            rw [if_pos hnd] at h
            cases hbk : bk false (node : Int) zs with
            | none => rw [hbk] at hg; cases hg
            | some l =>
              rw [hbk] at h
              simp only at h
              have hlen := qlM hbk
              have hgp := (qo3 (fun x hx => (e3 x hx).1) hbk).1
              subst h
              simp only
              refine ⟨?_, e5, by omega⟩
              rw [w4, hgp, ← e4, show (l.length : Int) = w.1 from by omega]
          · cases hg
      · cases h
theorem qmv {b : List Int} (hb : U8s b) {n : Nat} : ∀ {j p s : Nat} {acc : List (List Int)} {y : List (List Int) × Nat × Nat}, p ≤ b.length → pgr b n j p s acc = some y →
    ∃ g, y.1 = acc ++ g ∧ g.length = j ∧ b.drop p = gfT (acc.length : Int) g ++ b.drop y.2.1 ∧ y.2.1 ≤ b.length ∧ y.2.2 = s + (g.length + gtot g)
  | 0, p, s, acc, y, hp, h => by
    unfold pgr at h
    simp only [Option.some.injEq] at h
    subst h
    exact ⟨[], by simp, rfl, rfl, hp, by simp [gtot]⟩
  | j + 1, p, s, acc, y, hp, h => by
    unfold pgr at h
    cases hq : plist b p acc.length (n : Int) with
    | none => rw [hq] at h; cases h
    | some w =>
      rw [hq] at h
      simp only at h
      obtain ⟨w1, w2, w3⟩ := qmB hb hp hq
      obtain ⟨g, e1, e2, e3, e4, e5⟩ := qmv hb w2 h
      refine ⟨w.1 :: g, by rw [e1, List.append_assoc]; rfl, by rw [List.length_cons, e2], ?_, e4, by rw [e5, List.length_cons, qfS]; omega⟩
      rw [w1, e3, qcq, List.append_assoc, List.append_assoc]
      rw [show ((acc ++ [w.1]).length : Int) = (acc.length : Int) + 1 from by simp]
theorem qqd {b : List Int} (hb : U8s b) (h3 : 3 ≤ b.length) {y : List (List Int) × Nat} (h : pG b = some y) : gchk y.1 = 0 ∧ b.drop 3 = vn y.1.length ++ gfT 0 y.1 ∧ y.2 = 1 + (y.1.length + gtot y.1) := by
  unfold pG at h
  cases hq : pnum b 3 100 with
  | none => rw [hq] at h; cases h
  | some w =>
    rw [hq] at h
    simp only at h
    obtain ⟨w0, w1, w2, w3, w4, _⟩ := yR hb h3 hq
    cases hz : pgr b w.1.toNat w.1.toNat w.2 1 [] with
    | none => rw [hz] at h; cases h
    | some z =>
      rw [hz] at h
      simp only at h
      obtain ⟨g, e1, e2, e3, e4, e5⟩ := qmv hb w3 hz
      rw [List.nil_append] at e1
      split at h
      · rename_i hc
        simp only [Option.some.injEq] at h
        subst h
        simp only
        rw [e1] at hc ⊢
        refine ⟨hc.2, ?_, e5⟩
        rw [w4, e3, hc.1, List.drop_length, List.append_nil, show (g.length : Int) = w.1 from by omega]
        rfl
      · cases h
def pB (b : List Int) : Option (List (List Int) × Int × Int × Int × Int) :=
  match pnum b 3 100 with
  | none => none
  | some x1 => match pnum b x1.2 7 with
    | none => none
    | some x2 => match pnum b x2.2 300 with
      | none => none
      | some x3 => match pnum b x3.2 16 with
        | none => none
        | some x4 => match pnum b x4.2 8192 with
          | none => none
          | some x5 => if (prd x1.1 x2.1 x3.1 x4.1 x5.1 (b.drop x5.2)).2 = 0 then some ((prd x1.1 x2.1 x3.1 x4.1 x5.1 (b.drop x5.2)).1, x2.1, x3.1, x4.1, x5.1) else none
theorem qk2 {F : Nat} (hF : 2000000 ≤ F) {b : List Int} (hb : U8s b) (hm : b.length ≤ 4096) (h3 : 3 ≤ b.length) : ∃ x, vj F b 3 0 false = some x ∧ match pB b with
    | some y => x.1 = y.1 ∧ x.2.1 = true ∧ x.2.2.2.1 = y.2.2.2.2
    | none => x.2.1 = false := by
  unfold vj pB
  have hN : ∀ {p s : Nat} {most : Int}, p ≤ b.length → s ≤ 100 → 0 ≤ most → most ≤ 10000 → ql F b (p : Int) (s : Int) false most = some (nst b p s most) := fun hp hs h0 h1 => qg0 (by omega) hb hm hp (by omega) h0 (by omega)
  have hX : ∀ {p s : Nat} {most : Int}, p ≤ b.length → ql F b (p : Int) (s : Int) true most = some (0, (p : Int), (s : Int), true) := fun hp => qgZ (by omega) hb hm hp
  have e1 := hN (p := 3) (s := 0) (most := 100) h3 (by omega) (by decide) (by decide)
  rw [show ((3 : Nat) : Int) = 3 from rfl, show ((0 : Nat) : Int) = 0 from rfl] at e1
  rw [e1]
  simp only [Option.bind_some]
  unfold nst
  cases q1 : pnum b 3 100 with
  | none =>
    simp only
    rw [hX h3]; simp only [Option.bind_some]
    rw [hX h3]; simp only [Option.bind_some]
    rw [hX h3]; simp only [Option.bind_some]
    rw [hX h3]; simp only [Option.bind_some]
    exact ⟨_, rfl, rfl⟩
  | some x1 =>
    obtain ⟨a0, a1, a2, a3, _, _⟩ := yR hb h3 q1
    simp only
    rw [hN a3 (by omega) (by decide) (by decide)]; simp only [Option.bind_some]
    unfold nst
    cases q2 : pnum b x1.2 7 with
    | none =>
      simp only
      rw [hX a3]; simp only [Option.bind_some]
      rw [hX a3]; simp only [Option.bind_some]
      rw [hX a3]; simp only [Option.bind_some]
      exact ⟨_, rfl, rfl⟩
    | some x2 =>
      obtain ⟨b0, b1, b2, b3, _, _⟩ := yR hb a3 q2
      simp only
      rw [hN b3 (by omega) (by decide) (by decide)]; simp only [Option.bind_some]
      unfold nst
      cases q3 : pnum b x2.2 300 with
      | none =>
        simp only
        rw [hX b3]; simp only [Option.bind_some]
        rw [hX b3]; simp only [Option.bind_some]
        exact ⟨_, rfl, rfl⟩
      | some x3 =>
        obtain ⟨c0, c1, c2, c3, _, _⟩ := yR hb b3 q3
        simp only
        rw [hN c3 (by omega) (by decide) (by decide)]; simp only [Option.bind_some]
        unfold nst
        cases q4 : pnum b x3.2 16 with
        | none =>
          simp only
          rw [hX c3]; simp only [Option.bind_some]
          exact ⟨_, rfl, rfl⟩
        | some x4 =>
          obtain ⟨d0, d1, d2, d3, _, _⟩ := yR hb c3 q4
          simp only
          rw [hN d3 (by omega) (by decide) (by decide)]; simp only [Option.bind_some]
          unfold nst
          cases q5 : pnum b x4.2 8192 with
          | none => exact ⟨_, rfl, rfl⟩
          | some x5 =>
            obtain ⟨f0, f1, f2, f3, _, _⟩ := yR hb d3 q5
            simp only
            have hu : U8s (b.drop x5.2) := hb.vdrop _
            have hl : (b.drop x5.2).length ≤ 4096 := by rw [List.length_drop]; omega
            rw [if_neg (by decide), qfd f3 (Nat.le_refl _), List.take_length]
            simp only [Option.bind_some]
            rw [qh1 (by omega)]
            simp only [Option.bind_some]
            rw [qhY hu (by omega) (by omega) (by omega)]
            simp only [Option.bind_some]
            have hr := qmE (F := F) (N := x1.1) (B := x2.1) (least := x3.1) (k := x4.1) (m := x5.1) hF hu ⟨by omega, by omega⟩ (by omega)
            by_cases hc : chkOf x5.1 (b.drop x5.2) = 0
            · rw [if_neg (by simp [hc]), hr]
              simp only [Option.bind_some]
              by_cases he : (prd x1.1 x2.1 x3.1 x4.1 x5.1 (b.drop x5.2)).2 = 0
              · rw [if_pos he]
                exact ⟨_, rfl, rfl, by simpa using he, rfl⟩
              · rw [if_neg he]
                exact ⟨_, rfl, by simpa using he⟩
            · have he : (prd x1.1 x2.1 x3.1 x4.1 x5.1 (b.drop x5.2)).2 ≠ 0 := fun h0 => by
                obtain ⟨g, _, hp, _, e1, e2⟩ := qmD hu h0
                apply hc
                obtain ⟨_, _, g3⟩ := qbi hp
                rw [e1, e2]
                exact qlT g3
              rw [if_pos (by simpa using hc), if_neg he]
              exact ⟨_, rfl, rfl⟩
theorem qqc {b : List Int} (hb : U8s b) (h3 : 3 ≤ b.length) {y : List (List Int) × Int × Int × Int × Int} (h : pB b = some y) :
    pkE y.1 y.2.1 y.2.2.1 y.2.2.2.1 = 0 ∧ y.2.2.2.2 = ((pkA y.1 y.2.1 y.2.2.1 y.2.2.2.1.toNat y.1.length).1.length : Int) ∧
    b.drop 3 = vn y.1.length ++ (vn y.2.1 ++ (vn y.2.2.1 ++ (vn y.2.2.2.1 ++ (vn (pkA y.1 y.2.1 y.2.2.1 y.2.2.2.1.toNat y.1.length).1.length ++ pk (pkA y.1 y.2.1 y.2.2.1 y.2.2.2.1.toNat y.1.length).1)))) := by
  unfold pB at h
  cases q1 : pnum b 3 100 with
  | none => rw [q1] at h; cases h
  | some x1 =>
  rw [q1] at h; simp only at h
  obtain ⟨a0, a1, a2, a3, a4, _⟩ := yR hb h3 q1
  cases q2 : pnum b x1.2 7 with
  | none => rw [q2] at h; cases h
  | some x2 =>
  rw [q2] at h; simp only at h
  obtain ⟨b0, b1, b2, b3, b4, _⟩ := yR hb a3 q2
  cases q3 : pnum b x2.2 300 with
  | none => rw [q3] at h; cases h
  | some x3 =>
  rw [q3] at h; simp only at h
  obtain ⟨c0, c1, c2, c3, c4, _⟩ := yR hb b3 q3
  cases q4 : pnum b x3.2 16 with
  | none => rw [q4] at h; cases h
  | some x4 =>
  rw [q4] at h; simp only at h
  obtain ⟨d0, d1, d2, d3, d4, _⟩ := yR hb c3 q4
  cases q5 : pnum b x4.2 8192 with
  | none => rw [q5] at h; cases h
  | some x5 =>
  rw [q5] at h; simp only at h
  obtain ⟨f0, f1, f2, f3, f4, _⟩ := yR hb d3 q5
  split at h
  · rename_i he
    simp only [Option.some.injEq] at h
    obtain ⟨g, g1, g2, g3, g4, g5⟩ := qmD (hb.vdrop x5.2) he
    rw [g1] at h
    subst h
    simp only
    refine ⟨g2, g4, ?_⟩
    rw [a4, b4, c4, d4, f4, ← g5, ← g4, ← g3]
  · cases h
theorem qn7 {b : List Int} {g : List (List Int)} {B least k : Int} (hp : pkE g B least k = 0)
    (h : b.drop 3 = vn g.length ++ (vn B ++ (vn least ++ (vn k ++ (vn (pkA g B least k.toNat g.length).1.length ++ pk (pkA g B least k.toNat g.length).1))))) : pB b = some (g, B, least, k, ((pkA g B least k.toNat g.length).1.length : Int)) := by
  obtain ⟨g1, g2, g3⟩ := qbi hp
  obtain ⟨k1, k2, k', rfl, k3, k4⟩ := qal g2
  have hgl := (je.1 g1).1
  obtain ⟨e1, f1⟩ := jX (most := 100) h (by omega) (by omega) (by decide)
  obtain ⟨e2, f2⟩ := jX (most := 7) f1 (by omega) (by omega) (by decide)
  obtain ⟨e3, f3⟩ := jX (most := 300) f2 (by omega) (by omega) (by decide)
  obtain ⟨e4, f4⟩ := jX (most := 16) f3 (by omega) (by omega) (by decide)
  obtain ⟨e5, f5⟩ := jX (most := 8192) f4 (by omega) (by omega) (by decide)
  unfold pB
  rw [e1]; simp only
  rw [e2]; simp only
  rw [e3]; simp only
  rw [e4]; simp only
  rw [e5]; simp only
  rw [f5, qpE hp, if_pos rfl]
theorem qlO : ∀ (xs : List Int) (a : ByteArray), (xs.foldl (fun r n => r.push (UInt8.ofNat n.toNat)) a).data.toList = a.data.toList ++ xs.map fun n => UInt8.ofNat n.toNat
  | [], a => by simp
  | x :: t, a => by
    rw [List.foldl_cons, qlO t, List.map_cons]
    simp [ByteArray.push]
theorem qfK (xs : List Int) : (bstr xs).data.toList = xs.map fun n => UInt8.ofNat n.toNat := by
  unfold bstr
  rw [qlO]
  rfl
theorem qpU {x y : Int} (hx : 0 ≤ x ∧ x < 256) (hy : 0 ≤ y ∧ y < 256) (h : UInt8.ofNat x.toNat = UInt8.ofNat y.toNat) : x = y := by
  have := congrArg UInt8.toNat h
  simp only [UInt8.toNat_ofNat'] at this
  omega
theorem qhV : ∀ {xs ys : List Int}, U8s xs → U8s ys → (xs.map fun n => UInt8.ofNat n.toNat) = (ys.map fun n => UInt8.ofNat n.toNat) → xs = ys
  | [], [], _, _, _ => rfl
  | [], y :: ys, _, _, h => by simp at h
  | x :: xs, [], _, _, h => by simp at h
  | x :: xs, y :: ys, hx, hy, h => by
    simp only [List.map_cons, List.cons.injEq] at h
    rw [qpU (hx x List.mem_cons_self) (hy y List.mem_cons_self) h.1, qhV (fun z hz => hx z (List.mem_cons_of_mem _ hz)) (fun z hz => hy z (List.mem_cons_of_mem _ hz)) h.2]
theorem qlN {xs ys : List Int} (hx : U8s xs) (hy : U8s ys) : (bstr xs == bstr ys) = decide (xs = ys) := by
  rw [← qlG, qcB, qcB, qfK, qfK]
  by_cases h : xs = ys
  · subst h; simp
  · rw [decide_eq_false h, beq_eq_false_iff_ne]
    exact fun e => h (qhV hx hy e)
def rdF (b : List Int) : List (List Int) × Int × Int :=
  if 4096 < b.length then ([], 0, 2)
  else if b.length < 3 ∨ b.take 2 ≠ [76, 87] then ([], 0, 1)
  else if b[2]? = some 1 then (match pG b with | some y => (y.1, (y.2 : Int), 0) | none => ([], 0, 1))
  else if b[2]? = some 2 then (match pB b with | some y => (y.1, y.2.2.2.2, 0) | none => ([], 0, 1))
  else ([], 0, 1)
theorem qcF {F : Nat} (hF : 2000000 ≤ F) {b : List Int} (hb : U8s b) : qaQ F b = some (rdF b) := by
  unfold qaQ rdF
  by_cases h1 : 4096 < b.length
  · rw [if_pos (by simp; omega), if_pos h1]
  · rw [if_neg (by simp; omega), if_neg h1]
    by_cases h2 : b.length < 3
    · rw [if_pos (by simp; omega), if_pos (Or.inl h2)]
      rfl
    · rw [if_neg (by simp; omega)]
      have hs : sub b 0 2 = some (b.take 2) := qfd (i := 0) (j := 2) (by omega) (by omega)
      rw [hs]
      simp only [Option.bind_some]
      rw [qlN (fun x hx => hb x (List.mem_of_mem_take hx)) (by intro x hx; simp at hx; rcases hx with rfl | rfl <;> decide)]
      unfold qae
      by_cases h3 : b.take 2 = [76, 87]
      · rw [if_neg (by simp [h3]), if_neg (by rintro (h | h); exact h2 h; exact h h3)]
        have hx : 2 < b.length := by omega
        have hi : idx b 2 = some b[2] := by
          have := qQ b 2
          rw [List.getElem?_eq_getElem hx] at this
          exact this
        rw [hi, List.getElem?_eq_getElem hx]
        simp only [Option.bind_some, Option.some.injEq]
        by_cases h4 : b[2] = 1
        · rw [if_pos (by simpa using h4), if_pos h4]
          obtain ⟨x, e, hm⟩ := qk3 (F := F) (by omega) hb (by omega) (by omega)
          rw [e]
          simp only [Option.bind_some]
          cases hp : pG b with
          | none => rw [hp] at hm; simp only at hm ⊢; rw [if_pos (by simp [hm])]
          | some y => rw [hp] at hm; simp only at hm ⊢; obtain ⟨a1, a2, a3⟩ := hm; rw [if_neg (by simp [a2]), a1, a3]
        · rw [if_neg (by simpa using h4), if_neg h4]
          by_cases h5 : b[2] = 2
          · rw [if_pos (by simpa using h5), if_pos h5]
            obtain ⟨x, e, hm⟩ := qk2 (F := F) (by omega) hb (by omega) (by omega)
            rw [e]
            simp only [Option.bind_some]
            cases hp : pB b with
            | none => rw [hp] at hm; simp only at hm ⊢; rw [if_pos (by simp [hm])]
            | some y => rw [hp] at hm; simp only at hm ⊢; obtain ⟨a1, a2, a3⟩ := hm; rw [if_neg (by simp [a2]), a1, a3]
          · rw [if_neg (by simpa using h5), if_neg h5]
      · rw [if_pos (by simp [h3]), if_pos (Or.inr h3)]
def stp (g : List (List Int)) (kind B least k : Int) : Int := if kind = 1 then ((1 + (g.length + gtot g) : Nat) : Int) else ((pkA g B least k.toNat g.length).1.length : Int)
theorem qec {g : List (List Int)} {kind B least k : Int} (h : svE g kind B least k = 0) : gchk g = 0 ∧ (kind = 1 ∨ kind = 2 ∧ pkE g B least k = 0) ∧ (file g kind B least k).length ≤ 4096 := by
  unfold svE at h
  unfold file
  split at h
  · exact absurd h ‹_›
  · have hg : gchk g = 0 := by rename_i hn; exact Decidable.not_not.1 hn
    split at h
    · rename_i hk
      split at h
      · cases h
      · rw [if_pos hk]; exact ⟨hg, Or.inl hk, by omega⟩
    · rename_i hk
      split at h
      · rename_i hk2
        split at h
        · exact absurd h ‹_›
        · rename_i hp
          split at h
          · cases h
          · rw [if_neg hk]; exact ⟨hg, Or.inr ⟨hk2, Decidable.not_not.1 hp⟩, by omega⟩
      · cases h
theorem qm3 {g : List (List Int)} {kind B least k : Int} (hg : gchk g = 0) (hk : kind = 1 ∨ kind = 2 ∧ pkE g B least k = 0) (hl : (file g kind B least k).length ≤ 4096) : svE g kind B least k = 0 := by
  unfold svE
  unfold file at hl
  rw [if_neg (fun h => h hg)]
  rcases hk with rfl | ⟨rfl, hp⟩
  · rw [if_pos rfl] at hl
    rw [if_pos rfl, if_neg (by omega)]
  · rw [if_neg (by decide)] at hl
    rw [if_neg (by decide), if_pos rfl, if_neg (fun h => h hp), if_neg (by omega)]
theorem ql6 : ∀ {g : List (List Int)} {i : Int}, (∀ l ∈ g, gkc l = 0 ∧ l.length ≤ 1000) → 0 ≤ i → i + g.length ≤ 1000 → U8s (gfT i g)
  | [], i, _, _, _ => by intro x hx; simp [gfT] at hx
  | l :: g, i, hg, h0, h1 => by
    have h2 := hg l List.mem_cons_self
    rw [List.length_cons] at h1
    have hnd : Nd i := ⟨by omega, by omega⟩
    intro x hx
    rw [qcq, List.mem_append, List.mem_append] at hx
    rcases hx with hx | hx | hx
    · exact qer (by omega) (by omega) x hx
    · obtain ⟨y, hy, hx⟩ := List.mem_flatMap.1 hx
      have := qj3 hnd (zV.1 h2.1).2 (fun hh => by cases hh) y hy
      exact qer (by omega) (by omega) x hx
    · exact ql6 (fun l hl => hg l (List.mem_cons_of_mem _ hl)) (by omega) (by omega) x hx
theorem qgR {g : List (List Int)} (hg : gchk g = 0) : ∀ l ∈ g, gkc l = 0 ∧ l.length ≤ g.length := fun l hlg => by
  have hG := je.1 hg
  have hl := hG.1
  refine ⟨qgQ hG hlg, ?_⟩
  have h1 := (hG.2.1 l hlg).2
  have h2 : rowE g.length (-1) l = 0 := qcJ.2 ⟨⟨(hG.2.1 l hlg).1, fun x hx => by have := h1 x hx; omega⟩, h1⟩
  have := qdI (by omega) (by omega) h2
  omega
theorem qcc {a b : List Int} (ha : U8s a) (hb : U8s b) : U8s (a ++ b) := fun x hx => (List.mem_append.1 hx).elim (ha x) (hb x)
theorem qgL {g : List (List Int)} {kind B least k : Int} (h : svE g kind B least k = 0) : U8s (file g kind B least k) := by
  obtain ⟨hg, hk, _⟩ := qec h
  have hl := (je.1 hg).1
  unfold file
  have h3 : ∀ n : Int, n = 1 ∨ n = 2 → U8s [76, 87, n] := fun n hn x hx => by
    simp at hx; rcases hx with rfl | rfl | rfl <;> omega
  split
  · exact qcc (h3 1 (Or.inl rfl)) (qcc (qer (by omega) (by omega)) (ql6 (fun l hlg => by have := qgR hg l hlg; exact ⟨this.1, by omega⟩) (by omega) (by omega)))
  · rename_i hn
    rcases hk with hk | ⟨_, hp⟩
    · exact absurd hk hn
    · obtain ⟨g1, g2, g3⟩ := qbi hp
      obtain ⟨k1, k2, k', rfl, k3, k4⟩ := qal g2
      exact qcc (h3 2 (Or.inr rfl)) (qcc (qer (by omega) (by omega)) (qcc (qer (by omega) (by omega)) (qcc (qer (by omega) (by omega)) (qcc (qer (by omega) (by omega)) (qcc (qer (by omega) (by omega)) (qcT (qcG _)))))))
theorem qg9 {g : List (List Int)} {kind B least k : Int} (h : svE g kind B least k = 0) : rdF (file g kind B least k) = (g, stp g kind B least k, 0) := by
  obtain ⟨hg, hk, hl⟩ := qec h
  unfold rdF
  rw [if_neg (by omega)]
  unfold stp
  rcases hk with rfl | ⟨rfl, hp⟩
  · have e : file g 1 B least k = [76, 87, 1] ++ (vn g.length ++ gfT 0 g) := by unfold file gfile; rw [if_pos rfl]
    rw [e] at hl ⊢
    rw [if_neg (by simp), if_pos (by rfl), qn8 (b := [76, 87, 1] ++ (vn g.length ++ gfT 0 g)) hg (List.drop_left' rfl) (by simp)]
    simp only [if_pos]
  · have e : file g 2 B least k = bfile g B least k := by unfold file; rw [if_neg (by decide)]
    rw [e] at hl ⊢
    unfold bfile at hl ⊢
    rw [if_neg (by simp), if_neg (by simp), if_pos (by rfl), qn7 (b := [76, 87, 2] ++ (vn g.length ++ (vn B ++ (vn least ++ (vn k ++ (vn (pkA g B least k.toNat g.length).1.length ++ pk (pkA g B least k.toNat g.length).1)))))) hp (List.drop_left' rfl)]
    simp only
    rw [if_neg (by decide)]
theorem take3 {b : List Int} {c : Int} (h3 : ¬ (b.length < 3 ∨ b.take 2 ≠ [76, 87])) (h : b[2]? = some c) : b = [76, 87, c] ++ b.drop 3 := by
  have h4 : b.take 2 = [76, 87] := Decidable.not_not.1 (fun hh => h3 (Or.inr hh))
  have h5 : 2 < b.length := by
    have : ¬ b.length < 3 := fun hh => h3 (Or.inl hh)
    omega
  have e := List.take_append_drop 2 b
  rw [h4, List.drop_eq_getElem_cons h5] at e
  rw [List.getElem?_eq_getElem h5] at h
  have hc := Option.some.inj h
  rw [hc] at e
  exact e.symm
theorem qmJ {b : List Int} (hb : U8s b) (h : (rdF b).2.2 = 0) : ∃ kind B least k, svE (rdF b).1 kind B least k = 0 ∧ b = file (rdF b).1 kind B least k ∧ b[2]? = some kind ∧ (rdF b).2.1 = stp (rdF b).1 kind B least k := by
  unfold rdF at h ⊢
  by_cases h1 : 4096 < b.length
  · rw [if_pos h1] at h; cases h
  rw [if_neg h1] at h ⊢
  by_cases h2 : b.length < 3 ∨ b.take 2 ≠ [76, 87]
  · rw [if_pos h2] at h; cases h
  rw [if_neg h2] at h ⊢
  have h3 : 3 ≤ b.length := by
    have : ¬ b.length < 3 := fun hh => h2 (Or.inl hh)
    omega
  by_cases h4 : b[2]? = some 1
  · rw [if_pos h4] at h ⊢
    have e := take3 h2 h4
    cases hp : pG b with
    | none => rw [hp] at h; cases h
    | some y =>
      obtain ⟨a1, a2, a3⟩ := qqd hb h3 hp
      simp only
      have hf : b = file y.1 1 0 0 0 := by
        unfold file gfile; rw [if_pos rfl, ← a2]; exact e
      refine ⟨1, 0, 0, 0, qm3 a1 (Or.inl rfl) (by rw [← hf]; omega), hf, h4, ?_⟩
      unfold stp; rw [if_pos rfl, a3]
  · rw [if_neg h4] at h ⊢
    by_cases h5 : b[2]? = some 2
    · rw [if_pos h5] at h ⊢
      have e := take3 h2 h5
      cases hp : pB b with
      | none => rw [hp] at h; cases h
      | some y =>
        obtain ⟨a1, a2, a3⟩ := qqc hb h3 hp
        simp only
        have hf : b = file y.1 2 y.2.1 y.2.2.1 y.2.2.2.1 := by
          unfold file bfile; rw [if_neg (by decide), ← a3]; exact e
        refine ⟨2, y.2.1, y.2.2.1, y.2.2.2.1, qm3 (qbi a1).1 (Or.inr ⟨rfl, a1⟩) (by rw [← hf]; omega), hf, h5, ?_⟩
        unfold stp; rw [if_neg (by decide), a2]
    · rw [if_neg h5] at h; cases h
theorem qj7 {b : List Int} (h : (rdF b).2.2 ≠ 0) : (rdF b).1 = [] ∧ (rdF b).2.1 = 0 ∧ (rdF b).2.2 = if 4096 < b.length then 2 else 1 := by
  unfold rdF at h ⊢
  by_cases h1 : 4096 < b.length
  · rw [if_pos h1, if_pos h1]; exact ⟨rfl, rfl, rfl⟩
  rw [if_neg h1] at h ⊢
  rw [if_neg h1]
  by_cases h2 : b.length < 3 ∨ b.take 2 ≠ [76, 87]
  · rw [if_pos h2]; exact ⟨rfl, rfl, rfl⟩
  rw [if_neg h2] at h ⊢
  by_cases h4 : b[2]? = some 1
  · rw [if_pos h4] at h ⊢
    cases hp : pG b with
    | none => exact ⟨rfl, rfl, rfl⟩
    | some y => rw [hp] at h; exact absurd rfl h
  · rw [if_neg h4] at h ⊢
    by_cases h5 : b[2]? = some 2
    · rw [if_pos h5] at h ⊢
      cases hp : pB b with
      | none => exact ⟨rfl, rfl, rfl⟩
      | some y => rw [hp] at h; exact absurd rfl h
    · rw [if_neg h5]; exact ⟨rfl, rfl, rfl⟩
theorem qed {g : List (List Int)} {kind B least k : Int} (h : svE g kind B least k = 0) : g.length ≤ 100 ∧ gtot g ≤ 600 ∧ 0 ≤ stp g kind B least k ∧ stp g kind B least k ≤ 8192 ∧ PSm g := by
  obtain ⟨hg, hk, _⟩ := qec h
  have hG := je.1 hg
  have h1 := hG.1
  have h2 := hG.2.2
  refine ⟨h1, h2, ?_, ?_, qpF hG⟩ <;> unfold stp <;> split
  · omega
  · omega
  · omega
  · rename_i hn
    rcases hk with hk | ⟨_, hp⟩
    · exact absurd hk hn
    · have := (qbi hp).2.2; omega
theorem qie {F : Nat} {g : List (List Int)} (hg : g.length ≤ 100) (ht : gtot g ≤ 600) : ∀ (k i a : Nat), g.length < k + i → i ≤ g.length → a + gtot (g.drop i) ≤ 600 →
    yW F g k ((a : Int), (i : Int)) = some ((a + gtot (g.drop i) : Nat) : Int)
  | 0, i, a, h, h1, h2 => by omega
  | k + 1, i, a, h, h1, h2 => by
    show qad F g (yW F g k) (a : Int) (i : Int) = _
    unfold qad
    by_cases hlt : i < g.length
    · rw [if_pos (by simp; omega), qQ, List.getElem?_eq_getElem hlt]
      have hd := qfT hlt
      simp only [Option.bind_some]
      have h3 : iadd .i64 (a : Int) ((g[i]).length : Int) = ((a + (g[i]).length : Nat) : Int) := by
        have : iadd .i64 (a : Int) ((g[i]).length : Int) = (a : Int) + ((g[i]).length : Int) := km (by omega) (by omega)
        rw [this]; omega
      rw [h3, jt (by omega), qie hg ht k (i + 1) _ (by omega) (by omega) (by omega)]
      rw [hd]; congr 1; omega
    · rw [if_neg (by simp; omega), List.drop_eq_nil_of_le (by omega)]
      unfold qbb gtot
      rfl
theorem qfV {F : Nat} (hF : 1000 ≤ F) {g : List (List Int)} (hg : g.length ≤ 100) (ht : gtot g ≤ 600) : qbr F g = some (gtot g : Int) := by
  have := qie (F := F) hg ht F 0 0 (by omega) (by omega) (by rw [List.drop_zero]; omega)
  rw [List.drop_zero, Nat.zero_add] at this
  exact this
theorem qe1 {b : List Int} (hb : U8s b) (h : (rdF b).2.2 = 0) : (rdF b).1.length ≤ 100 ∧ gtot (rdF b).1 ≤ 600 ∧ 0 ≤ (rdF b).2.1 ∧ (rdF b).2.1 ≤ 8192 ∧ PSm (rdF b).1 ∧ b.length ≤ 4096 ∧ 3 ≤ b.length := by
  obtain ⟨kind, B, least, k, h1, h2, h3, h4⟩ := qmJ hb h
  obtain ⟨a1, a2, a3, a4, a5⟩ := qed h1
  rw [h4]
  refine ⟨a1, a2, a3, a4, a5, ?_, ?_⟩
  · rw [h2]; exact (qec h1).2.2
  · by_cases hh : 2 < b.length
    · omega
    · rw [List.getElem?_eq_none (by omega)] at h3; cases h3
theorem qeM {F : Nat} (hF : 2000000 ≤ F) {b : List Int} (hb : U8s b) (h : (rdF b).2.2 ≠ 0) : kZ F b = some (0, 0, 0, 0, (rdF b).2.2) := by
  unfold kZ
  rw [qcF hF hb]
  simp only [Option.bind_some]
  rw [if_pos (by simpa using h)]
theorem qjU {F : Nat} (hF : 2000000 ≤ F) {b : List Int} (hb : U8s b) (h : (rdF b).2.2 = 0) : kZ F b = some ((b.length : Int), ((rdF b).1.length : Int), (gtot (rdF b).1 : Int), (rdF b).2.1, 0) := by
  unfold kZ
  obtain ⟨h1, h2, _⟩ := qe1 hb h
  rw [qcF hF hb]
  simp only [Option.bind_some]
  rw [if_neg (by simp [h]), qfV (by omega) h1 h2]
  simp only [Option.bind_some]
theorem qkb {F : Nat} (hF : 2000000 ≤ F) {b : List Int} (hb : U8s b) (h : (rdF b).2.2 = 0) {l n a s : Int} : kF F b l n a s = some (if (b.length : Int) ≤ l ∧ ((rdF b).1.length : Int) ≤ n ∧ (gtot (rdF b).1 : Int) ≤ a ∧ (rdF b).2.1 ≤ s then ((rdF b).1, (rdF b).2.1, 0) else ([], 0, 8)) := by
  unfold kF
  obtain ⟨g1, g2, _⟩ := qe1 hb h
  by_cases h1 : l < b.length
  · rw [if_pos (by simpa using h1), if_neg (by omega)]
  · rw [if_neg (by simpa using h1), qcF hF hb]
    simp only [Option.bind_some]
    rw [if_pos (by simpa using h)]
    unfold yd jn
    by_cases h2 : n < ((rdF b).1.length : Int)
    · rw [if_pos (by simpa using h2), if_pos rfl, if_pos (by decide), if_neg (by omega)]
    · rw [if_neg (by simpa using h2), qfV (by omega) g1 g2]
      simp only [Option.bind_some]
      by_cases h3 : a < (gtot (rdF b).1 : Int)
      · rw [if_pos (by simpa using h3), if_pos trivial, if_pos (by decide), if_neg (by omega)]
      · rw [if_neg (by simpa using h3)]
        by_cases h4 : s < (rdF b).2.1
        · rw [if_pos (by simpa using h4), if_pos (by decide), if_neg (by omega)]
        · rw [if_neg (by simpa using h4), if_neg (by simp [h]), if_pos (by omega)]
theorem lsame {F : Nat} {xs : List Int} (hF : xs.length < F) (hm : xs.length ≤ 1000000) : jE F xs xs = some true := by
  rw [qhd hF (by omega), decide_eq_true rfl]
theorem qk6 {F : Nat} (hF : 2000000 ≤ F) {b : List Int} (hb : U8s b) (h : (rdF b).2.2 ≠ 0) {l n a s : Int} (hl : (b.length : Int) ≤ l) : kF F b l n a s = some ([], 0, (rdF b).2.2) := by
  unfold kF
  rw [if_neg (by simp; omega), qcF hF hb]
  simp only [Option.bind_some]
  rw [if_neg (by simpa using h)]
  unfold yd jn
  rw [if_neg (by decide), if_pos (by simpa using h)]
theorem qfW {F : Nat} (hF : 2000000 ≤ F) {g : List (List Int)} {kind B least k : Int} (h : svE g kind B least k = 0) {l n a s : Int} (h1 : ((file g kind B least k).length : Int) ≤ l) (h2 : (g.length : Int) ≤ n) (h3 : (gtot g : Int) ≤ a) (h4 : stp g kind B least k ≤ s) :
    kF F (file g kind B least k) l n a s = some (g, stp g kind B least k, 0) := by
  have hr := qg9 h
  rw [qkb hF (qgL h) (by rw [hr]), hr, if_pos ⟨h1, h2, h3, h4⟩]
theorem qi8 {F : Nat} (hF : 2000000 ≤ F) {g : List (List Int)} {kind B least k : Int} (h : svE g kind B least k = 0) {l n a s : Int} (h4 : s < stp g kind B least k) :
    kF F (file g kind B least k) l n a s = some ([], 0, 8) := by
  have hr := qg9 h
  rw [qkb hF (qgL h) (by rw [hr]), hr, if_neg (by simp only; omega)]
theorem qkU {F : Nat} (hF : 2000000 ≤ F) {g : List (List Int)} {kind B least k : Int} (h : svE g kind B least k = 0) : kZ F (file g kind B least k) = some (((file g kind B least k).length : Int), (g.length : Int), (gtot g : Int), stp g kind B least k, 0) := by
  have hr := qg9 h
  rw [qjU hF (qgL h) (by rw [hr]), hr]
theorem qpi {g : List (List Int)} {kind B least k : Int} (h : svE g kind B least k = 0) : sv g kind B least k = (file g kind B least k, 0) := by unfold sv; rw [if_neg (by simp [h])]
theorem qid : svE [[1], []] 1 0 0 0 = 0 := by decide +kernel
theorem qo4 : file [[1], []] 1 0 0 0 = [76, 87, 1, 2, 1, 2, 0] := by decide +kernel
theorem qmi : svE pkSome 2 2 3 1 = 0 := by decide +kernel
theorem qqa : (file pkSome 2 2 3 1).length ≤ 999 ∧ gtot pkSome ≤ 99 ∧ stp pkSome 2 2 3 1 ≤ 999 ∧ 9 < stp pkSome 2 2 3 1 := by decide +kernel
theorem qo5 : (rdF [76, 87, 1]).2.2 = 1 := by decide +kernel
theorem lbegun {F : Nat} (hF : 2000000 ≤ F) : qaB F = some true := by
  have hS : qaC F = some pkSome := rfl
  obtain ⟨c1, c2, c3, c4⟩ := qqa
  obtain ⟨_, _, _, _, p1⟩ := qed qid
  obtain ⟨_, _, _, _, p2⟩ := qed qmi
  unfold qaB
  rw [qky hF, qpi qid]
  simp only [Option.bind_some]
  rw [hS]
  simp only [Option.bind_some]
  rw [qky hF, qpi qmi]
  simp only [Option.bind_some]
  rw [qfW hF qid (by rw [qo4]; decide) (by decide) (by decide) (by decide)]
  simp only [Option.bind_some]
  rw [qfW hF qmi (by omega) (by decide) (by omega) c3]
  simp only [Option.bind_some]
  rw [qkU hF qid]
  simp only [Option.bind_some]
  rw [qi8 hF qid (by decide)]
  simp only [Option.bind_some]
  rw [qk6 hF (by intro x hx; simp at hx; rcases hx with rfl | rfl | rfl <;> decide) (by rw [qo5]; decide) (by decide), qo5]
  simp only [Option.bind_some]
  rw [qo4, lsame (by simp; omega) (by simp)]
  simp only [Option.bind_some]
  rw [if_pos trivial, if_pos (by decide), if_pos (by decide), qek (by simp; omega) (by simp) (by intro r hr; simp at hr; rcases hr with rfl | rfl <;> (simp; omega))]
  simp only [Option.bind_some]
  rw [if_pos trivial, if_pos (by decide), if_pos (by decide), qiq (by omega) p2]
  simp only [Option.bind_some]
  rw [if_pos trivial, if_pos (by simpa using c4), if_pos (by decide), if_pos (by decide), if_pos (by decide), if_pos (by decide)]
  rfl
theorem qpu {g g' : List (List Int)} {t : List Int} (hg : gchk g = 0) (hg' : gchk g' = 0) (h : vn g.length ++ gfT 0 g ++ t = vn g'.length ++ gfT 0 g') : t = [] := by
  have hG := je.1 hg
  have hG' := je.1 hg'
  have hl := hG.1
  have hl' := hG'.1
  rw [List.append_assoc] at h
  obtain ⟨h1, h2⟩ := jX (b := vn g.length ++ (gfT 0 g ++ t)) (p := 0) (most := 100) (x := g.length) (t := gfT 0 g ++ t) List.drop_zero (by omega) (by omega) (by decide)
  obtain ⟨h1', h2'⟩ := jX (b := vn g.length ++ (gfT 0 g ++ t)) (p := 0) (most := 100) (x := g'.length) (t := gfT 0 g') (List.drop_zero.trans h) (by omega) (by omega) (by decide)
  rw [h1] at h1'
  have e := Option.some.inj h1'
  have e1 : g.length = g'.length := by have := congrArg Prod.fst e; simp only at this; omega
  have e2 : 0 + (vn (g.length : Int)).length = 0 + (vn (g'.length : Int)).length := by rw [e1]
  have h2 : List.drop (0 + (vn (g.length : Int)).length) (vn g.length ++ (gfT 0 g ++ t)) = gfT (([] : List (List Int)).length : Int) g ++ t := h2
  have h2' : List.drop (0 + (vn (g'.length : Int)).length) (vn g.length ++ (gfT 0 g ++ t)) = gfT (([] : List (List Int)).length : Int) g' ++ [] := by rw [List.append_nil]; exact h2'
  have h3 := qg2 hl (g := g) (s := 1) (acc := []) (t := t) (by simp) (qgR hg) h2
  have h3' := qg2 hl (g := g') (s := 1) (acc := []) (t := []) (by simp; omega) (fun l hlg => by have := qgR hg' l hlg; exact ⟨this.1, by omega⟩) h2'
  rw [← e1, h3] at h3'
  have e := Option.some.inj h3'
  have e3 := congrArg (fun x => x.2.1) e
  simp only [List.length_nil] at e3
  have e4 := congrArg List.length h
  simp only [List.length_append] at e4
  rw [e1] at e4
  rw [show (((0 : Nat)) : Int) = 0 from rfl] at e3
  exact List.length_eq_zero_iff.1 (by omega)
theorem qfk {x y : Int} {s t : List Int} (hx : 0 ≤ x ∧ x ≤ 1000000) (hy : 0 ≤ y ∧ y ≤ 1000000) (h : vn x ++ s = vn y ++ t) : x = y ∧ s = t := by
  obtain ⟨h1, h2⟩ := jX (b := vn x ++ s) (p := 0) (most := 1000000) (x := x) (t := s) List.drop_zero hx.1 hx.2 (by decide)
  obtain ⟨h3, h4⟩ := jX (b := vn x ++ s) (p := 0) (most := 1000000) (x := y) (t := t) (List.drop_zero.trans h) hy.1 hy.2 (by decide)
  rw [h1] at h3
  have e := congrArg Prod.fst (Option.some.inj h3)
  simp only at e
  subst e
  exact ⟨rfl, h2.symm.trans h4⟩
theorem qmK {b t : List Int} (hb : U8s (b ++ t)) (h1 : (rdF b).2.2 = 0) (h2 : (rdF (b ++ t)).2.2 = 0) : t = [] := by
  have hb1 : U8s b := fun x hx => hb x (List.mem_append_left _ hx)
  obtain ⟨k1, B1, l1, q1, a1, a2, a3, _⟩ := qmJ hb1 h1
  obtain ⟨k2, B2, l2, q2, c1, c2, c3, _⟩ := qmJ hb h2
  generalize (rdF b).1 = g at a1 a2
  generalize (rdF (b ++ t)).1 = g' at c1 c2
  have hk : k1 = k2 := by
    rw [List.getElem?_append_left (by
      by_cases hh : 2 < b.length
      · exact hh
      · rw [List.getElem?_eq_none (by omega)] at a3; cases a3), a3] at c3
    exact Option.some.inj c3
  subst hk
  obtain ⟨g1, e1, _⟩ := qec a1
  obtain ⟨g2, e2, _⟩ := qec c1
  rw [a2] at c2
  rcases e1 with rfl | ⟨rfl, p1⟩
  · have e : ∀ (g : List (List Int)) (B l k : Int), file g 1 B l k = gfile g := fun _ _ _ _ => if_pos rfl
    rw [e, e] at c2
    unfold gfile at c2
    rw [List.append_assoc] at c2
    exact qpu g1 g2 (List.append_cancel_left c2)
  · have p2 : pkE g' B2 l2 q2 = 0 := by
      rcases e2 with h | ⟨_, h⟩
      · cases h
      · exact h
    have e : ∀ (g : List (List Int)) (B l k : Int), file g 2 B l k = bfile g B l k := fun _ _ _ _ => if_neg (by decide)
    rw [e, e] at c2
    unfold bfile at c2
    rw [List.append_assoc] at c2
    have c2 := List.append_cancel_left c2
    obtain ⟨x1, x2, x3⟩ := qbi p1
    obtain ⟨y1, y2, y3⟩ := qbi p2
    obtain ⟨u1, u2, k', rfl, u3, u4⟩ := qal x2
    obtain ⟨v1, v2, k'', rfl, v3, v4⟩ := qal y2
    have n1 := (je.1 x1).1
    have n2 := (je.1 y1).1
    simp only [List.append_assoc] at c2
    obtain ⟨_, c2⟩ := qfk ⟨by omega, by omega⟩ ⟨by omega, by omega⟩ c2
    obtain ⟨_, c2⟩ := qfk ⟨by omega, by omega⟩ ⟨by omega, by omega⟩ c2
    obtain ⟨_, c2⟩ := qfk ⟨by omega, by omega⟩ ⟨by omega, by omega⟩ c2
    obtain ⟨_, c2⟩ := qfk ⟨by omega, by omega⟩ ⟨by omega, by omega⟩ c2
    obtain ⟨c3, c2⟩ := qfk ⟨by omega, by omega⟩ ⟨by omega, by omega⟩ c2
    have e3 := congrArg List.length c2
    rw [List.length_append, qdf, qdf] at e3
    exact List.length_eq_zero_iff.1 (by omega)
theorem qk1 {F : Nat} (hF : 2000000 ≤ F) {b t : List Int} {n : Int} (hb : U8s b) (ht : U8s t) (hl : t.length ≤ 140737488351232) : qcn F b t n = some true := by
  unfold qcn
  rw [lbegun hF]
  by_cases h : (rdF b).2.2 = 0
  · obtain ⟨_, _, _, _, _, s6, _⟩ := qe1 hb h
    rw [qjU hF hb h]
    simp only [Option.bind_some]
    rw [if_neg (by decide), if_neg (by decide)]
    have hbt : U8s (b ++ t) := qcc hb ht
    have hj : jh F b t = some true := by
      unfold jh
      by_cases h0 : t = []
      · subst h0; rfl
      · rw [if_neg (by simpa using h0), zM (by simp; omega)]
        simp only [Option.bind_some]
        rw [List.nil_append, zM (by omega)]
        simp only [Option.bind_some]
        have hn : (rdF (b ++ t)).2.2 ≠ 0 := fun hh => h0 (qmK hbt h hh)
        obtain ⟨_, _, e⟩ := qj7 hn
        rw [qeM hF hbt hn, e]
        simp only [Option.bind_some]
        split <;> rfl
    by_cases hc : 0 ≤ n ∧ n < b.length
    · rw [if_pos (by simpa using hc)]
      obtain ⟨m, rfl⟩ : ∃ m : Nat, n = (m : Int) := ⟨n.toNat, by omega⟩
      have hs : sub b 0 (m : Int) = some (b.take m) := qfd (i := 0) (by omega) (by omega)
      rw [hs]
      simp only [Option.bind_some]
      have hu : U8s (b.take m) := fun x hx => hb x (List.mem_of_mem_take hx)
      have hn : (rdF (b.take m)).2.2 ≠ 0 := fun hh => by
        have := qmK (b := b.take m) (t := b.drop m) (by rw [List.take_append_drop]; exact hb) hh (by rw [List.take_append_drop]; exact h)
        have := congrArg List.length this
        rw [List.length_drop, List.length_nil] at this
        omega
      obtain ⟨_, _, e⟩ := qj7 hn
      rw [if_neg (by rw [List.length_take]; omega)] at e
      rw [qeM hF hu hn, e]
      simp only [Option.bind_some]
      rw [if_neg (by decide), hj]
    · rw [if_neg (by simpa using hc), hj]
  · rw [qeM hF hb h]
    simp only [Option.bind_some]
    rw [if_neg (by decide), if_pos (by simpa using h)]
end Go.Proofs.YtlioijpkhffbnaaGreat
