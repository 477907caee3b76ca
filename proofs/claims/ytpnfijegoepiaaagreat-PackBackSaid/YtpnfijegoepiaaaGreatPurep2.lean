/- Plain facts of what the functions of this seat compute, part 2. -/
import Derived.Test.YtpnfijegoepiaaaGreatPure
import Derived.KernelRfl
import Derived.Lib.SlicesCompact
namespace Go.Proofs.YtpnfijegoepiaaaGreat
open Go SX
variable {F : Nat} {rec68 : (List (Int × Int) × List Int × Int) → Option (List (Int × Int) × List Int)} {l : List Int} {least : Int} {o : List (Int × Int)} {rest : List Int} {i : Int}
theorem qnr {B least k : Int} {r : Nat} (h : hcE B least k = 0) (hr : (r : Int) ≤ B) : hcE (r : Int) least k = 0 := by
  unfold hcE at h ⊢
  by_cases hb : hcB B least k
  · rw [if_pos hb] at h; simp at h
  · rw [if_neg (by unfold hcB at hb ⊢; omega)]
theorem qjS {F : Nat} (hF : 2000000 ≤ F) {A : List (List Int)} {x fr H : List Int} {r i k : Nat} {least : Int} (hA : A.length = i) (hi : i ≤ 100) (hx : gkc x = 0) (hfr : gkc fr = 0) (hh : hcE (r : Int) least (k : Int) = 0) (hH : Bit H) (hHl : H.length ≤ 100) :
    jG F A x (r : Int) least (k : Int) (H.length : Int) (pk H) fr = some (if (H ++ enc (i : Int) x fr (r : Int) least k).length ≤ 8192 then ((r : Int), ((H ++ enc (i : Int) x fr (r : Int) least k).length : Int), pk (H ++ enc (i : Int) x fr (r : Int) least k), true) else (0, 0, [], false)) := by
  unfold jG
  rw [qko hF, hA]
  simp only [Option.bind_some]
  have hE : swE (i : Int) x fr (r : Int) least (k : Int) = 0 := qnG hh (by unfold Nd; omega) hx (fun _ => hfr)
  rw [List.length_append]
  by_cases h1 : (enc (i : Int) x fr (r : Int) least k).length ≤ 8192
  · have hs := qn4 hE (by rw [Int.toNat_natCast]; exact h1)
    rw [Int.toNat_natCast] at hs
    rw [hs]
    simp only
    rw [zv (by omega) (by omega)]
    by_cases h2 : H.length + (enc (i : Int) x fr (r : Int) least k).length ≤ 8192
    · rw [if_neg (by simp; omega), if_pos h2, qgB (by omega) (qc7 hH) (qc7 qgG) (qd8 (by omega)) (qd8 h1), qb1 hH, qb1 qgG]
      rfl
    · rw [if_pos (by simp; omega), if_neg h2]
  · have hs : sw (i : Int) x fr (r : Int) least (k : Int) = (0, [], 8) := by
      unfold sw
      rw [if_neg (by simp [hE]), Int.toNat_natCast, if_pos (by omega)]
    rw [hs, if_pos (by simp), if_neg (by omega)]
theorem qmV {F : Nat} (hF : 2000000 ≤ F) {g : List (List Int)} (hg : Gr g) {B least : Int} {k i r : Nat} (hh : hcE B least (k : Int) = 0) (hi : i ≤ g.length) (hr : r ≤ min B.toNat i) :
    qbY F (g.take i) (g.getD i []) (r : Int) B least (k : Int) = some (if (pkW g B least k i r).length ≤ 8192 then ((r : Int), ((pkW g B least k i r).length : Int), pk (pkW g B least k i r), true) else (0, 0, [], false)) := by
  have hgl := hg.1
  have hti : (g.take i).length = i := by rw [List.length_take]; omega
  obtain ⟨k1, -, -⟩ := qcB hh
  have hh' : hcE (r : Int) least (k : Int) = 0 := qnr hh (by omega)
  have hj : ∀ H : List Int, Bit H → H.length ≤ 100 → jF F (g.take i) (g.getD i []) (r : Int) least (k : Int) (H.length : Int) (pk H) = some (if (H ++ enc (i : Int) (g.getD i []) (pkF g i r) (r : Int) least k).length ≤ 8192 then ((r : Int), ((H ++ enc (i : Int) (g.getD i []) (pkF g i r) (r : Int) least k).length : Int), pk (H ++ enc (i : Int) (g.getD i []) (pkF g i r) (r : Int) least k), true) else (0, 0, [], false)) := by
    intro H hH hHl
    unfold jF
    by_cases h0 : 0 < r
    · rw [if_pos (by simpa using h0), hti, kb (by omega) (by omega), show ((i : Int) - (r : Int)) = ((i - r : Nat) : Int) from by omega, zV, List.getElem?_take, if_pos (by omega), List.getElem?_eq_getElem (show i - r < g.length by omega)]
      simp only [Option.bind_some]
      have e : g[i - r]'(by omega) = pkF g i r := by
        unfold pkF
        rw [if_pos h0, List.getD_eq_getElem?_getD, List.getElem?_eq_getElem (show i - r < g.length by omega)]
        rfl
      rw [e]
      exact qjS hF hti (by omega) (qgN hg i) (qjp hg i r) hh' hH hHl
    · rw [if_neg (by simpa using h0)]
      have e : pkF g i r = [] := by unfold pkF; rw [if_neg h0]
      rw [e]
      exact qjS hF hti (by omega) (qgN hg i) (by decide) hh' hH hHl
  unfold qbY pkW pkH
  by_cases hB : 0 < B
  · have hga := qm5 (n := r) (by omega)
    rw [if_pos (by simpa using hB), if_pos hB, vj (by omega), qeP (by omega) (by omega)]
    simp only [Option.bind_some]
    exact hj (ga r) (qcz r) (by omega)
  · rw [if_neg (by simpa using hB), if_neg hB]
    exact hj [] (by intro z hz; simp at hz) (by simp)
def bst (f : Nat → List Int) (j : Nat) : Bool × Int × Int × List Int := if j = 0 then (false, 0, 0, []) else if (bwy f (j - 1)).2.length ≤ 8192 then (true, ((bwy f (j - 1)).1 : Int), ((bwy f (j - 1)).2.length : Int), pk (bwy f (j - 1)).2) else (false, 0, 0, [])
theorem qkA {F : Nat} (hF : 2000000 ≤ F) {g : List (List Int)} (hg : Gr g) {B least : Int} {k i : Nat} (hh : hcE B least (k : Int) = 0) (hi : i ≤ g.length) : ∀ (n j : Nat), min B.toNat i + 1 < n + j → j ≤ min B.toNat i + 1 →
    kr F (g.take i) (g.getD i []) B least (k : Int) n ((bst (pkW g B least k i) j).1, (j : Int), (bst (pkW g B least k i) j).2.1, (bst (pkW g B least k i) j).2.2.1, (bst (pkW g B least k i) j).2.2.2) = some (if (pkN g B least k i).2.length ≤ 8192 then (((pkN g B least k i).1 : Int), ((pkN g B least k i).2.length : Int), pk (pkN g B least k i).2, true) else (0, 0, [], false))
  | 0, _, _, _ => by omega
  | n + 1, j, h, hj => by
    have hgl := hg.1
    have hti : (g.take i).length = i := by rw [List.length_take]; omega
    obtain ⟨k1, -, -⟩ := qcB hh
    show j5 F (g.take i) (g.getD i []) B least (k : Int) (kr F (g.take i) (g.getD i []) B least (k : Int) n) (bst (pkW g B least k i) j).1 (j : Int) (bst (pkW g B least k i) j).2.1 (bst (pkW g B least k i) j).2.2.1 (bst (pkW g B least k i) j).2.2.2 = _
    unfold j5
    have hmin : imin B ((g.take i).length : Int) = ((min B.toNat i : Nat) : Int) := by
      rw [hti]; unfold imin; split <;> omega
    rw [hmin, zv (by omega) (by omega)]
    by_cases hlt : j < min B.toNat i + 1
    · rw [if_pos (by simp; omega), qmV hF hg hh hi (by omega)]
      simp only [Option.bind_some]
      have hrec := qkA hF hg hh hi n (j + 1) (by omega) (by omega)
      have hnew : (pkW g B least k i j).length ≤ 8192 → bwy (pkW g B least k i) j = (j, pkW g B least k i j) → yr F (kr F (g.take i) (g.getD i []) B least (k : Int) n) (j : Int) true (j : Int) ((pkW g B least k i j).length : Int) (pk (pkW g B least k i j)) = some (if (pkN g B least k i).2.length ≤ 8192 then (((pkN g B least k i).1 : Int), ((pkN g B least k i).2.length : Int), pk (pkN g B least k i).2, true) else (0, 0, [], false)) := by
        intro h1 h2
        unfold yr
        rw [zG (by omega), ← hrec]
        unfold bst
        rw [if_neg (by omega), Nat.add_sub_cancel, h2, if_pos h1]
      have hold : bst (pkW g B least k i) (j + 1) = bst (pkW g B least k i) j → yr F (kr F (g.take i) (g.getD i []) B least (k : Int) n) (j : Int) (bst (pkW g B least k i) j).1 (bst (pkW g B least k i) j).2.1 (bst (pkW g B least k i) j).2.2.1 (bst (pkW g B least k i) j).2.2.2 = some (if (pkN g B least k i).2.length ≤ 8192 then (((pkN g B least k i).1 : Int), ((pkN g B least k i).2.length : Int), pk (pkN g B least k i).2, true) else (0, 0, [], false)) := by
        intro h1
        unfold yr
        rw [zG (by omega), ← hrec, h1]
      unfold j6
      by_cases hl : (pkW g B least k i j).length ≤ 8192
      · rw [if_pos hl]
        simp only [if_true]
        by_cases h0 : j = 0
        · subst h0
          rw [if_pos (by simp [bst])]
          exact hnew hl rfl
        · obtain ⟨q, rfl⟩ : ∃ q, j = q + 1 := ⟨j - 1, by omega⟩
          by_cases hb : (bwy (pkW g B least k i) q).2.length ≤ 8192
          · have e : bst (pkW g B least k i) (q + 1) = (true, ((bwy (pkW g B least k i) q).1 : Int), ((bwy (pkW g B least k i) q).2.length : Int), pk (bwy (pkW g B least k i) q).2) := by
              unfold bst
              rw [if_neg (by omega), Nat.add_sub_cancel, if_pos hb]
            by_cases hc : (pkW g B least k i (q + 1)).length < (bwy (pkW g B least k i) q).2.length
            · rw [if_pos (by rw [e]; simp; omega)]
              exact hnew hl (by rw [bwy, if_pos hc])
            · rw [if_neg (by rw [e]; simp; omega)]
              refine hold ?_
              rw [e]
              unfold bst
              rw [if_neg (by omega), Nat.add_sub_cancel, bwy, if_neg hc, if_pos hb]
          · have e : bst (pkW g B least k i) (q + 1) = (false, 0, 0, []) := by
              unfold bst
              rw [if_neg (by omega), Nat.add_sub_cancel, if_neg hb]
            rw [if_pos (by rw [e]; simp)]
            exact hnew hl (by rw [bwy, if_pos (by omega)])
      · rw [if_neg hl]
        simp only [Bool.false_eq_true, if_false]
        refine hold ?_
        unfold bst
        rw [if_neg (by omega), Nat.add_sub_cancel]
        by_cases h0 : j = 0
        · subst h0
          rw [if_pos rfl, bwy, if_neg hl]
        · obtain ⟨q, rfl⟩ : ∃ q, j = q + 1 := ⟨j - 1, by omega⟩
          rw [if_neg (show ¬ q + 1 = 0 by omega), Nat.add_sub_cancel, bwy]
          by_cases hc : (pkW g B least k i (q + 1)).length < (bwy (pkW g B least k i) q).2.length
          · rw [if_pos hc, if_neg hl, if_neg (by omega)]
          · rw [if_neg hc]
    · rw [if_neg (by simp; omega)]
      have : j = min B.toNat i + 1 := by omega
      subst this
      unfold qbE bst pkN
      rw [if_neg (by omega), Nat.add_sub_cancel]
      split <;> rfl
theorem ql1 {F : Nat} (hF : 2000000 ≤ F) {g : List (List Int)} (hg : Gr g) {B least : Int} {k i : Nat} (hh : hcE B least (k : Int) = 0) (hi : i ≤ g.length) :
    qbX F (g.take i) (g.getD i []) B least (k : Int) = some (if (pkN g B least k i).2.length ≤ 8192 then (((pkN g B least k i).1 : Int), ((pkN g B least k i).2.length : Int), pk (pkN g B least k i).2, true) else (0, 0, [], false)) := by
  have hgl := hg.1
  have := qkA hF hg hh hi F 0 (by omega) (Nat.zero_le _)
  exact this
theorem qmy {g : List (List Int)} {B least : Int} {k i r : Nat} : Bit (pkW g B least k i r) := by
  unfold pkW pkH
  refine vh ?_ qgG
  split
  · exact qcz r
  · intro z hz; simp at hz
theorem qgZ {g : List (List Int)} {B least : Int} {k i : Nat} : Bit (pkN g B least k i).2 := by
  rw [qgY.2]; exact qmy
theorem qcH {g : List (List Int)} {B least : Int} {k : Nat} : ∀ n : Nat, Bit (pkA g B least k n).1
  | 0 => by intro z hz; simp [pkA] at hz
  | n + 1 => by unfold pkA; exact vh (qcH n) qgZ
theorem qhF {g : List (List Int)} {i : Nat} (h : i < g.length) : idx g (i : Int) = some (g.getD i []) := by
  rw [zV, List.getD_eq_getElem?_getD, List.getElem?_eq_getElem h]
  rfl
theorem qjt {F : Nat} (hF : 2000000 ≤ F) {g : List (List Int)} (hg : Gr g) {N B least : Int} {k : Nat} (hh : hcE B least (k : Int) = 0) : ∀ (j i : Nat), g.length < j + i → i ≤ g.length → (pkA g B least k i).1.length ≤ 8192 →
    ∃ z, q7 F N B least (k : Int) g j ((i : Int), ((pkA g B least k i).1.length : Int), pk (pkA g B least k i).1, (pkA g B least k i).2.1, (pkA g B least k i).2.2) = some z ∧ z.1 = decide ((pkA g B least k g.length).1.length ≤ 8192) ∧
      (z.1 = true → z = (true, N, B, least, (k : Int), ((pkA g B least k g.length).1.length : Int), pk (pkA g B least k g.length).1, (pkA g B least k g.length).2.1, (pkA g B least k g.length).2.2))
  | 0, _, _, _, _ => by omega
  | j + 1, i, h, hi, hA => by
    have hgl := hg.1
    show ∃ z, yx F N B least (k : Int) g (q7 F N B least (k : Int) g j) (i : Int) ((pkA g B least k i).1.length : Int) (pk (pkA g B least k i).1) (pkA g B least k i).2.1 (pkA g B least k i).2.2 = some z ∧ _
    unfold yx
    by_cases hlt : i < g.length
    · have e0 : sub g 0 (i : Int) = some (g.take i) := by
        have := qjM (l := g) (i := 0) (j := i) (by omega) hi
        simpa using this
      have hstep : (pkA g B least k (i + 1)).1.length = (pkA g B least k i).1.length + (pkN g B least k i).2.length := by rw [pkA, List.length_append]
      have hmono := qhP (g := g) (B := B) (least := least) (k := k) (show i + 1 ≤ g.length from hlt)
      rw [if_pos (by simp; omega), qhF hlt, e0]
      simp only [Option.bind_some]
      rw [ql1 hF hg hh hi]
      simp only [Option.bind_some]
      unfold yz
      by_cases h1 : (pkN g B least k i).2.length ≤ 8192
      · rw [if_pos h1]
        simp only [Bool.not_true, Bool.false_eq_true, if_false]
        rw [zv (by omega) (by omega)]
        unfold kI
        by_cases h2 : (pkA g B least k i).1.length + (pkN g B least k i).2.length ≤ 8192
        · rw [if_neg (by simp; omega)]
          have hl := qhO (g := g) (B := B) (least := least) (k := k) i
          rw [jb (by rw [hl.1]; simp; omega)]
          simp only [Option.bind_some]
          rw [jb (by rw [hl.2]; simp; omega)]
          simp only [Option.bind_some]
          unfold kJ
          rw [qgB (by omega) (qc7 (qcH i)) (qc7 qgZ) (qd8 hA) (qd8 h1), qb1 (qcH i), qb1 qgZ]
          simp only [Option.bind_some]
          have := qjt hF hg (N := N) hh j (i + 1) (by omega) (by omega) (by omega)
          rw [zG (by omega), ← hstep]
          exact this
        · rw [if_pos (by simp; omega)]
          exact ⟨_, rfl, by simp only; rw [decide_eq_false (by omega)], fun h => by simp at h⟩
      · rw [if_neg h1]
        simp only [Bool.not_false, if_true]
        unfold kI
        rw [if_pos rfl]
        exact ⟨_, rfl, by simp only; rw [decide_eq_false (by omega)], fun h => by simp at h⟩
    · rw [if_neg (by simp; omega)]
      have : i = g.length := by omega
      subst this
      unfold vD
      exact ⟨_, rfl, by simp only; rw [decide_eq_true hA], fun _ => rfl⟩
theorem qf7 {F : Nat} (hF : 2000000 ≤ F) {g : List (List Int)} {B least k : Int} :
    ∃ z1 z2 z3 z4 z5 z6 z7 z8, jR F g B least k = some (z1, z2, z3, z4, z5, z6, z7, z8, pkE g B least k) ∧
      (pkE g B least k = 0 → (z1, z2, z3, z4, z5, z6, z7, z8) = ((g.length : Int), B, least, k, ((pkA g B least k.toNat g.length).1.length : Int), pk (pkA g B least k.toNat g.length).1, (pkA g B least k.toNat g.length).2.1, (pkA g B least k.toNat g.length).2.2)) := by
  unfold jR
  rw [qfP (by omega)]
  simp only [Option.bind_some]
  by_cases h1 : gchk g = 0
  · rw [if_pos (by simpa using h1), qeu]
    simp only [Option.bind_some]
    unfold vp
    by_cases h2 : hcE B least k = 0
    · rw [if_pos (by simpa using h2)]
      obtain ⟨_, _, k', rfl, _, _⟩ := qcB h2
      have hg := qd1.1 h1
      have hgl := hg.1
      obtain ⟨z, hz, hz1, hz2⟩ := qjt hF hg (N := (g.length : Int)) h2 F 0 (by omega) (Nat.zero_le _) (by simp [pkA])
      have hz' : qad F (g.length : Int) B least (k' : Int) 0 [] [] [] g = some z := by
        have e : pk ([] : List Int) = [] := by simp [pk]
        simp only [pkA, List.length_nil, e] at hz
        exact hz
      rw [hz']
      simp only [Option.bind_some]
      unfold yF yE
      rw [Int.toNat_natCast]
      by_cases h3 : (pkA g B least k' g.length).1.length ≤ 8192
      · rw [decide_eq_true h3] at hz1
        have := hz2 hz1
        have hE : pkE g B least (k' : Int) = 0 := qnw h1 h2 (by rw [Int.toNat_natCast]; exact h3)
        rw [hE, h2]
        subst this
        exact ⟨_, _, _, _, _, _, _, _, rfl, fun _ => rfl⟩
      · rw [decide_eq_false h3] at hz1
        have hE : pkE g B least (k' : Int) = 8 := by
          unfold pkE
          rw [if_neg (by simp [h1]), if_neg (by simp [h2]), if_pos (by rw [Int.toNat_natCast]; omega)]
        rw [hE, hz1]
        exact ⟨_, _, _, _, _, _, _, _, rfl, fun h => by simp at h⟩
    · have hE : pkE g B least k = hcE B least k := by
        unfold pkE
        rw [if_neg (by simp [h1]), if_pos h2]
      rw [if_neg (by simpa using h2), hE]
      unfold yF yE
      exact ⟨_, _, _, _, _, _, _, _, rfl, fun h => absurd h h2⟩
  · have hE : pkE g B least k = gchk g := by
      unfold pkE
      rw [if_pos h1]
    rw [if_neg (by simpa using h1), hE]
    unfold vp yF yE
    rw [if_neg (by simpa using h1)]
    exact ⟨_, _, _, _, _, _, _, _, rfl, fun h => absurd h h1⟩
def pwr (g : List (List Int)) (B least k : Int) : Int × Int × Int × Int × Int × List Int × Int :=
  if pkE g B least k ≠ 0 then (0, 0, 0, 0, 0, [], pkE g B least k) else ((g.length : Int), B, least, k, ((pkA g B least k.toNat g.length).1.length : Int), pk (pkA g B least k.toNat g.length).1, 0)
def ptl (g : List (List Int)) (B least k : Int) : List Int × List Int × Int :=
  if pkE g B least k ≠ 0 then ([], [], pkE g B least k) else ((pkA g B least k.toNat g.length).2.1, (pkA g B least k.toNat g.length).2.2, 0)
theorem qdg {F : Nat} (hF : 2000000 ≤ F) {g : List (List Int)} {B least k : Int} : yw F g B least k = some (pwr g B least k) := by
  obtain ⟨z1, z2, z3, z4, z5, z6, z7, z8, hz, hz2⟩ := qf7 hF (g := g) (B := B) (least := least) (k := k)
  unfold yw pwr
  rw [hz]
  simp only [Option.bind_some]
  by_cases h : pkE g B least k = 0
  · rw [if_neg (by simp [h]), if_neg (by simp [h])]
    have := hz2 h
    simp only [Prod.mk.injEq] at this
    obtain ⟨rfl, rfl, rfl, rfl, rfl, rfl, -, -⟩ := this
    rfl
  · rw [if_pos (by simpa using h), if_pos h]
theorem qlp {F : Nat} (hF : 2000000 ≤ F) {g : List (List Int)} {B least k : Int} : qbW F g B least k = some (ptl g B least k) := by
  obtain ⟨z1, z2, z3, z4, z5, z6, z7, z8, hz, hz2⟩ := qf7 hF (g := g) (B := B) (least := least) (k := k)
  unfold qbW ptl
  rw [hz]
  simp only [Option.bind_some]
  by_cases h : pkE g B least k = 0
  · rw [if_neg (by simp [h]), if_neg (by simp [h])]
    have := hz2 h
    simp only [Prod.mk.injEq] at this
    obtain ⟨-, -, -, -, -, -, rfl, rfl⟩ := this
    rfl
  · rw [if_pos (by simpa using h), if_pos h]
theorem qle {F : Nat} {xs ys : List Int} (he : xs.length = ys.length) (hm : xs.length ≤ 1000000) : ∀ (k i : Nat), xs.length < k + i → i ≤ xs.length → zI F xs ys k (i : Int) = some (decide (xs.drop i = ys.drop i))
  | 0, _, _, _ => by omega
  | k + 1, i, h, hi => by
    show kG F xs ys (zI F xs ys k) (i : Int) = _
    unfold kG
    by_cases hlt : i < xs.length
    · have hlt' : i < ys.length := by omega
      rw [if_pos (by simp; omega), zV, List.getElem?_eq_getElem hlt, zV, List.getElem?_eq_getElem hlt']
      simp only [Option.bind_some]
      rw [List.drop_eq_getElem_cons hlt, List.drop_eq_getElem_cons hlt']
      by_cases hc : xs[i] = ys[i]
      · rw [if_neg (by simp [hc]), zG (by omega), qle he hm k (i + 1) (by omega) (by omega)]
        congr 1
        rw [decide_eq_decide, List.cons.injEq]
        exact ⟨fun h => ⟨hc, h⟩, fun h => h.2⟩
      · rw [if_pos (by simpa using hc), decide_eq_false (fun e => hc (List.cons.inj e).1)]
    · rw [if_neg (by simp; omega), List.drop_eq_nil_of_le (by omega), List.drop_eq_nil_of_le (by omega)]
      rfl
theorem peqb {F : Nat} {xs ys : List Int} (hF : xs.length < F) (hm : xs.length ≤ 1000000) : yc F xs ys = some (decide (xs = ys)) := by
  unfold yc
  by_cases h : xs.length = ys.length
  · rw [if_neg (by simp [h])]
    have := qle (F := F) h hm F 0 (by omega) (Nat.zero_le _)
    rw [List.drop_zero, List.drop_zero] at this
    exact this
  · rw [if_pos (by simp; omega), decide_eq_false (fun e => h (by rw [e]))]
theorem qkf {l : List Int} {p : Nat} {most : Int} (h : rgam l p most = none) : (fg l p).2.2 ≠ 0 ∨ most < (fg l p).1 := by
  unfold rgam at h
  by_cases h1 : (fg l p).2.2 = 0
  · right
    by_cases h2 : (fg l p).1 ≤ most
    · rw [if_pos ⟨h1, h2⟩] at h; simp at h
    · omega
  · left; exact h1
theorem qjy {l : List Int} {p : Nat} {most : Int} {x : Int × Nat} (h : rgam l p most = some x) : fg l p = (x.1, (x.2 : Int), 0) ∧ x.1 ≤ most := by
  unfold rgam at h
  split at h
  · rename_i hc
    simp only [Option.some.injEq] at h
    rw [← h]
    have h3 : 0 ≤ (fg l p).2.1 := by
      rcases qkO (l := l) (a := p) with h1 | ⟨n, q, h1, h2, h3⟩
      · exact absurd hc.1 h1
      · rw [h1]; simp
    refine ⟨?_, hc.2⟩
    simp only
    rw [Int.toNat_of_nonneg h3, ← hc.1]
  · simp at h
theorem qlh {l : List Int} {B : Int} (_hB : 0 ≤ B) {node p : Nat} (hp : p ≤ l.length) {o : Int × Nat} (h : pkO l B node p = some o) : 0 ≤ o.1 ∧ o.1 ≤ min B (node : Int) ∧ o.2 ≤ l.length := by
  unfold pkO at h
  split at h
  · simp only [Option.some.injEq] at h
    subst h
    simp only
    omega
  · have := vK h
    omega
theorem qmz {F : Nat} (hF : 20000 ≤ F) {l : List Int} (hl : Bit l) (hm : l.length ≤ 8192) {N B least k : Int} (hB : 0 ≤ B ∧ B ≤ 7) {node p : Nat} (hn : node ≤ 1000) (hp : p ≤ l.length) :
    qcu F N B least k (l.length : Int) (pk l) (p : Int) (node : Int) = some (match pkO l B node p with | none => (0, 0, false) | some o => (o.1, (o.2 : Int), true)) := by
  unfold qcu pkO
  by_cases h0 : B = 0
  · rw [if_pos (by simpa using h0), if_pos h0]
  · rw [if_neg (by simpa using h0), if_neg h0, qd0 hF hl hm hp]
    simp only [Option.bind_some]
    have hmin : imin B (node : Int) = min B (node : Int) := by unfold imin; split <;> omega
    have hcv : iconv .u64 (min B (node : Int)) = min B (node : Int) := by
      obtain ⟨q, hq⟩ := Int.eq_ofNat_of_zero_le (a := min B (node : Int)) (by omega)
      rw [hq]; exact vj (by omega)
    unfold qaZ
    rw [hmin, hcv]
    cases hr : rgam l p (min B (node : Int)) with
    | none =>
      rcases qkf hr with h1 | h1
      · rw [if_pos (by simpa using h1), if_pos rfl]
      · by_cases h2 : (fg l p).2.2 = 0
        · rw [if_neg (by simp [h2]), if_pos (by simpa using h1)]
        · rw [if_pos (by simpa using h2), if_pos rfl]
    | some x =>
      obtain ⟨h1, h2⟩ := qjy hr
      have hok := vK hr
      rw [h1]
      simp only
      rw [if_neg (by simp), if_neg (by simp; omega)]
      have e : iconv .i64 x.1 = x.1 := yv (by omega) (by omega)
      rw [e]
theorem qhS {F k : Nat} (hF : 2000000 ≤ F) {l : List Int} (hl : Bit l) (hm : l.length ≤ 8192) {B least : Int} (hh : hcE B least (k : Int) = 0) {n : Nat} (hn : n ≤ 100) : ∀ (j p : Nat) (out : List (List Int)), n < j + out.length → out.length ≤ n → p ≤ l.length → (∀ x ∈ out, gkc x = 0) →
    kV F (n : Int) B least (k : Int) (l.length : Int) (pk l) j (out, (p : Int), (out.length : Int)) = some (match pkR l B least k (n - out.length) out p with | none => ([], false) | some r => (r.1, decide (r.2 = l.length)))
  | 0, _, _, _, _, _, _ => by omega
  | j + 1, p, out, h, ho, hp, hg => by
    obtain ⟨k1, k2, k', hk, k3, k4⟩ := qcB hh
    have hkk : k = k' := by omega
    subst hkk
    show j7 F (n : Int) B least (k : Int) (l.length : Int) (pk l) (kV F (n : Int) B least (k : Int) (l.length : Int) (pk l) j) out (p : Int) (out.length : Int) = _
    unfold j7
    by_cases hlt : out.length < n
    · rw [if_pos (by simp; omega), qmz (by omega) hl hm k1 (by omega) hp, show n - out.length = (n - (out.length + 1)) + 1 from by omega]
      simp only [Option.bind_some, pkR]
      cases hO : pkO l B out.length p with
      | none => rfl
      | some o =>
        obtain ⟨o1, o2, o3⟩ := qlh k1.1 hp hO
        simp only [Bool.not_true, Bool.false_eq_true, if_false, Option.bind_some]
        have hfr : gkc (pkF out out.length o.1.toNat) = 0 := by
          unfold pkF
          split
          · rw [List.getD_eq_getElem?_getD]
            by_cases hq : out.length - o.1.toNat < out.length
            · rw [List.getElem?_eq_getElem hq]; exact hg _ (List.getElem_mem hq)
            · rw [List.getElem?_eq_none (by omega)]; decide
          · decide
        have hstep : ∀ fr : List Int, fr = pkF out out.length o.1.toNat → ((qah F (l.length : Int) (pk l) (o.2 : Int) (out.length : Int) fr o.1 least (k : Int)).bind fun x488 => (if ((x488.2.2 : Int) != 0) then some (([] : List (List Int)), false) else ((app 2199023255552 out ([x488.1] : List (List Int))).bind fun x494 => vR F (kV F (n : Int) B least (k : Int) (l.length : Int) (pk l) j) (out.length : Int) x494 x488.2.1))) = some (match (rdl l o.2 (out.length : Int) (pkF out out.length o.1.toNat) o.1 least k).bind fun r => pkR l B least k (n - (out.length + 1)) (out ++ [r.1]) r.2 with | none => ([], false) | some r => (r.1, decide (r.2 = l.length))) := by
          intro fr hfe
          subst hfe
          rw [qlK hF k3 k4 hl hm (by unfold Nd; omega) o3 (fun _ => hfr) k2]
          simp only [Option.bind_some]
          cases hr : rdl l o.2 (out.length : Int) (pkF out out.length o.1.toNat) o.1 least k with
          | none => rfl
          | some r =>
            obtain ⟨r1, r2, r3, r4, r5⟩ := qhX hl k3 hr
            simp only [Option.bind_some]
            rw [if_neg (by simp), jb (by simp; omega)]
            simp only [Option.bind_some]
            unfold vR
            have hl1 : (out ++ [r.1]).length = out.length + 1 := by simp
            have hrec := qhS hF hl hm hh hn j r.2 (out ++ [r.1]) (by omega) (by omega) r5 (fun x hx => by
              rcases List.mem_append.1 hx with hx | hx
              · exact hg x hx
              · simp at hx; subst hx; exact r1)
            rw [hl1] at hrec
            rw [zG (by omega), hrec]
        by_cases h0 : 0 < o.1
        · rw [if_pos (by simpa using h0), kb (by omega) (by omega), show ((out.length : Int) - o.1) = ((out.length - o.1.toNat : Nat) : Int) from by omega, qhF (by omega)]
          simp only [Option.bind_some]
          exact hstep _ (by unfold pkF; rw [if_pos (by omega)])
        · rw [if_neg (by simpa using h0)]
          exact hstep _ (by unfold pkF; rw [if_neg (by omega)])
    · rw [if_neg (by simp; omega), show n - out.length = 0 from by omega]
      unfold qbd
      simp only [pkR]
      congr 2
      by_cases hpl : p = l.length
      · subst hpl; simp
      · rw [decide_eq_false hpl]; simp; omega
def pcE (N B least k m : Int) (b : List Int) : Int := if N < 0 ∨ 100 < N then 3 else if hcE B least k ≠ 0 then hcE B least k else chkOf m b
def prd (N B least k m : Int) (b : List Int) : List (List Int) × Int :=
  if pcE N B least k m b ≠ 0 then ([], pcE N B least k m b) else
  match pkR (bl b m.toNat) B least k.toNat N.toNat [] 0 with
  | none => ([], 1)
  | some r => if r.2 = m.toNat ∧ pkE r.1 B least k = 0 ∧ pk (pkA r.1 B least k.toNat r.1.length).1 = b then (r.1, 0) else ([], 1)
theorem qiv {F : Nat} {N B least k m : Int} {b : List Int} (hb : U8s b) (hm : I64 m) (lb : b.length ≤ 9223372036854775807) : qbl F N B least k m b = some (pcE N B least k m b) := by
  unfold qbl pcE
  by_cases h1 : N < 0 ∨ 100 < N
  · rw [if_pos (by simpa using h1), if_pos h1]
  · rw [if_neg (by simpa using h1), if_neg h1, qeu]
    simp only [Option.bind_some]
    by_cases h2 : hcE B least k = 0
    · rw [if_neg (by simp [h2]), if_neg (by simp [h2]), qkE hb hm.1 hm.2 lb]
      rfl
    · rw [if_pos (by simpa using h2), if_pos h2]
theorem qld {N B least k m : Int} {b : List Int} (hb : U8s b) (h : pcE N B least k m b = 0) : ∃ (n : Nat) (l : List Int), N = (n : Int) ∧ n ≤ 100 ∧ hcE B least k = 0 ∧ Bit l ∧ l.length ≤ 8192 ∧ m = (l.length : Int) ∧ b = pk l := by
  unfold pcE at h
  by_cases h1 : N < 0 ∨ 100 < N
  · rw [if_pos h1] at h; simp at h
  · rw [if_neg h1] at h
    by_cases h2 : hcE B least k = 0
    · rw [if_neg (by simp [h2])] at h
      rcases qkG hb (n := m) with h3 | ⟨l, hl, hm, e1, e2⟩
      · exact absurd h h3
      · exact ⟨N.toNat, l, by omega, by omega, h2, hl, hm, e1, e2⟩
    · rw [if_pos h2] at h; exact absurd h h2
theorem qd9 {F : Nat} (hF : 2000000 ≤ F) {N B least k m : Int} {b : List Int} (hb : U8s b) (hm : I64 m) (lb : b.length ≤ 9223372036854775807) : jE F N B least k m b = some (prd N B least k m b) := by
  unfold jE prd
  rw [qiv hb hm lb]
  simp only [Option.bind_some]
  by_cases h : pcE N B least k m b = 0
  · rw [if_neg (by simp [h]), if_neg (by simp [h])]
    obtain ⟨n, l, rfl, hn, hh, hl, hlm, rfl, rfl⟩ := qld hb h
    obtain ⟨k1, k2, k', rfl, k3, k4⟩ := qcB hh
    have hL := qhS (F := F) hF hl hlm hh hn F 0 [] (by simp; omega) (Nat.zero_le _) (Nat.zero_le _) (by simp)
    have hL' : qcv F (n : Int) B least (k' : Int) (l.length : Int) (pk l) = _ := hL
    rw [hL']
    simp only [Option.bind_some, List.length_nil, Nat.sub_zero, Int.toNat_natCast, qb1 hl]
    cases hr : pkR l B least k' n [] 0 with
    | none => rfl
    | some r =>
      simp only
      by_cases hp : r.2 = l.length
      · rw [decide_eq_true hp, if_neg (by simp), qdg hF]
        simp only [Option.bind_some]
        unfold pwr qat
        by_cases hE : pkE r.1 B least (k' : Int) = 0
        · rw [if_neg (by simp [hE])]
          simp only [Int.toNat_natCast]
          obtain ⟨_, _, hA⟩ := qc6 hE
          rw [Int.toNat_natCast] at hA
          rw [if_neg (by simp [hE]), peqb (by rw [qdL]; omega) (by rw [qdL]; omega)]
          simp only [Option.bind_some]
          by_cases hq : pk (pkA r.1 B least k' r.1.length).1 = pk l
          · rw [decide_eq_true hq, if_neg (by simp), if_pos ⟨hp, hE, hq⟩]
          · rw [decide_eq_false hq, if_pos (by simp), if_neg (fun hc => hq hc.2.2)]
        · rw [if_pos hE, if_pos (by simpa using hE), if_pos rfl, if_neg (fun hc => hE hc.2.1)]
      · rw [decide_eq_false hp, if_pos (by simp), if_neg (fun hc => hp hc.1)]
  · rw [if_pos (by simpa using h), if_pos h]
theorem qlw {l : List Int} (hl : Bit l) {p : Nat} {most : Int} {x : Int × Nat} (h : rgam l p most = some x) : x.2 = p + (ga x.1.toNat).length := by
  have hf := (qjy h).1
  unfold fg at hf
  cases hz : fz (l.drop p) with
  | none => rw [hz] at hf; simp at hf
  | some k =>
    rw [hz] at hf
    simp only at hf
    unfold numOf at hf
    by_cases h1 : 64 ≤ k
    · rw [if_pos h1] at hf; simp at hf
    · rw [if_neg h1] at hf
      by_cases h2 : l.length < p + k + 1 + k
      · rw [if_pos h2] at hf; simp at hf
      · rw [if_neg h2] at hf
        by_cases h3 : 1099511627776 < bv ((l.drop (p + k + 1)).take k) + 2 ^ k - 1
        · rw [if_pos h3] at hf; simp at hf
        · rw [if_neg h3] at hf
          simp only [Prod.mk.injEq, and_true] at hf
          have hb := qi1 (qdV (qcZ hl (p + k + 1)) k)
          rw [List.length_take, List.length_drop, Nat.min_eq_left (by omega)] at hb
          have hp0 : 0 < 2 ^ k := Nat.pow_pos (by decide)
          have hn : x.1.toNat = bv ((l.drop (p + k + 1)).take k) + 2 ^ k - 1 := by omega
          have hlg : lg x.1.toNat = k := qj8 (by omega) (by rw [Nat.pow_succ]; omega)
          rw [qgM, hlg]
          omega
theorem qmx {l : List Int} (hl : Bit l) {B : Int} (hB : 0 ≤ B) {node p : Nat} {o : Int × Nat} (h : pkO l B node p = some o) : o.2 = p + (pkH B o.1.toNat).length := by
  unfold pkO at h
  unfold pkH
  split at h
  · rename_i h0
    simp only [Option.some.injEq] at h
    subst h
    rw [if_neg (by omega)]
    simp
  · rw [if_pos (by omega)]
    exact qlw hl h
theorem qhE {g : List (List Int)} {x : List Int} {i : Nat} (h : i < g.length) : (g ++ [x]).getD i [] = g.getD i [] := by
  rw [List.getD_eq_getElem?_getD, List.getD_eq_getElem?_getD, List.getElem?_append_left h]
theorem qjo {g : List (List Int)} {x : List Int} {i r : Nat} (h : i ≤ g.length) (hr : r ≤ i) : pkF (g ++ [x]) i r = pkF g i r := by
  unfold pkF
  split
  · exact qhE (by omega)
  · rfl
theorem qmw {g : List (List Int)} {x : List Int} {B least : Int} {k i : Nat} (h : i < g.length) : pkN (g ++ [x]) B least k i = pkN g B least k i := by
  unfold pkN
  refine qfW fun r hr => ?_
  unfold pkW
  rw [qhE h, qjo (by omega) (by omega)]
theorem qjn {g : List (List Int)} {x : List Int} {B least : Int} {k : Nat} : ∀ {i : Nat}, i ≤ g.length → pkA (g ++ [x]) B least k i = pkA g B least k i
  | 0, _ => rfl
  | i + 1, h => by
    unfold pkA
    rw [qjn (i := i) (by omega), qmw (by omega)]
theorem qhQ {l : List Int} (hl : Bit l) {B least : Int} {k : Nat} (hB : 0 ≤ B) (hk : 1 ≤ k) : ∀ (m p : Nat) (out : List (List Int)) (r : List (List Int) × Nat), pkR l B least k m out p = some r → p ≤ l.length → (pkA out B least k out.length).1.length ≤ p →
    r.1.length = out.length + m ∧ (pkA r.1 B least k r.1.length).1.length ≤ r.2
  | 0, p, out, r, h, _, hA => by
    simp only [pkR, Option.some.injEq] at h
    subst h
    exact ⟨rfl, hA⟩
  | m + 1, p, out, r, h, hp, hA => by
    unfold pkR at h
    rw [Option.bind_eq_some_iff] at h
    obtain ⟨o, ho, h⟩ := h
    rw [Option.bind_eq_some_iff] at h
    obtain ⟨d, hd, h⟩ := h
    obtain ⟨o1, o2, o3⟩ := qlh hB hp ho
    have hol := qmx hl hB ho
    obtain ⟨d1, d2, d3, d4, d5⟩ := qhX hl hk hd
    have hn1 : (out ++ [d.1]).length = out.length + 1 := by simp
    have hmin := qi2 (pkW (out ++ [d.1]) B least k out.length) (n := min B.toNat out.length) (r := o.1.toNat) (by omega)
    have hW : (pkW (out ++ [d.1]) B least k out.length o.1.toNat).length = (pkH B o.1.toNat).length + (enc (out.length : Int) d.1 (pkF out out.length o.1.toNat) o.1 least k).length := by
      unfold pkW
      rw [List.length_append, qjo (Nat.le_refl _) (by omega), show ((o.1.toNat : Nat) : Int) = o.1 from by omega]
      congr 3
      rw [List.getD_eq_getElem?_getD, List.getElem?_append_right (Nat.le_refl _)]
      simp
    have hrec := qhQ hl hB hk m d.2 (out ++ [d.1]) r h d5 (by
      rw [hn1, pkA, List.length_append, qjn (Nat.le_refl _)]
      unfold pkN
      omega)
    rw [hn1] at hrec
    exact ⟨by omega, hrec.2⟩
theorem qdt {F : Nat} {xs : List (List Int)} (hm : xs.length ≤ 1000000) (hr : ∀ r ∈ xs, r.length ≤ 1000000 ∧ r.length < F) : ∀ (k i : Nat), xs.length < k + i → i ≤ xs.length → yD F xs xs k (i : Int) = some true
  | 0, _, _, _ => by omega
  | k + 1, i, h, hi => by
    show jK F xs xs (yD F xs xs k) (i : Int) = _
    unfold jK
    by_cases hlt : i < xs.length
    · have := hr _ (List.getElem_mem hlt)
      rw [if_pos (by simp; omega), zV, List.getElem?_eq_getElem hlt]
      simp only [Option.bind_some]
      rw [qiz this.2 this.1]
      simp only [Option.bind_some]
      rw [if_neg (by simp), zG (by omega)]
      exact qdt hm hr k (i + 1) (by omega) (by omega)
    · rw [if_neg (by simp; omega)]
      rfl
theorem qhT {F : Nat} {xs : List (List Int)} (hF : xs.length < F) (hm : xs.length ≤ 1000000) (hr : ∀ r ∈ xs, r.length ≤ 1000000 ∧ r.length < F) : qaT F xs xs = some true := by
  unfold qaT
  rw [if_neg (by simp)]
  exact qdt hm hr F 0 (by omega) (by omega)
def PSm (g : List (List Int)) : Prop := g.length ≤ 100 ∧ ∀ r ∈ g, r.length ≤ 1200
theorem qc8 {F : Nat} {g : List (List Int)} (hF : 2000 ≤ F) (h : PSm g) : vZ F g g = some true := by
  unfold vZ
  have := h.1
  rw [qhT (by omega) (by omega) (fun r hr => by have := h.2 r hr; omega)]
  rfl
theorem qmC : PSm [] := ⟨by simp, fun r hr => by simp at hr⟩
theorem qlo {g : List (List Int)} (h : Gr g) : PSm g := ⟨h.1, fun r hr => by have := qkY h hr; omega⟩
theorem qmB {N B least k m : Int} {b : List Int} (h : (prd N B least k m b).2 ≠ 0) : (prd N B least k m b).1 = [] := by
  unfold prd at h ⊢
  split
  · rfl
  · rename_i h1
    rw [if_neg h1] at h
    cases hr : pkR (bl b m.toNat) B least k.toNat N.toNat [] 0 with
    | none => rfl
    | some r =>
      rw [hr] at h
      simp only at h ⊢
      split
      · rename_i h2; rw [if_pos h2] at h; simp at h
      · rfl
theorem qln {g : List (List Int)} {B least k : Int} (h : pkE g B least k = 0) : prd (g.length : Int) B least k ((pkA g B least k.toNat g.length).1.length : Int) (pk (pkA g B least k.toNat g.length).1) = (g, 0) := by
  obtain ⟨h1, h2, h3⟩ := qc6 h
  have hg := qd1.1 h1
  have hgl := hg.1
  obtain ⟨k1, k2, k', rfl, k3, k4⟩ := qcB h2
  rw [Int.toNat_natCast] at h3 ⊢
  have hE : pcE (g.length : Int) B least (k' : Int) ((pkA g B least k' g.length).1.length : Int) (pk (pkA g B least k' g.length).1) = 0 := by
    unfold pcE
    rw [if_neg (by omega), if_neg (by simp [h2]), qnm h3]
  have hr := qg0 hg h2 h3 [] g.length 0 (by omega)
  have hr' : pkR (pkA g B least k' g.length).1 B least k' g.length [] 0 = some (g, (pkA g B least k' g.length).1.length) := by
    rw [List.append_nil] at hr
    exact hr
  unfold prd
  rw [if_neg (by simp [hE])]
  simp only [Int.toNat_natCast]
  rw [qb1 (qcH _), hr']
  simp only
  rw [if_pos ⟨trivial, h, trivial⟩]
theorem qny {N B least k m : Int} {b : List Int} (hb : U8s b) (h : (prd N B least k m b).2 = 0) : ∃ g, prd N B least k m b = (g, 0) ∧ pkE g B least k = 0 ∧ N = (g.length : Int) ∧ m = ((pkA g B least k.toNat g.length).1.length : Int) ∧ b = pk (pkA g B least k.toNat g.length).1 := by
  have h0 := h
  unfold prd at h
  by_cases hE : pcE N B least k m b = 0
  · rw [if_neg (by simp [hE])] at h
    obtain ⟨n, l, rfl, hn, hh, hl, hlm, rfl, rfl⟩ := qld hb hE
    obtain ⟨k1, k2, k', rfl, k3, k4⟩ := qcB hh
    simp only [Int.toNat_natCast, qb1 hl] at h
    cases hr : pkR l B least k' n [] 0 with
    | none => rw [hr] at h; simp at h
    | some r =>
      rw [hr] at h
      simp only at h
      split at h
      · rename_i hc
        obtain ⟨c1, c2, c3⟩ := hc
        obtain ⟨g1, g2, g3⟩ := qc6 c2
        rw [Int.toNat_natCast] at g3
        have hg := qd1.1 g1
        obtain ⟨b1, b2⟩ := qhQ hl k1.1 k3 n 0 [] r hr (Nat.zero_le _) (by simp [pkA])
        rw [List.length_nil, Nat.zero_add] at b1
        have hq : l = (pkA r.1 B least k' r.1.length).1 ++ l.drop (pkA r.1 B least k' r.1.length).1.length := by
          have e1 : l.take (pkA r.1 B least k' r.1.length).1.length = (pkA r.1 B least k' r.1.length).1 := by
            have := ql5 (b := pk l) (n := (pkA r.1 B least k' r.1.length).1.length) (m := l.length) (by omega)
            rw [qb1 hl, ← c3, qb1 (qcH _)] at this
            exact this
          conv => lhs; rw [← List.take_append_drop (pkA r.1 B least k' r.1.length).1.length l, e1]
        have hr2 := qg0 hg hh g3 (l.drop (pkA r.1 B least k' r.1.length).1.length) r.1.length 0 (by omega)
        rw [← hq] at hr2
        have hr3 : pkR l B least k' n [] 0 = some (r.1, (pkA r.1 B least k' r.1.length).1.length) := by
          rw [← b1]; exact hr2
        rw [hr] at hr3
        have e2 : r.2 = (pkA r.1 B least k' r.1.length).1.length := by
          have := Option.some.inj hr3
          rw [this]
        refine ⟨r.1, ?_, c2, by omega, by rw [Int.toNat_natCast]; omega, by rw [Int.toNat_natCast]; exact c3.symm⟩
        unfold prd
        rw [if_neg (by simp [hE])]
        simp only [Int.toNat_natCast, qb1 hl, hr]
        rw [if_pos ⟨c1, c2, c3⟩]
      · simp at h
  · rw [if_pos hE] at h
    exact absurd h hE
def pkSome : List (List Int) := [[1, 2, 3, 5], [1, 2, 3, 5], [0, 1, 2, 3, 5], [], [4], [1, 2, 3]]
theorem qli : pkE pkSome 3 3 2 = 0 := by decide +kernel
theorem qlk : (pkA pkSome 3 3 2 6).2 = ([0, 1, 1, 0, 0, 0], [0, 19, 28, 43, 45, 52]) := by decide +kernel
theorem qlj : prd 1 3 3 2 0 [] = ([], 1) := by decide +kernel
theorem pbegun {F : Nat} (hF : 2000000 ≤ F) : qaR F = some true := by
  have hS : vY F = some pkSome := rfl
  have hE := qli
  have hg := qd1.1 (qc6 hE).1
  have h3 := (qc6 hE).2.2
  have hR := qln hE
  unfold qaR vl
  rw [hS]
  simp only [Option.bind_some]
  rw [qdg hF]
  simp only [Option.bind_some]
  have hW : pwr pkSome 3 3 2 = ((pkSome.length : Int), 3, 3, 2, ((pkA pkSome 3 3 (2 : Int).toNat pkSome.length).1.length : Int), pk (pkA pkSome 3 3 (2 : Int).toNat pkSome.length).1, 0) := by
    unfold pwr
    rw [if_neg (by simp [hE])]
  have hT : ptl pkSome 3 3 2 = ([0, 1, 1, 0, 0, 0], [0, 19, 28, 43, 45, 52], 0) := by
    unfold ptl
    rw [if_neg (by simp [hE])]
    have := qlk
    rw [show (2 : Int).toNat = 2 from rfl, show pkSome.length = 6 from rfl]
    rw [show (pkA pkSome 3 3 2 6).2.1 = [0, 1, 1, 0, 0, 0] from by rw [this], show (pkA pkSome 3 3 2 6).2.2 = [0, 19, 28, 43, 45, 52] from by rw [this]]
  rw [hW]
  simp only
  rw [qd9 hF (qc7 (qcH _)) (qjg h3) (qjr h3), hR]
  simp only [Option.bind_some]
  rw [qlp hF, hT]
  simp only [Option.bind_some]
  rw [qd9 hF (by intro y hy; simp at hy) ⟨by omega, by omega⟩ (by simp), qlj]
  simp only [Option.bind_some]
  rw [if_pos (by rfl), if_pos (by rfl), if_pos (by rfl), qc8 (by omega) (qlo hg)]
  simp only [Option.bind_some]
  rw [if_pos (by trivial), if_pos (by rfl), if_pos (by rfl)]
  rfl
theorem qj6 {F : Nat} (hF : 2000000 ≤ F) {g : List (List Int)} {B least k N B2 least2 k2 m : Int} {b : List Int} (hb : U8s b) (hm : I64 m) (lb : b.length ≤ 9223372036854775807) : qct F g B least k N B2 least2 k2 m b = some true := by
  have hj : vO F N B2 least2 k2 m b (prd N B2 least2 k2 m b) = some true := by
    unfold vO jZ
    by_cases h : (prd N B2 least2 k2 m b).2 = 0
    · obtain ⟨x, hx, hE, rfl, rfl, rfl⟩ := qny hb h
      have h3 := (qc6 hE).2.2
      rw [hx]
      simp only
      rw [if_neg (by simp), qdg hF]
      simp only [Option.bind_some]
      have hW : pwr x B2 least2 k2 = ((x.length : Int), B2, least2, k2, ((pkA x B2 least2 k2.toNat x.length).1.length : Int), pk (pkA x B2 least2 k2.toNat x.length).1, 0) := by
        unfold pwr
        rw [if_neg (by simp [hE])]
      rw [hW]
      simp only
      rw [if_pos (by rfl)]
      unfold qbz jc
      rw [if_pos (by simp), qkk (by rw [qdL]; omega) (by rw [qdL]; omega)]
      rfl
    · rw [if_pos (by simpa using h), qmB h, qc8 (by omega) qmC]
      rfl
  unfold qct
  rw [qdg hF]
  simp only [Option.bind_some]
  rw [qd9 hF hb hm lb]
  simp only [Option.bind_some]
  rw [pbegun hF]
  simp only [Option.bind_some, Bool.not_true, Bool.false_eq_true, if_false]
  by_cases h : pkE g B least k = 0
  · have hW : pwr g B least k = ((g.length : Int), B, least, k, ((pkA g B least k.toNat g.length).1.length : Int), pk (pkA g B least k.toNat g.length).1, 0) := by
      unfold pwr
      rw [if_neg (by simp [h])]
    have h3 := (qc6 h).2.2
    rw [hW]
    simp only
    rw [if_pos (by rfl), qd9 hF (qc7 (qcH _)) (qjg h3) (qjr h3), qln h]
    simp only [Option.bind_some]
    rw [if_neg (by simp), qc8 (by omega) (qlo (qd1.1 (qc6 h).1))]
    simp only [Option.bind_some]
    unfold j1
    rw [if_neg (by simp)]
    exact hj
  · have hW : (pwr g B least k).2.2.2.2.2.2 = pkE g B least k := by
      unfold pwr
      rw [if_pos h]
    rw [hW, if_neg (by simpa using h)]
    exact hj
end Go.Proofs.YtpnfijegoepiaaaGreat
