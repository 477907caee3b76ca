/- Plain facts of what the functions of this seat compute, part 2. -/
import Derived.Test.YtmhggdbfbmkpeaaGreatPure
import Derived.KernelRfl
import Derived.Lib.SlicesCompact
namespace Go.Proofs.YtmhggdbfbmkpeaaGreat
open Go SX
variable {F : Nat} {rec68 : (List (Int × Int) × List Int × Int) → Option (List (Int × Int) × List Int)} {l : List Int} {least : Int} {o : List (Int × Int)} {rest : List Int} {i : Int}
variable {F : Nat} {n t w lw hw : Int} {lb hb : List Int} {l : List Nat}
theorem qoq {F : Nat} (hF : 2000000 ≤ F) {g : List (List Int)} (hg : Gr g) {B least : Int} {k i r : Nat} (hh : hcE B least (k : Int) = 0) (hi : i ≤ g.length) (hr : r ≤ min B.toNat i) :
    qbw F (g.take i) (g.getD i []) (r : Int) B least (k : Int) = some (if (pkW g B least k i r).length ≤ 8192 then ((r : Int), ((pkW g B least k i r).length : Int), pk (pkW g B least k i r), true) else (0, 0, [], false)) := by
  have hgl := hg.1
  have hti : (g.take i).length = i := by rw [List.length_take]; omega
  obtain ⟨k1, -, -⟩ := qaT hh
  have hh' : hcE (r : Int) least (k : Int) = 0 := qo2 hh (by omega)
  have hj : ∀ H : List Int, Bit H → H.length ≤ 100 → jn F (g.take i) (g.getD i []) (r : Int) least (k : Int) (H.length : Int) (pk H) = some (if (H ++ enc (i : Int) (g.getD i []) (pkF g i r) (r : Int) least k).length ≤ 8192 then ((r : Int), ((H ++ enc (i : Int) (g.getD i []) (pkF g i r) (r : Int) least k).length : Int), pk (H ++ enc (i : Int) (g.getD i []) (pkF g i r) (r : Int) least k), true) else (0, 0, [], false)) := by
    intro H hH hHl
    unfold jn
    by_cases h0 : 0 < r
    · rw [if_pos (by simpa using h0), hti, zd (by omega) (by omega), show ((i : Int) - (r : Int)) = ((i - r : Nat) : Int) from by omega, qR, List.getElem?_take, if_pos (by omega), List.getElem?_eq_getElem (show i - r < g.length by omega)]
      simp only [Option.bind_some]
      have e : g[i - r]'(by omega) = pkF g i r := by
        unfold pkF
        rw [if_pos h0, List.getD_eq_getElem?_getD, List.getElem?_eq_getElem (show i - r < g.length by omega)]
        rfl
      rw [e]
      exact qkt hF hti (by omega) (qeQ hg i) (qet hg i r) hh' hH hHl
    · rw [if_neg (by simpa using h0)]
      have e : pkF g i r = [] := by unfold pkF; rw [if_neg h0]
      rw [e]
      exact qkt hF hti (by omega) (qeQ hg i) (by decide) hh' hH hHl
  unfold qbw pkW pkH
  by_cases hB : 0 < B
  · have hga := qoB (n := r) (by omega)
    rw [if_pos (by simpa using hB), if_pos hB, kz (by omega), qei (by omega) (by omega)]
    simp only [Option.bind_some]
    exact hj (ga r) (qb2 r) (by omega)
  · rw [if_neg (by simpa using hB), if_neg hB]
    exact hj [] (by intro z hz; simp at hz) (by simp)
def bst (f : Nat → List Int) (j : Nat) : Bool × Int × Int × List Int := if j = 0 then (false, 0, 0, []) else if (bwy f (j - 1)).2.length ≤ 8192 then (true, ((bwy f (j - 1)).1 : Int), ((bwy f (j - 1)).2.length : Int), pk (bwy f (j - 1)).2) else (false, 0, 0, [])
theorem qll {F : Nat} (hF : 2000000 ≤ F) {g : List (List Int)} (hg : Gr g) {B least : Int} {k i : Nat} (hh : hcE B least (k : Int) = 0) (hi : i ≤ g.length) : ∀ (n j : Nat), min B.toNat i + 1 < n + j → j ≤ min B.toNat i + 1 →
    zz F (g.take i) (g.getD i []) B least (k : Int) n ((bst (pkW g B least k i) j).1, (j : Int), (bst (pkW g B least k i) j).2.1, (bst (pkW g B least k i) j).2.2.1, (bst (pkW g B least k i) j).2.2.2) = some (if (pkN g B least k i).2.length ≤ 8192 then (((pkN g B least k i).1 : Int), ((pkN g B least k i).2.length : Int), pk (pkN g B least k i).2, true) else (0, 0, [], false))
  | 0, _, _, _ => by omega
  | n + 1, j, h, hj => by
    have hgl := hg.1
    have hti : (g.take i).length = i := by rw [List.length_take]; omega
    obtain ⟨k1, -, -⟩ := qaT hh
    show jM F (g.take i) (g.getD i []) B least (k : Int) (zz F (g.take i) (g.getD i []) B least (k : Int) n) (bst (pkW g B least k i) j).1 (j : Int) (bst (pkW g B least k i) j).2.1 (bst (pkW g B least k i) j).2.2.1 (bst (pkW g B least k i) j).2.2.2 = _
    unfold jM
    have hmin : imin B ((g.take i).length : Int) = ((min B.toNat i : Nat) : Int) := by
      rw [hti]; unfold imin; split <;> omega
    rw [hmin, qN (by omega) (by omega)]
    by_cases hlt : j < min B.toNat i + 1
    · rw [if_pos (by simp; omega), qoq hF hg hh hi (by omega)]
      simp only [Option.bind_some]
      have hrec := qll hF hg hh hi n (j + 1) (by omega) (by omega)
      have hnew : (pkW g B least k i j).length ≤ 8192 → bwy (pkW g B least k i) j = (j, pkW g B least k i j) → kM F (zz F (g.take i) (g.getD i []) B least (k : Int) n) (j : Int) true (j : Int) ((pkW g B least k i j).length : Int) (pk (pkW g B least k i j)) = some (if (pkN g B least k i).2.length ≤ 8192 then (((pkN g B least k i).1 : Int), ((pkN g B least k i).2.length : Int), pk (pkN g B least k i).2, true) else (0, 0, [], false)) := by
        intro h1 h2
        unfold kM
        rw [qw (by omega), ← hrec]
        unfold bst
        rw [if_neg (by omega), Nat.add_sub_cancel, h2, if_pos h1]
      have hold : bst (pkW g B least k i) (j + 1) = bst (pkW g B least k i) j → kM F (zz F (g.take i) (g.getD i []) B least (k : Int) n) (j : Int) (bst (pkW g B least k i) j).1 (bst (pkW g B least k i) j).2.1 (bst (pkW g B least k i) j).2.2.1 (bst (pkW g B least k i) j).2.2.2 = some (if (pkN g B least k i).2.length ≤ 8192 then (((pkN g B least k i).1 : Int), ((pkN g B least k i).2.length : Int), pk (pkN g B least k i).2, true) else (0, 0, [], false)) := by
        intro h1
        unfold kM
        rw [qw (by omega), ← hrec, h1]
      unfold jN
      by_cases hl : (pkW g B least k i j).length ≤ 8192
      · rw [if_pos hl]
        simp only [if_true]
        by_cases h0 : j = 0
        · subst h0
          rw [if_pos (by simp [bst])]
          exact hnew hl rfl
        · obtain ⟨q, rfl⟩ : ∃ q, j = q + 1 := ⟨j - 1, by omega⟩
          by_cases hb : (bwy (pkW g B least k i) q).2.length ≤ 8192
          · have e : bst (pkW g B least k i) (q + 1) = (true, ((bwy (pkW g B least k i) q).1 : Int), ((bwy (pkW g B least k i) q).2.length : Int), pk (bwy (pkW g B least k i) q).2) := by
              unfold bst
              rw [if_neg (by omega), Nat.add_sub_cancel, if_pos hb]
            by_cases hc : (pkW g B least k i (q + 1)).length < (bwy (pkW g B least k i) q).2.length
            · rw [if_pos (by rw [e]; simp; omega)]
              exact hnew hl (by rw [bwy, if_pos hc])
            · rw [if_neg (by rw [e]; simp; omega)]
              refine hold ?_
              rw [e]
              unfold bst
              rw [if_neg (by omega), Nat.add_sub_cancel, bwy, if_neg hc, if_pos hb]
          · have e : bst (pkW g B least k i) (q + 1) = (false, 0, 0, []) := by
              unfold bst
              rw [if_neg (by omega), Nat.add_sub_cancel, if_neg hb]
            rw [if_pos (by rw [e]; simp)]
            exact hnew hl (by rw [bwy, if_pos (by omega)])
      · rw [if_neg hl]
        simp only [Bool.false_eq_true, if_false]
        refine hold ?_
        unfold bst
        rw [if_neg (by omega), Nat.add_sub_cancel]
        by_cases h0 : j = 0
        · subst h0
          rw [if_pos rfl, bwy, if_neg hl]
        · obtain ⟨q, rfl⟩ : ∃ q, j = q + 1 := ⟨j - 1, by omega⟩
          rw [if_neg (show ¬ q + 1 = 0 by omega), Nat.add_sub_cancel, bwy]
          by_cases hc : (pkW g B least k i (q + 1)).length < (bwy (pkW g B least k i) q).2.length
          · rw [if_pos hc, if_neg hl, if_neg (by omega)]
          · rw [if_neg hc]
    · rw [if_neg (by simp; omega)]
      have : j = min B.toNat i + 1 := by omega
      subst this
      unfold qbi bst pkN
      rw [if_neg (by omega), Nat.add_sub_cancel]
      split <;> rfl
theorem qnh {F : Nat} (hF : 2000000 ≤ F) {g : List (List Int)} (hg : Gr g) {B least : Int} {k i : Nat} (hh : hcE B least (k : Int) = 0) (hi : i ≤ g.length) :
    qbv F (g.take i) (g.getD i []) B least (k : Int) = some (if (pkN g B least k i).2.length ≤ 8192 then (((pkN g B least k i).1 : Int), ((pkN g B least k i).2.length : Int), pk (pkN g B least k i).2, true) else (0, 0, [], false)) := by
  have hgl := hg.1
  have := qll hF hg hh hi F 0 (by omega) (Nat.zero_le _)
  exact this
theorem qnO {g : List (List Int)} {B least : Int} {k i r : Nat} : Bit (pkW g B least k i r) := by
  unfold pkW pkH
  refine zL ?_ qgK
  split
  · exact qb2 r
  · intro z hz; simp at hz
theorem qgY {g : List (List Int)} {B least : Int} {k i : Nat} : Bit (pkN g B least k i).2 := by
  rw [qcw.2]; exact qnO
theorem qb9 {g : List (List Int)} {B least : Int} {k : Nat} : ∀ n : Nat, Bit (pkA g B least k n).1
  | 0 => by intro z hz; simp [pkA] at hz
  | n + 1 => by unfold pkA; exact zL (qb9 n) qgY
theorem qhQ {g : List (List Int)} {i : Nat} (h : i < g.length) : idx g (i : Int) = some (g.getD i []) := by
  rw [qR, List.getD_eq_getElem?_getD, List.getElem?_eq_getElem h]
  rfl
theorem qjZ {F : Nat} (hF : 2000000 ≤ F) {g : List (List Int)} (hg : Gr g) {N B least : Int} {k : Nat} (hh : hcE B least (k : Int) = 0) : ∀ (j i : Nat), g.length < j + i → i ≤ g.length → (pkA g B least k i).1.length ≤ 8192 →
    ∃ z, qv F N B least (k : Int) g j ((i : Int), ((pkA g B least k i).1.length : Int), pk (pkA g B least k i).1, (pkA g B least k i).2.1, (pkA g B least k i).2.2) = some z ∧ z.1 = decide ((pkA g B least k g.length).1.length ≤ 8192) ∧
      (z.1 = true → z = (true, N, B, least, (k : Int), ((pkA g B least k g.length).1.length : Int), pk (pkA g B least k g.length).1, (pkA g B least k g.length).2.1, (pkA g B least k g.length).2.2))
  | 0, _, _, _, _ => by omega
  | j + 1, i, h, hi, hA => by
    have hgl := hg.1
    show ∃ z, kQ F N B least (k : Int) g (qv F N B least (k : Int) g j) (i : Int) ((pkA g B least k i).1.length : Int) (pk (pkA g B least k i).1) (pkA g B least k i).2.1 (pkA g B least k i).2.2 = some z ∧ _
    unfold kQ
    by_cases hlt : i < g.length
    · have e0 : sub g 0 (i : Int) = some (g.take i) := by
        have := qkn (l := g) (i := 0) (j := i) (by omega) hi
        simpa using this
      have hstep : (pkA g B least k (i + 1)).1.length = (pkA g B least k i).1.length + (pkN g B least k i).2.length := by rw [pkA, List.length_append]
      have hmono := qdD (g := g) (B := B) (least := least) (k := k) (show i + 1 ≤ g.length from hlt)
      rw [if_pos (by simp; omega), qhQ hlt, e0]
      simp only [Option.bind_some]
      rw [qnh hF hg hh hi]
      simp only [Option.bind_some]
      unfold kR
      by_cases h1 : (pkN g B least k i).2.length ≤ 8192
      · rw [if_pos h1]
        simp only [Bool.not_true, Bool.false_eq_true, if_false]
        rw [qN (by omega) (by omega)]
        unfold zM
        by_cases h2 : (pkA g B least k i).1.length + (pkN g B least k i).2.length ≤ 8192
        · rw [if_neg (by simp; omega)]
          have hl := qh0 (g := g) (B := B) (least := least) (k := k) i
          rw [vn (by rw [hl.1]; simp; omega)]
          simp only [Option.bind_some]
          rw [vn (by rw [hl.2]; simp; omega)]
          simp only [Option.bind_some]
          unfold zN
          rw [qgF (by omega) (qck (qb9 i)) (qck qgY) (qdC hA) (qdC h1), qaV (qb9 i), qaV qgY]
          simp only [Option.bind_some]
          have := qjZ hF hg (N := N) hh j (i + 1) (by omega) (by omega) (by omega)
          rw [qw (by omega), ← hstep]
          exact this
        · rw [if_pos (by simp; omega)]
          exact ⟨_, rfl, by simp only; rw [decide_eq_false (by omega)], fun h => by simp at h⟩
      · rw [if_neg h1]
        simp only [Bool.not_false, if_true]
        unfold zM
        rw [if_pos rfl]
        exact ⟨_, rfl, by simp only; rw [decide_eq_false (by omega)], fun h => by simp at h⟩
    · rw [if_neg (by simp; omega)]
      have : i = g.length := by omega
      subst this
      unfold vg
      exact ⟨_, rfl, by simp only; rw [decide_eq_true hA], fun _ => rfl⟩
theorem qf3 {F : Nat} (hF : 2000000 ≤ F) {g : List (List Int)} {B least k : Int} :
    ∃ z1 z2 z3 z4 z5 z6 z7 z8, jB F g B least k = some (z1, z2, z3, z4, z5, z6, z7, z8, pkE g B least k) ∧
      (pkE g B least k = 0 → (z1, z2, z3, z4, z5, z6, z7, z8) = ((g.length : Int), B, least, k, ((pkA g B least k.toNat g.length).1.length : Int), pk (pkA g B least k.toNat g.length).1, (pkA g B least k.toNat g.length).2.1, (pkA g B least k.toNat g.length).2.2)) := by
  unfold jB
  rw [qfF (by omega)]
  simp only [Option.bind_some]
  by_cases h1 : gchk g = 0
  · rw [if_pos (by simpa using h1), qdZ]
    simp only [Option.bind_some]
    unfold yU
    by_cases h2 : hcE B least k = 0
    · rw [if_pos (by simpa using h2)]
      obtain ⟨_, _, k', rfl, _, _⟩ := qaT h2
      have hg := qcE.1 h1
      have hgl := hg.1
      obtain ⟨z, hz, hz1, hz2⟩ := qjZ hF hg (N := (g.length : Int)) h2 F 0 (by omega) (Nat.zero_le _) (by simp [pkA])
      have hz' : jX F (g.length : Int) B least (k' : Int) 0 [] [] [] g = some z := by
        have e : pk ([] : List Int) = [] := by simp [pk]
        simp only [pkA, List.length_nil, e] at hz
        exact hz
      rw [hz']
      simp only [Option.bind_some]
      unfold kX kW
      rw [Int.toNat_natCast]
      by_cases h3 : (pkA g B least k' g.length).1.length ≤ 8192
      · rw [decide_eq_true h3] at hz1
        have := hz2 hz1
        have hE : pkE g B least (k' : Int) = 0 := qo7 h1 h2 (by rw [Int.toNat_natCast]; exact h3)
        rw [hE, h2]
        subst this
        exact ⟨_, _, _, _, _, _, _, _, rfl, fun _ => rfl⟩
      · rw [decide_eq_false h3] at hz1
        have hE : pkE g B least (k' : Int) = 8 := by
          unfold pkE
          rw [if_neg (by simp [h1]), if_neg (by simp [h2]), if_pos (by rw [Int.toNat_natCast]; omega)]
        rw [hE, hz1]
        exact ⟨_, _, _, _, _, _, _, _, rfl, fun h => by simp at h⟩
    · have hE : pkE g B least k = hcE B least k := by
        unfold pkE
        rw [if_neg (by simp [h1]), if_pos h2]
      rw [if_neg (by simpa using h2), hE]
      unfold kX kW
      exact ⟨_, _, _, _, _, _, _, _, rfl, fun h => absurd h h2⟩
  · have hE : pkE g B least k = gchk g := by
      unfold pkE
      rw [if_pos h1]
    rw [if_neg (by simpa using h1), hE]
    unfold yU kX kW
    rw [if_neg (by simpa using h1)]
    exact ⟨_, _, _, _, _, _, _, _, rfl, fun h => absurd h h1⟩
def pwr (g : List (List Int)) (B least k : Int) : Int × Int × Int × Int × Int × List Int × Int :=
  if pkE g B least k ≠ 0 then (0, 0, 0, 0, 0, [], pkE g B least k) else ((g.length : Int), B, least, k, ((pkA g B least k.toNat g.length).1.length : Int), pk (pkA g B least k.toNat g.length).1, 0)
def ptl (g : List (List Int)) (B least k : Int) : List Int × List Int × Int :=
  if pkE g B least k ≠ 0 then ([], [], pkE g B least k) else ((pkA g B least k.toNat g.length).2.1, (pkA g B least k.toNat g.length).2.2, 0)
theorem qf6 {F : Nat} (hF : 2000000 ≤ F) {g : List (List Int)} {B least k : Int} : qae F g B least k = some (pwr g B least k) := by
  obtain ⟨z1, z2, z3, z4, z5, z6, z7, z8, hz, hz2⟩ := qf3 hF (g := g) (B := B) (least := least) (k := k)
  unfold qae pwr
  rw [hz]
  simp only [Option.bind_some]
  by_cases h : pkE g B least k = 0
  · rw [if_neg (by simp [h]), if_neg (by simp [h])]
    have := hz2 h
    simp only [Prod.mk.injEq] at this
    obtain ⟨rfl, rfl, rfl, rfl, rfl, rfl, -, -⟩ := this
    rfl
  · rw [if_pos (by simpa using h), if_pos h]
theorem qml {F : Nat} (hF : 2000000 ≤ F) {g : List (List Int)} {B least k : Int} : qaM F g B least k = some (ptl g B least k) := by
  obtain ⟨z1, z2, z3, z4, z5, z6, z7, z8, hz, hz2⟩ := qf3 hF (g := g) (B := B) (least := least) (k := k)
  unfold qaM ptl
  rw [hz]
  simp only [Option.bind_some]
  by_cases h : pkE g B least k = 0
  · rw [if_neg (by simp [h]), if_neg (by simp [h])]
    have := hz2 h
    simp only [Prod.mk.injEq] at this
    obtain ⟨-, -, -, -, -, -, rfl, rfl⟩ := this
    rfl
  · rw [if_pos (by simpa using h), if_pos h]
theorem qmc {F : Nat} {xs ys : List Int} (he : xs.length = ys.length) (hm : xs.length ≤ 1000000) : ∀ (k i : Nat), xs.length < k + i → i ≤ xs.length → qA F xs ys k (i : Int) = some (decide (xs.drop i = ys.drop i))
  | 0, _, _, _ => by omega
  | k + 1, i, h, hi => by
    show qX F xs ys (qA F xs ys k) (i : Int) = _
    unfold qX
    by_cases hlt : i < xs.length
    · have hlt' : i < ys.length := by omega
      rw [if_pos (by simp; omega), qR, List.getElem?_eq_getElem hlt, qR, List.getElem?_eq_getElem hlt']
      simp only [Option.bind_some]
      rw [List.drop_eq_getElem_cons hlt, List.drop_eq_getElem_cons hlt']
      by_cases hc : xs[i] = ys[i]
      · rw [if_neg (by simp [hc]), qw (by omega), qmc he hm k (i + 1) (by omega) (by omega)]
        congr 1
        rw [decide_eq_decide, List.cons.injEq]
        exact ⟨fun h => ⟨hc, h⟩, fun h => h.2⟩
      · rw [if_pos (by simpa using hc), decide_eq_false (fun e => hc (List.cons.inj e).1)]
    · rw [if_neg (by simp; omega), List.drop_eq_nil_of_le (by omega), List.drop_eq_nil_of_le (by omega)]
      rfl
theorem peqb {F : Nat} {xs ys : List Int} (hF : xs.length < F) (hm : xs.length ≤ 1000000) : qE F xs ys = some (decide (xs = ys)) := by
  unfold qE
  by_cases h : xs.length = ys.length
  · rw [if_neg (by simp [h])]
    have := qmc (F := F) h hm F 0 (by omega) (Nat.zero_le _)
    rw [List.drop_zero, List.drop_zero] at this
    exact this
  · rw [if_pos (by simp; omega), decide_eq_false (fun e => h (by rw [e]))]
theorem qkV {l : List Int} {p : Nat} {most : Int} (h : rgam l p most = none) : (fg l p).2.2 ≠ 0 ∨ most < (fg l p).1 := by
  unfold rgam at h
  by_cases h1 : (fg l p).2.2 = 0
  · right
    by_cases h2 : (fg l p).1 ≤ most
    · rw [if_pos ⟨h1, h2⟩] at h; simp at h
    · omega
  · left; exact h1
theorem qj7 {l : List Int} {p : Nat} {most : Int} {x : Int × Nat} (h : rgam l p most = some x) : fg l p = (x.1, (x.2 : Int), 0) ∧ x.1 ≤ most := by
  unfold rgam at h
  split at h
  · rename_i hc
    simp only [Option.some.injEq] at h
    rw [← h]
    have h3 : 0 ≤ (fg l p).2.1 := by
      rcases qlC (l := l) (a := p) with h1 | ⟨n, q, h1, h2, h3⟩
      · exact absurd hc.1 h1
      · rw [h1]; simp
    refine ⟨?_, hc.2⟩
    simp only
    rw [Int.toNat_of_nonneg h3, ← hc.1]
  · simp at h
theorem qme {l : List Int} {B : Int} (_hB : 0 ≤ B) {node p : Nat} (hp : p ≤ l.length) {o : Int × Nat} (h : pkO l B node p = some o) : 0 ≤ o.1 ∧ o.1 ≤ min B (node : Int) ∧ o.2 ≤ l.length := by
  unfold pkO at h
  split at h
  · simp only [Option.some.injEq] at h
    subst h
    simp only
    omega
  · have := vo h
    omega
theorem qjX {F : Nat} (hF : 20000 ≤ F) {l : List Int} (hl : Bit l) (hm : l.length ≤ 8192) {N B least k : Int} (hB : 0 ≤ B ∧ B ≤ 7) {node p : Nat} (hn : node ≤ 1000) (hp : p ≤ l.length) :
    qbh F N B least k (l.length : Int) (pk l) (p : Int) (node : Int) = some (match pkO l B node p with | none => (0, 0, false) | some o => (o.1, (o.2 : Int), true)) := by
  unfold qbh pkO
  by_cases h0 : B = 0
  · rw [if_pos (by simpa using h0), if_pos h0]
  · rw [if_neg (by simpa using h0), if_neg h0, qdt hF hl hm hp]
    simp only [Option.bind_some]
    have hmin : imin B (node : Int) = min B (node : Int) := by unfold imin; split <;> omega
    have hcv : iconv .u64 (min B (node : Int)) = min B (node : Int) := by
      obtain ⟨q, hq⟩ := Int.eq_ofNat_of_zero_le (a := min B (node : Int)) (by omega)
      rw [hq]; exact kz (by omega)
    unfold qaD
    rw [hmin, hcv]
    cases hr : rgam l p (min B (node : Int)) with
    | none =>
      rcases qkV hr with h1 | h1
      · rw [if_pos (by simpa using h1), if_pos rfl]
      · by_cases h2 : (fg l p).2.2 = 0
        · rw [if_neg (by simp [h2]), if_pos (by simpa using h1)]
        · rw [if_pos (by simpa using h2), if_pos rfl]
    | some x =>
      obtain ⟨h1, h2⟩ := qj7 hr
      have hok := vo hr
      rw [h1]
      simp only
      rw [if_neg (by simp), if_neg (by simp; omega)]
      have e : iconv .i64 x.1 = x.1 := zW (by omega) (by omega)
      rw [e]
theorem qh5 {F k : Nat} (hF : 2000000 ≤ F) {l : List Int} (hl : Bit l) (hm : l.length ≤ 8192) {B least : Int} (hh : hcE B least (k : Int) = 0) {n : Nat} (hn : n ≤ 100) : ∀ (j p : Nat) (out : List (List Int)), n < j + out.length → out.length ≤ n → p ≤ l.length → (∀ x ∈ out, gkc x = 0) →
    zZ F (n : Int) B least (k : Int) (l.length : Int) (pk l) j (out, (p : Int), (out.length : Int)) = some (match pkR l B least k (n - out.length) out p with | none => ([], false) | some r => (r.1, decide (r.2 = l.length)))
  | 0, _, _, _, _, _, _ => by omega
  | j + 1, p, out, h, ho, hp, hg => by
    obtain ⟨k1, k2, k', hk, k3, k4⟩ := qaT hh
    have hkk : k = k' := by omega
    subst hkk
    show jO F (n : Int) B least (k : Int) (l.length : Int) (pk l) (zZ F (n : Int) B least (k : Int) (l.length : Int) (pk l) j) out (p : Int) (out.length : Int) = _
    unfold jO
    by_cases hlt : out.length < n
    · rw [if_pos (by simp; omega), qjX (by omega) hl hm k1 (by omega) hp, show n - out.length = (n - (out.length + 1)) + 1 from by omega]
      simp only [Option.bind_some, pkR]
      cases hO : pkO l B out.length p with
      | none => rfl
      | some o =>
        obtain ⟨o1, o2, o3⟩ := qme k1.1 hp hO
        simp only [Bool.not_true, Bool.false_eq_true, if_false, Option.bind_some]
        have hfr : gkc (pkF out out.length o.1.toNat) = 0 := by
          unfold pkF
          split
          · rw [List.getD_eq_getElem?_getD]
            by_cases hq : out.length - o.1.toNat < out.length
            · rw [List.getElem?_eq_getElem hq]; exact hg _ (List.getElem_mem hq)
            · rw [List.getElem?_eq_none (by omega)]; decide
          · decide
        have hstep : ∀ fr : List Int, fr = pkF out out.length o.1.toNat → ((va F (l.length : Int) (pk l) (o.2 : Int) (out.length : Int) fr o.1 least (k : Int)).bind fun x488 => (if ((x488.2.2 : Int) != 0) then some (([] : List (List Int)), false) else ((app 2199023255552 out ([x488.1] : List (List Int))).bind fun x494 => vu F (zZ F (n : Int) B least (k : Int) (l.length : Int) (pk l) j) (out.length : Int) x494 x488.2.1))) = some (match (rdl l o.2 (out.length : Int) (pkF out out.length o.1.toNat) o.1 least k).bind fun r => pkR l B least k (n - (out.length + 1)) (out ++ [r.1]) r.2 with | none => ([], false) | some r => (r.1, decide (r.2 = l.length))) := by
          intro fr hfe
          subst hfe
          rw [qif hF k3 k4 hl hm (by unfold Nd; omega) o3 (fun _ => hfr) k2]
          simp only [Option.bind_some]
          cases hr : rdl l o.2 (out.length : Int) (pkF out out.length o.1.toNat) o.1 least k with
          | none => rfl
          | some r =>
            obtain ⟨r1, r2, r3, r4, r5⟩ := qh8 hl k3 hr
            simp only [Option.bind_some]
            rw [if_neg (by simp), vn (by simp; omega)]
            simp only [Option.bind_some]
            unfold vu
            have hl1 : (out ++ [r.1]).length = out.length + 1 := by simp
            have hrec := qh5 hF hl hm hh hn j r.2 (out ++ [r.1]) (by omega) (by omega) r5 (fun x hx => by
              rcases List.mem_append.1 hx with hx | hx
              · exact hg x hx
              · simp at hx; subst hx; exact r1)
            rw [hl1] at hrec
            rw [qw (by omega), hrec]
        by_cases h0 : 0 < o.1
        · rw [if_pos (by simpa using h0), zd (by omega) (by omega), show ((out.length : Int) - o.1) = ((out.length - o.1.toNat : Nat) : Int) from by omega, qhQ (by omega)]
          simp only [Option.bind_some]
          exact hstep _ (by unfold pkF; rw [if_pos (by omega)])
        · rw [if_neg (by simpa using h0)]
          exact hstep _ (by unfold pkF; rw [if_neg (by omega)])
    · rw [if_neg (by simp; omega), show n - out.length = 0 from by omega]
      unfold qaR
      simp only [pkR]
      congr 2
      by_cases hpl : p = l.length
      · subst hpl; simp
      · rw [decide_eq_false hpl]; simp; omega
def pcE (N B least k m : Int) (b : List Int) : Int := if N < 0 ∨ 100 < N then 3 else if hcE B least k ≠ 0 then hcE B least k else chkOf m b
def prd (N B least k m : Int) (b : List Int) : List (List Int) × Int :=
  if pcE N B least k m b ≠ 0 then ([], pcE N B least k m b) else
  match pkR (bl b m.toNat) B least k.toNat N.toNat [] 0 with
  | none => ([], 1)
  | some r => if r.2 = m.toNat ∧ pkE r.1 B least k = 0 ∧ pk (pkA r.1 B least k.toNat r.1.length).1 = b then (r.1, 0) else ([], 1)
theorem qiU {F : Nat} {N B least k m : Int} {b : List Int} (hb : U8s b) (hm : I64 m) (lb : b.length ≤ 9223372036854775807) : qaZ F N B least k m b = some (pcE N B least k m b) := by
  unfold qaZ pcE
  by_cases h1 : N < 0 ∨ 100 < N
  · rw [if_pos (by simpa using h1), if_pos h1]
  · rw [if_neg (by simpa using h1), if_neg h1, qdZ]
    simp only [Option.bind_some]
    by_cases h2 : hcE B least k = 0
    · rw [if_neg (by simp [h2]), if_neg (by simp [h2]), qeG hb hm.1 hm.2 lb]
      rfl
    · rw [if_pos (by simpa using h2), if_pos h2]
theorem qmb {N B least k m : Int} {b : List Int} (hb : U8s b) (h : pcE N B least k m b = 0) : ∃ (n : Nat) (l : List Int), N = (n : Int) ∧ n ≤ 100 ∧ hcE B least k = 0 ∧ Bit l ∧ l.length ≤ 8192 ∧ m = (l.length : Int) ∧ b = pk l := by
  unfold pcE at h
  by_cases h1 : N < 0 ∨ 100 < N
  · rw [if_pos h1] at h; simp at h
  · rw [if_neg h1] at h
    by_cases h2 : hcE B least k = 0
    · rw [if_neg (by simp [h2])] at h
      rcases qeH hb (n := m) with h3 | ⟨l, hl, hm, e1, e2⟩
      · exact absurd h h3
      · exact ⟨N.toNat, l, by omega, by omega, h2, hl, hm, e1, e2⟩
    · rw [if_pos h2] at h; exact absurd h h2
theorem qmk {F : Nat} (hF : 2000000 ≤ F) {N B least k m : Int} {b : List Int} (hb : U8s b) (hm : I64 m) (lb : b.length ≤ 9223372036854775807) : qbu F N B least k m b = some (prd N B least k m b) := by
  unfold qbu prd
  rw [qiU hb hm lb]
  simp only [Option.bind_some]
  by_cases h : pcE N B least k m b = 0
  · rw [if_neg (by simp [h]), if_neg (by simp [h])]
    obtain ⟨n, l, rfl, hn, hh, hl, hlm, rfl, rfl⟩ := qmb hb h
    obtain ⟨k1, k2, k', rfl, k3, k4⟩ := qaT hh
    have hL := qh5 (F := F) hF hl hlm hh hn F 0 [] (by simp; omega) (Nat.zero_le _) (Nat.zero_le _) (by simp)
    have hL' : qbY F (n : Int) B least (k' : Int) (l.length : Int) (pk l) = _ := hL
    rw [hL']
    simp only [Option.bind_some, List.length_nil, Nat.sub_zero, Int.toNat_natCast, qaV hl]
    cases hr : pkR l B least k' n [] 0 with
    | none => rfl
    | some r =>
      simp only
      by_cases hp : r.2 = l.length
      · rw [decide_eq_true hp, if_neg (by simp), qf6 hF]
        simp only [Option.bind_some]
        unfold pwr qad
        by_cases hE : pkE r.1 B least (k' : Int) = 0
        · rw [if_neg (by simp [hE])]
          simp only [Int.toNat_natCast]
          obtain ⟨_, _, hA⟩ := qdc hE
          rw [Int.toNat_natCast] at hA
          rw [if_neg (by simp [hE]), peqb (by rw [qcx]; omega) (by rw [qcx]; omega)]
          simp only [Option.bind_some]
          by_cases hq : pk (pkA r.1 B least k' r.1.length).1 = pk l
          · rw [decide_eq_true hq, if_neg (by simp), if_pos ⟨hp, hE, hq⟩]
          · rw [decide_eq_false hq, if_pos (by simp), if_neg (fun hc => hq hc.2.2)]
        · rw [if_pos hE, if_pos (by simpa using hE), if_pos rfl, if_neg (fun hc => hE hc.2.1)]
      · rw [decide_eq_false hp, if_pos (by simp), if_neg (fun hc => hp hc.1)]
  · rw [if_pos (by simpa using h), if_pos h]
theorem qmt {l : List Int} (hl : Bit l) {p : Nat} {most : Int} {x : Int × Nat} (h : rgam l p most = some x) : x.2 = p + (ga x.1.toNat).length := by
  have hf := (qj7 h).1
  unfold fg at hf
  cases hz : fz (l.drop p) with
  | none => rw [hz] at hf; simp at hf
  | some k =>
    rw [hz] at hf
    simp only at hf
    unfold numOf at hf
    by_cases h1 : 64 ≤ k
    · rw [if_pos h1] at hf; simp at hf
    · rw [if_neg h1] at hf
      by_cases h2 : l.length < p + k + 1 + k
      · rw [if_pos h2] at hf; simp at hf
      · rw [if_neg h2] at hf
        by_cases h3 : 1099511627776 < bv ((l.drop (p + k + 1)).take k) + 2 ^ k - 1
        · rw [if_pos h3] at hf; simp at hf
        · rw [if_neg h3] at hf
          simp only [Prod.mk.injEq, and_true] at hf
          have hb := qjt (qdp (qcr hl (p + k + 1)) k)
          rw [List.length_take, List.length_drop, Nat.min_eq_left (by omega)] at hb
          have hp0 : 0 < 2 ^ k := Nat.pow_pos (by decide)
          have hn : x.1.toNat = bv ((l.drop (p + k + 1)).take k) + 2 ^ k - 1 := by omega
          have hlg : lg x.1.toNat = k := qkP (by omega) (by rw [Nat.pow_succ]; omega)
          rw [qgN, hlg]
          omega
theorem qnN {l : List Int} (hl : Bit l) {B : Int} (hB : 0 ≤ B) {node p : Nat} {o : Int × Nat} (h : pkO l B node p = some o) : o.2 = p + (pkH B o.1.toNat).length := by
  unfold pkO at h
  unfold pkH
  split at h
  · rename_i h0
    simp only [Option.some.injEq] at h
    subst h
    rw [if_neg (by omega)]
    simp
  · rw [if_pos (by omega)]
    exact qmt hl h
theorem qhP {g : List (List Int)} {x : List Int} {i : Nat} (h : i < g.length) : (g ++ [x]).getD i [] = g.getD i [] := by
  rw [List.getD_eq_getElem?_getD, List.getD_eq_getElem?_getD, List.getElem?_append_left h]
theorem qjS {g : List (List Int)} {x : List Int} {i r : Nat} (h : i ≤ g.length) (hr : r ≤ i) : pkF (g ++ [x]) i r = pkF g i r := by
  unfold pkF
  split
  · exact qhP (by omega)
  · rfl
theorem qnM {g : List (List Int)} {x : List Int} {B least : Int} {k i : Nat} (h : i < g.length) : pkN (g ++ [x]) B least k i = pkN g B least k i := by
  unfold pkN
  refine qfP fun r hr => ?_
  unfold pkW
  rw [qhP h, qjS (by omega) (by omega)]
theorem qjR {g : List (List Int)} {x : List Int} {B least : Int} {k : Nat} : ∀ {i : Nat}, i ≤ g.length → pkA (g ++ [x]) B least k i = pkA g B least k i
  | 0, _ => rfl
  | i + 1, h => by
    unfold pkA
    rw [qjR (i := i) (by omega), qnM (by omega)]
theorem qh2 {l : List Int} (hl : Bit l) {B least : Int} {k : Nat} (hB : 0 ≤ B) (hk : 1 ≤ k) : ∀ (m p : Nat) (out : List (List Int)) (r : List (List Int) × Nat), pkR l B least k m out p = some r → p ≤ l.length → (pkA out B least k out.length).1.length ≤ p →
    r.1.length = out.length + m ∧ (pkA r.1 B least k r.1.length).1.length ≤ r.2
  | 0, p, out, r, h, _, hA => by
    simp only [pkR, Option.some.injEq] at h
    subst h
    exact ⟨rfl, hA⟩
  | m + 1, p, out, r, h, hp, hA => by
    unfold pkR at h
    rw [Option.bind_eq_some_iff] at h
    obtain ⟨o, ho, h⟩ := h
    rw [Option.bind_eq_some_iff] at h
    obtain ⟨d, hd, h⟩ := h
    obtain ⟨o1, o2, o3⟩ := qme hB hp ho
    have hol := qnN hl hB ho
    obtain ⟨d1, d2, d3, d4, d5⟩ := qh8 hl hk hd
    have hn1 : (out ++ [d.1]).length = out.length + 1 := by simp
    have hmin := qju (pkW (out ++ [d.1]) B least k out.length) (n := min B.toNat out.length) (r := o.1.toNat) (by omega)
    have hW : (pkW (out ++ [d.1]) B least k out.length o.1.toNat).length = (pkH B o.1.toNat).length + (enc (out.length : Int) d.1 (pkF out out.length o.1.toNat) o.1 least k).length := by
      unfold pkW
      rw [List.length_append, qjS (Nat.le_refl _) (by omega), show ((o.1.toNat : Nat) : Int) = o.1 from by omega]
      congr 3
      rw [List.getD_eq_getElem?_getD, List.getElem?_append_right (Nat.le_refl _)]
      simp
    have hrec := qh2 hl hB hk m d.2 (out ++ [d.1]) r h d5 (by
      rw [hn1, pkA, List.length_append, qjR (Nat.le_refl _)]
      unfold pkN
      omega)
    rw [hn1] at hrec
    exact ⟨by omega, hrec.2⟩
theorem qmj {g : List (List Int)} {B least k : Int} (h : pkE g B least k = 0) : prd (g.length : Int) B least k ((pkA g B least k.toNat g.length).1.length : Int) (pk (pkA g B least k.toNat g.length).1) = (g, 0) := by
  obtain ⟨h1, h2, h3⟩ := qdc h
  have hg := qcE.1 h1
  have hgl := hg.1
  obtain ⟨k1, k2, k', rfl, k3, k4⟩ := qaT h2
  rw [Int.toNat_natCast] at h3 ⊢
  have hE : pcE (g.length : Int) B least (k' : Int) ((pkA g B least k' g.length).1.length : Int) (pk (pkA g B least k' g.length).1) = 0 := by
    unfold pcE
    rw [if_neg (by omega), if_neg (by simp [h2]), qeI h3]
  have hr := qgZ hg h2 h3 [] g.length 0 (by omega)
  have hr' : pkR (pkA g B least k' g.length).1 B least k' g.length [] 0 = some (g, (pkA g B least k' g.length).1.length) := by
    rw [List.append_nil] at hr
    exact hr
  unfold prd
  rw [if_neg (by simp [hE])]
  simp only [Int.toNat_natCast]
  rw [qaV (qb9 _), hr']
  simp only
  rw [if_pos ⟨trivial, h, trivial⟩]
theorem qpa {N B least k m : Int} {b : List Int} (hb : U8s b) (h : (prd N B least k m b).2 = 0) : ∃ g, prd N B least k m b = (g, 0) ∧ pkE g B least k = 0 ∧ N = (g.length : Int) ∧ m = ((pkA g B least k.toNat g.length).1.length : Int) ∧ b = pk (pkA g B least k.toNat g.length).1 := by
  have h0 := h
  unfold prd at h
  by_cases hE : pcE N B least k m b = 0
  · rw [if_neg (by simp [hE])] at h
    obtain ⟨n, l, rfl, hn, hh, hl, hlm, rfl, rfl⟩ := qmb hb hE
    obtain ⟨k1, k2, k', rfl, k3, k4⟩ := qaT hh
    simp only [Int.toNat_natCast, qaV hl] at h
    cases hr : pkR l B least k' n [] 0 with
    | none => rw [hr] at h; simp at h
    | some r =>
      rw [hr] at h
      simp only at h
      split at h
      · rename_i hc
        obtain ⟨c1, c2, c3⟩ := hc
        obtain ⟨g1, g2, g3⟩ := qdc c2
        rw [Int.toNat_natCast] at g3
        have hg := qcE.1 g1
        obtain ⟨b1, b2⟩ := qh2 hl k1.1 k3 n 0 [] r hr (Nat.zero_le _) (by simp [pkA])
        rw [List.length_nil, Nat.zero_add] at b1
        have hq : l = (pkA r.1 B least k' r.1.length).1 ++ l.drop (pkA r.1 B least k' r.1.length).1.length := by
          have e1 : l.take (pkA r.1 B least k' r.1.length).1.length = (pkA r.1 B least k' r.1.length).1 := by
            have := qnk (b := pk l) (n := (pkA r.1 B least k' r.1.length).1.length) (m := l.length) (by omega)
            rw [qaV hl, ← c3, qaV (qb9 _)] at this
            exact this
          conv => lhs; rw [← List.take_append_drop (pkA r.1 B least k' r.1.length).1.length l, e1]
        have hr2 := qgZ hg hh g3 (l.drop (pkA r.1 B least k' r.1.length).1.length) r.1.length 0 (by omega)
        rw [← hq] at hr2
        have hr3 : pkR l B least k' n [] 0 = some (r.1, (pkA r.1 B least k' r.1.length).1.length) := by
          rw [← b1]; exact hr2
        rw [hr] at hr3
        have e2 : r.2 = (pkA r.1 B least k' r.1.length).1.length := by
          have := Option.some.inj hr3
          rw [this]
        refine ⟨r.1, ?_, c2, by omega, by rw [Int.toNat_natCast]; omega, by rw [Int.toNat_natCast]; exact c3.symm⟩
        unfold prd
        rw [if_neg (by simp [hE])]
        simp only [Int.toNat_natCast, qaV hl, hr]
        rw [if_pos ⟨c1, c2, c3⟩]
      · simp at h
  · rw [if_pos hE] at h
    exact absurd h hE
def pkSome : List (List Int) := [[1, 2, 3, 5], [1, 2, 3, 5], [0, 1, 2, 3, 5], [], [4], [1, 2, 3]]
def plc (bit : Int) : List Int → Nat → Option Nat
  | [], _ => none
  | x :: l, i => if x = bit then (match i with | 0 => some 0 | i + 1 => (plc bit l i).map (· + 1)) else (plc bit l i).map (· + 1)
theorem qe3 (bit x : Int) (l : List Int) (i : Nat) : plc bit (x :: l) i = if x = bit then (match i with | 0 => some 0 | i + 1 => (plc bit l i).map (· + 1)) else (plc bit l i).map (· + 1) := rfl
theorem qg0 {F : Nat} {l : List Int} (hl : Bit l) (hm : l.length ≤ 10000) (bit : Int) : ∀ (k j i : Nat), l.length < k + j → j ≤ l.length → i < 9223372036854775808 →
    (∃ s, plc bit (l.drop j) i = none ∧ qB F (fun (x31 : Int) (x37 : Int) => qD F x31 x37) (l.length : Int) (pk l) bit k ((j : Int), (i : Int)) = some (.inl s)) ∨
    (∃ a q, plc bit (l.drop j) i = some a ∧ qB F (fun (x31 : Int) (x37 : Int) => qD F x31 x37) (l.length : Int) (pk l) bit k ((j : Int), (i : Int)) = some (.inr (((j + a : Nat) : Int), q)))
  | 0, _, _, _, _, _ => by omega
  | k + 1, j, i, h, hj, hi => by
    have e : qB F (fun (x31 : Int) (x37 : Int) => qD F x31 x37) (l.length : Int) (pk l) bit (k + 1) ((j : Int), (i : Int)) =
      kn F (fun (x31 : Int) (x37 : Int) => qD F x31 x37) (l.length : Int) (pk l) bit (qB F (fun (x31 : Int) (x37 : Int) => qD F x31 x37) (l.length : Int) (pk l) bit k) (j : Int) (i : Int) := rfl
    rw [e]
    unfold kn
    by_cases hlt : j < l.length
    · rw [if_pos (by simp; omega), qhB hl (by omega) hlt, List.drop_eq_getElem_cons hlt, qe3]
      simp only [Option.bind_some]
      by_cases h1 : l[j] = bit
      · rw [if_pos h1, if_pos (by simpa using h1)]
        cases i with
        | zero =>
          right
          exact ⟨0, 0, rfl, rfl⟩
        | succ i =>
          have : qD F ((i + 1 : Nat) : Int) (j : Int) = some (.inl (i : Int)) := by
            unfold qD
            rw [if_neg (by simp; omega), qaI (by omega) (by omega), Nat.add_sub_cancel]
          rw [this]
          simp only [Option.bind_some, Sum.elim_inl, zH]
          rw [qw (by omega)]
          rcases qg0 (F := F) hl hm bit k (j + 1) i (by omega) (by omega) (by omega) with ⟨s, h2, h3⟩ | ⟨a, q, h2, h3⟩
          · left; exact ⟨s, by rw [h2]; rfl, h3⟩
          · right; exact ⟨a + 1, q, by rw [h2]; rfl, by rw [h3, show j + 1 + a = j + (a + 1) from by omega]⟩
      · rw [if_neg h1, if_neg (by simpa using h1)]
        simp only [zH]
        rw [qw (by omega)]
        rcases qg0 (F := F) hl hm bit k (j + 1) i (by omega) (by omega) hi with ⟨s, h2, h3⟩ | ⟨a, q, h2, h3⟩
        · left; exact ⟨s, by rw [h2]; rfl, h3⟩
        · right; exact ⟨a + 1, q, by rw [h2]; rfl, by rw [h3, show j + 1 + a = j + (a + 1) from by omega]⟩
    · rw [if_neg (by simp; omega), List.drop_eq_nil_of_le (by omega)]
      left; exact ⟨_, rfl, rfl⟩
theorem qe2 {F : Nat} (hF : 20000 ≤ F) {l : List Int} (hl : Bit l) (hm : l.length ≤ 10000) {bit : Int} {i : Nat} (hi : i < 9223372036854775808) :
    vk F (l.length : Int) (pk l) bit (i : Int) = some (match plc bit l i with | none => -1 | some a => (a : Int)) := by
  unfold vk
  simp only [qaF, Option.bind_some, jS]
  rcases qg0 (F := F) hl hm bit F 0 i (by omega) (by omega) hi with ⟨s, h2, h3⟩ | ⟨a, q, h2, h3⟩
  · rw [List.drop_zero] at h2
    rw [show ((0 : Nat) : Int) = 0 from rfl] at h3
    rw [h3, h2]; rfl
  · rw [List.drop_zero] at h2
    rw [show ((0 : Nat) : Int) = 0 from rfl] at h3
    rw [h3, h2, Nat.zero_add]; rfl
theorem qhD : Bit [] := by intro x hx; simp at hx
theorem qiG {n m : Nat} (hm : m ≤ 62) (h : n * 2 ^ m < 9223372036854775808) : ishl .i64 (n : Int) (m : Int) = ((n * 2 ^ m : Nat) : Int) := by
  unfold ishl
  have h1 : min ((m : Int).toNat) (IntKind.bits .i64) = m := by simp [IntKind.bits]; omega
  rw [h1]
  have e : (n : Int) * 2 ^ m = ((n * 2 ^ m : Nat) : Int) := by rw [Int.natCast_mul, Int.natCast_pow]; rfl
  rw [e]
  generalize n * 2 ^ m = q at h
  exact zW (by omega) (by omega)
theorem qiI {n m : Nat} (hm : m ≤ 62) : ishr .i64 (n : Int) (m : Int) = ((n / 2 ^ m : Nat) : Int) := by
  rw [qcG (by simp only [IntKind.bits]; omega)]
  norm_cast
theorem qo3 {n m : Nat} (hm : m ≤ 62) (hn : n < 9223372036854775808) : iand .i64 (n : Int) ((2 ^ m - 1 : Nat) : Int) = ((n % 2 ^ m : Nat) : Int) := by
  unfold iand
  have h1 : (BitVec.ofInt (IntKind.bits .i64) (n : Int)) = BitVec.ofNat 64 n := by simp [IntKind.bits]
  have h2 : (BitVec.ofInt (IntKind.bits .i64) ((2 ^ m - 1 : Nat) : Int)) = BitVec.ofNat 64 (2 ^ m - 1) := by simp [IntKind.bits]
  have h3 : 2 ^ m ≤ 2 ^ 62 := Nat.pow_le_pow_right (by decide) hm
  rw [show (2 : Nat) ^ 62 = 4611686018427387904 from by decide] at h3
  rw [h1, h2]
  have h4 : (BitVec.ofNat 64 n &&& BitVec.ofNat 64 (2 ^ m - 1)).toNat = n % 2 ^ m := by
    rw [BitVec.toNat_and, BitVec.toNat_ofNat, BitVec.toNat_ofNat, Nat.mod_eq_of_lt (a := n) (by omega), Nat.mod_eq_of_lt (a := 2 ^ m - 1) (by omega), Nat.and_two_pow_sub_one_eq_mod]
  show IntKind.wrap .i64 ((BitVec.ofNat 64 n &&& BitVec.ofNat 64 (2 ^ m - 1)).toNat : Int) = _
  rw [h4]
  have := Nat.mod_le n (2 ^ m)
  generalize n % 2 ^ m = q at this
  exact zW (by omega) (by omega)
theorem qgR {a b : Nat} (h : a * b < 9223372036854775808) : imul .i64 (a : Int) (b : Int) = ((a * b : Nat) : Int) := by
  unfold imul
  rw [← Int.natCast_mul]
  generalize a * b = q at h
  exact zW (by omega) (by omega)
def wd (n t : Nat) : Nat := if n = 0 then 0 else len ((t + 1) / n) - 1
theorem qor {n t w : Nat} (hn : n ≠ 0) : n * 2 ^ (w + 1) ≤ t + 1 ↔ w < wd n t := by
  unfold wd
  rw [if_neg hn]
  have h1 := qbL (x := (t + 1) / n) (k := w + 1)
  have h2 := Nat.le_div_iff_mul_le (x := 2 ^ (w + 1)) (y := t + 1) (k := n) (by omega)
  rw [Nat.mul_comm] at h2
  omega
theorem qiq {n t : Nat} (ht : t ≤ 1048576) : wd n t ≤ 20 := by
  unfold wd
  split
  · omega
  · have h1 : (t + 1) / n ≤ t + 1 := Nat.div_le_self _ _
    have h2 : len ((t + 1) / n) ≤ 21 := qbL.2 (by omega)
    omega
theorem qkv {F n t : Nat} (hn : n ≤ 300) (ht : t ≤ 1048576) : ∀ (k w : Nat), wd n t < k + w → w ≤ wd n t →
    km F (n : Int) (t : Int) k (w : Int) = some ((wd n t : Nat) : Int)
  | 0, _, _, _ => by omega
  | k + 1, w, h, hw => by
    show jt F (n : Int) (t : Int) (km F (n : Int) (t : Int) k) (w : Int) = _
    unfold jt
    have h20 := qiq (n := n) ht
    by_cases h0 : n = 0
    · subst h0
      have : wd 0 t = 0 := rfl
      rw [if_neg (by simp)]
      unfold yS
      rw [if_neg (by simp)]
      obtain rfl : w = 0 := by omega
      rw [this]; rfl
    · have hp : 2 ^ (w + 1) ≤ 2 ^ 21 := Nat.pow_le_pow_right (by decide) (by omega)
      have hm : n * 2 ^ (w + 1) ≤ 300 * 2 ^ 21 := Nat.mul_le_mul hn hp
      rw [show (300 : Nat) * 2 ^ 21 = 629145600 from by decide] at hm
      have hc : decide ((0 : Int) ≤ ((w + 1 : Nat) : Int)) = true := decide_eq_true (by omega)
      rw [if_pos (by simp; omega), qw (by omega), hc]
      simp only [chk, if_true]
      rw [qiG (by omega) (by omega), qw (by omega)]
      unfold yS
      have hs := qor (n := n) (t := t) (w := w) h0
      by_cases hlt : w < wd n t
      · rw [if_pos (by simp only [decide_eq_true_eq]; have := hs.2 hlt; omega), qw (by omega)]
        exact qkv hn ht k (w + 1) (by omega) (by omega)
      · rw [if_neg (by simp only [decide_eq_true_eq]; intro hh; exact hlt (hs.1 (by omega)))]
        obtain rfl : w = wd n t := by omega
        rfl
theorem qis {F n t : Nat} (hF : 20000 ≤ F) (hn : n ≤ 300) (ht : t ≤ 1048576) : j8 F (n : Int) (t : Int) = some ((wd n t : Nat) : Int) := by
  unfold j8
  have := qiq (n := n) ht
  exact qkv hn ht F 0 (by omega) (by omega)
def fk (t : Int) : Int → List Int → Int
  | _, [] => 0
  | last, n :: l => if 0 ≤ n ∧ n ≤ t then (if n < last then 4 else fk t n l) else 3
def fkc (l : List Int) (t : Int) : Int := if 0 ≤ t ∧ t ≤ 1048576 then (if 300 < l.length then 2 else fk t 0 l) else 3
theorem qhJ {F : Nat} {t : Int} {l : List Int} (hm : l.length ≤ 300) : ∀ (k i : Nat) (last : Int), l.length < k + i → i ≤ l.length →
    yk F l t k (last, (i : Int)) = some (fk t last (l.drop i))
  | 0, _, _, _, _ => by omega
  | k + 1, i, last, h, hi => by
    show jK F l t (yk F l t k) last (i : Int) = _
    unfold jK
    by_cases hlt : i < l.length
    · rw [if_pos (by simp; omega), qR, List.getElem?_eq_getElem hlt, List.drop_eq_getElem_cons hlt, fk]
      simp only [Option.bind_some]
      by_cases h1 : 0 ≤ l[i] ∧ l[i] ≤ t
      · rw [if_pos h1, if_neg (by simp; omega)]
        by_cases h2 : l[i] < last
        · rw [if_pos h2, if_pos (by simpa using h2)]
        · rw [if_neg h2, if_neg (by simpa using h2), qw (by omega)]
          exact qhJ hm k (i + 1) _ (by omega) (by omega)
      · rw [if_neg h1, if_pos (by simp; omega)]
    · rw [if_neg (by simp; omega), List.drop_eq_nil_of_le (by omega)]
      rfl
theorem qfU {F : Nat} (hF : 20000 ≤ F) {l : List Int} {t : Int} : j6 F l t = some (fkc l t) := by
  unfold j6 fkc
  by_cases h1 : 0 ≤ t ∧ t ≤ 1048576
  · rw [if_pos h1, if_neg (by simp; omega)]
    by_cases h : 300 < l.length
    · rw [if_pos h, if_pos (by simp; omega)]
    · rw [if_neg h, if_neg (by simp; omega)]
      exact qhJ (by omega) F 0 0 (by omega) (by omega)
  · rw [if_neg h1, if_pos (by simp; omega)]
def Up (t : Nat) : Nat → List Nat → Prop
  | _, [] => True
  | last, n :: l => last ≤ n ∧ n ≤ t ∧ Up t n l
def lc (l : List Nat) : List Int := l.map fun x : Nat => (x : Int)
theorem qaU (l : List Nat) : (lc l).length = l.length := by simp [lc]
theorem qox {t : Nat} : ∀ {l : List Int} {last : Nat}, fk (t : Int) (last : Int) l = 0 ↔ ∃ ns, l = lc ns ∧ Up t last ns
  | [], last => by
    constructor
    · intro _; exact ⟨[], rfl, trivial⟩
    · intro _; rfl
  | n :: l, last => by
    unfold fk
    by_cases h1 : 0 ≤ n ∧ n ≤ (t : Int)
    · rw [if_pos h1]
      obtain ⟨n, rfl⟩ := Int.eq_ofNat_of_zero_le h1.1
      by_cases h2 : (n : Int) < (last : Int)
      · rw [if_pos h2]
        constructor
        · intro h; simp at h
        · rintro ⟨ns, e, hu⟩
          cases ns with
          | nil => simp [lc] at e
          | cons m ns => simp [lc] at e; have := hu.1; omega
      · rw [if_neg h2, qox]
        constructor
        · rintro ⟨ns, rfl, hu⟩; exact ⟨n :: ns, rfl, by omega, by omega, hu⟩
        · rintro ⟨ns, e, hu⟩
          cases ns with
          | nil => simp [lc] at e
          | cons m ns =>
            simp [lc] at e
            obtain ⟨e1, rfl⟩ := e
            obtain rfl : n = m := by omega
            exact ⟨ns, rfl, hu.2.2⟩
    · rw [if_neg h1]
      constructor
      · intro h; simp at h
      · rintro ⟨ns, e, hu⟩
        cases ns with
        | nil => simp [lc] at e
        | cons m ns =>
          simp [lc] at e
          have := hu.2.1
          exact absurd ⟨by omega, by omega⟩ h1
theorem qdV {l : List Int} {t : Int} : fkc l t = 0 ↔ ∃ (ns : List Nat) (k : Nat), t = k ∧ k ≤ 1048576 ∧ l = lc ns ∧ ns.length ≤ 300 ∧ Up k 0 ns := by
  unfold fkc
  by_cases h1 : 0 ≤ t ∧ t ≤ 1048576
  · rw [if_pos h1]
    obtain ⟨t, rfl⟩ := Int.eq_ofNat_of_zero_le h1.1
    by_cases h : 300 < l.length
    · rw [if_pos h]
      constructor
      · intro h; simp at h
      · rintro ⟨ns, k, _, _, rfl, h3, _⟩; rw [qaU] at h; omega
    · rw [if_neg h]
      have := qox (t := t) (l := l) (last := 0)
      rw [show ((0 : Nat) : Int) = 0 from rfl] at this
      rw [this]
      constructor
      · rintro ⟨ns, rfl, hu⟩; exact ⟨ns, t, rfl, by omega, rfl, by rw [qaU] at h; omega, hu⟩
      · rintro ⟨ns, k, e, _, rfl, _, hu⟩
        obtain rfl : t = k := by omega
        exact ⟨ns, rfl, hu⟩
  · rw [if_neg h1]
    constructor
    · intro h; simp at h
    · rintro ⟨ns, k, rfl, h2, _⟩; exact absurd ⟨by omega, by omega⟩ h1
theorem qku {t : Nat} : ∀ {l : List Nat} {a : Nat}, Up t a l → ∀ x ∈ l, a ≤ x ∧ x ≤ t
  | [], _, _ => by intro x hx; simp at hx
  | n :: l, a, h => by
    intro x hx
    rcases List.mem_cons.1 hx with rfl | hx
    · exact ⟨h.1, h.2.1⟩
    · have := qku h.2.2 x hx; have := h.1; omega
def lo' (w : Nat) (l : List Nat) : List Int := l.flatMap fun x => nb x w
theorem qct (w x : Nat) (l : List Nat) : lo' w (x :: l) = nb x w ++ lo' w l := rfl
theorem qjO (w : Nat) : ∀ l : List Nat, (lo' w l).length = l.length * w
  | [] => by simp [lo']
  | x :: l => by rw [qct, List.length_append, qak, qjO w l, List.length_cons, Nat.add_mul, Nat.one_mul, Nat.add_comm]
theorem qdz (w : Nat) : ∀ l : List Nat, Bit (lo' w l)
  | [] => by intro x hx; simp [lo'] at hx
  | x :: l => by rw [qct]; exact zL (qeZ _ _) (qdz w l)
def hp (w last : Nat) : Nat → List Nat → List Int
  | a, [] => List.replicate (last - a) 0
  | a, x :: l => List.replicate (x / 2 ^ w - a) 0 ++ (1 :: hp w last (x / 2 ^ w) l)
theorem qd0 (w last : Nat) : ∀ (a : Nat) (l : List Nat), Bit (hp w last a l)
  | a, [] => qb0 _
  | a, x :: l => by
    rw [hp]
    exact zL (qb0 _) (by
      intro y hy
      rcases List.mem_cons.1 hy with rfl | hy
      · right; rfl
      · exact qd0 w last _ l y hy)
theorem qlS {w t : Nat} : ∀ {a : Nat} {l : List Nat}, Up t a l → (hp w (t / 2 ^ w + 1) (a / 2 ^ w) l).length = l.length + (t / 2 ^ w + 1 - a / 2 ^ w)
  | a, [], _ => by simp [hp]
  | a, x :: l, h => by
    have h1 : a / 2 ^ w ≤ x / 2 ^ w := Nat.div_le_div_right h.1
    have h2 : x / 2 ^ w ≤ t / 2 ^ w := Nat.div_le_div_right h.2.1
    have := qlS (w := w) h.2.2
    rw [hp, List.length_append, List.length_replicate, List.length_cons, List.length_cons, this]
    omega
def loF (t : Nat) (l : List Nat) : List Int := lo' (wd l.length t) l
def hiF (t : Nat) (l : List Nat) : List Int := hp (wd l.length t) (t / 2 ^ wd l.length t + 1) 0 l
theorem qb5 (t : Nat) (l : List Nat) : (loF t l).length = l.length * wd l.length t := qjO _ _
theorem qdw {t : Nat} {l : List Nat} (h : Up t 0 l) : (hiF t l).length = l.length + (t / 2 ^ wd l.length t + 1) := by
  have := qlS (w := wd l.length t) h
  rw [Nat.zero_div, Nat.sub_zero] at this
  exact this
def Fits (t : Nat) (l : List Nat) : Prop := l.length * wd l.length t ≤ 8192 ∧ l.length + (t / 2 ^ wd l.length t + 1) ≤ 8192
instance fitsDec (t : Nat) (l : List Nat) : Decidable (Fits t l) := inferInstanceAs (Decidable (_ ∧ _))
theorem qmu {F : Nat} (hF : 20000 ≤ F) {to : Nat} (hto : to ≤ 10000) : ∀ (k a : Nat) (l : List Int), to < k + a → a ≤ to → Bit l → l.length + (to - a) ≤ 8192 →
    zB F (to : Int) k ((l.length : Int), pk l, (a : Int)) = some (((l ++ List.replicate (to - a) 0).length : Int), pk (l ++ List.replicate (to - a) 0), (to : Int))
  | 0, _, _, _, _, _, _ => by omega
  | k + 1, a, l, h, ha, hl, hm => by
    show yd F (to : Int) (zB F (to : Int) k) (l.length : Int) (pk l) (a : Int) = _
    unfold yd
    by_cases hlt : a < to
    · have hadd := qc7 (F := F) (n := 0) (w := 1) (l := l) (by decide) (by omega) hl (by omega) (by decide)
      rw [show ((0 : Nat) : Int) = 0 from rfl, show ((1 : Nat) : Int) = 1 from rfl, show nb 0 1 = [0] from rfl] at hadd
      rw [if_pos (by simp; omega), hadd]
      simp only [Option.bind_some]
      rw [qw (by omega), qmu hF hto k (a + 1) (l ++ [0]) (by omega) (by omega) (zL hl (qb0 1)) (by rw [List.length_append]; simp; omega)]
      have e : l ++ [0] ++ List.replicate (to - (a + 1)) 0 = l ++ List.replicate (to - a) 0 := by
        rw [List.append_assoc, show to - a = (to - (a + 1)) + 1 from by omega, List.replicate_succ]; rfl
      rw [e]
    · rw [if_neg (by simp; omega), show to - a = 0 from by omega]
      obtain rfl : a = to := by omega
      simp
theorem qj9 {F : Nat} (hF : 20000 ≤ F) {to a : Nat} {l : List Int} (ha : a ≤ to) (hto : to ≤ 10000) (hl : Bit l) (hm : l.length + (to - a) ≤ 8192) :
    k6 F (l.length : Int) (pk l) (a : Int) (to : Int) = some (((l ++ List.replicate (to - a) 0).length : Int), pk (l ++ List.replicate (to - a) 0), (to : Int)) := by
  unfold k6
  exact qmu hF hto F a l (by omega) ha hl hm
def T8 (t : Nat) (l : List Nat) (e : Bool) : Int × Int × Int × Int × List Int × Int × List Int × Bool :=
  ((l.length : Int), (t : Int), (wd l.length t : Int), ((loF t l).length : Int), pk (loF t l), ((hiF t l).length : Int), pk (hiF t l), e)
theorem qoF {F w t : Nat} (hF : 20000 ≤ F) (hw : w ≤ 20) (ht : t ≤ 1048576) {l : List Nat} (hlm : l.length ≤ 300) (f1 : l.length * w ≤ 8192) (f2 : l.length + (t / 2 ^ w + 1) ≤ 8192) : ∀ (k i : Nat) (q : Nat) (L H : List Int), l.length < k + i → i ≤ l.length → Up t q (l.drop i) → Bit L → Bit H → L.length + (l.length - i) * w ≤ 8192 → H.length + (l.length - i) + (t / 2 ^ w + 1 - q / 2 ^ w) ≤ 8192 → q ≤ t →
    vE F (lc l) (t : Int) (w : Int) k ((i : Int), (H.length : Int), pk H, ((q / 2 ^ w : Nat) : Int), (L.length : Int), pk L) =
      some ((l.length : Int), (t : Int), (w : Int), ((L ++ lo' w (l.drop i)).length : Int), pk (L ++ lo' w (l.drop i)), ((H ++ hp w (t / 2 ^ w + 1) (q / 2 ^ w) (l.drop i)).length : Int), pk (H ++ hp w (t / 2 ^ w + 1) (q / 2 ^ w) (l.drop i)), true)
  | 0, _, _, _, _, _, _, _, _, _, _, _, _ => by omega
  | k + 1, i, q, L, H, h, hi, hu, hL, hH, hLm, hHm, hq => by
    show qax F (lc l) (t : Int) (w : Int) (vE F (lc l) (t : Int) (w : Int) k) (i : Int) (H.length : Int) (pk H) ((q / 2 ^ w : Nat) : Int) (L.length : Int) (pk L) = _
    unfold qax
    have hqt : q / 2 ^ w ≤ t / 2 ^ w := Nat.div_le_div_right hq
    by_cases hlt : i < l.length
    · rw [List.drop_eq_getElem_cons hlt] at hu ⊢
      have hx1 := hu.1; have hx2 := hu.2.1; have hx3 := hu.2.2
      have hg : (lc l)[i]? = some ((l[i] : Nat) : Int) := by simp [lc, hlt]
      have hc : decide ((0 : Int) ≤ (w : Int)) = true := decide_eq_true (by omega)
      have hp20 : 2 ^ w ≤ 2 ^ 20 := Nat.pow_le_pow_right (by decide) hw
      rw [show (2 : Nat) ^ 20 = 1048576 from by decide] at hp20
      have hp0 : 0 < 2 ^ w := Nat.pow_pos (by decide)
      have e1 : ishl .i64 1 (w : Int) = ((2 ^ w : Nat) : Int) := by
        have := qiG (n := 1) (m := w) (by omega) (by rw [Nat.one_mul]; omega)
        rwa [Nat.one_mul] at this
      have hd1 : q / 2 ^ w ≤ l[i] / 2 ^ w := Nat.div_le_div_right hx1
      have hd2 : l[i] / 2 ^ w ≤ t / 2 ^ w := Nat.div_le_div_right hx2
      have hsplit : (l.length - i) * w = w + (l.length - (i + 1)) * w := by
        rw [show l.length - i = (l.length - (i + 1)) + 1 from by omega, Nat.add_mul, Nat.one_mul, Nat.add_comm]
      rw [qaU, if_pos (by simp; omega), qR, hg]
      simp only [Option.bind_some]
      rw [hc]
      simp only [chk, if_true]
      have hmod : l[i] % 2 ^ w < 18446744073709551616 := by have := Nat.mod_le l[i] (2 ^ w); omega
      rw [e1, qaI (by omega) (by omega), qo3 (by omega) (by omega), kz hmod, qc7 hmod (by omega) hL (by omega) (by omega), ql3 (Nat.le_refl _)]
      simp only [Option.bind_some]
      rw [qiI (by omega), qj9 hF hd1 (by omega) hH (by omega)]
      simp only [Option.bind_some]
      have hadd := qc7 (F := F) (n := 1) (w := 1) (l := H ++ List.replicate (l[i] / 2 ^ w - q / 2 ^ w) 0) (by decide) (by omega) (zL hH (qb0 _)) (by rw [List.length_append, List.length_replicate]; omega) (by decide)
      rw [show ((1 : Nat) : Int) = 1 from rfl, show nb 1 1 = [1] from rfl] at hadd
      rw [hadd]
      simp only [Option.bind_some]
      rw [qw (by omega)]
      rw [qoF hF hw ht hlm f1 f2 k (i + 1) l[i] (L ++ nb l[i] w) (H ++ List.replicate (l[i] / 2 ^ w - q / 2 ^ w) 0 ++ [1]) (by omega) (by omega) hx3 (zL hL (qeZ _ _)) (zL (zL hH (qb0 _)) qjr) (by rw [List.length_append, qak]; omega) (by rw [List.length_append, List.length_append, List.length_replicate]; simp; omega) hx2]
      rw [hp, qct]
      simp [List.append_assoc]
    · rw [qaU, if_neg (by simp; omega), List.drop_eq_nil_of_le (by omega)]
      unfold qbH
      rw [qiI (by omega), qw (by omega), qj9 hF (by omega) (by omega) hH (by omega)]
      simp [lo', hp, qaU]
theorem qjB {F t : Nat} (hF : 20000 ≤ F) (ht : t ≤ 1048576) {l : List Nat} (hlm : l.length ≤ 300) (hu : Up t 0 l) :
    qbe F (lc l) (t : Int) = some (if Fits t l then T8 t l true else (0, 0, 0, 0, [], 0, [], false)) := by
  unfold qbe
  have hw := qiq (n := l.length) ht
  have hc : decide ((0 : Int) ≤ ((wd l.length t : Nat) : Int)) = true := decide_eq_true (by omega)
  have hdt : t / 2 ^ wd l.length t ≤ t := Nat.div_le_self _ _
  have hmul : l.length * wd l.length t ≤ 300 * 20 := Nat.mul_le_mul hlm hw
  rw [qaU, qis hF hlm ht]
  simp only [Option.bind_some]
  rw [hc]
  simp only [chk, if_true]
  rw [qgR (by omega), qiI (by omega), qw (by omega), jA (by omega)]
  by_cases hf : Fits t l
  · rw [if_neg (by have h1 := hf.1; have h2 := hf.2; simp only [Bool.or_eq_true, decide_eq_true_eq]; omega), if_pos hf]
    have := qoF (F := F) hF hw ht hlm hf.1 hf.2 F 0 0 [] [] (by omega) (by omega) (by rw [List.drop_zero]; exact hu) qhD qhD (by simp; exact hf.1) (by simp; exact hf.2) (by omega)
    rw [List.drop_zero, List.nil_append, List.nil_append, Nat.zero_div] at this
    exact this
  · rw [if_pos (by unfold Fits at hf; simp only [Bool.or_eq_true, decide_eq_true_eq]; omega), if_neg hf]
def nl (l : List Int) : List Nat := l.map Int.toNat
theorem qhX (l : List Nat) : nl (lc l) = l := by
  induction l with
  | nil => rfl
  | cons x l ih => simp only [nl, lc, List.map_cons, Int.toNat_natCast] at ih ⊢; rw [ih]
abbrev F8 := Int × Int × Int × Int × List Int × Int × List Int × Int
def fz8 (e : Int) : F8 := (0, 0, 0, 0, [], 0, [], e)
def fo8 (t : Nat) (l : List Nat) : F8 := ((l.length : Int), (t : Int), (wd l.length t : Int), ((loF t l).length : Int), pk (loF t l), ((hiF t l).length : Int), pk (hiF t l), 0)
def fw (l : List Int) (t : Int) : F8 := if fkc l t ≠ 0 then fz8 (fkc l t) else if Fits t.toNat (nl l) then fo8 t.toNat (nl l) else fz8 8
theorem qlH {l : List Int} {t : Int} (h : fkc l t ≠ 0) : fw l t = fz8 (fkc l t) := by unfold fw; rw [if_pos h]
theorem qjD {l : List Nat} {t : Nat} (ht : t ≤ 1048576) (hlm : l.length ≤ 300) (hu : Up t 0 l) : fkc (lc l) (t : Int) = 0 ∧ fw (lc l) (t : Int) = if Fits t l then fo8 t l else fz8 8 := by
  have h : fkc (lc l) (t : Int) = 0 := qdV.2 ⟨l, t, rfl, ht, rfl, hlm, hu⟩
  refine ⟨h, ?_⟩
  unfold fw
  rw [h, if_neg (by simp), Int.toNat_natCast, qhX]
theorem qkL {F : Nat} (hF : 20000 ≤ F) {l : List Int} {t : Int} : j5 F l t = some (fw l t) := by
  unfold j5
  rw [qfU hF]
  simp only [Option.bind_some]
  by_cases h : fkc l t = 0
  · obtain ⟨ns, k, rfl, hk, rfl, hm, hu⟩ := qdV.1 h
    rw [(qjD hk hm hu).2, h, if_neg (by simp), qjB hF hk hm hu]
    simp only [Option.bind_some]
    by_cases hf : Fits k ns
    · rw [if_pos hf, if_pos hf]; rfl
    · rw [if_neg hf, if_neg hf]; rfl
  · rw [if_pos (by simpa using h), qlH h]; rfl
theorem qjW (k : Nat) (r : List Int) (i : Nat) : plc 1 (List.replicate k 0 ++ r) i = (plc 1 r i).map (· + k) := by
  induction k with
  | zero => simp
  | succ k ih =>
    rw [List.replicate_succ, List.cons_append, qe3, if_neg (by decide), ih, Option.map_map]
    congr 1
theorem qmh {w last : Nat} : ∀ {l : List Nat} {a i : Nat}, (∀ x ∈ l, a ≤ x / 2 ^ w) → (∀ j x, l[j]? = some x → ∀ y ∈ l.drop (j + 1), x / 2 ^ w ≤ y / 2 ^ w) →
    plc 1 (hp w last a l) i = (l[i]?).map fun x => x / 2 ^ w - a + i
  | [], a, i, _, _ => by
    have := qjW (last - a) [] i
    rw [List.append_nil] at this
    rw [hp, this]; rfl
  | x :: l, a, i, h, hs => by
    have hx := h x List.mem_cons_self
    rw [hp, qjW, qe3, if_pos rfl]
    cases i with
    | zero => simp
    | succ i =>
      simp only
      have h0 := hs 0 x rfl
      rw [List.drop_succ_cons, List.drop_zero] at h0
      rw [qmh (a := x / 2 ^ w) h0 (fun j y hj => by
        have := hs (j + 1) y (by simpa using hj)
        rwa [List.drop_succ_cons] at this)]
      simp only [List.getElem?_cons_succ, Option.map_map]
      cases hl : l[i]? with
      | none => rfl
      | some y =>
        have := h0 y (List.mem_of_getElem? hl)
        simp only [Option.map_some, Function.comp]
        congr 1
        omega
theorem qhj {t w : Nat} : ∀ {l : List Nat} {a : Nat}, Up t a l → ∀ j x, l[j]? = some x → ∀ y ∈ l.drop (j + 1), x / 2 ^ w ≤ y / 2 ^ w
  | [], _, _, j, x, h => by simp at h
  | n :: l, a, h, 0, x, hx => by
    simp at hx; subst hx
    intro y hy
    rw [List.drop_succ_cons, List.drop_zero] at hy
    exact Nat.div_le_div_right (qku h.2.2 y hy).1
  | n :: l, a, h, j + 1, x, hx => by
    intro y hy
    rw [List.drop_succ_cons] at hy
    exact qhj h.2.2 j x (by simpa using hx) y hy
theorem qjV {t : Nat} {l : List Nat} (h : Up t 0 l) (i : Nat) : plc 1 (hiF t l) i = (l[i]?).map fun x => x / 2 ^ wd l.length t + i := by
  unfold hiF
  rw [qmh (fun x _ => Nat.zero_le _) (qhj h)]
  simp
theorem qiP {w : Nat} : ∀ {l : List Nat} {i x : Nat}, l[i]? = some x → ((lo' w l).drop (i * w)).take w = nb x w
  | [], i, x, h => by simp at h
  | y :: l, 0, x, h => by
    simp at h; subst h
    rw [Nat.zero_mul, List.drop_zero, qct, List.take_left' (qak _ _)]
  | y :: l, i + 1, x, h => by
    rw [qct, Nat.add_mul, Nat.one_mul, Nat.add_comm, ← List.drop_drop, List.drop_left' (qak _ _)]
    exact qiP (by simpa using h)
theorem qpB {a b m : Nat} (ha : a < 2 ^ m) (hb : b % 2 ^ m = 0) (h : a + b < 9223372036854775808) : ior .i64 (b : Int) (a : Int) = ((b + a : Nat) : Int) := by
  unfold ior
  have h1 : (BitVec.ofInt (IntKind.bits .i64) (b : Int)) = BitVec.ofNat 64 b := by simp [IntKind.bits]
  have h2 : (BitVec.ofInt (IntKind.bits .i64) (a : Int)) = BitVec.ofNat 64 a := by simp [IntKind.bits]
  rw [h1, h2]
  have h3 : b ||| a = b + a := by
    have hy2 : b = 2 ^ m * (b / 2 ^ m) := by have := Nat.div_add_mod b (2 ^ m); omega
    have h4 := Nat.two_pow_add_eq_or_of_lt ha (b / 2 ^ m)
    rw [← hy2] at h4
    rw [← h4]
  have h4 : (BitVec.ofNat 64 b ||| BitVec.ofNat 64 a).toNat = b + a := by
    rw [BitVec.toNat_or, BitVec.toNat_ofNat, BitVec.toNat_ofNat, Nat.mod_eq_of_lt (a := b) (by omega), Nat.mod_eq_of_lt (a := a) (by omega), h3]
  show IntKind.wrap .i64 ((BitVec.ofNat 64 b ||| BitVec.ofNat 64 a).toNat : Int) = _
  rw [h4]
  exact zW (by omega) (by omega)
theorem qlA {F t i x : Nat} (hF : 20000 ≤ F) (ht : t ≤ 1048576) {l : List Nat} (hlm : l.length ≤ 300) (hu : Up t 0 l) (hf : Fits t l) (hx : l[i]? = some x) :
    js F (l.length : Int) (t : Int) (wd l.length t : Int) ((loF t l).length : Int) (pk (loF t l)) ((hiF t l).length : Int) (pk (hiF t l)) (i : Int) = some (x : Int) := by
  unfold js
  have hw := qiq (n := l.length) ht
  have hi : i < l.length := (List.getElem?_eq_some_iff.1 hx).1
  have hL : (loF t l).length ≤ 8192 := by rw [qb5]; exact hf.1
  have hH : (hiF t l).length ≤ 8192 := by rw [qdw hu]; exact hf.2
  have hxt := (qku hu x (List.mem_of_getElem? hx)).2
  have hmul : i * wd l.length t + wd l.length t ≤ (loF t l).length := by
    rw [qb5, ← Nat.succ_mul]; exact Nat.mul_le_mul_right _ hi
  rw [qe2 hF (l := hiF t l) (qd0 _ _ _ _) (by omega) (by omega), qjV hu, hx]
  simp only [Option.map_some, Option.bind_some]
  have hdx : x / 2 ^ wd l.length t ≤ x := Nat.div_le_self _ _
  have hz : 0 ≤ x / 2 ^ wd l.length t := Nat.zero_le _
  rw [qgR (by omega), qca (l := loF t l) (by omega) (qdz _ _) hL (by omega) (by omega), if_pos hmul]
  simp only [Option.bind_some]
  have hc : decide ((0 : Int) ≤ ((wd l.length t : Nat) : Int)) = true := decide_eq_true (by omega)
  rw [hc]
  simp only [chk, if_true, lett]
  have hg : ((loF t l).drop (i * wd l.length t)).take (wd l.length t) = nb x (wd l.length t) := qiP hx
  have hp20 : 2 ^ wd l.length t ≤ 2 ^ 20 := Nat.pow_le_pow_right (by decide) hw
  rw [show (2 : Nat) ^ 20 = 1048576 from by decide] at hp20
  have hml := Nat.mod_lt x (show 0 < 2 ^ wd l.length t from Nat.pow_pos (by decide))
  have hdm := Nat.div_add_mod x (2 ^ wd l.length t)
  have hdm2 : x / 2 ^ wd l.length t * 2 ^ wd l.length t ≤ x := Nat.div_mul_le_self _ _
  rw [hg, qeE, qiJ (by omega) (by omega), Nat.add_sub_cancel, qiG (by omega) (by omega), jZ (by omega), qpB (m := wd l.length t) hml (Nat.mul_mod_left _ _) (by omega)]
  rw [Nat.mul_comm] at hdm
  rw [hdm]
theorem qd3 {F : Nat} {l : List Int} (hl : Bit l) (hm : l.length ≤ 10000) (bit : Int) : ∀ (k j c : Nat), l.length < k + j → j ≤ l.length → 1 ≤ c → c + (l.length - j) ≤ 100000 →
    ∃ s, qB F (fun (x31 : Int) (x37 : Int) => qD F x31 x37) (l.length : Int) (pk l) bit k ((j : Int), -(c : Int)) = some (.inl s)
  | 0, _, _, _, _, _, _ => by omega
  | k + 1, j, c, h, hj, hc, hcm => by
    have e : qB F (fun (x31 : Int) (x37 : Int) => qD F x31 x37) (l.length : Int) (pk l) bit (k + 1) ((j : Int), -(c : Int)) =
      kn F (fun (x31 : Int) (x37 : Int) => qD F x31 x37) (l.length : Int) (pk l) bit (qB F (fun (x31 : Int) (x37 : Int) => qD F x31 x37) (l.length : Int) (pk l) bit k) (j : Int) (-(c : Int)) := rfl
    rw [e]
    unfold kn
    by_cases hlt : j < l.length
    · rw [if_pos (by simp; omega), qhB hl (by omega) hlt]
      simp only [Option.bind_some]
      have hr : qD F (-(c : Int)) (j : Int) = some (.inl (-((c + 1 : Nat) : Int))) := by
        unfold qD
        rw [if_neg (by simp; omega), zd (by omega) (by omega)]
        congr 2; omega
      by_cases h1 : l[j] = bit
      · rw [if_pos (by simpa using h1), hr]
        simp only [Option.bind_some, Sum.elim_inl, zH]
        rw [qw (by omega)]
        exact qd3 hl hm bit k (j + 1) (c + 1) (by omega) (by omega) (by omega) (by omega)
      · rw [if_neg (by simpa using h1)]
        simp only [zH]
        rw [qw (by omega)]
        exact qd3 hl hm bit k (j + 1) c (by omega) (by omega) hc (by omega)
    · rw [if_neg (by simp; omega)]
      exact ⟨_, rfl⟩
theorem qmg {F : Nat} (hF : 20000 ≤ F) {l : List Int} (hl : Bit l) (hm : l.length ≤ 10000) {bit : Int} : vk F (l.length : Int) (pk l) bit (-1) = some (-1) := by
  unfold vk
  simp only [qaF, Option.bind_some, jS]
  obtain ⟨s, hs⟩ := qd3 (F := F) hl hm bit F 0 1 (by omega) (by omega) (by omega) (by omega)
  have h2 : qB F (fun (x31 : Int) (x37 : Int) => qD F x31 x37) (l.length : Int) (pk l) bit F (0, -1) = some (.inl s) := hs
  rw [h2]
  rfl
theorem qlB {F : Nat} {xs ys : List Int} (he : xs.length = ys.length) (hm : xs.length ≤ 9223372036854775807) : ∀ (k i : Nat), xs.length < k + i → i ≤ xs.length → qA F xs ys k (i : Int) = some (decide (xs.drop i = ys.drop i))
  | 0, _, _, _ => by omega
  | k + 1, i, h, hi => by
    show qX F xs ys (qA F xs ys k) (i : Int) = _
    unfold qX
    by_cases hlt : i < xs.length
    · have hlt' : i < ys.length := by omega
      rw [if_pos (by simp; omega), qR, List.getElem?_eq_getElem hlt, qR, List.getElem?_eq_getElem hlt']
      simp only [Option.bind_some]
      rw [List.drop_eq_getElem_cons hlt, List.drop_eq_getElem_cons hlt']
      by_cases hc : xs[i] = ys[i]
      · rw [if_neg (by simp [hc]), qw (by omega), qlB he hm k (i + 1) (by omega) (by omega)]
        congr 1
        rw [decide_eq_decide, List.cons.injEq]
        exact ⟨fun h => ⟨hc, h⟩, fun h => h.2⟩
      · rw [if_pos (by simpa using hc), decide_eq_false (fun e => hc (List.cons.inj e).1)]
    · rw [if_neg (by simp; omega), List.drop_eq_nil_of_le (by omega), List.drop_eq_nil_of_le (by omega)]
      rfl
theorem feqb {F : Nat} {xs ys : List Int} (hF : xs.length < F) (hm : xs.length ≤ 9223372036854775807) : qE F xs ys = some (decide (xs = ys)) := by
  unfold qE
  by_cases h : xs.length = ys.length
  · rw [if_neg (by simp [h])]
    have := qlB (F := F) h hm F 0 (by omega) (Nat.zero_le _)
    rw [List.drop_zero, List.drop_zero] at this
    exact this
  · rw [if_pos (by simp; omega), decide_eq_false (fun e => h (by rw [e]))]
theorem qhN {F : Nat} {n m : Int} {xs ys : List Int} (hF : xs.length < F) (hm : xs.length ≤ 9223372036854775807) : qaK F n xs m ys = some (decide (n = m ∧ xs = ys)) := by
  unfold qaK
  by_cases h : n = m
  · have hb : (n == m) = true := by simp [h]
    rw [if_pos hb, feqb hF hm]
    simp [jk, h]
  · have hb : (n == m) = false := by simpa using h
    rw [hb]
    simp [jk, h]
def FWr (t : Nat) (ns : List Nat) (lw : Int) (lb : List Int) (hw : Int) (hb : List Int) : Prop :=
  ns.length ≤ 300 ∧ Up t 0 ns ∧ Fits t ns ∧ lw = ((loF t ns).length : Int) ∧ lb = pk (loF t ns) ∧ hw = ((hiF t ns).length : Int) ∧ hb = pk (hiF t ns)
theorem qpD {F t : Nat} (hF : 20000 ≤ F) (ht : t ≤ 1048576) {lw hw : Int} {lb hb out : List Int} :
    (∃ ns, out = lc ns ∧ FWr t ns lw lb hw hb ∧ kA F (t : Int) lw lb hw hb out = some (out, 0)) ∨
    ((¬ ∃ ns, out = lc ns ∧ FWr t ns lw lb hw hb) ∧ kA F (t : Int) lw lb hw hb out = some ([], 1)) := by
  unfold kA
  rw [qfU hF]
  simp only [Option.bind_some]
  by_cases h : fkc out (t : Int) = 0
  · obtain ⟨ns, k, e, hk, rfl, hm, hu⟩ := qdV.1 h
    obtain rfl : t = k := by omega
    rw [h, if_neg (by simp), qjB hF hk hm hu]
    simp only [Option.bind_some]
    have huniq : ∀ ns', lc ns = lc ns' → ns = ns' := fun ns' e => by have := congrArg nl e; rwa [qhX, qhX] at this
    by_cases hf : Fits t ns
    · have hL : (loF t ns).length ≤ 8192 := by rw [qb5]; exact hf.1
      have hH : (hiF t ns).length ≤ 8192 := by rw [qdw hu]; exact hf.2
      have hpL := qh3 hL
      have hpH := qh3 hH
      rw [if_pos hf]
      simp only [T8, Bool.not_true, Bool.false_eq_true, if_false]
      rw [qhN (by omega) (by omega)]
      simp only [Option.bind_some]
      by_cases h1 : ((loF t ns).length : Int) = lw ∧ pk (loF t ns) = lb
      · rw [decide_eq_true h1]
        simp only [Bool.not_true, vO, Bool.false_eq_true, if_false]
        rw [qhN (by omega) (by omega)]
        simp only [Option.bind_some]
        by_cases h2 : ((hiF t ns).length : Int) = hw ∧ pk (hiF t ns) = hb
        · rw [decide_eq_true h2]
          left
          exact ⟨ns, rfl, ⟨hm, hu, hf, h1.1.symm, h1.2.symm, h2.1.symm, h2.2.symm⟩, rfl⟩
        · rw [decide_eq_false h2]
          right
          refine ⟨?_, rfl⟩
          rintro ⟨ns', e1, w⟩
          rw [← huniq ns' e1] at w
          exact h2 ⟨w.2.2.2.2.2.1.symm, w.2.2.2.2.2.2.symm⟩
      · rw [decide_eq_false h1]
        right
        refine ⟨?_, rfl⟩
        rintro ⟨ns', e1, w⟩
        rw [← huniq ns' e1] at w
        exact h1 ⟨w.2.2.2.1.symm, w.2.2.2.2.1.symm⟩
    · rw [if_neg hf]
      right
      refine ⟨?_, rfl⟩
      rintro ⟨ns', e1, w⟩
      rw [← huniq ns' e1] at w
      exact hf w.2.2.1
  · rw [if_pos (by simpa using h)]
    right
    refine ⟨?_, rfl⟩
    rintro ⟨ns, rfl, w⟩
    exact h (qdV.2 ⟨ns, t, rfl, ht, rfl, w.1, w.2.1⟩)
def Good (l : List Nat) (n t w lw : Int) (lb : List Int) (hw : Int) (hb : List Int) : Prop :=
  ∃ k : Nat, t = k ∧ k ≤ 1048576 ∧ n = (l.length : Int) ∧ w = ((wd l.length k : Nat) : Int) ∧ FWr k l lw lb hw hb
def Rg (n t : Int) : Prop := 0 ≤ n ∧ n ≤ 300 ∧ 0 ≤ t ∧ t ≤ 1048576
instance rgDec (n t : Int) : Decidable (Rg n t) := inferInstanceAs (Decidable (_ ∧ _))
theorem qnz {l : List Nat} {n t w lw hw : Int} {lb hb : List Int} (h : Good l n t w lw lb hw hb) : Rg n t := by
  obtain ⟨k, rfl, hk, rfl, _, h1, _⟩ := h
  exact ⟨by omega, by omega, by omega, by omega⟩
theorem ql7 {F t n w : Nat} {lw hw : Int} {lb hb : List Int} (f : Nat → Int) (hn : n ≤ 300) (hat : ∀ i, i < n → js F (n : Int) (t : Int) (w : Int) lw lb hw hb (i : Int) = some (f i)) : ∀ (k i : Nat), n < k + i → i ≤ n →
    kB F (n : Int) (t : Int) (w : Int) lw lb hw hb k ((List.range i).map f, (i : Int)) = kA F (t : Int) lw lb hw hb ((List.range n).map f)
  | 0, _, _, _ => by omega
  | k + 1, i, h, hi => by
    show vN F (n : Int) (t : Int) (w : Int) lw lb hw hb (kB F (n : Int) (t : Int) (w : Int) lw lb hw hb k) ((List.range i).map f) (i : Int) = _
    unfold vN
    by_cases hlt : i < n
    · rw [if_pos (by simp; omega), hat i hlt]
      simp only [Option.bind_some]
      rw [vn (by simp; omega), qw (by omega)]
      simp only [Option.bind_some]
      have e : (List.range i).map f ++ [f i] = (List.range (i + 1)).map f := by rw [List.range_succ, List.map_append]; rfl
      rw [e]
      exact ql7 f hn hat k (i + 1) (by omega) (by omega)
    · rw [if_neg (by simp; omega)]
      obtain rfl : i = n := by omega
      rfl
theorem qfI {F : Nat} (hF : 20000 ≤ F) {n t w lw hw : Int} {lb hb : List Int} (ul : U8s lb) (uh : U8s hb) (il : I64 lw) (ih : I64 hw) (ll : lb.length ≤ 9223372036854775807) (lh : hb.length ≤ 9223372036854775807) :
    (∃ l, Good l n t w lw lb hw hb ∧ yR F n t w lw lb hw hb = some (lc l, 0)) ∨
    ((¬ ∃ l, Good l n t w lw lb hw hb) ∧ yR F n t w lw lb hw hb = some ([], if Rg n t then 1 else 3)) := by
  unfold yR
  by_cases hr : Rg n t
  · obtain ⟨n, rfl⟩ := Int.eq_ofNat_of_zero_le hr.1
    obtain ⟨t, rfl⟩ := Int.eq_ofNat_of_zero_le hr.2.2.1
    have hn : n ≤ 300 := by have := hr.2.1; omega
    have ht : t ≤ 1048576 := by have := hr.2.2.2; omega
    have hw20 := qiq (n := n) ht
    rw [if_neg (by simp; omega), if_pos hr, qis hF hn ht]
    simp only [Option.bind_some]
    by_cases hw1 : w = ((wd n t : Nat) : Int)
    · subst hw1
      rw [if_neg (by simp), qeG ul il.1 il.2 ll]
      simp only [Option.bind_some]
      rcases qeH ul (n := lw) with h1 | ⟨L, hL, hLm, rfl, rfl⟩
      · right
        refine ⟨?_, by rw [if_pos (by simpa using h1)]; rfl⟩
        rintro ⟨l, k, e, hk, e2, _, g1, g2, g3, rfl, rfl, _⟩
        exact h1 (qeI (by rw [qb5]; exact g3.1))
      rw [qeI hLm, if_neg (by simp), qeG uh ih.1 ih.2 lh]
      simp only [Option.bind_some]
      rcases qeH uh (n := hw) with h1 | ⟨H, hH, hHm, rfl, rfl⟩
      · right
        refine ⟨?_, by rw [if_pos (by simpa using h1)]; rfl⟩
        rintro ⟨l, k, e, hk, e2, _, g1, g2, g3, _, _, rfl, rfl⟩
        exact h1 (qeI (by rw [qdw g2]; exact g3.2))
      have hmul : n * wd n t ≤ 300 * 20 := Nat.mul_le_mul hn hw20
      rw [qeI hHm, if_neg (by simp), qgR (by omega)]
      by_cases hl1 : L.length = n * wd n t
      · rw [if_neg (by rw [hl1]; simp)]
        have hfin : (n = 0 ∨ ∃ q, plc 1 H (n - 1) = some q) →
            (∃ l, Good l (n : Int) (t : Int) ((wd n t : Nat) : Int) (L.length : Int) (pk L) (H.length : Int) (pk H) ∧ zb F (n : Int) (t : Int) ((wd n t : Nat) : Int) (L.length : Int) (pk L) (H.length : Int) (pk H) false = some (lc l, 0)) ∨
            ((¬ ∃ l, Good l (n : Int) (t : Int) ((wd n t : Nat) : Int) (L.length : Int) (pk L) (H.length : Int) (pk H)) ∧ zb F (n : Int) (t : Int) ((wd n t : Nat) : Int) (L.length : Int) (pk L) (H.length : Int) (pk H) false = some ([], 1)) := by
          intro hpl
          unfold zb
          rw [if_neg (by simp)]
          have hat : ∃ f : Nat → Int, ∀ i, i < n → js F (n : Int) (t : Int) ((wd n t : Nat) : Int) (L.length : Int) (pk L) (H.length : Int) (pk H) (i : Int) = some (f i) := by
            have h1 : ∀ i, ∃ v : Int, i < n → js F (n : Int) (t : Int) ((wd n t : Nat) : Int) (L.length : Int) (pk L) (H.length : Int) (pk H) (i : Int) = some v := by
              intro i
              by_cases hi : i < n
              · unfold js
                have hm2 : i * wd n t + wd n t ≤ L.length := by rw [hl1, ← Nat.succ_mul]; exact Nat.mul_le_mul_right _ hi
                have hc : decide ((0 : Int) ≤ ((wd n t : Nat) : Int)) = true := decide_eq_true (by omega)
                rw [qe2 hF hH (by omega) (by omega)]
                simp only [Option.bind_some]
                rw [qgR (by omega), qca (by omega) hL hLm (by omega) (by omega)]
                simp only [Option.bind_some]
                rw [hc]
                simp only [chk, if_true, lett]
                exact ⟨_, fun _ => rfl⟩
              · exact ⟨0, fun h => absurd h hi⟩
            exact ⟨fun i => Classical.choose (h1 i), fun i hi => Classical.choose_spec (h1 i) hi⟩
          obtain ⟨f, hat⟩ := hat
          have hl9 := ql7 (F := F) (t := t) (n := n) (w := wd n t) f hn hat F 0 (by omega) (by omega)
          rw [show (List.range 0).map f = [] from rfl, show ((0 : Nat) : Int) = 0 from rfl] at hl9
          rw [hl9]
          rcases qpD (F := F) (t := t) hF ht (lw := (L.length : Int)) (lb := pk L) (hw := (H.length : Int)) (hb := pk H) (out := (List.range n).map f) with ⟨ns, e, w, hM⟩ | ⟨hno, hM⟩
          · have hnl : ns.length = n := by have := congrArg List.length e; rw [qaU] at this; simp at this; omega
            left
            exact ⟨ns, ⟨t, rfl, ht, by rw [hnl], by rw [hnl], w⟩, by rw [hM, e]⟩
          · right
            refine ⟨?_, hM⟩
            rintro ⟨l, k, e1, hk, e2, e3, w⟩
            obtain rfl : t = k := by omega
            have hnl : n = l.length := by omega
            apply hno
            refine ⟨l, ?_, w⟩
            obtain ⟨w1, w2, w3, w4, w5, w6, w7⟩ := w
            apply List.ext_getElem?
            intro i
            by_cases hi : i < n
            · have hx : l[i]? = some l[i] := List.getElem?_eq_getElem (by omega)
              have h2 := qlA hF ht w1 w2 w3 hx
              have h3 := hat i hi
              rw [hnl, w4, w5, w6, w7, h2] at h3
              have h4 : (lc l)[i]? = some ((l[i] : Nat) : Int) := by simp [lc, show i < l.length by omega]
              rw [h4, List.getElem?_map, List.getElem?_range hi]
              exact h3.symm
            · rw [List.getElem?_eq_none (by simp; omega), List.getElem?_eq_none (by rw [qaU]; omega)]
        have hnoform : n ≠ 0 → plc 1 H (n - 1) = none → ¬ ∃ l, Good l (n : Int) (t : Int) ((wd n t : Nat) : Int) (L.length : Int) (pk L) (H.length : Int) (pk H) := by
          rintro h0 hp ⟨l, k, e1, hk, e2, e3, w1, w2, w3, w4, w5, w6, w7⟩
          obtain rfl : t = k := by omega
          have hnl : n = l.length := by omega
          have hHe : H = hiF t l := qiT hH (qd0 _ _ _ _) (by omega) w7
          rw [hHe, qjV w2, List.getElem?_eq_getElem (show n - 1 < l.length by omega)] at hp
          simp at hp
        by_cases h0 : n = 0
        · subst h0
          have : isub .i64 ((0 : Nat) : Int) 1 = -1 := by decide
          rw [this, qmg hF hH (by omega)]
          simp only [Option.bind_some]
          rw [if_pos (by simp)]
          exact hfin (.inl rfl)
        · rw [qaI (by omega) (by omega), qe2 hF hH (by omega) (by omega)]
          simp only [Option.bind_some]
          cases hp : plc 1 H (n - 1) with
          | none =>
            right
            refine ⟨hnoform h0 hp, ?_⟩
            simp only
            rw [if_pos (by simp), decide_eq_true (show (0 : Int) < (n : Int) by omega)]
            rfl
          | some q =>
            simp only
            rw [if_neg (by simp)]
            exact hfin (.inr ⟨q, hp⟩)
      · right
        refine ⟨?_, by rw [if_pos (by rw [bne_iff_ne]; omega)]; rfl⟩
        rintro ⟨l, k, e1, hk, e2, e3, w1, w2, w3, w4, _⟩
        obtain rfl : t = k := by omega
        have hnl : n = l.length := by omega
        rw [qb5] at w4
        rw [hnl] at hl1
        omega
    · right
      refine ⟨?_, by rw [if_pos (by simpa using hw1)]; rfl⟩
      rintro ⟨l, k, e1, hk, e2, e3, _⟩
      obtain rfl : t = k := by omega
      have hnl : n = l.length := by omega
      rw [← hnl] at e3
      exact hw1 e3
  · right
    refine ⟨fun ⟨l, h⟩ => hr (qnz h), ?_⟩
    rw [if_pos (by unfold Rg at hr; simp only [Bool.or_eq_true, decide_eq_true_eq]; omega), if_neg hr]
theorem qiL {l : List Nat} {i : Nat} (hi : i < l.length) : (lc l)[i]? = some ((l[i] : Nat) : Int) := by simp [lc, hi]
def rdn (w : Nat) (L : List Int) : List Int → Nat → Nat → Nat → List Nat
  | [], _, _, _ => []
  | _ :: _, _, 0, _ => []
  | b :: H, h, m + 1, k => if b = 0 then rdn w L H (h + 1) (m + 1) k else (h * 2 ^ w + bv ((L.drop (k * w)).take w)) :: rdn w L H h m (k + 1)
theorem qpH {w : Nat} {L X : List Int} {h k : Nat} : rdn w L X h 0 k = [] := by cases X <;> rfl
theorem qj6 {w : Nat} {L X : List Int} {m k : Nat} : ∀ {c h : Nat}, rdn w L (List.replicate c 0 ++ X) h (m + 1) k = rdn w L X (h + c) (m + 1) k
  | 0, h => by simp
  | c + 1, h => by
    rw [List.replicate_succ, List.cons_append, rdn, if_pos rfl, qj6, show h + 1 + c = h + (c + 1) from by omega]
theorem qmq {w last : Nat} {L : List Int} : ∀ {l : List Nat} {a k : Nat}, (∀ x ∈ l, a ≤ x / 2 ^ w) → (∀ j x, l[j]? = some x → ∀ y ∈ l.drop (j + 1), x / 2 ^ w ≤ y / 2 ^ w) →
    (∀ i x, l[i]? = some x → (L.drop ((k + i) * w)).take w = nb x w) → rdn w L (hp w last a l) a l.length k = l
  | [], a, k, _, _, _ => qpH
  | x :: l, a, k, h, hs, hL => by
    have hx := h x List.mem_cons_self
    have h0 := hs 0 x rfl
    rw [List.drop_succ_cons, List.drop_zero] at h0
    have h1 := hL 0 x rfl
    rw [Nat.add_zero] at h1
    have ih := qmq (w := w) (last := last) (L := L) (l := l) (a := x / 2 ^ w) (k := k + 1) h0 (fun j y hj => by
        have := hs (j + 1) y (by simpa using hj)
        rwa [List.drop_succ_cons] at this) (fun i y hy => by
        have := hL (i + 1) y (by simpa using hy)
        rwa [show k + 1 + i = k + (i + 1) from by omega])
    have hdm := Nat.div_add_mod x (2 ^ w)
    rw [hp, List.length_cons, qj6, rdn, if_neg (by decide), h1, qeE, show a + (x / 2 ^ w - a) = x / 2 ^ w from by omega, Nat.mul_comm, hdm, ih]
theorem qlI {l : List Int} {t : Int} : (∃ (ns : List Nat) (k : Nat), l = lc ns ∧ t = k ∧ k ≤ 1048576 ∧ ns.length ≤ 300 ∧ Up k 0 ns ∧ Fits k ns ∧ fw l t = fo8 k ns) ∨ (∃ e : Int, e ≠ 0 ∧ fw l t = fz8 e ∧ ¬ ∃ (ns : List Nat) (k : Nat), l = lc ns ∧ t = k ∧ k ≤ 1048576 ∧ ns.length ≤ 300 ∧ Up k 0 ns ∧ Fits k ns) := by
  by_cases h : fkc l t = 0
  · obtain ⟨ns, k, rfl, hk, rfl, hm, hu⟩ := qdV.1 h
    have hf2 := (qjD hk hm hu).2
    by_cases hf : Fits k ns
    · left; exact ⟨ns, k, rfl, rfl, hk, hm, hu, hf, by rw [hf2, if_pos hf]⟩
    · right
      refine ⟨8, by decide, by rw [hf2, if_neg hf], ?_⟩
      rintro ⟨ns', k', e1, e2, _, _, _, f⟩
      obtain rfl : k = k' := by omega
      have := congrArg nl e1
      rw [qhX, qhX] at this
      rw [← this] at f
      exact hf f
  · right
    refine ⟨fkc l t, h, qlH h, ?_⟩
    rintro ⟨ns', k', e1, e2, h1, h2, h3, f⟩
    exact h (qdV.2 ⟨ns', k', e2, h1, e1, h2, h3⟩)
theorem qhR {l : List Nat} {t : Nat} (hu : Up t 0 l) : rdn (wd l.length t) (loF t l) (hiF t l) 0 l.length 0 = l := by
  unfold hiF
  refine qmq (fun x _ => Nat.zero_le _) (qhj hu) (fun i x hx => ?_)
  rw [Nat.zero_add]
  exact qiP hx
theorem qkM {l l' : List Nat} {n t w lw hw : Int} {lb hb : List Int} (g : Good l n t w lw lb hw hb) (g' : Good l' n t w lw lb hw hb) : l = l' := by
  obtain ⟨k, rfl, hk, a1, a2, a3, a4, a5, a6, a7, a8, a9⟩ := g
  obtain ⟨k', e, hk', b1, b2, b3, b4, b5, b6, b7, b8, b9⟩ := g'
  obtain rfl : k = k' := by omega
  have hlen : l.length = l'.length := by omega
  have e1 : loF k l = loF k l' := qiT (qdz _ _) (qdz _ _) (by omega) (by rw [← a7, ← b7])
  have e2 : hiF k l = hiF k l' := qiT (qd0 _ _ _ _) (qd0 _ _ _ _) (by omega) (by rw [← a9, ← b9])
  rw [← qhR a4, ← qhR b4, e1, e2, hlen]
theorem qev {t : Nat} : ∀ {l : List Nat} {a : Nat}, Up t a l → ∀ {i j x y : Nat}, i ≤ j → l[i]? = some x → l[j]? = some y → x ≤ y
  | [], _, _, i, j, x, y, _, h, _ => by simp at h
  | n :: l, a, h, 0, 0, x, y, _, hx, hy => by simp at hx hy; omega
  | n :: l, a, h, 0, j + 1, x, y, _, hx, hy => by
    simp at hx hy
    have := (qku h.2.2 y (List.mem_of_getElem? hy)).1
    omega
  | n :: l, a, h, i + 1, 0, x, y, hij, _, _ => by omega
  | n :: l, a, h, i + 1, j + 1, x, y, hij, hx, hy => qev h.2.2 (i := i) (j := j) (by omega) (by simpa using hx) (by simpa using hy)
def At (l : List Nat) (v : Int) (c : Nat) : Prop := c ≤ l.length ∧ (∀ (i x : Nat), i < c → l[i]? = some x → (x : Int) < v) ∧ (∀ (i x : Nat), c ≤ i → l[i]? = some x → v ≤ (x : Int))
theorem qpF {a b : Nat} (h : a + b < 9223372036854775808) : iconv .i64 (ishr .u64 (iconv .u64 (iadd .i64 (a : Int) (b : Int))) 1) = (((a + b) / 2 : Nat) : Int) := by
  have h1 := qeT (n := a + b) (k := 1) (by omega)
  rw [show ((1 : Nat) : Int) = 1 from rfl, Nat.pow_one] at h1
  rw [jA (by omega), kz (by omega), h1, jZ (by omega)]
theorem qlU {F : Nat} {x : Int} : ko F x = some false := by simp [ko]
theorem qlE {F : Nat} {x y : Int} : yP F x y = some (decide (x < y)) := by
  simp [yP, vt, yz]
def gf (l : List Nat) (i : Int) : Int × Int := match (if 0 ≤ i then l[i.toNat]? else none) with | none => (0, 3) | some x => ((x : Int), 0)
structure Bd (lw : Int) (lb : List Int) (hw : Int) (hb : List Int) : Prop where
  ul : U8s lb
  uh : U8s hb
  il : I64 lw
  ih : I64 hw
  ll : lb.length ≤ 9223372036854775807
  lh : hb.length ≤ 9223372036854775807
theorem ql6 (hF : 20000 ≤ F) (b : Bd lw lb hw hb) (g : Good l n t w lw lb hw hb) : yR F n t w lw lb hw hb = some (lc l, 0) := by
  rcases qfI (F := F) (n := n) (t := t) (w := w) hF b.ul b.uh b.il b.ih b.ll b.lh with ⟨k, g', h⟩ | ⟨h, _⟩
  · rw [h, qkM g' g]
  · exact absurd ⟨l, g⟩ h
theorem qlr (hF : 20000 ≤ F) (b : Bd lw lb hw hb) (g : Good l n t w lw lb hw hb) : qaY F n t w lw lb hw hb = some 0 := by
  unfold qaY; rw [ql6 hF b g]; rfl
theorem qlK (hF : 20000 ≤ F) (b : Bd lw lb hw hb) (g : Good l n t w lw lb hw hb) {i : Int} : qbd F n t w lw lb hw hb i = some (gf l i) := by
  unfold qbd
  rw [qlr hF b g]
  simp only [Option.bind_some]
  rw [if_pos (by rfl)]
  obtain ⟨k, rfl, hk, rfl, rfl, w1, w2, w3, rfl, rfl, rfl, rfl⟩ := g
  unfold gf qaw
  by_cases hi : 0 ≤ i ∧ i < (l.length : Int)
  · obtain ⟨i, rfl⟩ := Int.eq_ofNat_of_zero_le hi.1
    have hx : l[i]? = some l[i] := List.getElem?_eq_getElem (by omega)
    rw [if_neg (by simp; omega), if_pos hi.1, Int.toNat_natCast, hx]
    unfold qav
    rw [if_neg (by simp), qlA hF hk w1 w2 w3 hx]
    rfl
  · rw [if_pos (by simp; omega)]
    have : (if 0 ≤ i then l[i.toNat]? else none) = none := by
      by_cases h0 : 0 ≤ i
      · rw [if_pos h0, List.getElem?_eq_none (by omega)]
      · rw [if_neg h0]
    rw [this]; rfl
theorem qny {k : Nat} (hk : k ≤ 1048576) (hm : l.length ≤ 300) (hu : Up k 0 l) (hf : Fits k l) : Good l (l.length : Int) (k : Int) ((wd l.length k : Nat) : Int) ((loF k l).length : Int) (pk (loF k l)) ((hiF k l).length : Int) (pk (hiF k l)) :=
  ⟨k, rfl, hk, rfl, rfl, hm, hu, hf, rfl, rfl, rfl, rfl⟩
theorem qpw {k : Nat} (hu : Up k 0 l) (hf : Fits k l) : Bd ((loF k l).length : Int) (pk (loF k l)) ((hiF k l).length : Int) (pk (hiF k l)) := by
  have hL : (loF k l).length ≤ 8192 := by rw [qb5]; exact hf.1
  have hH : (hiF k l).length ≤ 8192 := by rw [qdw hu]; exact hf.2
  exact ⟨qck (qdz _ _), qck (qd0 _ _ _ _), ⟨by omega, by omega⟩, ⟨by omega, by omega⟩, qjU hL, qjU hH⟩
theorem qln {F : Nat} (hF : 2000000 ≤ F) {g : List (List Int)} {N B least k m : Int} {b : List Int} (hp : pkE g B least k = 0) :
    vJ F g N B least k m b = some (if (fw (pkA g B least k.toNat g.length).2.2 m).2.2.2.2.2.2.2 ≠ 0 then (0, 0, 0, 0, 0, [], 0, 0, 0, 0, [], 0, [], (fw (pkA g B least k.toNat g.length).2.2 m).2.2.2.2.2.2.2) else
      (N, B, least, k, m, b, (fw (pkA g B least k.toNat g.length).2.2 m).1, (fw (pkA g B least k.toNat g.length).2.2 m).2.1, (fw (pkA g B least k.toNat g.length).2.2 m).2.2.1, (fw (pkA g B least k.toNat g.length).2.2 m).2.2.2.1, (fw (pkA g B least k.toNat g.length).2.2 m).2.2.2.2.1, (fw (pkA g B least k.toNat g.length).2.2 m).2.2.2.2.2.1, (fw (pkA g B least k.toNat g.length).2.2 m).2.2.2.2.2.2.1, 0)) := by
  unfold vJ
  rw [qml hF]
  simp only [Option.bind_some]
  have ht : ptl g B least k = ((pkA g B least k.toNat g.length).2.1, (pkA g B least k.toNat g.length).2.2, 0) := by unfold ptl; rw [if_neg (fun h => h hp)]
  rw [ht]
  simp only
  rw [if_neg (by decide), qkL (by omega)]
  simp only [Option.bind_some]
  by_cases h : (fw (pkA g B least k.toNat g.length).2.2 m).2.2.2.2.2.2.2 = 0
  · rw [if_neg (by simp [h]), if_neg (fun hh => hh h)]
  · rw [if_pos (by simpa using h), if_pos h]
theorem qff {g : List (List Int)} {B least : Int} {k : Nat} : ∀ n : Nat, (pkA g B least k n).2.2 = (List.range n).map fun i => ((pkA g B least k i).1.length : Int)
  | 0 => rfl
  | n + 1 => by
    rw [List.range_succ, List.map_append, ← qff (g := g) (B := B) (least := least) (k := k) n]
    rfl
def dpt (g : List (List Int)) (B least : Int) (k : Nat) : Nat → Nat → Nat
  | 0, _ => 0
  | f + 1, i => 1 + if (pkN g B least k i).1 = 0 then 0 else dpt g B least k f (i - (pkN g B least k i).1)
theorem qo8 {g : List (List Int)} {B least : Int} {k i : Nat} : (pkN g B least k i).1 ≤ i := by
  have := (qcw (g := g) (B := B) (least := least) (k := k) (i := i)).1
  omega
theorem qlz {g : List (List Int)} {least : Int} {k f i : Nat} : dpt g 0 least k (f + 1) i = 1 := by
  have : (pkN g 0 least k i).1 = 0 := by
    have := (qcw (g := g) (B := 0) (least := least) (k := k) (i := i)).1
    simp at this; exact this
  unfold dpt; rw [if_pos this]
theorem qpg {g : List (List Int)} (hg : Gr g) {B least : Int} {k : Nat} (hh : hcE B least (k : Int) = 0) (hl : (pkA g B least k g.length).1.length ≤ 8192) {i : Nat} (hi : i < g.length) :
    ∃ p q : Nat, p ≤ (pkA g B least k g.length).1.length ∧ pkO (pkA g B least k g.length).1 B i (pkA g B least k i).1.length = some (((pkN g B least k i).1 : Int), p) ∧
      rdl (pkA g B least k g.length).1 p (i : Int) (pkF g i (pkN g B least k i).1) ((pkN g B least k i).1 : Int) least k = some (g.getD i [], q) := by
  obtain ⟨k1, k2, k', hk, k3, k4⟩ := qaT hh
  have hkk : k = k' := by omega
  subst hkk
  obtain ⟨hr, _⟩ := qcw (g := g) (B := B) (least := least) (k := k) (i := i)
  have hgl := hg.1
  obtain ⟨R, hR⟩ := qh1 (g := g) (B := B) (least := least) (k := k) hi
  have hA : (pkA g B least k (i + 1)).1.length = (pkA g B least k i).1.length + (pkH B (pkN g B least k i).1).length + (enc (i : Int) (g.getD i []) (pkF g i (pkN g B least k i).1) ((pkN g B least k i).1 : Int) least k).length := by
    have := (qcw (g := g) (B := B) (least := least) (k := k) (i := i)).2
    rw [pkA, this]
    unfold pkW
    simp only [List.length_append]; omega
  have hM := qdD (g := g) (B := B) (least := least) (k := k) (show i + 1 ≤ g.length from hi)
  refine ⟨(pkA g B least k i).1.length + (pkH B (pkN g B least k i).1).length, (pkA g B least k i).1.length + (pkH B (pkN g B least k i).1).length + (enc (i : Int) (g.getD i []) (pkF g i (pkN g B least k i).1) ((pkN g B least k i).1 : Int) least k).length, by omega, ?_, ?_⟩
  · unfold pkO pkH
    by_cases hB : B = 0
    · have : (pkN g B least k i).1 = 0 := by rw [hB] at hr ⊢; simp at hr; exact hr
      rw [if_pos hB, this, if_neg (by omega)]
      simp
    · rw [if_neg hB, if_pos (by omega)]
      rw [hR]
      unfold pkH
      rw [if_pos (by omega)]
      simp only [List.append_assoc]
      exact qcJ (by omega) (by omega) _ _
  · have hE : (enc (i : Int) (g.getD i []) (pkF g i (pkN g B least k i).1) ((pkN g B least k i).1 : Int) least k).length ≤ 8192 := by omega
    have hD := qj5 (k := k) k3 k4 (node := (i : Int)) (back := ((pkN g B least k i).1 : Int)) (least := least) (x := g.getD i []) (fr := pkF g i (pkN g B least k i).1) (by unfold Nd; omega) k2 (qeQ hg i) (fun _ => qet hg _ _) ((pkA g B least k i).1 ++ pkH B (pkN g B least k i).1) R hE
    rw [hR]
    simp only [List.append_assoc, List.length_append] at hD ⊢
    exact hD
theorem qoY {l : List Nat} {i : Nat} (h : i < l.length) : gf l (i : Int) = (((l[i] : Nat) : Int), 0) := by
  unfold gf; rw [if_pos (by omega), Int.toNat_natCast, List.getElem?_eq_getElem h]
abbrev S14 := Int × Int × Int × Int × Int × List Int × Int × Int × Int × Int × List Int × Int × List Int × Int
def shz (e : Int) : S14 := (0, 0, 0, 0, 0, [], 0, 0, 0, 0, [], 0, [], e)
def fwp (g : List (List Int)) (B least k : Int) : F8 := fw (pkA g B least k.toNat g.length).2.2 ((pkA g B least k.toNat g.length).1.length : Int)
def shE (g : List (List Int)) (B least k : Int) : Int := if pkE g B least k ≠ 0 then pkE g B least k else (fwp g B least k).2.2.2.2.2.2.2
def shb (g : List (List Int)) (B least k : Int) : S14 :=
  if shE g B least k ≠ 0 then shz (shE g B least k) else ((g.length : Int), B, least, k, ((pkA g B least k.toNat g.length).1.length : Int), pk (pkA g B least k.toNat g.length).1, (fwp g B least k).1, (fwp g B least k).2.1, (fwp g B least k).2.2.1, (fwp g B least k).2.2.2.1, (fwp g B least k).2.2.2.2.1, (fwp g B least k).2.2.2.2.2.1, (fwp g B least k).2.2.2.2.2.2.1, 0)
theorem qmH {g : List (List Int)} {B least k : Int} : shE g B least k = 0 ↔ pkE g B least k = 0 ∧ (fwp g B least k).2.2.2.2.2.2.2 = 0 := by
  unfold shE
  by_cases h : pkE g B least k = 0
  · rw [if_neg (by simp [h])]; simp [h]
  · rw [if_pos h]; simp [h]
theorem qi1 {g : List (List Int)} {B least k : Int} (h : shE g B least k = 0) : shb g B least k = ((g.length : Int), B, least, k, ((pkA g B least k.toNat g.length).1.length : Int), pk (pkA g B least k.toNat g.length).1, (fwp g B least k).1, (fwp g B least k).2.1, (fwp g B least k).2.2.1, (fwp g B least k).2.2.2.1, (fwp g B least k).2.2.2.2.1, (fwp g B least k).2.2.2.2.2.1, (fwp g B least k).2.2.2.2.2.2.1, 0) := by
  unfold shb; rw [if_neg (by simp [h])]
theorem qg6 {g : List (List Int)} {B least k : Int} (h : shE g B least k ≠ 0) : shb g B least k = shz (shE g B least k) := by
  unfold shb; rw [if_pos h]
def blt (N B least k m : Int) (b : List Int) (f : F8) : S14 := if f.2.2.2.2.2.2.2 ≠ 0 then shz f.2.2.2.2.2.2.2 else (N, B, least, k, m, b, f.1, f.2.1, f.2.2.1, f.2.2.2.1, f.2.2.2.2.1, f.2.2.2.2.2.1, f.2.2.2.2.2.2.1, 0)
theorem qfO {F : Nat} (hF : 2000000 ≤ F) {g : List (List Int)} {N B least k m : Int} {b : List Int} (hp : pkE g B least k = 0) :
    vJ F g N B least k m b = some (blt N B least k m b (fw (pkA g B least k.toNat g.length).2.2 m)) := qln hF hp
theorem qhE {F : Nat} (hF : 2000000 ≤ F) {g : List (List Int)} {B least k : Int} : jF F g B least k = some (shb g B least k) := by
  unfold jF
  rw [qf6 hF]
  simp only [Option.bind_some]
  by_cases hp : pkE g B least k = 0
  · have e : pwr g B least k = ((g.length : Int), B, least, k, ((pkA g B least k.toNat g.length).1.length : Int), pk (pkA g B least k.toNat g.length).1, 0) := by
      unfold pwr; rw [if_neg (by simp [hp])]
    rw [e]
    simp only
    rw [if_neg (by decide), qfO hF hp]
    show some (blt _ _ _ _ _ _ (fwp g B least k)) = _
    unfold blt
    by_cases h : (fwp g B least k).2.2.2.2.2.2.2 = 0
    · rw [if_neg (by simp [h]), qi1 (qmH.2 ⟨hp, h⟩)]
    · have hs : shE g B least k = (fwp g B least k).2.2.2.2.2.2.2 := by unfold shE; rw [if_neg (by simp [hp])]
      rw [if_pos h, qg6 (by rw [hs]; exact h), hs]
  · have e : pwr g B least k = (0, 0, 0, 0, 0, [], pkE g B least k) := by
      unfold pwr; rw [if_pos hp]
    have hs : shE g B least k = pkE g B least k := by unfold shE; rw [if_pos hp]
    rw [e]
    simp only
    rw [if_pos (by simpa using hp), qg6 (by rw [hs]; exact hp), hs]
    rfl
theorem qkF (F : Nat) (g : List (List Int)) (N B least k m : Int) (b : List Int) : qaS F g N B least k m b = vJ F g N B least k m b := rfl
theorem qfW {g : List (List Int)} {B least k : Int} : (∃ (ns : List Nat) (kk : Nat), (pkA g B least k.toNat g.length).2.2 = lc ns ∧ ((pkA g B least k.toNat g.length).1.length : Int) = kk ∧ kk ≤ 1048576 ∧ ns.length ≤ 300 ∧ Up kk 0 ns ∧ Fits kk ns ∧ fwp g B least k = fo8 kk ns) ∨ (∃ e : Int, e ≠ 0 ∧ fwp g B least k = fz8 e) := by
  rcases qlI (l := (pkA g B least k.toNat g.length).2.2) (t := ((pkA g B least k.toNat g.length).1.length : Int)) with ⟨ns, kk, h1, h2, h3, h4, h5, h6, h7⟩ | ⟨e, h1, h2, _⟩
  · exact Or.inl ⟨ns, kk, h1, h2, h3, h4, h5, h6, h7⟩
  · exact Or.inr ⟨e, h1, h2⟩
theorem qnw {g : List (List Int)} {B least k : Int} : (fwp g B least k).2.2.2.2.1.length ≤ 1100 ∧ (fwp g B least k).2.2.2.2.2.2.1.length ≤ 1100 := by
  rcases qfW (g := g) (B := B) (least := least) (k := k) with ⟨ns, kk, h1, h2, h3, h4, h5, h6, h7⟩ | ⟨e, h1, h2⟩
  · rw [h7]
    have e1 := qb5 kk ns
    have e2 := qdw h5
    unfold Fits at h6
    unfold fo8
    simp only [qcx]
    omega
  · rw [h2]; unfold fz8; simp
theorem qk1 {F : Nat} {a1 a2 a3 a4 a6 n t w lw hw : Int} {a5 a7 xl xh : List Int} (h1 : a5.length < F) (h2 : a7.length < F) (h3 : a5.length ≤ 1000000) (h4 : a7.length ≤ 1000000) :
    qa2 F a1 a2 a3 a4 a5 a6 a7 n t w lw xl hw xh = some (decide ((a1, a2, a3, a4, a5, a6, a7) = (n, t, w, lw, xl, hw, xh))) := by
  unfold qa2 jT jU
  by_cases h : a1 = n ∧ a2 = t ∧ a3 = w ∧ a4 = lw ∧ a6 = hw
  · obtain ⟨rfl, rfl, rfl, rfl, rfl⟩ := h
    rw [if_pos (by simp), peqb h1 h3]
    simp only [Option.bind_some]
    by_cases h5 : a5 = xl
    · subst h5
      rw [if_pos (by simp), peqb h2 h4]
      simp
    · rw [if_neg (by simpa using h5)]
      simp [h5]
  · rw [if_neg (by simp; intros; simp_all), if_neg (by decide)]
    congr 1
    symm
    rw [decide_eq_false_iff_not]
    intro hc
    simp only [Prod.mk.injEq] at hc
    exact h ⟨hc.1, hc.2.1, hc.2.2.1, hc.2.2.2.1, hc.2.2.2.2.2.1⟩
instance f8Dec : DecidableEq F8 := fun a b => decidable_of_iff (a.1 = b.1 ∧ a.2 = b.2) ⟨fun h => Prod.ext h.1 h.2, fun h => by rw [h]; exact ⟨rfl, rfl⟩⟩
def shc (N B least k m : Int) (b : List Int) (n t w lw : Int) (xl : List Int) (hw : Int) (xh : List Int) : Int :=
  if (prd N B least k m b).2 ≠ 0 then (prd N B least k m b).2 else if fwp (prd N B least k m b).1 B least k = (n, t, w, lw, xl, hw, xh, 0) then 0 else 4
theorem qcb {F : Nat} (hF : 2000000 ≤ F) {N B least k m n t w lw hw : Int} {b xl xh : List Int} (hb : U8s b) (hm : I64 m) (lb : b.length ≤ 9223372036854775807) :
    vI F N B least k m b n t w lw xl hw xh = some (shc N B least k m b n t w lw xl hw xh) := by
  unfold vI shc
  rw [qmk hF hb hm lb]
  simp only [Option.bind_some]
  by_cases h : (prd N B least k m b).2 = 0
  · obtain ⟨g, h1, h2, h3, h4, h5⟩ := qpa hb h
    rw [h1]
    simp only
    rw [if_neg (by decide), if_neg (by simp), qkF, qfO hF h2]
    simp only [Option.bind_some]
    subst h4
    have ef : fw (pkA g B least k.toNat g.length).2.2 ((pkA g B least k.toNat g.length).1.length : Int) = fwp g B least k := rfl
    rw [ef]
    by_cases he : (fwp g B least k).2.2.2.2.2.2.2 = 0
    · have e2 : ∀ m', blt N B least k m' b (fwp g B least k) = (N, B, least, k, m', b, (fwp g B least k).1, (fwp g B least k).2.1, (fwp g B least k).2.2.1, (fwp g B least k).2.2.2.1, (fwp g B least k).2.2.2.2.1, (fwp g B least k).2.2.2.2.2.1, (fwp g B least k).2.2.2.2.2.2.1, 0) := by
        intro m'; unfold blt; rw [if_neg (by simp [he])]
      rw [e2]
      simp only
      rw [if_neg (by decide)]
      obtain ⟨l1, l2⟩ := qnw (g := g) (B := B) (least := least) (k := k)
      rw [qk1 (by omega) (by omega) (by omega) (by omega)]
      simp only [Option.bind_some]
      unfold yV
      by_cases hs : fwp g B least k = (n, t, w, lw, xl, hw, xh, 0)
      · rw [if_pos hs, hs]; simp
      · rw [if_neg hs, if_pos]
        simp only [Bool.not_eq_true', decide_eq_false_iff_not]
        intro hc
        apply hs
        simp only [Prod.mk.injEq] at hc
        obtain ⟨c1, c2, c3, c4, c5, c6, c7⟩ := hc
        rw [← c1, ← c2, ← c3, ← c4, ← c5, ← c6, ← c7, ← he]
    · have e2 : ∀ m', blt N B least k m' b (fwp g B least k) = shz (fwp g B least k).2.2.2.2.2.2.2 := by
        intro m'; unfold blt; rw [if_pos he]
      rw [e2, if_pos (by simpa [shz] using he)]
      unfold yV
      rw [if_pos (by rfl), if_neg]
      intro hc
      rw [hc] at he
      exact he rfl
  · rw [if_pos (by simpa using h), if_pos h]
theorem qi2 {g : List (List Int)} {B least k n t w lw hw : Int} {xl xh : List Int} (h : pkE g B least k = 0) (hs : fwp g B least k = (n, t, w, lw, xl, hw, xh, 0)) :
    shc (g.length : Int) B least k ((pkA g B least k.toNat g.length).1.length : Int) (pk (pkA g B least k.toNat g.length).1) n t w lw xl hw xh = 0 := by
  unfold shc
  rw [qmj h]
  simp only
  rw [if_neg (by decide), if_pos hs]
theorem qfV {g : List (List Int)} {B least : Int} {k : Nat} (hp : pkE g B least (k : Int) = 0) {n t w lw hw : Int} {xl xh : List Int} (hf : fwp g B least (k : Int) = (n, t, w, lw, xl, hw, xh, 0)) :
    ∀ (f F i rd : Nat), 2000000 + f ≤ F → i < f → i < g.length → rd + f ≤ 1000000 →
    zY F (g.length : Int) B least (k : Int) ((pkA g B least k g.length).1.length : Int) (pk (pkA g B least k g.length).1) n t w lw xl hw xh (rd : Int) (i : Int) =
      some (g.getD i [], (g.length : Int), B, least, (k : Int), ((pkA g B least k g.length).1.length : Int), n, t, w, lw, hw, ((rd + dpt g B least k f i : Nat) : Int))
  | 0, _, _, _, _, h, _, _ => by omega
  | f + 1, F, i, rd, hF, hi, hg, hr => by
    obtain ⟨F, rfl⟩ : ∃ F', F = F' + 1 := ⟨F - 1, by omega⟩
    obtain ⟨p1, p2, p3⟩ := qdc hp
    rw [Int.toNat_natCast] at p3
    have hG := qcE.1 p1
    have hgl := hG.1
    obtain ⟨k1, k2, k', hk, k3, k4⟩ := qaT p2
    have hkk : k = k' := by omega
    subst hkk
    obtain ⟨p, q, q1, q2, q3⟩ := qpg hG p2 p3 hg
    have hri := qo8 (g := g) (B := B) (least := least) (k := k) (i := i)
    have hbit := qb9 (g := g) (B := B) (least := least) (k := k) g.length
    have hmono := qdD (g := g) (B := B) (least := least) (k := k) (show i ≤ g.length by omega)
    have hget : qbd F n t w lw xl hw xh (i : Int) = some (((pkA g B least k i).1.length : Int), 0) := by
      rcases qfW (g := g) (B := B) (least := least) (k := (k : Int)) with ⟨ns, kk, h1, h2, h3, h4, h5, h6, h7⟩ | ⟨e, h1, h2⟩
      · rw [hf] at h7
        unfold fo8 at h7
        simp only [Prod.mk.injEq] at h7
        obtain ⟨rfl, rfl, rfl, rfl, rfl, rfl, rfl, -⟩ := h7
        rw [Int.toNat_natCast, qff] at h1
        have hlen : ns.length = g.length := by
          have := congrArg List.length h1
          rw [qaU] at this
          simpa using this.symm
        rw [qlK (by omega) (qpw h5 h6) (qny h3 h4 h5 h6), qoY (show i < ns.length by omega)]
        have h8 := qiL (l := ns) (i := i) (by omega)
        rw [← h1] at h8
        simp only [List.getElem?_map, List.getElem?_range hg, Option.map_some, Option.some.injEq] at h8
        rw [← h8]
      · rw [hf] at h2
        unfold fz8 at h2
        simp only [Prod.mk.injEq] at h2
        exact absurd h2.2.2.2.2.2.2.2.symm h1
    unfold zY
    simp only
    rw [hget]
    simp only [Option.bind_some]
    rw [qjX (by omega) hbit p3 k1 (by omega) (by omega), q2]
    simp only [Option.bind_some]
    have hfrom : ∀ fr : List Int, fr = pkF g i (pkN g B least k i).1 → va F ((pkA g B least k g.length).1.length : Int) (pk (pkA g B least k g.length).1) (p : Int) (i : Int) fr ((pkN g B least k i).1 : Int) least (k : Int) = some (g.getD i [], (q : Int), 0) := by
      rintro fr rfl
      rw [qif (by omega) k3 k4 hbit p3 (by unfold Nd; omega) q1 (fun _ => qet hG _ _) k2, q3]
    by_cases h0 : (pkN g B least k i).1 = 0
    · rw [if_neg (by simp [h0])]
      unfold zR
      simp only
      rw [hfrom [] (by unfold pkF; rw [h0, if_neg (by omega)])]
      simp only [Option.bind_some]
      rw [qw (by omega)]
      unfold dpt
      rw [if_pos h0]
    · rw [if_pos (by simp; omega), qw (by omega)]
      have e1 : isub .i64 (i : Int) ((pkN g B least k i).1 : Int) = ((i - (pkN g B least k i).1 : Nat) : Int) := by
        rw [zd (by omega) (by omega)]; omega
      rw [e1, qfV hp hf f F (i - (pkN g B least k i).1) (rd + 1) (by omega) (by omega) (by omega) (by omega)]
      simp only [Option.bind_some]
      unfold zR
      simp only
      rw [hfrom _ (by unfold pkF; rw [if_pos (by omega)])]
      simp only [Option.bind_some]
      have e2 : rd + dpt g B least k (f + 1) i = rd + 1 + dpt g B least k f (i - (pkN g B least k i).1) := by
        rw [dpt, if_neg h0]; omega
      rw [e2]
structure Shf (g : List (List Int)) (B least k n t w lw : Int) (xl : List Int) (hw : Int) (xh : List Int) : Prop where
  pe : pkE g B least k = 0
  fe : fwp g B least k = (n, t, w, lw, xl, hw, xh, 0)
theorem qkk {g : List (List Int)} {B least k : Int} (h : shE g B least k = 0) : Shf g B least k (fwp g B least k).1 (fwp g B least k).2.1 (fwp g B least k).2.2.1 (fwp g B least k).2.2.2.1 (fwp g B least k).2.2.2.2.1 (fwp g B least k).2.2.2.2.2.1 (fwp g B least k).2.2.2.2.2.2.1 := by
  obtain ⟨h1, h2⟩ := qmH.1 h
  refine ⟨h1, ?_⟩
  rw [← h2]
theorem qmL {g : List (List Int)} {B least k n t w lw hw : Int} {xl xh : List Int} (s : Shf g B least k n t w lw xl hw xh) :
    U8s (pk (pkA g B least k.toNat g.length).1) ∧ I64 ((pkA g B least k.toNat g.length).1.length : Int) ∧ (pk (pkA g B least k.toNat g.length).1).length ≤ 9223372036854775807 := by
  obtain ⟨p1, p2, p3⟩ := qdc s.pe
  refine ⟨qck (qb9 _), ⟨by omega, by omega⟩, ?_⟩
  rw [qcx]; omega
def rdn' (g : List (List Int)) (B least k : Int) (i : Nat) : Nat := dpt g B least k.toNat 101 i
theorem qgU {F : Nat} (hF : 2000200 ≤ F) {g : List (List Int)} {B least k n t w lw hw : Int} {xl xh : List Int} (s : Shf g B least k n t w lw xl hw xh) {i : Nat} (hi : i < g.length) :
    kS F (g.length : Int) B least k ((pkA g B least k.toNat g.length).1.length : Int) (pk (pkA g B least k.toNat g.length).1) n t w lw xl hw xh (i : Int) = some (g.getD i [], (rdn' g B least k i : Int), 0) := by
  obtain ⟨p1, p2, p3⟩ := qdc s.pe
  have hgl := (qcE.1 p1).1
  obtain ⟨k1, k2, k', rfl, k3, k4⟩ := qaT p2
  obtain ⟨b1, b2, b3⟩ := qmL s
  unfold kS
  rw [qcb (by omega) b1 b2 b3, qi2 s.pe s.fe]
  simp only [Option.bind_some]
  rw [if_pos (by rfl)]
  unfold vy
  rw [if_neg (by simp; omega)]
  unfold vx
  rw [if_neg (by decide)]
  have := qfV s.pe s.fe 101 F i 0 (by omega) (by omega) hi (by omega)
  rw [Int.toNat_natCast] at *
  rw [show ((0 : Nat) : Int) = 0 from rfl] at this
  rw [this]
  simp only [Option.bind_some]
  unfold rdn'
  rw [Int.toNat_natCast, Nat.zero_add]
theorem qlZ {F : Nat} (hF : 2000200 ≤ F) {g : List (List Int)} {B least k n t w lw hw : Int} {xl xh : List Int} (s : Shf g B least k n t w lw xl hw xh) {i : Int} (hi : i < 0 ∨ (g.length : Int) ≤ i) :
    kS F (g.length : Int) B least k ((pkA g B least k.toNat g.length).1.length : Int) (pk (pkA g B least k.toNat g.length).1) n t w lw xl hw xh i = some ([], 0, 3) := by
  obtain ⟨b1, b2, b3⟩ := qmL s
  unfold kS
  rw [qcb (by omega) b1 b2 b3, qi2 s.pe s.fe]
  simp only [Option.bind_some]
  rw [if_pos (by rfl)]
  unfold vy
  rw [if_pos (by simpa using hi)]
  unfold vx
  rw [if_pos (by decide)]
theorem qpP {F : Nat} {l : List Nat} {v : Int} {c : Nat} : qI F (lc l) v (c : Int) = some ((c : Int), decide ((l[c]?).map (fun x : Nat => (x : Int)) = some v)) := by
  unfold qI
  rw [qaU]
  by_cases h : c < l.length
  · rw [if_pos (by simpa using h), qR, qiL h, List.getElem?_eq_getElem h]
    simp only [Option.bind_some, Option.map_some]
    by_cases h2 : ((l[c] : Nat) : Int) = v
    · rw [if_pos (by simpa using h2), decide_eq_true (by rw [h2])]; rfl
    · rw [if_neg (by simpa using h2), qlU]
      simp only [Option.bind_some]
      rw [if_neg (by decide), decide_eq_false (by simpa using h2)]; rfl
  · rw [if_neg (by simpa using h), List.getElem?_eq_none (by omega)]; rfl
theorem qoS {F t : Nat} {l : List Nat} {v : Int} (hlm : l.length ≤ 300) (hu : Up t 0 l) : ∀ (k i j : Nat), j - i < k → i ≤ j → j ≤ l.length → (∀ (a x : Nat), a < i → l[a]? = some x → (x : Int) < v) → (∀ (a x : Nat), j ≤ a → l[a]? = some x → v ≤ (x : Int)) →
    ∃ c, At l v c ∧ qj F (lc l) v k ((i : Int), (j : Int)) = qI F (lc l) v (c : Int)
  | 0, _, _, _, _, _, _, _ => by omega
  | k + 1, i, j, hk, hij, hj, h1, h2 => by
    have e : qj F (lc l) v (k + 1) ((i : Int), (j : Int)) = qF F (lc l) v (qj F (lc l) v k) (i : Int) (j : Int) := rfl
    rw [e]
    unfold qF
    by_cases hlt : i < j
    · have hmid : (i + j) / 2 < l.length := by omega
      rw [if_pos (by simpa using hlt), qpF (by omega)]
      simp only [lett]
      rw [qR, qiL hmid]
      simp only [Option.bind_some]
      rw [qlE]
      simp only [Option.bind_some]
      have hg : l[(i + j) / 2]? = some l[(i + j) / 2] := List.getElem?_eq_getElem hmid
      by_cases hv : ((l[(i + j) / 2] : Nat) : Int) < v
      · rw [if_pos (by simpa using hv), qw (by omega)]
        refine qoS hlm hu k _ _ (by omega) (by omega) hj (fun a x ha hx => ?_) h2
        have := qev hu (show a ≤ (i + j) / 2 by omega) hx hg
        omega
      · rw [if_neg (by simpa using hv)]
        refine qoS hlm hu k _ _ (by omega) (by omega) (by omega) h1 (fun a x ha hx => ?_)
        have := qev hu ha hg hx
        omega
    · obtain rfl : i = j := by omega
      rw [if_neg (by simp)]
      exact ⟨i, ⟨hj, h1, h2⟩, rfl⟩
theorem qoT {F t : Nat} (hF : 20000 ≤ F) {l : List Nat} {v : Int} (hlm : l.length ≤ 300) (hu : Up t 0 l) : ∃ c : Int, qr F (lc l) v = some (c, decide (v ∈ lc l)) := by
  obtain ⟨c, ⟨g1, g2, g3⟩, h5⟩ := qoS (F := F) (v := v) hlm hu F 0 l.length (by omega) (Nat.zero_le _) (Nat.le_refl _) (fun a x ha => by omega) (fun a x ha hx => by rw [List.getElem?_eq_none (by omega)] at hx; simp at hx)
  refine ⟨(c : Int), ?_⟩
  unfold qr
  rw [qaU]
  rw [show ((0 : Nat) : Int) = 0 from rfl] at h5
  rw [h5, qpP]
  congr 2
  rw [decide_eq_decide]
  unfold lc
  constructor
  · intro h
    rw [Option.map_eq_some_iff] at h
    obtain ⟨x, h1, h2⟩ := h
    rw [← h2]
    exact List.mem_map.2 ⟨x, List.mem_of_getElem? h1, rfl⟩
  · intro h
    obtain ⟨x, h1, h2⟩ := List.mem_map.1 h
    obtain ⟨i, hi, h3⟩ := List.mem_iff_getElem.1 h1
    have h4 : l[i]? = some x := by rw [List.getElem?_eq_getElem hi, h3]
    have h6 : c ≤ i := by
      by_cases hc : c ≤ i
      · exact hc
      · have := g2 i x (by omega) h4; omega
    have hcl : c < l.length := by omega
    have h7 : l[c]? = some l[c] := List.getElem?_eq_getElem hcl
    have h8 := g3 c _ (Nat.le_refl _) h7
    have h9 := qev hu h6 h7 h4
    rw [h7, Option.map_some]
    congr 1
    omega
theorem qoL {t : Nat} : ∀ {l : List Int} {a : Int}, 0 ≤ a → (∀ x ∈ l, a ≤ x ∧ x ≤ t) → l.Pairwise (· < ·) → ∃ ns, l = lc ns ∧ Up t a.toNat ns
  | [], a, _, _, _ => ⟨[], rfl, trivial⟩
  | x :: l, a, ha, h, hp => by
    have h1 := h x (by simp)
    rw [List.pairwise_cons] at hp
    obtain ⟨ns, e, hu⟩ := qoL (t := t) (l := l) (a := x) (by omega) (fun y hy => ⟨Int.le_of_lt (hp.1 y hy), (h y (by simp [hy])).2⟩) hp.2
    refine ⟨x.toNat :: ns, ?_, by omega, by omega, hu⟩
    rw [e]
    show _ = ((x.toNat : Nat) : Int) :: lc ns
    rw [Int.toNat_of_nonneg (by omega)]
theorem qoU {F : Nat} (hF : 20000 ≤ F) {g : List (List Int)} (hg : Gr g) {i : Nat} (hi : i < g.length) {v : Int} : ∃ c : Int, qr F (g.getD i []) v = some (c, decide (v ∈ g.getD i [])) := by
  have hm : g.getD i [] ∈ g := by
    rw [List.getD_eq_getElem?_getD, List.getElem?_eq_getElem hi]; exact List.getElem_mem hi
  have h1 := hg.2.1 _ hm
  have h2 := qlQ hg hm
  have h3 := hg.1
  obtain ⟨ns, e, hu⟩ := qoL (t := 100) (l := g.getD i []) (a := 0) (by omega) (fun x hx => by have := h1.2 x hx; omega) h1.1
  have hl : ns.length ≤ 300 := by rw [← qaU, ← e]; omega
  rw [e]
  exact qoT hF hl hu
theorem qhU {F : Nat} (hF : 2000200 ≤ F) {g : List (List Int)} {B least k n t w lw hw : Int} {xl xh : List Int} (s : Shf g B least k n t w lw xl hw xh) {i : Nat} (hi : i < g.length) {v : Int} :
    jG F (g.length : Int) B least k ((pkA g B least k.toNat g.length).1.length : Int) (pk (pkA g B least k.toNat g.length).1) n t w lw xl hw xh (i : Int) v = some (if v < 0 ∨ (g.length : Int) ≤ v then (false, 3) else (decide (v ∈ g.getD i []), 0)) := by
  unfold jG
  rw [qgU hF s hi]
  simp only [Option.bind_some]
  rw [if_pos (by rfl)]
  unfold jv ju
  by_cases hv : v < 0 ∨ (g.length : Int) ≤ v
  · rw [if_pos (by simpa using hv), if_pos (by decide), if_pos hv]
  · rw [if_neg (by simpa using hv), if_neg (by simp), if_neg hv]
    obtain ⟨c, hc⟩ := qoU (F := F) (by omega) (qcE.1 (qdc s.pe).1) hi (v := v)
    simp only
    rw [hc]
    rfl
theorem qj1 {F : Nat} {xs ys : List Int} (he : xs.length = ys.length) (hm : xs.length ≤ 1000000) : ∀ (k i : Nat), xs.length < k + i → i ≤ xs.length → yj F xs ys k (i : Int) = some (decide (xs.drop i = ys.drop i))
  | 0, _, _, _ => by omega
  | k + 1, i, h, hi => by
    show jJ F xs ys (yj F xs ys k) (i : Int) = _
    unfold jJ
    by_cases hlt : i < xs.length
    · have hlt' : i < ys.length := by omega
      rw [if_pos (by simp; omega), qR, List.getElem?_eq_getElem hlt, qR, List.getElem?_eq_getElem hlt']
      simp only [Option.bind_some]
      rw [List.drop_eq_getElem_cons hlt, List.drop_eq_getElem_cons hlt']
      by_cases hc : xs[i] = ys[i]
      · rw [if_neg (by simp [hc]), qw (by omega), qj1 he hm k (i + 1) (by omega) (by omega)]
        congr 1
        rw [decide_eq_decide, List.cons.injEq]
        exact ⟨fun h => ⟨hc, h⟩, fun h => h.2⟩
      · rw [if_pos (by simpa using hc), decide_eq_false (fun e => hc (List.cons.inj e).1)]
    · rw [if_neg (by simp; omega), List.drop_eq_nil_of_le (by omega), List.drop_eq_nil_of_le (by omega)]
      rfl
theorem qiW {F : Nat} {xs ys : List Int} (hF : xs.length < F) (hm : xs.length ≤ 1000000) : qaW F xs ys = some (decide (xs = ys)) := by
  unfold qaW
  by_cases h : xs.length = ys.length
  · rw [if_neg (by simp [h])]
    have := qj1 (F := F) h hm F 0 (by omega) (Nat.zero_le _)
    rw [List.drop_zero, List.drop_zero] at this
    exact this
  · rw [if_pos (by simp; omega), decide_eq_false (fun e => h (by rw [e]))]
theorem qmI : shE pkSome 3 3 2 = 0 := by decide +kernel
theorem qmK : rdn' pkSome 3 3 2 1 = 2 := by decide +kernel
theorem qmJ : fwp pkSome 3 3 2 ≠ (0, 0, 0, 0, [], 0, [], 0) := by decide +kernel
theorem qnW {F : Nat} (hF : 2000200 ≤ F) : j2 F = some true := by
  have hS : qbF F = some pkSome := rfl
  have hE := qmI
  have s := qkk hE
  obtain ⟨b1, b2, b3⟩ := qmL s
  have l1 := qgU hF s (i := 1) (by decide)
  have l2 := qhU hF s (i := 4) (by decide) (v := 4)
  have l3 := qhU hF s (i := 4) (by decide) (v := 5)
  have l4 := qlZ hF s (i := 6) (by decide)
  have l5 := qcb (F := F) (by omega) (N := (pkSome.length : Int)) (B := 3) (least := 3) (k := 2) (n := (fwp pkSome 3 3 2).1) (t := (fwp pkSome 3 3 2).2.1) (w := (fwp pkSome 3 3 2).2.2.1) (lw := (fwp pkSome 3 3 2).2.2.2.1) (xl := (fwp pkSome 3 3 2).2.2.2.2.1) (hw := (fwp pkSome 3 3 2).2.2.2.2.2.1) (xh := (fwp pkSome 3 3 2).2.2.2.2.2.2.1) b1 b2 b3
  rw [qi2 s.pe s.fe] at l5
  have l6 := qcb (F := F) (by omega) (N := (pkSome.length : Int)) (B := 3) (least := 3) (k := 2) (n := 0) (t := 0) (w := 0) (lw := 0) (xl := []) (hw := 0) (xh := []) b1 b2 b3
  have e6 : shc (pkSome.length : Int) 3 3 2 ((pkA pkSome 3 3 (2 : Int).toNat pkSome.length).1.length : Int) (pk (pkA pkSome 3 3 (2 : Int).toNat pkSome.length).1) 0 0 0 0 [] 0 [] = 4 := by
    unfold shc
    rw [qmj s.pe]
    simp only
    rw [if_neg (by decide), if_neg qmJ]
  rw [e6] at l6
  rw [show ((1 : Nat) : Int) = 1 from rfl, qmK] at l1
  rw [show ((4 : Nat) : Int) = 4 from rfl] at l2 l3
  rw [if_neg (by decide), decide_eq_true (by decide)] at l2
  rw [if_neg (by decide), decide_eq_false (by decide)] at l3
  unfold j2
  rw [hS]
  simp only [Option.bind_some]
  rw [qhE (by omega), qi1 hE]
  simp only [Option.bind_some]
  rw [l1]
  simp only [Option.bind_some]
  rw [l2]
  simp only [Option.bind_some]
  rw [l3]
  simp only [Option.bind_some]
  rw [l4]
  simp only [Option.bind_some]
  rw [if_pos (by rfl), show pkSome.getD 1 [] = [1, 2, 3, 5] from rfl, qiW (by simp; omega) (by simp), decide_eq_true rfl]
  simp only [Option.bind_some]
  unfold vL
  simp only
  rw [if_pos (by rfl), l5]
  simp only [Option.bind_some]
  unfold vM
  simp only
  rw [if_pos (by rfl), l6]
  rfl
theorem qkO {F : Nat} (hF : 2000200 ≤ F) {g : List (List Int)} {B least k node : Int} : qbE F g B least k node = some true := by
  unfold qbE
  rw [qhE (by omega)]
  simp only [Option.bind_some]
  rw [qnW hF]
  simp only [Option.bind_some]
  rw [if_neg (by decide)]
  by_cases hE : shE g 0 least k = 0
  · have s := qkk hE
    rw [qi1 hE]
    simp only
    by_cases ho : node < 0 ∨ (g.length : Int) ≤ node
    · rw [if_pos (by simpa using ho)]
    · obtain ⟨i, rfl⟩ := Int.eq_ofNat_of_zero_le (a := node) (by omega)
      rw [if_neg (by simp; omega), qgU hF s (show i < g.length by omega)]
      simp only [Option.bind_some]
      unfold rdn'
      rw [qlz]
      rfl
  · rw [if_pos (by rw [qg6 hE]; simp [shz, hE])]
end Go.Proofs.YtmhggdbfbmkpeaaGreat
