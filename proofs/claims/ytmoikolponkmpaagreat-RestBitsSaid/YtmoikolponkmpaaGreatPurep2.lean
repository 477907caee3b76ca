/- Plain facts of what the functions of this seat compute, part 2. -/
import Derived.Test.YtmoikolponkmpaaGreatPure
import Derived.KernelRfl
import Derived.Lib.SlicesCompact
namespace Go.Proofs.YtmoikolponkmpaaGreat
open Go SX
variable {F : Nat} {rec68 : (List (Int × Int) × List Int × Int) → Option (List (Int × Int) × List Int)} {l : List Int} {least : Int} {o : List (Int × Int)} {rest : List Int} {i : Int}
variable {F : Nat} {x1 : Int} {x2 : List Int} {x5 : Int} {x6 x10 x13 : List Int} {x157 x161 : Int} {x156 x160 x164 x175 : List Int × List Int}
theorem qgM {l : List Int} : (codesM l).1.length ≤ 64 ∧ ∀ c ∈ (codesM l).1, c.2.length ≤ 1024 := by
  unfold codesM
  split
  · simp
  · rename_i h
    have hk := qew.1 (Decidable.not_not.1 h)
    split
    · simp
    · refine ⟨by simpa [cds] using hk.1, fun c hc => ?_⟩
      obtain ⟨i, hi, rfl⟩ := List.mem_map.1 hc
      have := (hk.at (List.mem_range.1 hi)).2
      simp only [ent, qcT, qiP]
      omega
theorem qh9 {s : List Int} {m : Int} : (packM s m).1.length ≤ 64 ∧ (packM s m).2.2.1.length ≤ 1024 := by
  unfold packM
  split
  · simp
  · split
    · simp
    · split
      · simp
      · refine ⟨qh3 _, ?_⟩
        simp only [qcT]
        omega
theorem qnR {F : Nat} {l : List Int} (hl : l.length < 17592186044416) : zt F l = some (l, [77]) := by
  unfold zt
  rw [qW (by omega) (by omega), vQ (by simp; omega)]
  simp only [Option.bind_some, List.nil_append]
  rw [vQ (by simp; omega)]
  simp only [Option.bind_some, cutP]
  rw [if_pos (by simp; omega)]
  simp [chk]
  omega
theorem qf8 {F : Nat} {n : Int} {l : List Int} (hl : l.length < 140737488355328) : q6 F n l = some (n, (l, [77])) := by
  unfold q6
  rw [qW (by omega) (by omega), vQ (by simp; omega)]
  simp only [Option.bind_some, List.nil_append]
  rw [vQ (by simp; omega)]
  simp only [Option.bind_some, cutP]
  rw [if_pos (by simp; omega)]
  simp [chk, vy]
  omega
theorem qp4 {F : Nat} {rec7 : (List (List Int) × Int) → Option (List (List Int))} {ls : List (List Int)} {i : Int} {l : List Int} (hm : l.length ≤ 100000) : ∀ (k j : Nat) (xs : List Int), xs.length = l.length → j ≤ xs.length → xs.length < k + j →
    ∃ ys : List Int, ys.length = l.length ∧ yp F rec7 ls i l k (xs, (j : Int)) = qa7 F rec7 i (ls.set i.toNat ys)
  | 0, _, _, _, _, h => by omega
  | k + 1, j, xs, hx, hj, h => by
    show ∃ ys : List Int, ys.length = l.length ∧ qaz F rec7 ls i l (yp F rec7 ls i l k) xs (j : Int) = _
    unfold qaz
    by_cases hlt : j < xs.length
    · have h1 : (j : Int) < (xs.length : Int) := by omega
      simp only [h1, decide_true, if_true, qM, List.getElem?_eq_getElem hlt, Option.bind_some, lett]
      rw [qW (by omega) (by omega)]
      exact qp4 hm k (j + 1) _ (by simp [hx]) (by simp; omega) (by simp; omega)
    · have h1 : ¬ (j : Int) < (xs.length : Int) := by omega
      refine ⟨xs, hx, ?_⟩
      rw [if_neg (by simpa using h1)]
      simp only [hx, decide_true, chk, if_true, lett]
theorem qp5 {F : Nat} {x1 : List (List Int)} (hm : x1.length ≤ 100000) (hF : 100000 < F) : ∀ (k i : Nat) (ls : List (List Int)), ls.length = x1.length → (∀ l ∈ ls, l.length ≤ 100000) → i ≤ ls.length → ls.length < k + i →
    ∃ r : List (List Int), r.length = x1.length ∧ zK F x1 k (ls, (i : Int)) = some r
  | 0, _, _, _, _, _, h => by omega
  | k + 1, i, ls, he, hl, hi, h => by
    show ∃ r : List (List Int), r.length = x1.length ∧ qa6 F x1 (zK F x1 k) ls (i : Int) = _
    unfold qa6
    by_cases hlt : i < ls.length
    · have h1 : (i : Int) < (x1.length : Int) := by omega
      simp only [h1, decide_true, if_true, qM, List.getElem?_eq_getElem hlt, Option.bind_some]
      have hli := hl _ (List.getElem_mem hlt)
      obtain ⟨ys, hy, e⟩ := qp4 (F := F) (rec7 := zK F x1 k) (ls := ls) (i := (i : Int)) hli F 0 ls[i] rfl (by omega) (by omega)
      rw [show (0 : Int) = ((0 : Nat) : Int) from rfl, e]
      unfold qa7
      rw [qW (by omega) (by omega)]
      refine qp5 hm hF k (i + 1) _ (by simp [he]) (fun l h => ?_) (by simp; omega) (by simp; omega)
      rcases List.mem_or_eq_of_mem_set h with h | rfl
      · exact hl l h
      · omega
    · have h1 : ¬ (i : Int) < (x1.length : Int) := by omega
      simp only [h1, decide_false, Bool.false_eq_true, if_false]
      exact ⟨ls, he, rfl⟩
theorem qk1 {F : Nat} {ls : List (List Int)} (hm : ls.length ≤ 100000) (hF : 100000 < F) (hl : ∀ l ∈ ls, l.length ≤ 100000) : ∃ r : List (List Int), r.length = ls.length ∧ qd7 F ls = some r :=
  qp5 hm hF F 0 ls rfl hl (by omega) (by omega)
theorem qnU {F : Nat} {rec7 : (List (Int × List Int) × Int) → Option (List (Int × List Int))} {ls : List (Int × List Int)} {i : Int} {l : Int × List Int} (hm : l.2.length ≤ 100000) : ∀ (k j : Nat) (xs : List Int), xs.length = l.2.length → j ≤ xs.length → xs.length < k + j →
    ∃ ys : List Int, ys.length = l.2.length ∧ km F rec7 ls i l k ((j : Int), xs) = vg F rec7 i (ls.set i.toNat (l.1, ys))
  | 0, _, _, _, _, h => by omega
  | k + 1, j, xs, hx, hj, h => by
    show ∃ ys : List Int, ys.length = l.2.length ∧ yO F rec7 ls i l (km F rec7 ls i l k) (j : Int) xs = _
    unfold yO
    by_cases hlt : j < xs.length
    · have h1 : (j : Int) < (xs.length : Int) := by omega
      simp only [h1, decide_true, if_true, qM, List.getElem?_eq_getElem hlt, Option.bind_some, lett]
      rw [qW (by omega) (by omega)]
      exact qnU hm k (j + 1) _ (by simp [hx]) (by simp; omega) (by simp; omega)
    · have h1 : ¬ (j : Int) < (xs.length : Int) := by omega
      refine ⟨xs, hx, ?_⟩
      rw [if_neg (by simpa using h1)]
      simp only [hx, decide_true, chk, if_true, lett]
theorem qnV {F : Nat} {x1 : List (Int × List Int)} (hm : x1.length ≤ 100000) (hF : 100000 < F) : ∀ (k i : Nat) (ls : List (Int × List Int)), ls.length = x1.length → (∀ l ∈ ls, l.2.length ≤ 100000) → i ≤ ls.length → ls.length < k + i →
    ∃ r : List (Int × List Int), r.length = x1.length ∧ ze F x1 k (ls, (i : Int)) = some r
  | 0, _, _, _, _, _, h => by omega
  | k + 1, i, ls, he, hl, hi, h => by
    show ∃ r : List (Int × List Int), r.length = x1.length ∧ vf F x1 (ze F x1 k) ls (i : Int) = _
    unfold vf
    by_cases hlt : i < ls.length
    · have h1 : (i : Int) < (x1.length : Int) := by omega
      simp only [h1, decide_true, if_true, qM, List.getElem?_eq_getElem hlt, Option.bind_some]
      have hli := hl _ (List.getElem_mem hlt)
      obtain ⟨ys, hy, e⟩ := qnU (F := F) (rec7 := ze F x1 k) (ls := ls) (i := (i : Int)) hli F 0 ls[i].2 rfl (by omega) (by omega)
      rw [show (0 : Int) = ((0 : Nat) : Int) from rfl, e]
      unfold vg
      rw [qW (by omega) (by omega)]
      refine qnV hm hF k (i + 1) _ (by simp [he]) (fun l h => ?_) (by simp; omega) (by simp; omega)
      rcases List.mem_or_eq_of_mem_set h with h | rfl
      · exact hl l h
      · simp only; omega
    · have h1 : ¬ (i : Int) < (x1.length : Int) := by omega
      simp only [h1, decide_false, Bool.false_eq_true, if_false]
      exact ⟨ls, he, rfl⟩
theorem qek {F : Nat} {ls : List (Int × List Int)} (hm : ls.length ≤ 100000) (hF : 100000 < F) (hl : ∀ l ∈ ls, l.2.length ≤ 100000) : ∃ r : List (Int × List Int), r.length = ls.length ∧ qay F ls = some r :=
  qnV hm hF F 0 ls rfl hl (by omega) (by omega)
theorem qpc {F : Nat} {l : List Int} (hF : l.length < F) (hm : l.length < 17592186044416) : qd6 F (l, [77]) l = some true := by
  unfold qd6
  rw [qhN, qdO hF (by omega)]
  simp only [Option.bind_some, decide_true, if_true]
  rw [qW (by omega) (by omega), qM]
  simp [chk, qcZ]
theorem qf7 {F : Nat} {n : Int} {l : List Int} (hF : l.length < F) (hm : l.length < 140737488355328) : ve F n (l, [77]) n l = some true := by
  unfold ve
  rw [qej hF (by omega)]
  simp only [Option.bind_some, and_self, decide_true, if_true]
  rw [qW (by omega) (by omega), qM]
  simp [chk, qax]
theorem qmW {F : Nat} {rec50 : (List (List Int) × Int) → Option Bool} {ls : List (List Int)} {i : Int} {l : List Int} (hm : l.length ≤ 100000) : ∀ (k j : Nat) (xs : List Int), xs.length = l.length → j ≤ xs.length → xs.length < k + j →
    ∃ ys : List Int, ys.length = l.length ∧ ya F rec50 ls i l k (xs, (j : Int)) = jU F rec50 i (ls.set i.toNat ys)
  | 0, _, _, _, _, h => by omega
  | k + 1, j, xs, hx, hj, h => by
    show ∃ ys : List Int, ys.length = l.length ∧ jD F rec50 ls i l (ya F rec50 ls i l k) xs (j : Int) = _
    unfold jD
    by_cases hlt : j < xs.length
    · have h1 : (j : Int) < (xs.length : Int) := by omega
      simp only [h1, decide_true, if_true, qM, List.getElem?_eq_getElem hlt, Option.bind_some, lett]
      rw [qW (by omega) (by omega)]
      exact qmW hm k (j + 1) _ (by simp [hx]) (by simp; omega) (by simp; omega)
    · have h1 : ¬ (j : Int) < (xs.length : Int) := by omega
      refine ⟨xs, hx, ?_⟩
      rw [if_neg (by simpa using h1)]
      simp only [hx, decide_true, chk, if_true, lett]
theorem qmV {x211 : List Int × Int} {x214 : List Int × Int × Int} (hF : 100000 < F)
    (hj : jP F x1 x2 x5 x6 x10 x13 x156 x157 x160 x161 x164 x175 = some true) : ∀ (k i : Nat) (ls : List (List Int)), ls.length = 2 → (∀ l ∈ ls, l.length ≤ 100000) → i ≤ 2 → 2 < k + i →
    zn F x1 x2 x5 x6 x10 x13 x156 x157 x160 x161 x164 x175 x211 x214 k (ls, (i : Int)) = some true
  | 0, _, _, _, _, _, h => by omega
  | k + 1, i, ls, he, hl, hi, h => by
    show jC F x1 x2 x5 x6 x10 x13 x156 x157 x160 x161 x164 x175 x211 x214 (zn F x1 x2 x5 x6 x10 x13 x156 x157 x160 x161 x164 x175 x211 x214 k) ls (i : Int) = _
    unfold jC
    by_cases hlt : i < ls.length
    · rw [if_pos (by simp; omega)]
      simp only [qM, List.getElem?_eq_getElem hlt, Option.bind_some]
      have hli := hl _ (List.getElem_mem hlt)
      obtain ⟨ys, hy, e⟩ := qmW (F := F) (rec50 := zn F x1 x2 x5 x6 x10 x13 x156 x157 x160 x161 x164 x175 x211 x214 k) (ls := ls) (i := (i : Int)) hli F 0 ls[i] rfl (by omega) (by omega)
      rw [show (0 : Int) = ((0 : Nat) : Int) from rfl, e]
      unfold jU
      rw [qW (by omega) (by omega)]
      refine qmV hF hj k (i + 1) _ (by simp [he]) (fun l h => ?_) (by omega) (by omega)
      rcases List.mem_or_eq_of_mem_set h with h | rfl
      · exact hl l h
      · omega
    · rw [if_neg (by simp; omega)]
      exact hj
theorem qmX {x211 : List Int × Int} {x214 : List Int × Int × Int} (hF : 100000 < F)
    (hj : jO F x1 x2 x5 x6 x10 x13 x156 x157 x160 x161 x164 x175 x211 x214 = some true) : ∀ (k j : Nat) (xs : List Int), xs.length ≤ 100000 → j ≤ xs.length → xs.length < k + j →
    yb F x1 x2 x5 x6 x10 x13 x156 x157 x160 x161 x164 x175 x211 x214 k (xs, (j : Int)) = some true
  | 0, _, _, _, _, h => by omega
  | k + 1, j, xs, hx, hj', h => by
    show jE F x1 x2 x5 x6 x10 x13 x156 x157 x160 x161 x164 x175 x211 x214 (yb F x1 x2 x5 x6 x10 x13 x156 x157 x160 x161 x164 x175 x211 x214 k) xs (j : Int) = _
    unfold jE
    by_cases hlt : j < xs.length
    · have h1 : (j : Int) < (xs.length : Int) := by omega
      simp only [h1, decide_true, if_true, qM, List.getElem?_eq_getElem hlt, Option.bind_some, lett]
      rw [qW (by omega) (by omega)]
      exact qmX hF hj k (j + 1) _ (by simp; omega) (by simp; omega) (by simp; omega)
    · rw [if_neg (by simp; omega)]
      exact hj
theorem qmY {x204 x208 x211 : List Int × Int} {x214 : List Int × Int × Int} {x217 : List (Int × List Int) × Int} {x226 : List Int × Int} {x229 : List Int × Int × List Int × Int} {x235 : List Int × Int} (hF : 100000 < F)
    (hc : x217.1.length ≤ 64 ∧ ∀ c ∈ x217.1, c.2.length ≤ 1024)
    (hj : jN F x1 x2 x5 x6 x10 x13 x156 x157 x160 x161 x164 x175 x204 x208 x211 x214 x226 x229 x235 = some true) : ∀ (k i : Nat), i ≤ x217.1.length → x217.1.length < k + i →
    zo F x1 x2 x5 x6 x10 x13 x156 x157 x160 x161 x164 x175 x204 x208 x211 x214 x217 x217 x226 x229 x235 k ((i : Int), (i : Int)) = some true
  | 0, _, _, h => by omega
  | k + 1, i, hi, h => by
    show jF F x1 x2 x5 x6 x10 x13 x156 x157 x160 x161 x164 x175 x204 x208 x211 x214 x217 x217 x226 x229 x235 (zo F x1 x2 x5 x6 x10 x13 x156 x157 x160 x161 x164 x175 x204 x208 x211 x214 x217 x217 x226 x229 x235 k) (i : Int) (i : Int) = _
    unfold jF
    by_cases hlt : i < x217.1.length
    · rw [if_pos (by simp; omega)]
      have hci := hc.2 _ (List.getElem_mem hlt)
      simp only [qM, List.getElem?_eq_getElem hlt, Option.bind_some]
      obtain ⟨r, hr, e⟩ := qek (F := F) (ls := [(x217.1[i].1, x217.1[i].2)]) (by simp) hF (by simp; omega)
      rw [e, qW (by omega) (by omega)]
      simp only [Option.bind_some, hr, decide_true, Nat.le_refl, chk, if_true]
      rw [if_pos (by simp)]
      have inner : ∀ (q j : Nat), i + 1 ≤ j → j ≤ x217.1.length → x217.1.length < q + j →
          yc F (zo F x1 x2 x5 x6 x10 x13 x156 x157 x160 x161 x164 x175 x204 x208 x211 x214 x217 x217 x226 x229 x235 k) x217 x217 (i : Int) q (j : Int) = some true := by
        intro q
        induction q with
        | zero => intro j h1 h2 h3; omega
        | succ q ih =>
          intro j h1 h2 h3
          show jG F _ x217 x217 (i : Int) (yc F _ x217 x217 (i : Int) q) (j : Int) = _
          unfold jG
          by_cases hjt : j < x217.1.length
          · rw [if_pos (by simp; omega)]
            have hcj := hc.2 _ (List.getElem_mem hjt)
            simp only [qM, List.getElem?_eq_getElem hjt, Option.bind_some]
            rw [qej (by omega) (by omega), qW (by omega) (by omega), qW (by omega) (by omega)]
            simp only [Option.bind_some, and_self, decide_true, Bool.not_true, Bool.false_eq_true, if_false, chk]
            rw [if_pos (by simp; omega)]
            exact ih (j + 1) (by omega) (by omega) (by omega)
          · rw [if_neg (by simp; omega)]
            unfold qbH
            rw [qW (by omega) (by omega)]
            exact qmY hF hc hj k (i + 1) (by omega) (by omega)
      exact inner F (i + 1) (by omega) (by omega) (by omega)
    · rw [if_neg (by simp; omega)]
      exact hj
theorem qi0 {F : Nat} {x1 : Int} {x2 : List Int} {x5 : Int} {x6 : List Int} {x9 : Int} {x10 x13 : List Int} {x16 : Int} (hF : 2000000 + x2.length + x6.length + x10.length + x13.length ≤ F)
    (g1 : I64 x1) (b2 : U8s x2) (l2 : x2.length * 1 ≤ 140737488351232) (g5 : I64 x5) (b6 : U8s x6) (l6 : x6.length * 1 ≤ 140737488351232) (b9 : U64 x9) (l10 : x10.length * 8 ≤ 140737488351232) (b13 : N64 x13) (l13 : x13.length * 8 ≤ 140737488351232) :
    qdx F x1 x2 x5 x6 x9 x10 x13 x16 = some true := by
  unfold qdx
  rw [qf8 (by omega), qf8 (by omega), qnR (by omega)]
  simp only [Option.bind_some]
  unfold qG
  rw [qW (by omega) (by omega), vQ (by simp; omega)]
  simp only [Option.bind_some, List.nil_append]
  rw [vQ (by simp; omega)]
  simp only [Option.bind_some, cutP]
  rw [if_pos (by simp; omega)]
  simp only [Option.bind_some, Int.toNat_natCast, List.take_left', List.drop_left', chk]
  rw [if_pos (by simp; omega)]
  have hn : U64 (irem x9 16) := by
    unfold irem U64 at *
    rw [Int.tmod_eq_emod_of_nonneg b9.1]
    omega
  obtain ⟨n, rfl⟩ := Int.eq_ofNat_of_zero_le b9.1
  have hn9 : n < 18446744073709551616 := by have := b9.2; omega
  rw [qqB (by omega) b2 g1 hn (by omega), qpb (by omega) b2 b6 g1 g5 (by omega) (by omega), qqe (by omega) b2 g1 (by omega), qpf (by omega) (by omega) b13 (by omega), qnl (by omega) b9, qnm (by omega) b9,
    qne (by omega), qmf (by omega) hn9, qo2 (by omega) (by omega) (by omega), qmR (by omega) (by omega) b13 (by omega), qpP (by omega) b2, qpL (by omega) b2 g1 (by omega), qdp (by omega),
    qjr (by omega) (fun c hc => by
      simp only [List.mem_cons, List.mem_nil_iff, or_false] at hc
      rcases hc with rfl | rfl
      · exact ⟨b2, g1, by simp; omega⟩
      · exact ⟨b6, g5, by simp; omega⟩), qdL (by omega), qlJ (by omega) (by omega), qfY (by omega) b2 g1 (by omega)]
  simp only [Option.bind_some]
  rw [qju (by omega)]
  simp only [Option.bind_some, Bool.not_true, Bool.false_eq_true, if_false]
  rw [qiN (by omega)]
  simp only [Option.bind_some, Bool.not_true]
  unfold qav
  rw [if_neg (by simp), qiL (by omega)]
  simp only [Option.bind_some, Bool.not_true]
  unfold jH
  rw [if_neg (by simp), qhH (by omega)]
  simp only [Option.bind_some, Bool.not_true]
  unfold jI
  rw [if_neg (by simp), qkC (by omega)]
  simp only [Option.bind_some, Bool.not_true]
  unfold jJ
  rw [if_neg (by simp), qpQ (by omega)]
  simp only [Option.bind_some, Bool.not_true]
  unfold jK
  rw [if_neg (by simp), qqr (by omega)]
  simp only [Option.bind_some, Bool.not_true]
  unfold jL
  rw [if_neg (by simp), qmj (by omega)]
  simp only [Option.bind_some, Bool.not_true]
  unfold jM
  rw [if_neg (by simp)]
  obtain ⟨r, hr, e⟩ := qek (F := F) (ls := [((pt x1 x2 (irem (n : Int) 16) 4).1, (pt x1 x2 (irem (n : Int) 16) 4).2.1), ((jn x1 x2 x5 x6).1, (jn x1 x2 x5 x6).2.1), ((ct x1 x2 0 x1).1, (ct x1 x2 0 x1).2.1), ((um x13).1, (um x13).2.1), ((ec ga (n : Int)).1, (ec ga (n : Int)).2.1), ((go (n : Int) 7).1, (go (n : Int) 7).2.1), ((fcd n).1, (fcd n).2.1), ((packM x10 9).2.1, (packM x10 9).2.2.1)])
    (by simp) (by omega) (by
      intro l hl
      simp only [List.mem_cons, List.mem_nil_iff, or_false] at hl
      have h1 := @qqA x1 x2 (irem (n : Int) 16) 4
      have h2 := @qqq x1 x5 x2 x6
      have h3 := @qqd x1 0 x1 x2
      have h4 := @qqP x13
      have h5 := @qnd (n : Int)
      have h6 := @qqm (n : Int) 7 (by omega)
      have h7 := @qoX n
      have h8 := (@qh9 x10 9).2
      rcases hl with rfl | rfl | rfl | rfl | rfl | rfl | rfl | rfl <;> simp only <;> omega)
  rw [e]
  simp only [Option.bind_some, hr, decide_true, chk, if_true]
  refine qmY (by omega) qgM ?_ F 0 (by omega) (by have := (qgM (l := x10)).1; omega)
  unfold jN
  obtain ⟨r2, hr2, e2⟩ := qk1 (F := F) (ls := [(fprt n).1, (hlenM x10).1, (packM x10 9).1, (qdR x10 x1 x2 x16).1]) (by simp) (by omega) (by
      intro l hl
      simp only [List.mem_cons, List.mem_nil_iff, or_false] at hl
      have h1 := @qnh n
      have h2 := qh3 x10
      have h3 := (@qh9 x10 9).1
      have h4 := qko x10 x1 x2 x16
      rcases hl with rfl | rfl | rfl | rfl <;> omega)
  rw [e2]
  simp only [Option.bind_some, hr2, decide_true, chk, if_true]
  have hv := qoJ (x13.flatMap vn)
  refine qmX (by omega) ?_ F 0 _ (by omega) (by omega) (by omega)
  unfold jO
  refine qmV (by omega) ?_ F 0 _ rfl (fun l hl => ?_) (by omega) (by omega)
  · unfold jP
    rw [show ve F x1 (x2, [77]) x1 x2 = some true from qf7 (by omega) (by omega)]
    simp only [Option.bind_some, if_true]
    rw [show ve F x5 (x6, [77]) x5 x6 = some true from qf7 (by omega) (by omega)]
    simp only [Option.bind_some]
    unfold jQ
    rw [if_pos rfl, show qd6 F (x10, [77]) x10 = some true from qpc (by omega) (by omega)]
    simp only [Option.bind_some]
    unfold jR
    rw [if_pos rfl, qhO, show z7 F x13 x13 = _ from qdO (by omega) (by omega)]
    simp only [Option.bind_some, decide_true]
    unfold jS
    rw [if_pos rfl, qW (by omega) (by omega), qM]
    simp [chk, jT]
  · simp only [List.mem_cons, List.mem_nil_iff, or_false] at hl
    have h1 := qmP x2
    have h2 := @qqN x1 2 x2
    rcases hl with rfl | rfl <;> omega
end Go.Proofs.YtmoikolponkmpaaGreat
