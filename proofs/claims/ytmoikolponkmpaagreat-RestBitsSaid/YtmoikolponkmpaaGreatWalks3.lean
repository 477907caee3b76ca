/- Each Go function of this seat computes what its model says, part 3. -/
import Derived.Test.YtmoikolponkmpaaGreatWalks2
namespace Go.Proofs.YtmoikolponkmpaaGreat
open Go SX
set_option maxHeartbeats 4000000 in
theorem qqX (a : Option Addr) (c : Nat) (hs xs : List ((List Int × Int) × (Option Addr × Nat))) (i : Nat) (y : (List Int × Int) × (Option Addr × Nat)) (gv cv : Nat) (hi : i ≤ xs.length) (hl : xs.length < 100000) :
    PureM Tryz.prog 204 [qv a hs.length xs.length c 2, .int .i64 (i : Int), .slice (some ⟨gv, 0, none⟩) 1 cv] [] [Ro eN193 193 2 (.slice a (hs ++ xs).length c) (hs ++ xs), Ro eN193 193 2 (.slice (some ⟨gv, 0, none⟩) [y].length cv) [y]] []
      (Option Addr × Nat × List ((List Int × Int) × (Option Addr × Nat))) (fun q => qv q.1 q.2.2.length (xs.take i ++ y :: xs.drop i).length q.2.1 2) (fun _ => []) (fun q => [Ro eN193 193 2 (.slice q.1 (q.2.2 ++ (xs.take i ++ y :: xs.drop i)).length q.2.1) (q.2.2 ++ (xs.take i ++ y :: xs.drop i))]) := by
  refine k6 Tryz.func204 rfl Tryz.ntmps204 rfl (m := some ()) (r := ()) rfl (fun w => ?_)
  refine qgq (l' := [(0, qv a hs.length xs.length c 2), (1, .int .i64 (i : Int)), (2, .slice (some ⟨gv, 0, none⟩) 1 cv)]) rfl ?_
  refine qoj 0 rfl (fun hc p hq hp => ?_)
  refine qog (d := 0) rfl hq ?_
  refine qO ?_
  refine qr ?_
  refine zl rfl rfl rfl ?_
  refine qD ?_
  refine qE ?_
  refine qO ?_
  refine qr ?_
  refine qB rfl rfl rfl ?_
  refine qB rfl rfl rfl ?_
  refine qbD rfl Tryz.underlying190 tf193 rfl rfl rfl hi (by omega) rfl rfl ?_
  refine qD ?_
  refine qE ?_
  refine qO ?_
  refine qr ?_
  refine qB rfl rfl rfl ?_
  refine qdP rfl Tryz.underlying189 rfl rfl ?_
  refine zl rfl rfl rfl ?_
  refine qD ?_
  refine qE ?_
  refine qO ?_
  refine qO ?_
  refine qr ?_
  refine qB rfl rfl rfl ?_
  refine qgr rfl rfl rfl rfl ?_
  refine qD ?_
  refine qE ?_
  refine qbC (b := false) rfl (fun h => by cases h) (fun _ => ?_)
  refine jx ?_
  refine qE ?_
  refine qO ?_
  refine qr ?_
  refine qB rfl rfl rfl ?_
  refine qdP rfl Tryz.underlying190 rfl rfl ?_
  refine zl rfl rfl rfl ?_
  refine qD ?_
  refine qE ?_
  refine qO ?_
  refine qO ?_
  refine qr ?_
  refine qB rfl rfl rfl ?_
  refine qB rfl rfl rfl ?_
  refine qgr rfl rfl rfl rfl ?_
  refine qD ?_
  refine qE ?_
  refine qbC (b := ((i : Int) == (xs.length : Int))) rfl (fun hb => ?_) (fun hb => ?_)
  · have hin : i = xs.length := by have := beq_iff_eq.1 hb; omega
    refine qO ?_
    refine qr ?_
    refine qB rfl rfl rfl ?_
    refine qB rfl rfl rfl ?_
    refine qmC (hs := hs) (xs := xs) (ys := [y]) (a := a) (c := c) 0 1 ju rfl Tryz.underlying190 Tryz.underlying189 tf193 rfl rfl (congrArg some hq.symm) rfl rfl rfl (by simp; omega) (by decide) (fun a' c' h' => ?_)
    refine zl rfl rfl rfl ?_
    refine qD ?_
    refine qE ?_
    refine qc7 ?_
    refine qcH ?_
    have e : xs.take i ++ y :: xs.drop i = xs ++ [y] := by rw [hin]; simp
    rw [e]
    exact qcF (a', c', h') (res1 rfl rfl) (hB := fun _ => .nil) (hv := fun _ => rfl) (hR := fun _ => .cons 0 rfl .nil)
  have hlt : i < xs.length := by
    have : ¬ ((i : Int) = (xs.length : Int)) := by simpa using hb
    omega
  obtain ⟨g, rfl, rfl⟩ := hp (by omega)
  refine jx ?_
  refine qE ?_
  refine qO ?_
  refine qO ?_
  refine qr ?_
  refine qB rfl rfl rfl ?_
  refine qB rfl rfl rfl ?_
  refine qc8 rfl rfl rfl rfl ?_
  refine qb (d := 28) (v := .int .i64 ((xs.length + 1 : Nat) : Int)) rfl (by simp [iadd, IntKind.wrap_i64] <;> omega) ?_
  refine qB rfl rfl rfl ?_
  refine qol rfl Tryz.underlying190 rfl rfl ?_
  refine qgs rfl rfl rfl rfl ?_
  refine qD ?_
  refine qE ?_
  refine qbC (b := decide (((c - hs.length : Nat) : Int) < ((xs.length + 1 : Nat) : Int))) rfl (fun hb2 => ?_) (fun hb2 => ?_)
  · have hfull : c - hs.length < xs.length + 1 := by have := of_decide_eq_true hb2; omega
    have hfull' : c - hs.length = xs.length := by omega
    refine qO ?_
    refine qr ?_
    refine qB rfl rfl rfl ?_
    refine qB rfl rfl rfl ?_
    refine qbD (L := 0) (H := i) rfl Tryz.underlying190 tf193 rfl rfl rfl (by omega) (by omega) rfl rfl ?_
    refine qb (d := 34) (v := .slice (some ⟨g, hs.length * 2, none⟩) i (c - hs.length)) rfl (by have h0 := qbA (size := 2) (g := g) (o := hs.length * 2) (c := c - hs.length) (L := 0) (H := i) (by omega); simpa using h0) ?_
    refine qB rfl rfl rfl ?_
    refine qB rfl rfl rfl ?_
    refine qc8 rfl rfl rfl rfl ?_
    refine qB rfl rfl rfl ?_
    refine qlX rfl rfl rfl rfl ?_
    refine qb (d := 39) (v := .int .i64 ((xs.length + 1 - i : Nat) : Int)) rfl (by simp [iadd, isub, IntKind.wrap_i64] <;> omega) ?_
    refine qmD (xs := hs ++ xs) (zy := (([], 0), (none, 0))) (K0 := hs.length) (sl := i) (k := xs.length + 1 - i) (g := g) (j := 0) ju (by decide) rfl Tryz.underlying190 Tryz.underlying3 tf193 rfl rfl rfl rfl rfl (by simp; omega) (by omega) (by omega) (by omega) (by decide) (fun g' c' hc' => ?_)
    refine zl rfl rfl rfl ?_
    refine qD ?_
    have e1 : i + (xs.length + 1 - i) = xs.length + 1 := by omega
    rw [e1] at hc' ⊢
    have e2 : ((hs ++ xs).drop hs.length).take i = xs.take i := by simp
    rw [e2]
    have hl2 : (xs.take i ++ List.replicate (xs.length + 1 - i) ((([], 0), (none, 0)) : (List Int × Int) × (Option Addr × Nat))).length = xs.length + 1 := by simp; omega
    refine qE ?_
    refine qO ?_
    refine qr ?_
    refine qB rfl rfl rfl ?_
    refine qB rfl rfl rfl ?_
    refine qbD (L := i) (H := xs.length + 1) rfl Tryz.underlying190 tf193 rfl rfl rfl (by omega) hc' (qbA (by omega)) rfl ?_
    refine qb (d := 43) (v := .slice (some ⟨g', i * 2, none⟩) (xs.length + 1 - i) (c' - i)) rfl (by simp) ?_
    refine qB rfl rfl rfl ?_
    refine qeA (K := i) (K0 := 0) (k := 1) (g := g') (g2 := gv) (j := 0) (j2 := 2) (ys := [y]) ju rfl Tryz.underlying190 tf193 rfl rfl rfl rfl rfl (by rw [hl2]; omega) (by omega) (by simp) (by omega) (fun zs hz => ?_)
    refine qD ?_
    refine qE ?_
    have h1 : (xs.take i).length = i := by simp; omega
    have hz' : zs = xs.take i ++ y :: List.replicate (xs.length - i) ((([], 0), (none, 0)) : (List Int × Int) × (Option Addr × Nat)) := by
      rw [← hz, List.take_left' h1, List.drop_append, show (xs.take i).drop (i + 1) = [] from List.drop_eq_nil_of_le (by rw [h1]; omega), h1, show i + 1 - i = 1 by omega, List.drop_replicate, show xs.length + 1 - i - 1 = xs.length - i by omega]
      simp
    subst hz'
    have hl3 : (xs.take i ++ y :: List.replicate (xs.length - i) ((([], 0), (none, 0)) : (List Int × Int) × (Option Addr × Nat))).length = xs.length + 1 := by simp; omega
    refine qO ?_
    refine qT mixed [] [] [] .nil qL 9 rfl ?_
    refine qj 0 (.slice (some ⟨g', 0, none⟩) (xs.length + 1) c') rfl rfl rfl (vc rfl) ?_
    refine qj 1 (.int .i64 (i : Int)) rfl rfl rfl (vc rfl) ?_
    refine qj 2 (.int .i64 1) rfl rfl rfl (vc rfl) ?_
    refine qj 3 (.int .i64 (iadd .i64 (i : Int) 1)) rfl rfl rfl (vc rfl) ?_
    refine qo (d := 49) (v := .int .i64 ((i + 1 : Nat) : Int)) rfl (by simp [iadd, IntKind.wrap_i64] <;> omega) ?_
    refine qj 4 (.slice (some ⟨g', 0 + (i + 1) * 2, none⟩) (xs.length + 1 - (i + 1)) (c' - (i + 1))) rfl rfl rfl (qfC Tryz.underlying190 tf193 rfl rfl rfl (by omega) hc' (qbA (by omega))) ?_
    refine qo (d := 50) (v := .slice (some ⟨g', (i + 1) * 2, none⟩) (xs.length - i) (c' - (i + 1))) rfl (by simp) ?_
    refine qj 5 (.slice (some ⟨g, hs.length * 2, none⟩) xs.length (c - hs.length)) rfl rfl rfl (vc rfl) ?_
    refine qj 6 (.int .i64 (i : Int)) rfl rfl rfl (vc rfl) ?_
    refine qj 7 (.slice (some ⟨g, hs.length * 2 + i * 2, none⟩) (xs.length - i) (c - hs.length - i)) rfl rfl rfl (qfC Tryz.underlying190 tf193 rfl rfl rfl hi (by omega) (qbA (by omega))) ?_
    refine qo (d := 53) (v := .slice (some ⟨g, (hs.length + i) * 2, none⟩) (xs.length - i) (c - hs.length - i)) rfl (by rw [Nat.add_mul]) ?_
    refine yH 8 rfl (by kernel_rfl) rfl ?_
    refine qeA (K := i + 1) (K0 := hs.length + i) (k := xs.length - i) (g := g') (g2 := g) (j := 0) (j2 := 1) (ys := hs ++ xs) ju rfl Tryz.underlying190 tf193 rfl rfl rfl rfl rfl (by rw [hl3]; omega) (by omega) (by simp; omega) (by omega) (fun zs hz => ?_)
    refine qD ?_
    refine q9 .nil qL ?_
    refine qb8 (by kernel_rfl) ?_
    refine qR ?_ (by intro c h; cases h)
    refine qE ?_
    have t1 : (xs.take i ++ y :: List.replicate (xs.length - i) ((([], 0), (none, 0)) : (List Int × Int) × (Option Addr × Nat))).take (i + 1) = xs.take i ++ [y] := by
      rw [List.take_append, List.take_of_length_le (by rw [h1]; omega), h1, show i + 1 - i = 1 by omega]; rfl
    have e3 : (hs ++ xs).drop (hs.length + i) = xs.drop i := by rw [List.drop_append, List.drop_eq_nil_of_le (by omega)]; simp
    have hz' : zs = xs.take i ++ y :: xs.drop i := by
      rw [← hz, t1, e3, show (xs.take i ++ y :: List.replicate (xs.length - i) ((([], 0), (none, 0)) : (List Int × Int) × (Option Addr × Nat))).drop (i + 1 + (xs.length - i)) = [] from List.drop_eq_nil_of_le (by rw [hl3]; omega), show (xs.drop i).take (xs.length - i) = xs.drop i from List.take_of_length_le (by simp)]
      simp
    subst hz'
    refine qO ?_
    refine qr ?_
    refine qB rfl rfl rfl ?_
    refine zl rfl rfl rfl ?_
    refine qD ?_
    refine qE ?_
    refine qc7 ?_
    refine qcH ?_
    exact qcF (some ⟨g', 0, none⟩, c', []) (res1 rfl rfl) (hB := fun _ => .nil) (hR := fun _ => .cons 0 rfl .nil) (hv := fun _ => by simp [qv]; omega)
  have hroom : xs.length + 1 ≤ c - hs.length := by have := of_decide_eq_false hb2; omega
  refine jx ?_
  refine qE ?_
  refine qO ?_
  refine qr ?_
  refine qB rfl rfl rfl ?_
  refine qB rfl rfl rfl ?_
  refine qB rfl rfl rfl ?_
  refine qc8 rfl rfl rfl rfl ?_
  refine qb (d := 59) (v := .int .i64 ((xs.length + 1 : Nat) : Int)) rfl (by simp [iadd, IntKind.wrap_i64] <;> omega) ?_
  refine qbD (L := 0) (H := xs.length + 1) rfl Tryz.underlying190 tf193 rfl rfl rfl (by omega) hroom (qbA (by omega)) rfl ?_
  refine qb (d := 60) (v := .slice (some ⟨g, hs.length * 2, none⟩) (xs.length + 1) (c - hs.length)) rfl (by simp) ?_
  refine zl rfl rfl rfl ?_
  refine qD ?_
  refine qE ?_
  refine qO ?_
  refine qO ?_
  refine qr ?_
  refine qB rfl rfl rfl ?_
  refine qB rfl rfl rfl ?_
  refine qB rfl rfl rfl ?_
  refine qB rfl rfl rfl ?_
  refine qc8 rfl rfl rfl rfl ?_
  refine qb (d := 65) (v := .int .i64 ((i + 1 : Nat) : Int)) rfl (by simp [iadd, IntKind.wrap_i64] <;> omega) ?_
  refine qbD (L := i + 1) (H := xs.length + 1) rfl Tryz.underlying190 tf193 rfl rfl rfl (by omega) hroom (qbA (by omega)) rfl ?_
  refine qmL (tR := 4) (i := 1) (j := 0) (ys := [y]) (xs := hs ++ xs) (size := 2) (fun args w => run_callFunc_extern Tryz.func239 (by kernel_rfl) (by kernel_rfl) (by kernel_rfl) (by kernel_rfl) args w) rfl rfl rfl Tryz.underlying189 tf193 rfl rfl (by decide) (by omega) rfl ?_
  refine qlW rfl rfl rfl ?_
  refine qD ?_
  refine qE ?_
  refine qbC (b := true) rfl (fun _ => ?_) (fun h => by cases h)
  refine qO ?_
  refine qT mixed [] [] [] .nil qL 9 rfl ?_
  refine qj 0 (.slice (some ⟨g, hs.length * 2, none⟩) (xs.length + 1) (c - hs.length)) rfl rfl rfl (vc rfl) ?_
  refine qj 1 (.int .i64 (i : Int)) rfl rfl rfl (vc rfl) ?_
  refine qj 2 (.int .i64 1) rfl rfl rfl (vc rfl) ?_
  refine qj 3 (.int .i64 (iadd .i64 (i : Int) 1)) rfl rfl rfl (vc rfl) ?_
  refine qo (d := 72) (v := .int .i64 ((i + 1 : Nat) : Int)) rfl (by simp [iadd, IntKind.wrap_i64] <;> omega) ?_
  refine qj 4 (.slice (some ⟨g, hs.length * 2 + (i + 1) * 2, none⟩) (xs.length + 1 - (i + 1)) (c - hs.length - (i + 1))) rfl rfl rfl (qfC Tryz.underlying190 tf193 rfl rfl rfl (by omega) hroom (qbA (by omega))) ?_
  refine qo (d := 73) (v := .slice (some ⟨g, (hs.length + i + 1) * 2, none⟩) (xs.length - i) (c - hs.length - (i + 1))) rfl (by simp <;> omega) ?_
  refine qj 5 (.slice (some ⟨g, hs.length * 2, none⟩) (xs.length + 1) (c - hs.length)) rfl rfl rfl (vc rfl) ?_
  refine qj 6 (.int .i64 (i : Int)) rfl rfl rfl (vc rfl) ?_
  refine qj 7 (.slice (some ⟨g, hs.length * 2 + i * 2, none⟩) (xs.length + 1 - i) (c - hs.length - i)) rfl rfl rfl (qfC Tryz.underlying190 tf193 rfl rfl rfl (by omega) hroom (qbA (by omega))) ?_
  refine qo (d := 76) (v := .slice (some ⟨g, (hs.length + i) * 2, none⟩) (xs.length + 1 - i) (c - hs.length - i)) rfl (by rw [Nat.add_mul]) ?_
  refine yH 8 rfl (by kernel_rfl) rfl ?_
  refine qeA (K := hs.length + i + 1) (K0 := hs.length + i) (k := xs.length - i) (g := g) (g2 := g) (j := 0) (j2 := 0) (xs := hs ++ xs) (ys := hs ++ xs) ju rfl Tryz.underlying190 tf193 rfl rfl rfl rfl rfl (by simp; omega) (by omega) (by simp; omega) (by omega) (fun zs hz => ?_)
  refine qD ?_
  refine q9 .nil qL ?_
  refine qb8 (by kernel_rfl) ?_
  refine qR ?_ (by intro c h; cases h)
  refine qE ?_
  have hz' : zs = hs ++ (xs.take (i + 1) ++ xs.drop i) := by
    have e3 : (hs ++ xs).drop (hs.length + i) = xs.drop i := by rw [List.drop_append, List.drop_eq_nil_of_le (by omega)]; simp
    have e4 : (hs ++ xs).take (hs.length + i + 1) = hs ++ xs.take (i + 1) := by rw [List.take_append, List.take_of_length_le (by omega), show hs.length + i + 1 - hs.length = i + 1 by omega]
    rw [← hz, e3, e4, show (xs.drop i).take (xs.length - i) = xs.drop i from List.take_of_length_le (by simp), show (hs ++ xs).drop (hs.length + i + 1 + (xs.length - i)) = [] from List.drop_eq_nil_of_le (by simp; omega)]
    simp
  subst hz'
  have hl4 : (hs ++ (xs.take (i + 1) ++ xs.drop i)).length = hs.length + xs.length + 1 := by simp; omega
  refine qO ?_
  refine qr ?_
  refine qB rfl rfl rfl ?_
  refine qB rfl rfl rfl ?_
  refine qbD (L := i) (H := xs.length + 1) rfl Tryz.underlying190 tf193 rfl rfl rfl (by omega) hroom (qbA (by omega)) rfl ?_
  refine qb (d := 80) (v := .slice (some ⟨g, (hs.length + i) * 2, none⟩) (xs.length + 1 - i) (c - hs.length - i)) rfl (by rw [Nat.add_mul]) ?_
  refine qB rfl rfl rfl ?_
  refine qeA (K := hs.length + i) (K0 := 0) (k := 1) (g := g) (g2 := gv) (j := 0) (j2 := 1) (xs := hs ++ (xs.take (i + 1) ++ xs.drop i)) (ys := [y]) ju rfl Tryz.underlying190 tf193 rfl rfl rfl rfl rfl (by rw [hl4]; omega) (by omega) (by simp) (by omega) (fun zs hz => ?_)
  refine qD ?_
  refine qE ?_
  have hz' : zs = hs ++ (xs.take i ++ y :: xs.drop i) := by
    have e5 : (hs ++ (xs.take (i + 1) ++ xs.drop i)).take (hs.length + i) = hs ++ xs.take i := by
      rw [List.take_append, List.take_of_length_le (by omega), show hs.length + i - hs.length = i by omega, List.take_append_of_le_length (by simp; omega), List.take_take, show min i (i + 1) = i by omega]
    have e6 : (hs ++ (xs.take (i + 1) ++ xs.drop i)).drop (hs.length + i + 1) = xs.drop i := by
      have hx1 : (hs ++ xs.take (i + 1)).length = hs.length + i + 1 := by simp; omega
      rw [← List.append_assoc, List.drop_left' hx1]
    rw [← hz, e5, e6]
    simp
  subst hz'
  refine qO ?_
  refine qr ?_
  refine qB rfl rfl rfl ?_
  refine zl rfl rfl rfl ?_
  refine qD ?_
  refine qE ?_
  refine qc7 ?_
  refine qcH ?_
  have e7 : (xs.take i ++ y :: xs.drop i).length = xs.length + 1 := by simp; omega
  refine qcF (some ⟨g, 0, none⟩, c, hs) (res1 rfl rfl) (hB := fun _ => .nil) (hR := fun _ => .cons 0 rfl .nil) (hv := fun _ => ?_)
  have := qqC (g := g) (h := hs.length) (n := xs.length + 1) (c := c) (size := 2) (by omega)
  rw [e7]; exact this.symm
theorem qmU (F g : Nat) (a : Option Addr) (c : Nat) (hs zs : List ((List Int × Int) × (Option Addr × Nat))) (x : List (List Int × Int)) (ss : List Int) (sa : Option Addr) (sc : Nat) (w k : Int) (hm : qfG F x ss w = some k) :
    PureM Tryz.prog 131 [.pointer (some ⟨g, 0, none⟩), .agg #[.slice sa ss.length sc, .int .i64 w]] [⟨g, 190, [qv a hs.length zs.length c 2]⟩] [Ro eN193 193 2 (.slice a (hs ++ zs).length c) (hs ++ zs)] [HN iN193 x zs, Sl (eI .i64) 1 (.slice sa ss.length sc) ss]
      (Option Addr × Nat × List ((List Int × Int) × (Option Addr × Nat))) (fun _ => .tuple #[]) (fun q => [⟨g, 190, [qv q.1 q.2.2.length (insK k zs ((ss, w), (sa, sc))).length q.2.1 2]⟩]) (fun q => [Ro eN193 193 2 (.slice q.1 (q.2.2 ++ insK k zs ((ss, w), (sa, sc))).length q.2.1) (q.2.2 ++ insK k zs ((ss, w), (sa, sc)))]) := by
  unfold qfG at hm
  cases hb : qp F x ss w with
  | none => rw [hb] at hm; simp at hm
  | some p0 =>
  rw [hb] at hm
  simp only [Option.bind_some] at hm
  split at hm
  · rename_i h
    simp only [Option.some.injEq] at hm
    subst hm
    obtain ⟨h0, h1, h2⟩ := h
    refine k6 Tryz.func131 rfl Tryz.ntmps131 rfl (m := (qp F x ss w).bind fun _ => some ()) (r := ()) (by rw [hb]; rfl) (fun W => ?_)
    refine qgq (l' := [(0, .pointer (some ⟨g, 0, none⟩)), (1, .agg #[.slice sa ss.length sc, .int .i64 w])]) rfl ?_
    refine qqK 0 rfl (fun hx => ?_)
    have hlen : x.length = zs.length := by rw [← hx, List.length_map]
    refine qoj 0 rfl (fun hc p hq _ => ?_)
    refine qO ?_
    refine qr ?_
    refine qlU rfl rfl rfl (fun g8 => ?_)
    refine qD ?_
    refine qE ?_
    refine qO ?_
    refine qT mixed [] [⟨g8, 193, [.slice sa ss.length sc, .int .i64 w]⟩, ⟨g, 190, [qv a hs.length zs.length c 2]⟩] [] (.cons 0 rfl (.cons 0 rfl .nil)) qL 10 rfl ?_
    refine qj 0 (.pointer (some ⟨g, 0, none⟩)) rfl rfl rfl (vc rfl) ?_
    refine qj 1 (.pointer (some ⟨g, 0, none⟩)) rfl rfl rfl (vc rfl) ?_
    refine zJ 2 (qv a hs.length zs.length c 2) rfl rfl rfl (zQ (i := 1) rfl tf190 rfl rfl (fun _ => rfl) rfl) ?_
    refine zJ 3 (.agg #[.slice sa ss.length sc, .int .i64 w]) rfl rfl rfl (zQ (i := 0) rfl tf193 rfl rfl (by simp) rfl) ?_
    refine qo (d := 9) (v := .slice p x.length (c - hs.length)) rfl (by rw [hq, hlen]) ?_
    refine yH 4 rfl (by kernel_rfl) rfl ?_
    refine qmE ent202 rfl rfl rfl (fun y ey => zS F x p (c - hs.length, zs.map (·.2)) ss sa sc w y ey) (fun w2 hp2 φ hφ => ?_) (fun y ey => ?_)
    · rcases List.mem_cons.1 hφ with rfl | hφ
      · have h3 := qqp (f := 0) (j := 0) ju hp2 rfl rfl
        rw [hq] at h3
        rw [hlen]
        exact h3
      · rw [List.mem_singleton] at hφ
        subst hφ
        exact (hp2.per _ (List.mem_of_getElem? (i := 1) rfl)).here
    intro _
    have hy : y = p0 := by
      rw [hb] at ey
      simpa using ey.symm
    subst hy
    refine qD ?_
    refine q9 (.cons 0 rfl (.cons 0 rfl .nil)) qL ?_
    refine qj 5 (.tuple #[.int .i64 y.1, .bool y.2]) rfl rfl rfl (vc rfl) ?_
    refine qj 6 (.int .i64 y.1) rfl rfl rfl (vc rfl) ?_
    refine qj 7 (.bool y.2) rfl rfl rfl (vc rfl) ?_
    refine qj 8 (.int .i64 y.1) rfl rfl rfl (vc rfl) ?_
    refine qj 9 (.bool y.2) rfl rfl rfl (vc rfl) ?_
    refine qb8 (by kernel_rfl) ?_
    refine qR ?_ (by intro c h; cases h)
    refine qE ?_
    refine qT mixed [9] [⟨g8, 193, [.slice sa ss.length sc, .int .i64 w]⟩] [BlkD.is ⟨g, 190, [qv a hs.length zs.length c 2]⟩] (.cons 0 rfl .nil) (qkJ 1 rfl qL) 10 rfl ?_
    refine qj 0 (.pointer (some ⟨g, 0, none⟩)) rfl rfl rfl (vc rfl) ?_
    refine qj 1 (.pointer (some ⟨g, 0, none⟩)) rfl rfl rfl (vc rfl) ?_
    refine qj 2 (.pointer (some ⟨g, 0, none⟩)) rfl rfl rfl (vc rfl) ?_
    refine zq 3 (qv a hs.length zs.length c 2) [[9]] rfl rfl rfl (qhm (j := 0) rfl tf190 rfl rfl (fun _ => rfl) rfl) ?_
    refine qj 4 (.int .i64 y.1) rfl rfl rfl (vc rfl) ?_
    refine qo (d := 18) (v := .int .i64 (y.1.toNat : Int)) rfl (by rw [Int.toNat_of_nonneg h0]) ?_
    refine zJ 5 (.agg #[.slice sa ss.length sc, .int .i64 w]) rfl rfl rfl (zQ (i := 0) rfl tf193 rfl rfl (by simp) rfl) ?_
    refine yH 6 rfl (by kernel_rfl) rfl ?_
    refine qq (vs := [.agg #[.slice sa ss.length sc, .int .i64 w]]) (ys := [((ss, w), (sa, sc))]) ju (by decide) rfl Tryz.underlying189 tf193 rfl rfl rfl rfl rfl (by decide) (fun a34 c35 => ?_)
    refine qlb 0 rfl (by simp) (fun gv hgv => ?_)
    subst hgv
    refine qD ?_
    refine q9 (.cons 0 rfl .nil) (qkJ 1 rfl qL) ?_
    refine yH 7 rfl (by kernel_rfl) rfl ?_
    refine qa0 (mg := some ()) (k := fun _ => some ()) ent204 rfl rfl rfl (fun _ _ => qqX a c hs zs y.1.toNat ((ss, w), (sa, sc)) gv c35 (by omega) (by omega)) .nil (.cons 1 rfl (.cons 0 rfl .nil)) .nil (fun _ _ q => ?_)
    obtain ⟨p2, q2, hq2⟩ := qg2 q.1 q.2.2.length (insK y.1 zs ((ss, w), (sa, sc))).length q.2.1 2
    refine qb (d := 21) (v := .slice p2 (insK y.1 zs ((ss, w), (sa, sc))).length q2) rfl hq2 ?_
    refine qD ?_
    refine q9 (.cons 0 rfl .nil) (qkJ 1 rfl qL) ?_
    refine qj 8 (.pointer (some ⟨g, 0, none⟩)) rfl rfl rfl (vc rfl) ?_
    refine yH 9 rfl (by kernel_rfl) rfl ?_
    refine zw (i := 1) rfl rfl rfl tf190 rfl rfl rfl rfl rfl ?_
    refine qD ?_
    refine qdu 9 rfl (by kernel_rfl) (.cons 0 rfl .nil) ?_
    refine qb8 (by kernel_rfl) ?_
    refine qR ?_ (by intro c h; cases h)
    exact qcF q (res0 rfl) (hB := fun _ => by rw [hq2]; exact .cons 1 rfl .nil) (hR := fun _ => .cons 0 rfl .nil) (hv := fun _ => rfl)
  · simp at hm
theorem qpV (g : Nat) (a : Option Addr) (c : Nat) (hs zs : List ((List Int × Int) × (Option Addr × Nat))) (q : (List Int × Int) × (Option Addr × Nat)) :
    PureM Tryz.prog 132 [.pointer (some ⟨g, 0, none⟩)] [⟨g, 190, [qv a hs.length (q :: zs).length c 2]⟩] [Ro eN193 193 2 (.slice a (hs ++ q :: zs).length c) (hs ++ q :: zs)] []
      (List ((List Int × Int) × (Option Addr × Nat))) (fun _ => .agg #[.slice q.2.1 q.1.1.length q.2.2, .int .i64 q.1.2]) (fun h' => [⟨g, 190, [qv a h'.length zs.length c 2]⟩]) (fun h' => [Ro eN193 193 2 (.slice a (h' ++ zs).length c) (h' ++ zs)]) := by
  have q1 : idx (q :: zs) 0 = some q := by simp [idx]
  have q2 : sub (q :: zs) 1 ((q :: zs).length : Int) = some zs := by
    unfold sub
    rw [if_pos (by simp only [List.length_cons]; omega), Int.toNat_natCast, List.take_of_length_le (Nat.le_refl _)]
    rfl
  refine k6 Tryz.func132 rfl Tryz.ntmps132 rfl (m := (idx (q :: zs) 0).bind fun y => (sub (q :: zs) 1 ((q :: zs).length : Int)).bind fun t => some (y, t)) (r := (q, zs)) (by rw [q1, Option.bind_some, q2]; rfl) (fun W => ?_)
  refine qgq (l' := [(0, .pointer (some ⟨g, 0, none⟩))]) rfl ?_
  refine qO ?_
  refine qr ?_
  refine qah rfl tf193 rfl (fun g2 => ?_)
  refine qD ?_
  refine qE ?_
  refine qO ?_
  refine qr ?_
  refine qB rfl rfl rfl ?_
  refine qcB rfl rfl rfl ?_
  refine zh (i := 1) rfl rfl tf190 rfl rfl (fun _ => rfl) rfl rfl ?_
  refine qhd (hs := hs) (xs := q :: zs) (j := 0) rfl Tryz.underlying190 tf193 rfl rfl rfl rfl (fun y hy g' hg => ?_)
  refine y8 (j := 0) (y := y) ju rfl rfl tf193 rfl hg (qlN hy) (by simp) rfl rfl ?_
  refine qah rfl tf193 rfl (fun g3 => ?_)
  refine zw (i := 0) rfl rfl rfl tf193 rfl rfl rfl rfl rfl ?_
  refine qD ?_
  refine qE ?_
  refine qO ?_
  refine qr ?_
  refine qB rfl rfl rfl ?_
  refine qB rfl rfl rfl ?_
  refine qcB rfl rfl rfl ?_
  refine zh (i := 2) rfl rfl tf190 rfl rfl (fun _ => rfl) rfl rfl ?_
  refine qoq (hs := hs) (xs := q :: zs) (j := 0) rfl Tryz.underlying190 tf193 rfl rfl rfl rfl (fun t ht h' => ?_)
  obtain ⟨p2, q2, hq2⟩ := qg2 a h'.length t.length c 2
  refine qb (d := 13) (v := .slice p2 t.length q2) rfl hq2 ?_
  refine qcB rfl rfl rfl ?_
  refine zw (i := 2) rfl rfl rfl tf190 rfl rfl rfl rfl rfl ?_
  refine qD ?_
  refine qE ?_
  refine qO ?_
  refine qr ?_
  refine zh (i := 0) rfl rfl tf193 rfl rfl (by simp) rfl rfl ?_
  refine zw (i := 1) rfl rfl rfl tf193 rfl rfl rfl rfl rfl ?_
  refine qD ?_
  refine qE ?_
  refine qc7 ?_
  have e1 : y = q := by simpa [idx] using hy.symm
  have e2 : t = zs := by
    have := (qfv ht).2.2.2
    simpa using this
  subst e1
  subst e2
  exact qcF h' (resL (rs := [.cell 2 193]) rfl (.cell (i := 1) rfl tf193 rfl rfl (by simp) rfl .nil) rfl) (hB := fun _ => by rw [hq2]; exact .cons 2 rfl .nil) (hR := fun _ => .cons 0 rfl .nil) (hv := fun _ => rfl)
theorem qfF (F : Nat) (x1 : Int) (r : Bool) (hm : qbN F x1 = some r) :
    Pure Tryz.prog 134 [.int .i64 x1] [] Unit (fun _ => .bool r) (fun _ => []) (fun _ => []) := by
 refine qk Tryz.func134 rfl Tryz.ntmps134 rfl hm (fun w => ?_)
 exact az [24,14,3,5,4,0,2,3,5,1,24,13,4,0,2,9,16]
set_option maxHeartbeats 4000000 in
theorem vx {F : Nat} {x1 : List Int} {a2 : Option Addr} {c3 : Nat} {r : Int} (hm : zx F x1 = some r) :
    Pure Tryz.prog 205 [.slice a2 x1.length c3, .func (.func 134) #[] #[]] [Sl (eI .i64) 1 (.slice a2 x1.length c3) x1] Unit (fun _ => .int .i64 r) (fun _ => []) (fun _ => []) := by
 refine qk Tryz.func205 rfl Tryz.ntmps205 rfl hm (fun w => ?_)
 refine au [24,10,3,5,4,0,2] ?_
 refine qm (fun ((_, _) : (Unit × Unit)) => ([], [], [], [], zW F)) ?_ ?_
 refine au [3,5,1,24,4,1,0,2,18] ?_
 refine qx (fun ((x54, _) : (Int × Unit)) => ([(0, .slice a2 x1.length c3), (1, .func (.func 134) #[] #[]), (7, .int .i64 (x1.length : Int)), (8, .int .i64 x54)], [], [], [Sl (eI .i64) 1 (.slice a2 x1.length c3) x1])) (fun k (s : (Int × Unit)) => qA F x1 k s.1) (0, ()) F ?_
 intro k67
 rintro ⟨x54, _⟩
 try dsimp only
 refine qN (m' := qY F x1 (qA F x1 k67) x54) rfl ?_
 refine av [3,5,24,3,0,2,3,10] ?_ ?_
 intro _
 refine au [13,2,3,18,3,5,1,4,0,2,3,5,1,1,1,26,6] ?_
 intro x74 e74 b75 o76
 refine au [25,9] ?_
 refine yZ ent134 rfl rfl rfl rfl (fun x77 e77 => qfF F x74 x77 e77) .nil (fun x77 e77 _ => ?_)
 refine av [0,2,10] ?_ ?_
 intro _
 exact az [3,5,1,4,0,2,9,24,0,12,12,24,0,12,16]
 intro _
 refine au [13,24,2,2,5,21,1,0] ?_
 exact qs (iadd .i64 x54 1, ())
 intro _
 exact az [24,8,20,20,24,9,25,13]
 rintro ⟨_, _⟩
 try dsimp only
 exact az [3,5,4,0,2,9,16]
theorem yQ {F : Nat} {x1 : List Int} {a2 : Option Addr} {c3 : Nat} {r : Bool} (hm : zp F x1 = some r) :
    Pure Tryz.prog 133 [.slice a2 x1.length c3, .func (.func 134) #[] #[]] [Sl (eI .i64) 1 (.slice a2 x1.length c3) x1] Unit (fun _ => .bool r) (fun _ => []) (fun _ => []) := by
 refine qk Tryz.func133 rfl Tryz.ntmps133 rfl hm (fun w => ?_)
 refine au [24,10,3,5,4,0,2,3,5,1,1] ?_
 refine qh vx ?_
 intro x4 e4 _
 exact az [25,5,4,0,2,9,16]
set_option maxHeartbeats 4000000 in
theorem qd4 (F : Nat) (x1 : List Int) (a2 : Option Addr) (c3 : Nat) (r : (List Int × Int)) (hm : yk F x1 = some r) :
    Pure Tryz.prog 52 [.slice a2 x1.length c3] [Sl (eI .i64) 1 (.slice a2 x1.length c3) x1] (Option Addr × Nat) (fun g => .tuple #[.slice g.1 r.1.length g.2, .int .i64 r.2]) (fun g => [Ro (eI .i64) 3 1 (.slice g.1 r.1.length g.2) r.1]) (fun _ => []) := by
  refine qk Tryz.func52 rfl Tryz.ntmps52 rfl hm (fun w => ?_)
  refine qgq (l' := [(0, .slice a2 x1.length c3)]) rfl ?_
  refine qO ?_
  refine qr ?_
  refine zl rfl rfl rfl ?_
  refine zl rfl rfl rfl ?_
  refine qD ?_
  refine qE ?_
  refine qO ?_
  refine qO ?_
  refine qr ?_
  refine qB rfl rfl rfl ?_
  refine kx ent130 rfl rfl rfl (fun x6 e6 => qfa e6) (.consF 0 rfl .nil) (fun x6 e6 => ?_)
  intro _
  refine zl rfl rfl rfl ?_
  refine qD ?_
  refine qE ?_
  refine qO ?_
  refine qr ?_
  refine qB rfl rfl rfl ?_
  refine qlV rfl rfl rfl rfl ?_
  refine qD ?_
  refine qE ?_
  refine qem rfl (fun h1508 => ?_) (fun h1508 => ?_)
  · refine qO ?_
    refine qr ?_
    refine qB rfl rfl rfl ?_
    refine zl rfl rfl rfl ?_
    refine zl rfl rfl rfl ?_
    refine qD ?_
    refine qE ?_
    refine qc7 ?_
    refine qcH ?_
    refine qcW Int (eI .i64) 3 1 ?_
    exact qI (none, 0) (res2 rfl rfl rfl) (fun h => by subst h; exact (.cons 0 rfl .nil))
  · refine jx ?_
    refine qE ?_
    refine qO ?_
    refine qr ?_
    refine qah rfl tf190 rfl (fun g7 => ?_)
    refine qen ((List Int × Int) × (Option Addr × Nat)) eN193 193 2 ?_
    refine qmJ (List Int × Int) (Option Addr × Nat) iN193 ?_
    refine qD ?_
    refine qE ?_
    refine qcV (fun ((x88, (a84, c85, g86, g87)) : (List (List Int × Int) × (Option Addr × Nat × List ((List Int × Int) × (Option Addr × Nat)) × List ((List Int × Int) × (Option Addr × Nat))))) => [(0, .slice a2 x1.length c3), (5, .pointer (some ⟨g7, 0, none⟩))]) (fun ((x88, (a84, c85, g86, g87)) : (List (List Int × Int) × (Option Addr × Nat × List ((List Int × Int) × (Option Addr × Nat)) × List ((List Int × Int) × (Option Addr × Nat))))) => [⟨g7, 190, [(qv a84 g86.length g87.length c85 2)]⟩]) (fun ((x88, (a84, c85, g86, g87)) : (List (List Int × Int) × (Option Addr × Nat × List ((List Int × Int) × (Option Addr × Nat)) × List ((List Int × Int) × (Option Addr × Nat))))) => [Ro eN193 193 2 (.slice a84 (g86 ++ g87).length c85) (g86 ++ g87)]) (fun ((x88, (a84, c85, g86, g87)) : (List (List Int × Int) × (Option Addr × Nat × List ((List Int × Int) × (Option Addr × Nat)) × List ((List Int × Int) × (Option Addr × Nat))))) => [Sl (eI .i64) 1 (.slice a2 x1.length c3) x1, HN iN193 x88 g87]) (fun ((x88, _) : (List (List Int × Int) × (Option Addr × Nat × List ((List Int × Int) × (Option Addr × Nat)) × List ((List Int × Int) × (Option Addr × Nat))))) => vU F x1 x88) ?_ ?_
    · refine qO ?_
      refine qr ?_
      refine qB rfl rfl rfl ?_
      refine qdP rfl Tryz.underlying22 rfl rfl ?_
      refine qB rfl rfl rfl ?_
      refine qD ?_
      refine qE ?_
      refine qbR ?_
      refine qcE (fun (((x1455, x1460), (a1456, c1457, g1458, g1459)) : ((Int × List (List Int × Int)) × (Option Addr × Nat × List ((List Int × Int) × (Option Addr × Nat)) × List ((List Int × Int) × (Option Addr × Nat))))) => [(0, .slice a2 x1.length c3), (5, .pointer (some ⟨g7, 0, none⟩)), (19, .slice a2 x1.length c3), (20, .int .i64 (x1.length : Int)), (21, .int .i64 x1455)]) (fun (((x1455, x1460), (a1456, c1457, g1458, g1459)) : ((Int × List (List Int × Int)) × (Option Addr × Nat × List ((List Int × Int) × (Option Addr × Nat)) × List ((List Int × Int) × (Option Addr × Nat))))) => [⟨g7, 190, [(qv a1456 g1458.length g1459.length c1457 2)]⟩]) (fun (((x1455, x1460), (a1456, c1457, g1458, g1459)) : ((Int × List (List Int × Int)) × (Option Addr × Nat × List ((List Int × Int) × (Option Addr × Nat)) × List ((List Int × Int) × (Option Addr × Nat))))) => [Ro eN193 193 2 (.slice a1456 (g1458 ++ g1459).length c1457) (g1458 ++ g1459)]) (fun (((x1455, x1460), (a1456, c1457, g1458, g1459)) : ((Int × List (List Int × Int)) × (Option Addr × Nat × List ((List Int × Int) × (Option Addr × Nat)) × List ((List Int × Int) × (Option Addr × Nat))))) => [Sl (eI .i64) 1 (.slice a2 x1.length c3) x1, HN iN193 x1460 g1459]) (fun k (s : ((Int × List (List Int × Int)) × (Option Addr × Nat × List ((List Int × Int) × (Option Addr × Nat)) × List ((List Int × Int) × (Option Addr × Nat))))) => zL F x1 k s.1) ((0, ([] : List (List Int × Int))), (none, 0, ([] : List ((List Int × Int) × (Option Addr × Nat))), ([] : List ((List Int × Int) × (Option Addr × Nat))))) F ?_ (hB := (.cons 0 rfl .nil)) (hR := (.cons 0 rfl .nil)) (hF := (qe 1 rfl (qe 0 rfl zi)))
      intro k1484
      rintro ⟨⟨x1455, x1460⟩, ⟨a1456, c1457, g1458, g1459⟩⟩
      try dsimp only
      refine qN (m' := vm F x1 (zL F x1 k1484) x1455 x1460) rfl ?_
      refine qO ?_
      refine qr ?_
      refine qi9 rfl rfl rfl rfl ?_
      refine qD ?_
      refine qE ?_
      refine qO ?_
      refine qem rfl (fun h1507 => ?_) (fun h1507 => ?_)
      · refine jx ?_
        refine qE ?_
        refine qcV (fun ((x1498, (a1494, c1495, g1496, g1497)) : (List (List Int × Int) × (Option Addr × Nat × List ((List Int × Int) × (Option Addr × Nat)) × List ((List Int × Int) × (Option Addr × Nat))))) => [(0, .slice a2 x1.length c3), (5, .pointer (some ⟨g7, 0, none⟩)), (19, .slice a2 x1.length c3), (20, .int .i64 (x1.length : Int)), (21, .int .i64 x1455)]) (fun ((x1498, (a1494, c1495, g1496, g1497)) : (List (List Int × Int) × (Option Addr × Nat × List ((List Int × Int) × (Option Addr × Nat)) × List ((List Int × Int) × (Option Addr × Nat))))) => [⟨g7, 190, [(qv a1494 g1496.length g1497.length c1495 2)]⟩]) (fun ((x1498, (a1494, c1495, g1496, g1497)) : (List (List Int × Int) × (Option Addr × Nat × List ((List Int × Int) × (Option Addr × Nat)) × List ((List Int × Int) × (Option Addr × Nat))))) => [Ro eN193 193 2 (.slice a1494 (g1496 ++ g1497).length c1495) (g1496 ++ g1497)]) (fun ((x1498, (a1494, c1495, g1496, g1497)) : (List (List Int × Int) × (Option Addr × Nat × List ((List Int × Int) × (Option Addr × Nat)) × List ((List Int × Int) × (Option Addr × Nat))))) => [Sl (eI .i64) 1 (.slice a2 x1.length c3) x1, HN iN193 x1498 g1497]) (fun ((x1498, _) : (List (List Int × Int) × (Option Addr × Nat × List ((List Int × Int) × (Option Addr × Nat)) × List ((List Int × Int) × (Option Addr × Nat))))) => vq F (zL F x1 k1484) x1455 x1498) ?_ ?_
        · refine qbR ?_
          refine qO ?_
          refine qr ?_
          refine qB rfl rfl rfl ?_
          refine vv (j := 0) (qn .i64) (by decide) rfl Tryz.underlying22 tf3 rfl rfl rfl rfl (fun x1499 e1499 b1500 o1501 => ?_)
          refine qeB (j := 0) rfl rfl tf3 rfl rfl (fun _ => rfl) rfl rfl ?_
          refine zl rfl rfl rfl ?_
          refine zl rfl rfl rfl ?_
          refine qD ?_
          refine qE ?_
          refine qO ?_
          refine qr ?_
          refine qB rfl rfl rfl ?_
          refine qgs rfl rfl rfl rfl ?_
          refine qD ?_
          refine qE ?_
          refine qem rfl (fun h1506 => ?_) (fun h1506 => ?_)
          · refine qr ?_
            refine qB rfl rfl rfl ?_
            refine qq (vs := [.int .i64 x1455]) (ys := ([x1455] : List Int)) (qn .i64) (by decide) rfl Tryz.underlying22 tf3 rfl rfl rfl rfl rfl (by decide) (fun a1502 c1503 => ?_)
            refine qB rfl rfl rfl ?_
            refine qH (cells := [.slice a1502 ([x1455] : List Int).length c1503, .int .i64 x1499]) rfl st193 rfl (by kernel_rfl) rfl ?_
            refine qeX 0 rfl ?_
            refine qa0 ent131 rfl rfl rfl (fun x1504 e1504 => qmU F g7 a1456 c1457 g1458 g1459 x1460 ([x1455] : List Int) a1502 c1503 x1499 x1504 e1504) (.cons 0 rfl .nil) (.cons 0 rfl .nil) (.consF 3 rfl (.consF 0 rfl .nil)) (fun x1504 e1504 g1505 => ?_)
            refine qif (k := x1504) (q := ((([x1455] : List Int), x1499), (a1502, c1503))) 3 0 rfl rfl rfl ?_
            refine qD ?_
            refine qeo ?_
            exact za ((insK x1504 x1460 (([x1455] : List Int), x1499)), (g1505.1, g1505.2.1, g1505.2.2, (insK x1504 g1459 ((([x1455] : List Int), x1499), (a1502, c1503))))) (hB := (.cons 0 rfl .nil)) (hR := (.cons 0 rfl .nil)) (hF := (qe 3 rfl (qe 0 rfl zi)))
          · refine jx ?_
            refine qeo ?_
            exact za (x1460, (a1456, c1457, g1458, g1459)) (hB := (.cons 0 rfl .nil)) (hR := (.cons 0 rfl .nil)) (hF := (qe 1 rfl (qe 2 rfl zi)))
        · rintro ⟨x1498, ⟨a1494, c1495, g1496, g1497⟩⟩
          try dsimp only
          refine qr ?_
          refine qc8 rfl rfl rfl rfl ?_
          refine qB rfl rfl rfl ?_
          refine qD ?_
          exact jz ((iadd .i64 x1455 1, x1498), (a1494, c1495, g1496, g1497)) (hB := (.cons 0 rfl .nil)) (hR := (.cons 0 rfl .nil)) (hF := (qe 0 rfl (qe 1 rfl zi)))
      · refine qfw ?_
        refine qbT ?_
        refine qbT ?_
        refine qfB ?_
        exact za (x1460, (a1456, c1457, g1458, g1459)) (hB := (.cons 0 rfl .nil)) (hR := (.cons 0 rfl .nil)) (hF := (qe 0 rfl (qe 1 rfl zi)))
    · rintro ⟨x88, ⟨a84, c85, g86, g87⟩⟩
      try dsimp only
      refine qO ?_
      refine qr ?_
      refine qB rfl rfl rfl ?_
      refine qdP rfl Tryz.underlying22 rfl rfl ?_
      refine qk9 (qn .i64) rfl Tryz.underlying22 tf3 rfl rfl rfl rfl rfl rfl rfl (fun x89 e89 a90 c91 => ?_)
      refine zl rfl rfl rfl ?_
      refine qD ?_
      refine qE ?_
      refine qcV (fun ((x107, _) : (List Int × Unit)) => [(5, .pointer (some ⟨g7, 0, none⟩)), (8, .slice a90 x107.length c91)]) (fun ((x107, _) : (List Int × Unit)) => [⟨g7, 190, [(qv a84 g86.length g87.length c85 2)]⟩]) (fun ((x107, _) : (List Int × Unit)) => [Ro (eI .i64) 3 1 (.slice a90 x107.length c91) x107, Ro eN193 193 2 (.slice a84 (g86 ++ g87).length c85) (g86 ++ g87)]) (fun ((x107, _) : (List Int × Unit)) => [HN iN193 x88 g87]) (fun ((x107, _) : (List Int × Unit)) => yC F x88 x107) ?_ ?_
      · refine qO ?_
        refine qr ?_
        refine zh (i := 0) rfl rfl tf190 rfl rfl (fun _ => rfl) rfl rfl ?_
        refine qkl 1 rfl rfl Tryz.underlying190 rfl rfl ?_
        refine qgr rfl rfl rfl rfl ?_
        refine qD ?_
        refine qE ?_
        refine qem rfl (fun h1431 => ?_) (fun h1431 => ?_)
        · refine qr ?_
          refine qB rfl rfl rfl ?_
          refine zh (i := 0) rfl rfl tf190 rfl rfl (fun _ => rfl) rfl rfl ?_
          refine qos (f := 1) (j := 1) (hs := g86) rfl rfl Tryz.underlying190 tf193 rfl rfl rfl rfl (fun x1417 e1417 g1418 h1419 g1420 h1421 => ?_)
          refine qbY rfl rfl ff193_0 rfl ?_
          refine qk8 (j := 1) (y := (x1417, g1418)) (off := 0) ju rfl rfl tf22 rfl h1421 h1419 rfl (fun _ => rfl) rfl rfl ?_
          refine vv (j := 0) (qn .i64) (by decide) rfl Tryz.underlying22 tf3 rfl rfl rfl rfl (fun x1422 e1422 b1423 o1424 => ?_)
          refine qeB (j := 0) rfl rfl tf3 rfl rfl (fun _ => rfl) rfl rfl ?_
          refine jy (j := 0) rfl Tryz.underlying22 tf3 rfl rfl rfl rfl (fun x1425 e1425 g1426 h1427 => ?_)
          refine kz (j := 0) (y' := 1) (qn .i64) rfl rfl rfl tf3 rfl h1427 (qt e1425).2.1 rfl (fun x1428 e1428 h1429 => ?_)
          have h1430 : x1428.length = x89.length := by rw [← e1428, List.length_set]
          refine qb (d := 8) (v := .slice a90 x1428.length c91) rfl h1429 ?_
          refine qb (d := 36) (v := .slice a90 x1428.length c91) rfl h1429 ?_
          refine qb (d := 40) (v := .slice a90 x1428.length c91) rfl h1429 ?_
          refine qD ?_
          exact za (x1428, ()) (hB := (.cons 0 rfl .nil)) (hR := (.cons 0 rfl (.cons 0 rfl .nil))) (hF := (qe 3 rfl zi))
        · refine jx ?_
          exact za (x89, ()) (hB := (.cons 0 rfl .nil)) (hR := (.cons 0 rfl (.cons 0 rfl .nil))) (hF := (qe 1 rfl zi))
      · rintro ⟨x107, _⟩
        try dsimp only
        refine qcV (fun ((x760, _) : (List Int × Unit)) => [(8, .slice a90 x760.length c91)]) (fun ((x760, _) : (List Int × Unit)) => []) (fun ((x760, _) : (List Int × Unit)) => [Ro (eI .i64) 3 1 (.slice a90 x760.length c91) x760]) (fun ((x760, _) : (List Int × Unit)) => []) (fun ((x760, _) : (List Int × Unit)) => vo F x760) ?_ ?_
        · refine qbR ?_
          refine qcE (fun (((x980, x985), (a981, c982, g983, g984)) : ((List Int × List (List Int × Int)) × (Option Addr × Nat × List ((List Int × Int) × (Option Addr × Nat)) × List ((List Int × Int) × (Option Addr × Nat))))) => [(5, .pointer (some ⟨g7, 0, none⟩)), (8, .slice a90 x980.length c91)]) (fun (((x980, x985), (a981, c982, g983, g984)) : ((List Int × List (List Int × Int)) × (Option Addr × Nat × List ((List Int × Int) × (Option Addr × Nat)) × List ((List Int × Int) × (Option Addr × Nat))))) => [⟨g7, 190, [(qv a981 g983.length g984.length c982 2)]⟩]) (fun (((x980, x985), (a981, c982, g983, g984)) : ((List Int × List (List Int × Int)) × (Option Addr × Nat × List ((List Int × Int) × (Option Addr × Nat)) × List ((List Int × Int) × (Option Addr × Nat))))) => [Ro (eI .i64) 3 1 (.slice a90 x980.length c91) x980, Ro eN193 193 2 (.slice a981 (g983 ++ g984).length c982) (g983 ++ g984)]) (fun (((x980, x985), (a981, c982, g983, g984)) : ((List Int × List (List Int × Int)) × (Option Addr × Nat × List ((List Int × Int) × (Option Addr × Nat)) × List ((List Int × Int) × (Option Addr × Nat))))) => [HN iN193 x985 g984]) (fun k (s : ((List Int × List (List Int × Int)) × (Option Addr × Nat × List ((List Int × Int) × (Option Addr × Nat)) × List ((List Int × Int) × (Option Addr × Nat))))) => qQ F k s.1) ((x107, x88), (a84, c85, g86, g87)) F ?_ (hB := (.cons 0 rfl .nil)) (hR := (.cons 0 rfl (.cons 0 rfl .nil))) (hF := (qe 0 rfl zi))
          intro k1201
          rintro ⟨⟨x980, x985⟩, ⟨a981, c982, g983, g984⟩⟩
          try dsimp only
          refine qN (m' := vk F (qQ F k1201) x980 x985) rfl ?_
          refine qO ?_
          refine qO ?_
          refine qr ?_
          refine zh (i := 0) rfl rfl tf190 rfl rfl (fun _ => rfl) rfl rfl ?_
          refine qkl 0 rfl rfl Tryz.underlying190 rfl rfl ?_
          refine qgs rfl rfl rfl rfl ?_
          refine qD ?_
          refine qE ?_
          refine qem rfl (fun h1416 => ?_) (fun h1416 => ?_)
          · refine jx ?_
            refine qE ?_
            refine qbR ?_
            refine qO ?_
            refine qr ?_
            refine qga (hs := g983) (i := 0) (j := 1) (p := 0) ent132 rfl rfl rfl (fun q zs => qpV g7 a981 c982 g983 zs q) rfl rfl rfl (fun x1203 _ g1204 g1205 g1206 => ?_)
            refine qga (hs := g1206) (i := 0) (j := 0) (p := 0) ent132 rfl rfl rfl (fun q zs => qpV g7 a981 c982 g1206 zs q) rfl rfl rfl (fun x1207 _ g1208 g1209 g1210 => ?_)
            refine qah rfl tf193 rfl (fun g1211 => ?_)
            refine qah rfl tf193 rfl (fun g1212 => ?_)
            refine zw (i := 1) rfl rfl rfl tf193 rfl rfl rfl rfl rfl ?_
            refine zw (i := 0) rfl rfl rfl tf193 rfl rfl rfl rfl rfl ?_
            refine qD ?_
            refine qE ?_
            refine qcV (fun ((x1232, (g1229, a1230, c1231)) : (List Int × (Nat × Option Addr × Nat))) => [(5, .pointer (some ⟨g7, 0, none⟩)), (8, .slice a90 x980.length c91), (11, .pointer (some ⟨g1229, 0, none⟩))]) (fun ((x1232, (g1229, a1230, c1231)) : (List Int × (Nat × Option Addr × Nat))) => [⟨g7, 190, [(qv a981 g1210.length g1209.length c982 2)]⟩, ⟨g1229, 193, [.slice a1230 x1232.length c1231, .int .i64 (iadd .i64 x1203.1.2 x1207.1.2)]⟩]) (fun ((x1232, (g1229, a1230, c1231)) : (List Int × (Nat × Option Addr × Nat))) => [Ro (eI .i64) 3 1 (.slice a90 x980.length c91) x980, Ro eN193 193 2 (.slice a981 (g1210 ++ g1209).length c982) (g1210 ++ g1209), Ro (eI .i64) 3 1 (.slice a1230 x1232.length c1231) x1232]) (fun ((x1232, (g1229, a1230, c1231)) : (List Int × (Nat × Option Addr × Nat))) => [HN iN193 x1207.2 g1209]) (fun ((x1232, _) : (List Int × (Nat × Option Addr × Nat))) => yl F (qQ F k1201) x980 x1203 x1207 x1232) ?_ ?_
            · refine qT mixed [] [⟨g1212, 193, [.slice g1208.1 x1207.1.1.length g1208.2, .int .i64 x1207.1.2]⟩, ⟨g1211, 193, [.slice g1204.1 x1203.1.1.length g1204.2, .int .i64 x1203.1.2]⟩, ⟨g7, 190, [(qv a981 g1210.length g1209.length c982 2)]⟩] [HN iN193 x1207.2 g1209, Sl (eI .i64) 1 (.slice g1208.1 x1207.1.1.length g1208.2) x1207.1.1, HN iN193 x1203.2 g1205, Sl (eI .i64) 1 (.slice g1204.1 x1203.1.1.length g1204.2) x1203.1.1, HN iN193 x985 g984] (.cons 0 rfl (.cons 0 rfl (.cons 0 rfl .nil))) (qz 0 rfl (qz 1 rfl (qz 2 rfl (qz 3 rfl (qz 4 rfl qL))))) 14 rfl ?_
              refine qj 0 (.pointer (some ⟨g1211, 0, none⟩)) rfl rfl rfl (qbF rfl ff193_0) ?_
              refine zJ 1 (.slice g1204.1 x1203.1.1.length g1204.2) rfl rfl rfl (zQ (i := 1) rfl tf22 rfl rfl (fun _ => rfl) rfl) ?_
              refine qj 2 (.pointer (some ⟨g1212, 0, none⟩)) rfl rfl rfl (qbF rfl ff193_0) ?_
              refine zJ 3 (.slice g1208.1 x1207.1.1.length g1208.2) rfl rfl rfl (zQ (i := 0) rfl tf22 rfl rfl (fun _ => rfl) rfl) ?_
              refine qj 6 (.pointer (some ⟨g1211, 1, none⟩)) rfl rfl rfl (qbF rfl ff193_1) ?_
              refine zJ 7 (.int .i64 x1203.1.2) rfl rfl rfl (zQ (i := 1) rfl tf3 rfl rfl (fun _ => rfl) rfl) ?_
              refine qj 8 (.pointer (some ⟨g1212, 1, none⟩)) rfl rfl rfl (qbF rfl ff193_1) ?_
              refine zJ 9 (.int .i64 x1207.1.2) rfl rfl rfl (zQ (i := 0) rfl tf3 rfl rfl (fun _ => rfl) rfl) ?_
              refine qj 10 (.int .i64 (iadd .i64 x1203.1.2 x1207.1.2)) rfl rfl rfl (vc rfl) ?_
              refine yI 4 12 rfl rfl (by kernel_rfl) rfl rfl ?_ ?_
              · refine qq (vs := [.slice g1204.1 x1203.1.1.length g1204.2, .slice g1208.1 x1207.1.1.length g1208.2]) (ys := ([(x1203.1.1, (g1204.1, g1204.2)), (x1207.1.1, (g1208.1, g1208.2))] : List (List Int × (Option Addr × Nat)))) qfj (by decide) rfl Tryz.underlying28 tf22 rfl rfl rfl rfl rfl (by decide) (fun a1400 c1401 => ?_)
                refine qfV (inn := iN22) ([x1203.1.1, x1207.1.1] : List (List Int)) ([(g1204.1, g1204.2), (g1208.1, g1208.2)] : List (Option Addr × Nat)) 0 rfl rfl (qe 3 rfl (qe 1 rfl zi)) ?_
                refine qD ?_
                refine q9 (.cons 0 rfl (.cons 0 rfl (.cons 0 rfl .nil))) (qz 1 rfl (qz 2 rfl (qz 3 rfl (qz 4 rfl (qz 5 rfl qL))))) ?_
                refine yI 5 12 rfl rfl (by kernel_rfl) rfl rfl ?_ ?_
                · refine kx ent72 rfl rfl rfl (fun x1402 e1402 => yP F ([x1203.1.1, x1207.1.1] : List (List Int)) a1400 (c1401, ([(g1204.1, g1204.2), (g1208.1, g1208.2)] : List (Option Addr × Nat))) x1402 e1402) (.consF 0 rfl .nil) (fun x1402 e1402 => ?_)
                  rintro ⟨a1403, c1404⟩
                  refine qD ?_
                  refine q9 (.cons 0 rfl (.cons 0 rfl (.cons 0 rfl .nil))) (qz 1 rfl (qz 2 rfl (qz 3 rfl (qz 4 rfl (qz 5 rfl qL))))) ?_
                  refine qj 11 (.agg #[.slice a1403 x1402.length c1404, .int .i64 (iadd .i64 x1203.1.2 x1207.1.2)]) rfl rfl rfl (qbE (cells := [.slice a1403 x1402.length c1404, .int .i64 (iadd .i64 x1203.1.2 x1207.1.2)]) st193 rfl (by kernel_rfl)) ?_
                  refine yH 12 rfl (by kernel_rfl) rfl ?_
                  refine qah rfl tf193 rfl (fun g1405 => ?_)
                  refine qD ?_
                  refine q9 (.cons 1 rfl (.cons 1 rfl (.cons 1 rfl .nil))) (qz 1 rfl (qz 2 rfl (qz 3 rfl (qz 4 rfl (qz 5 rfl qL))))) ?_
                  refine yH 13 rfl (by kernel_rfl) rfl ?_
                  refine zw (i := 0) rfl rfl rfl tf193 rfl rfl rfl rfl rfl ?_
                  refine qD ?_
                  refine q9 (.cons 1 rfl (.cons 1 rfl (.cons 1 rfl .nil))) (qz 1 rfl (qz 2 rfl (qz 3 rfl (qz 4 rfl (qz 5 rfl qL))))) ?_
                  refine qb8 (by kernel_rfl) ?_
                  refine qR ?_ (by intro c h; cases h)
                  exact za (x1402, (g1405, a1403, c1404)) (hB := (.cons 3 rfl (.cons 0 rfl .nil))) (hR := (.cons 2 rfl (.cons 1 rfl (.cons 0 rfl .nil)))) (hF := (qe 1 rfl zi))
                · refine kj (m' := ((zI F ([x1203.1.1, x1207.1.1] : List (List Int))).bind fun x1407 => yl F (qQ F k1201) x980 x1203 x1207 x1407)) (rfl) ?_
                  refine qah rfl tf193 rfl (fun g1406 => ?_)
                  refine qD ?_
                  refine q9 (.cons 1 rfl (.cons 1 rfl (.cons 1 rfl .nil))) (qz 1 rfl (qz 2 rfl (qz 3 rfl (qz 4 rfl (qz 5 rfl qL))))) ?_
                  refine yH 5 rfl (by kernel_rfl) rfl ?_
                  refine kx ent72 rfl rfl rfl (fun x1407 e1407 => yP F ([x1203.1.1, x1207.1.1] : List (List Int)) a1400 (c1401, ([(g1204.1, g1204.2), (g1208.1, g1208.2)] : List (Option Addr × Nat))) x1407 e1407) (.consF 0 rfl .nil) (fun x1407 e1407 => ?_)
                  rintro ⟨a1408, c1409⟩
                  refine qD ?_
                  refine q9 (.cons 1 rfl (.cons 1 rfl (.cons 1 rfl .nil))) (qz 1 rfl (qz 2 rfl (qz 3 rfl (qz 4 rfl (qz 5 rfl qL))))) ?_
                  refine qj 11 (.agg #[.slice a1408 x1407.length c1409, .int .i64 (iadd .i64 x1203.1.2 x1207.1.2)]) rfl rfl rfl (qbE (cells := [.slice a1408 x1407.length c1409, .int .i64 (iadd .i64 x1203.1.2 x1207.1.2)]) st193 rfl (by kernel_rfl)) ?_
                  refine yH 13 rfl (by kernel_rfl) rfl ?_
                  refine zw (i := 0) rfl rfl rfl tf193 rfl rfl rfl rfl rfl ?_
                  refine qD ?_
                  refine q9 (.cons 1 rfl (.cons 1 rfl (.cons 1 rfl .nil))) (qz 1 rfl (qz 2 rfl (qz 3 rfl (qz 4 rfl (qz 5 rfl qL))))) ?_
                  refine qb8 (by kernel_rfl) ?_
                  refine qR ?_ (by intro c h; cases h)
                  exact za (x1407, (g1406, a1408, c1409)) (hB := (.cons 3 rfl (.cons 0 rfl .nil))) (hR := (.cons 2 rfl (.cons 1 rfl (.cons 0 rfl .nil)))) (hF := (qe 1 rfl zi))
              · refine kj (m' := ((zI F ([x1203.1.1, x1207.1.1] : List (List Int))).bind fun x1413 => yl F (qQ F k1201) x980 x1203 x1207 x1413)) (rfl) ?_
                refine qah rfl tf193 rfl (fun g1410 => ?_)
                refine qD ?_
                refine q9 (.cons 1 rfl (.cons 1 rfl (.cons 1 rfl .nil))) (qz 0 rfl (qz 1 rfl (qz 2 rfl (qz 3 rfl (qz 4 rfl qL))))) ?_
                refine yH 4 rfl (by kernel_rfl) rfl ?_
                refine qq (vs := [.slice g1204.1 x1203.1.1.length g1204.2, .slice g1208.1 x1207.1.1.length g1208.2]) (ys := ([(x1203.1.1, (g1204.1, g1204.2)), (x1207.1.1, (g1208.1, g1208.2))] : List (List Int × (Option Addr × Nat)))) qfj (by decide) rfl Tryz.underlying28 tf22 rfl rfl rfl rfl rfl (by decide) (fun a1411 c1412 => ?_)
                refine qfV (inn := iN22) ([x1203.1.1, x1207.1.1] : List (List Int)) ([(g1204.1, g1204.2), (g1208.1, g1208.2)] : List (Option Addr × Nat)) 0 rfl rfl (qe 3 rfl (qe 1 rfl zi)) ?_
                refine qD ?_
                refine q9 (.cons 1 rfl (.cons 1 rfl (.cons 1 rfl .nil))) (qz 1 rfl (qz 2 rfl (qz 3 rfl (qz 4 rfl (qz 5 rfl qL))))) ?_
                refine yH 5 rfl (by kernel_rfl) rfl ?_
                refine kx ent72 rfl rfl rfl (fun x1413 e1413 => yP F ([x1203.1.1, x1207.1.1] : List (List Int)) a1411 (c1412, ([(g1204.1, g1204.2), (g1208.1, g1208.2)] : List (Option Addr × Nat))) x1413 e1413) (.consF 0 rfl .nil) (fun x1413 e1413 => ?_)
                rintro ⟨a1414, c1415⟩
                refine qD ?_
                refine q9 (.cons 1 rfl (.cons 1 rfl (.cons 1 rfl .nil))) (qz 1 rfl (qz 2 rfl (qz 3 rfl (qz 4 rfl (qz 5 rfl qL))))) ?_
                refine qj 11 (.agg #[.slice a1414 x1413.length c1415, .int .i64 (iadd .i64 x1203.1.2 x1207.1.2)]) rfl rfl rfl (qbE (cells := [.slice a1414 x1413.length c1415, .int .i64 (iadd .i64 x1203.1.2 x1207.1.2)]) st193 rfl (by kernel_rfl)) ?_
                refine yH 13 rfl (by kernel_rfl) rfl ?_
                refine zw (i := 0) rfl rfl rfl tf193 rfl rfl rfl rfl rfl ?_
                refine qD ?_
                refine q9 (.cons 1 rfl (.cons 1 rfl (.cons 1 rfl .nil))) (qz 1 rfl (qz 2 rfl (qz 3 rfl (qz 4 rfl (qz 5 rfl qL))))) ?_
                refine qb8 (by kernel_rfl) ?_
                refine qR ?_ (by intro c h; cases h)
                exact za (x1413, (g1410, a1414, c1415)) (hB := (.cons 3 rfl (.cons 0 rfl .nil))) (hR := (.cons 2 rfl (.cons 1 rfl (.cons 0 rfl .nil)))) (hF := (qe 1 rfl zi))
            · rintro ⟨x1232, ⟨g1229, a1230, c1231⟩⟩
              try dsimp only
              refine qO ?_
              refine qr ?_
              refine qbY rfl rfl ff193_0 rfl ?_
              refine zh (i := 1) rfl rfl tf22 rfl rfl (fun _ => rfl) rfl rfl ?_
              refine qa0 ent73 rfl rfl rfl (fun x1233 e1233 => qd2 e1233) .nil (.cons 2 rfl .nil) .nil (fun x1233 e1233 => ?_)
              intro _
              refine qfy (fun h1234 => ?_)
              replace h1234 := of_decide_eq_true h1234
              refine qb (d := 66) (v := .slice a1230 x1233.length c1231) rfl (by rw [h1234] <;> rfl) ?_
              refine vu (i := 1) (cs' := [.slice a1230 x1233.length c1231, .int .i64 (iadd .i64 x1203.1.2 x1207.1.2)]) rfl (by rw [h1234] <;> rfl) ?_
              refine qD ?_
              refine qE ?_
              refine qcV (fun ((x1316, _) : (List Int × Unit)) => [(5, .pointer (some ⟨g7, 0, none⟩)), (8, .slice a90 x1316.length c91), (11, .pointer (some ⟨g1229, 0, none⟩))]) (fun ((x1316, _) : (List Int × Unit)) => [⟨g7, 190, [(qv a981 g1210.length g1209.length c982 2)]⟩, ⟨g1229, 193, [.slice a1230 x1233.length c1231, .int .i64 (iadd .i64 x1203.1.2 x1207.1.2)]⟩]) (fun ((x1316, _) : (List Int × Unit)) => [Ro (eI .i64) 3 1 (.slice a90 x1316.length c91) x1316, Ro eN193 193 2 (.slice a981 (g1210 ++ g1209).length c982) (g1210 ++ g1209), Ro (eI .i64) 3 1 (.slice a1230 x1233.length c1231) x1233]) (fun ((x1316, _) : (List Int × Unit)) => [HN iN193 x1207.2 g1209]) (fun ((x1316, _) : (List Int × Unit)) => vp F (qQ F k1201) x1203 x1207 x1233 x1316) ?_ ?_
              · refine qO ?_
                refine qr ?_
                refine qbY rfl rfl ff193_0 rfl ?_
                refine zh (i := 1) rfl rfl tf22 rfl rfl (fun _ => rfl) rfl rfl ?_
                refine qdP rfl Tryz.underlying22 rfl rfl ?_
                refine qB rfl rfl rfl ?_
                refine qD ?_
                refine qE ?_
                refine qbR ?_
                refine qcE (fun (((x1345, x1346), _) : ((List Int × Int) × Unit)) => [(5, .pointer (some ⟨g7, 0, none⟩)), (8, .slice a90 x1345.length c91), (11, .pointer (some ⟨g1229, 0, none⟩)), (69, .slice a1230 x1233.length c1231), (70, .int .i64 (x1233.length : Int)), (71, .int .i64 x1346)]) (fun (((x1345, x1346), _) : ((List Int × Int) × Unit)) => [⟨g7, 190, [(qv a981 g1210.length g1209.length c982 2)]⟩, ⟨g1229, 193, [.slice a1230 x1233.length c1231, .int .i64 (iadd .i64 x1203.1.2 x1207.1.2)]⟩]) (fun (((x1345, x1346), _) : ((List Int × Int) × Unit)) => [Ro (eI .i64) 3 1 (.slice a90 x1345.length c91) x1345, Ro (eI .i64) 3 1 (.slice a1230 x1233.length c1231) x1233, Ro eN193 193 2 (.slice a981 (g1210 ++ g1209).length c982) (g1210 ++ g1209)]) (fun (((x1345, x1346), _) : ((List Int × Int) × Unit)) => [HN iN193 x1207.2 g1209]) (fun k (s : ((List Int × Int) × Unit)) => zU F (qQ F k1201) x1203 x1207 x1233 k s.1) ((x980, 0), ()) F ?_ (hB := (.cons 0 rfl (.cons 0 rfl .nil))) (hR := (.cons 1 rfl (.cons 0 rfl (.cons 0 rfl .nil)))) (hF := (qe 0 rfl zi))
                intro k1373
                rintro ⟨⟨x1345, x1346⟩, _⟩
                try dsimp only
                refine qN (m' := vl F (qQ F k1201) x1203 x1207 x1233 (zU F (qQ F k1201) x1203 x1207 x1233 k1373) x1345 x1346) rfl ?_
                refine qO ?_
                refine qr ?_
                refine qi9 rfl rfl rfl rfl ?_
                refine qD ?_
                refine qE ?_
                refine qO ?_
                refine qem rfl (fun h1399 => ?_) (fun h1399 => ?_)
                · refine jx ?_
                  refine qE ?_
                  refine qO ?_
                  refine qbR ?_
                  refine qO ?_
                  refine qr ?_
                  refine jy (j := 1) rfl Tryz.underlying22 tf3 rfl rfl rfl rfl (fun x1387 e1387 g1388 h1389 => ?_)
                  refine y8 (j := 1) (y := x1387) (qn .i64) rfl rfl tf3 rfl h1389 (qt e1387).2.2 (fun _ => rfl) rfl rfl ?_
                  refine zl rfl rfl rfl ?_
                  refine qD ?_
                  refine qE ?_
                  refine qr ?_
                  refine qB rfl rfl rfl ?_
                  refine qB rfl rfl rfl ?_
                  refine jy (j := 0) rfl Tryz.underlying22 tf3 rfl rfl rfl rfl (fun x1390 e1390 g1391 h1392 => ?_)
                  refine y8 (j := 0) (y := x1390) (qn .i64) rfl rfl tf3 rfl h1392 (qt e1390).2.2 (fun _ => rfl) rfl rfl ?_
                  refine qc8 rfl rfl rfl rfl ?_
                  refine jy (j := 0) rfl Tryz.underlying22 tf3 rfl rfl rfl rfl (fun x1393 e1393 g1394 h1395 => ?_)
                  refine kz (j := 0) (y' := iadd .i64 x1390 1) (qn .i64) rfl rfl rfl tf3 rfl h1395 (qt e1393).2.1 rfl (fun x1396 e1396 h1397 => ?_)
                  have h1398 : x1396.length = x1345.length := by rw [← e1396, List.length_set]
                  refine qb (d := 8) (v := .slice a90 x1396.length c91) rfl h1397 ?_
                  refine qb (d := 75) (v := .slice a90 x1396.length c91) rfl h1397 ?_
                  refine qD ?_
                  refine qeo ?_
                  refine qE ?_
                  refine qr ?_
                  refine qc8 rfl rfl rfl rfl ?_
                  refine qB rfl rfl rfl ?_
                  refine qD ?_
                  exact jz ((x1396, iadd .i64 x1346 1), ()) (hB := (.cons 0 rfl (.cons 0 rfl .nil))) (hR := (.cons 0 rfl (.cons 0 rfl (.cons 0 rfl .nil)))) (hF := (qe 0 rfl zi))
                · refine qfw ?_
                  refine qbT ?_
                  refine qbT ?_
                  refine qfB ?_
                  exact za (x1345, ()) (hB := (.cons 0 rfl (.cons 0 rfl .nil))) (hR := (.cons 0 rfl (.cons 1 rfl (.cons 0 rfl .nil)))) (hF := (qe 0 rfl zi))
              · rintro ⟨x1316, _⟩
                try dsimp only
                refine qr ?_
                refine zh (i := 1) rfl rfl tf193 rfl rfl (by simp) rfl rfl ?_
                refine qeX 2 rfl ?_
                refine qa0 ent131 rfl rfl rfl (fun x1317 e1317 => qmU F g7 a981 c982 g1210 g1209 x1207.2 x1233 a1230 c1231 (iadd .i64 x1203.1.2 x1207.1.2) x1317 e1317) (.cons 0 rfl .nil) (.cons 1 rfl .nil) (.consF 1 rfl (.consF 0 rfl .nil)) (fun x1317 e1317 g1318 => ?_)
                refine qif (k := x1317) (q := ((x1233, iadd .i64 x1203.1.2 x1207.1.2), (a1230, c1231))) 1 0 rfl rfl rfl ?_
                refine qD ?_
                refine qeo ?_
                exact jz ((x1316, (insK x1317 x1207.2 (x1233, iadd .i64 x1203.1.2 x1207.1.2))), (g1318.1, g1318.2.1, g1318.2.2, (insK x1317 g1209 ((x1233, iadd .i64 x1203.1.2 x1207.1.2), (a1230, c1231))))) (hB := (.cons 0 rfl .nil)) (hR := (.cons 1 rfl (.cons 0 rfl .nil))) (hF := (qe 0 rfl zi))
          · refine qfw ?_
            refine qbT ?_
            refine qbT ?_
            refine qfB ?_
            exact za (x980, ()) (hR := (.cons 0 rfl .nil))
        · rintro ⟨x760, _⟩
          try dsimp only
          refine qO ?_
          refine qO ?_
          refine qr ?_
          refine qB rfl rfl rfl ?_
          refine kx ent133 rfl rfl rfl (fun x763 e763 => yQ e763) (.consR 0 (Ro (eI .i64) 3 1 (.slice a90 x760.length c91) x760) rfl .nil) (fun x763 e763 => ?_)
          intro _
          refine qD ?_
          refine qE ?_
          refine qem rfl (fun h764 => ?_) (fun h764 => ?_)
          · refine qO ?_
            refine qr ?_
            refine zl rfl rfl rfl ?_
            refine zl rfl rfl rfl ?_
            refine qD ?_
            refine qE ?_
            refine qc7 ?_
            refine qcH ?_
            refine qcW Int (eI .i64) 3 1 ?_
            exact qI (none, 0) (res2 rfl rfl rfl) (fun h => by subst h; exact (.cons 0 rfl .nil))
          · refine jx ?_
            refine qE ?_
            refine qO ?_
            refine qr ?_
            refine qB rfl rfl rfl ?_
            refine zl rfl rfl rfl ?_
            refine zl rfl rfl rfl ?_
            refine qD ?_
            refine qE ?_
            refine qc7 ?_
            exact qI (a90, c91) (res2 rfl rfl rfl) (fun h => by subst h; exact (.cons 0 rfl .nil))
set_option maxHeartbeats 4000000 in
theorem qgF {F : Nat} {x1 : List Int} {a2 : Option Addr} {c3 : Nat} {x4 : Int} {r : (List Int × Int)} (hm : qbp F x1 x4 = some r) :
    Pure Tryz.prog 135 [.slice a2 x1.length c3, .int .i64 x4] [Sl (eI .i64) 1 (.slice a2 x1.length c3) x1] (Option Addr × Nat) (fun g => .tuple #[.slice g.1 r.1.length g.2, .int .i64 r.2]) (fun g => [Ro (eI .i64) 3 1 (.slice g.1 r.1.length g.2) r.1]) (fun _ => []) := by
 refine qk Tryz.func135 rfl Tryz.ntmps135 rfl hm (fun w => ?_)
 refine au [24,10,3,5,4,4,0,2,3,3,5,1,24,3,1] ?_
 refine qi 3 (decide (x4 < 0)) [(0, .slice a2 x1.length c3), (1, .int .i64 x4), (14, .bool ((decide (x4 < 0)) || (decide (64 < x4))))] (fun h7 => ?_) (fun h7 => ?_) ?_
 refine qa (os := _) rfl (qg (k := 11) rfl h7 ?_)
 refine au [6,6,14] ?_
 refine qb (d := 14) (v := .bool ((decide (x4 < 0)) || (decide (64 < x4)))) rfl (by rw [h7]; simp only [Bool.true_or]) ?_
 exact az [0,8]
 refine qa (os := _) rfl (qf (k := 11) rfl h7 ?_)
 refine au [1,24,13,15] ?_
 refine qb (d := 14) (v := .bool ((decide (x4 < 0)) || (decide (64 < x4)))) rfl (by rw [h7]; simp only [Bool.false_or]) ?_
 exact az [0,8]
 refine qa (os := _) rfl ?_
 refine av [0,2,10] ?_ ?_
 intro _
 refine au [3,5,4,4,0,2,9,12,26,14] ?_
 exact zC (none, 0)
 intro _
 refine au [13,2,3,5,1] ?_
 refine qk9 (qn .i64) rfl UnF.u inferInstance rfl rfl rfl rfl rfl rfl rfl ?_
 intro x8 e8 a9 c10
 refine au [4,0,2] ?_
 refine qm (fun ((x116, _) : (List Int × Unit)) => ([(0, .slice a2 x1.length c3), (6, .slice a9 x116.length c10)], [], [Ro (eI .i64) 3 1 (.slice a9 x116.length c10) x116], [Sl (eI .i64) 1 (.slice a2 x1.length c3) x1], qbq F x1 x116)) ?_ ?_
 refine au [3,5,1,24,4,1,0,2,18] ?_
 refine qx (fun (((x153, x154), _) : ((List Int × Int) × Unit)) => ([(0, .slice a2 x1.length c3), (1, .int .i64 x4), (6, .slice a9 x153.length c10), (17, .slice a2 x1.length c3), (18, .int .i64 (x1.length : Int)), (19, .int .i64 x154)], [], [Ro (eI .i64) 3 1 (.slice a9 x153.length c10) x153], [Sl (eI .i64) 1 (.slice a2 x1.length c3) x1])) (fun k (s : ((List Int × Int) × Unit)) => kM F x1 x4 k s.1) ((x8, 0), ()) F ?_
 intro k189
 rintro ⟨⟨x153, x154⟩, _⟩
 try dsimp only
 refine qN (m' := vV F x1 x4 (kM F x1 x4 k189) x153 x154) rfl ?_
 refine av [3,5,24,3,0,2,3,10] ?_ ?_
 intro _
 refine au [13,2,3,18,3,5,26,6] ?_
 intro x207 e207 b208 o209
 refine au [25,9,4,0,2,3,3,5,1,24,3,1] ?_
 refine qi 4 (decide (x207 < 0)) [(0, .slice a2 x1.length c3), (1, .int .i64 x4), (6, .slice a9 x153.length c10), (17, .slice a2 x1.length c3), (18, .int .i64 (x1.length : Int)), (19, .int .i64 x154), (8, .int .i64 x207), (29, .bool ((decide (x207 < 0)) || (decide (x4 ≤ x207))))] (fun h212 => ?_) (fun h212 => ?_) ?_
 refine qa (os := _) rfl (qg (k := 25) rfl h212 ?_)
 refine au [6,6,6,14] ?_
 refine qb (d := 29) (v := .bool ((decide (x207 < 0)) || (decide (x4 ≤ x207)))) rfl (by rw [h212]; simp only [Bool.true_or]) ?_
 exact az [0,8]
 refine qa (os := _) rfl (qf (k := 25) rfl h212 ?_)
 refine au [1,1,25,5,15] ?_
 refine qb (d := 29) (v := .bool ((decide (x207 < 0)) || (decide (x4 ≤ x207)))) rfl (by rw [h212]; simp only [Bool.false_or]) ?_
 exact az [0,8]
 refine qa (os := _) rfl ?_
 refine av [0,2,10] ?_ ?_
 intro _
 refine au [3,5,4,4,0,2,9,12,24,0,12,12,24,0,12,26,14] ?_
 exact zC (none, 0)
 intro _
 refine au [13,2,5,1,1,27,8] ?_
 intro x213 e213 g214 h215
 refine y8 (j := 0) (y := x213) (qn .i64) rfl rfl tf3 rfl h215 (qt e213).2.2 (fun _ => rfl) rfl rfl ?_
 refine au [21,27,8] ?_
 intro x216 e216 g217 h218
 refine kz (j := 0) (y' := iadd .i64 x213 1) (qn .i64) rfl rfl rfl tf3 rfl h218 (qt e216).2.1 rfl (fun x219 e219 h220 => ?_)
 have h221 : x219.length = x153.length := by rw [← e219, List.length_set]
 refine qb (d := 6) (v := .slice a9 x219.length c10) rfl h220 (qb (d := 30) (v := .slice a9 x219.length c10) rfl h220 ?_)
 refine au [0,24,2,2,5,21,1,0] ?_
 exact qs ((x219, iadd .i64 x154 1), ())
 intro _
 refine au [24,8,20,20,24,9] ?_
 exact qc (x153, ())
 rintro ⟨x116, _⟩
 try dsimp only
 refine av [3,3,5,1,24,4,24,13,0,2,10] ?_ ?_
 intro _
 refine au [3,5,4,4,0,2,9,12,26,14] ?_
 exact zC (none, 0)
 intro _
 refine au [13,2,3,5,1,4,4,0,2,9] ?_
 exact zC (a9, c10)
set_option maxHeartbeats 4000000 in
theorem qf3 (F : Nat) (x1 : List Int) (a2 : Option Addr) (c3 : Nat) (x4 : Int) (r : (List Int × Int × List Int × Int)) (hm : qb3 F x1 x4 = some r) :
    Pure Tryz.prog 53 [.slice a2 x1.length c3, .int .i64 x4] [Sl (eI .i64) 1 (.slice a2 x1.length c3) x1] ((Option Addr × Nat) × (Option Addr × Nat)) (fun g => .tuple #[.slice g.1.1 r.1.length g.1.2, .agg #[.int .i64 r.2.1, .slice g.2.1 r.2.2.1.length g.2.2], .int .i64 r.2.2.2]) (fun g => [Ro (eI .i64) 3 1 (.slice g.1.1 r.1.length g.1.2) r.1, Ro (eI .u8) 5 1 (.slice g.2.1 r.2.2.1.length g.2.2) r.2.2.1]) (fun _ => []) := by
 refine qk Tryz.func53 rfl Tryz.ntmps53 rfl hm (fun w => ?_)
 refine au [24,10,3,5,4,23] ?_
 intro g5
 refine au [4,0,2,3,5,1,1] ?_
 refine qh qgF ?_
 rintro x6 e6 ⟨a7, c8⟩
 refine av [1,7,7,4,4,0,2,3,3,5,1,24,15,0,2,10] ?_ ?_
 intro _
 refine au [3,5] ?_
 refine qH (cells := [.int .i64 0, .slice none 0 0]) rfl st25 rfl (by kernel_rfl) rfl ?_
 refine au [1,4,22,4,0,2,9,12,26,14,26,1] ?_
 exact qI ((none, 0), (none, 0)) (resL (rs := [.tmp 4, .cell 5 25, .tmp 6]) rfl (.tmp rfl (.cell (i := 0) rfl tf25 rfl rfl (by simp) rfl (.tmp rfl ResOk.nil))) rfl) (fun h => by subst h; exact (.cons 1 rfl (.cons 0 rfl .nil)))
 intro _
 refine au [13,2,3,5,1,30,0] ?_
 rintro x10 e10 ⟨a11, c12⟩
 refine av [1,7,7,4,4,0,2,3,3,5,1,24,15,0,2,10] ?_ ?_
 intro _
 refine au [3,5] ?_
 refine qH (cells := [.int .i64 0, .slice none 0 0]) rfl st25 rfl (by kernel_rfl) rfl ?_
 refine au [1,4,22,4,0,2,9,12,26,14,26,1] ?_
 exact qI ((none, 0), (none, 0)) (resL (rs := [.tmp 4, .cell 5 25, .tmp 6]) rfl (.tmp rfl (.cell (i := 0) rfl tf25 rfl rfl (by simp) rfl (.tmp rfl ResOk.nil))) rfl) (fun h => by subst h; exact (.cons 1 rfl (.cons 0 rfl .nil)))
 intro _
 refine au [13,2,3,5,1,27,14] ?_
 rintro x14 e14 ⟨a15, c16⟩
 refine au [1,7,7,4,4,0,2,3,5] ?_
 refine qH (cells := [.int .i64 0, .slice none 0 0]) rfl st25 rfl (by kernel_rfl) rfl ?_
 refine au [23] ?_
 intro g17
 refine au [22,0,2] ?_
 refine qm (fun (((x259, x262), (a260, c261)) : ((Int × List Int) × (Option Addr × Nat))) => ([(5, .pointer (some ⟨g5, 0, none⟩)), (9, .slice a11 x10.1.length c12), (12, .pointer (some ⟨g17, 0, none⟩))], [⟨g17, 25, [.int .i64 x259, .slice a260 x262.length c261]⟩, ⟨g5, 25, [.int .i64 0, .slice none 0 0]⟩], [Ro (eI .i64) 3 1 (.slice a11 x10.1.length c12) x10.1, Ro (eI .u8) 5 1 (.slice a260 x262.length c261) x262], [], qcQ F x10 x259 x262)) ?_ ?_
 refine au [3,5,1,24,4,1,0,2,18,27,10] ?_
 refine qx (fun (((x342, x343, x346), (a344, c345)) : ((Int × Int × List Int) × (Option Addr × Nat))) => ([(5, .pointer (some ⟨g5, 0, none⟩)), (9, .slice a11 x10.1.length c12), (10, .slice a15 x14.1.length c16.1), (12, .pointer (some ⟨g17, 0, none⟩)), (40, .slice a2 x1.length c3), (41, .int .i64 (x1.length : Int)), (42, .int .i64 x342)], [⟨g17, 25, [.int .i64 x343, .slice a344 x346.length c345]⟩, ⟨g5, 25, [.int .i64 0, .slice none 0 0]⟩], [Ro (eI .i64) 3 1 (.slice a11 x10.1.length c12) x10.1, RoN eN25 rN25 25 2 (.slice a15 x14.1.length c16.1) x14.1 c16.2 [], Ro (eI .u8) 5 1 (.slice a344 x346.length c345) x346], [Sl (eI .i64) 1 (.slice a2 x1.length c3) x1])) (fun k (s : ((Int × Int × List Int) × (Option Addr × Nat))) => yT F x1 x10 x14 k s.1) ((0, 0, ([] : List Int)), (none, 0)) F ?_
 intro k425
 rintro ⟨⟨x342, x343, x346⟩, ⟨a344, c345⟩⟩
 try dsimp only
 refine qN (m' := qbn F x1 x10 x14 (yT F x1 x10 x14 k425) x342 x343 x346) rfl ?_
 refine av [3,5,24,3,0,2,3,10] ?_ ?_
 intro _
 refine au [13,2,3,18,3,5,26,6] ?_
 intro x465 e465 b466 o467
 refine au [25,9,4,0,2,3,3] ?_
 refine qfx (j := 1) rfl ?_
 intro x487 e487 g488 h489 g490 h491
 replace h491 : a15 = some ⟨g490, 0, none⟩ := h491
 have h492 := qaV (k := x14.1.length) (c := c16.1) h491
 refine qdt (i := 1) rfl h489 (List.not_mem_nil) (qT mixed [] [⟨g17, 25, [.int .i64 x343, .slice a344 x346.length c345]⟩, ⟨g5, 25, [.int .i64 0, .slice none 0 0]⟩] [qJ b466 o467 ((eI .i64) x465), Sl (eI .i64) 1 (.slice a2 x1.length c3) x1, qJ g490 (x465.toNat * 2) (eN25 (x487, g488))] (.cons 0 rfl (.cons 0 rfl .nil)) (qz 0 rfl (qz 1 rfl (qeE 1 rfl (qdD kR h489 h491) qL))) 9 rfl ?_)
 refine au [25,3,0,25,11,1,11,2,11,3] ?_
 refine qo (d := 48) (v := .slice (some ⟨g490, 0, none⟩) x14.1.length c16.1) rfl (by rw [h491] <;> rfl) (qj 4 (.pointer (some ⟨g490, x465.toNat * 2, none⟩)) rfl rfl rfl (qbG Tryz.underlying95 tf25 rfl rfl (qt e487).1 (kH e487)) (qo (d := 48) (v := .slice a15 x14.1.length c16.1) rfl (by rw [h491] <;> rfl) ?_))
 refine au [25,3,5] ?_
 refine zq 6 (.int .i64 x487.1) [] rfl rfl rfl (qmS (j := 2) (off := 0) rfl tf3 rfl rfl (fun _ => rfl) rfl) ?_
 refine au [11,7,11,8,24,7] ?_
 refine qR ?_ (by intro c h; cases h)
 refine av [2,10] ?_ ?_
 intro _
 refine au [3] ?_
 refine qaX (rin := rN25) (p := (x487, g488)) (i := 0) (k := 0) (.cons 0 rfl .nil) rfl rfl h489 ?_
 refine au [5] ?_
 refine qH (cells := [.int .i64 0, .slice none 0 0]) rfl st25 rfl (by kernel_rfl) rfl ?_
 refine au [4,25,6,4,0,2,9,12,24,0,12,12,24,0,12,26,14,26,1] ?_
 exact qI ((none, 0), (none, 0)) (resL (rs := [.tmp 4, .cell 5 25, .tmp 6]) rfl (.tmp rfl (.cell (i := 1) rfl tf25 rfl rfl (by simp) rfl (.tmp rfl ResOk.nil))) rfl) (fun h => by subst h; exact (.cons 1 rfl (.cons 0 rfl .nil)))
 intro _
 refine au [13,2] ?_
 refine qaX (rin := rN25) (p := (x487, g488)) (i := 0) (k := 0) (.cons 0 rfl .nil) rfl rfl h489 ?_
 refine au [32,0] ?_
 intro x493 e493 g494 h495 g496 h497
 replace h497 : a15 = some ⟨g496, 0, none⟩ := h497
 have h498 := qaV (k := x14.1.length) (c := c16.1) h497
 refine qdt (i := 0) rfl h495 (List.not_mem_nil) (qT mixed [6] [⟨g5, 25, [.int .i64 0, .slice none 0 0]⟩] [qJ b466 o467 ((eI .i64) x465), Sl (eI .i64) 1 (.slice a2 x1.length c3) x1, qJ g496 (x465.toNat * 2) (eN25 (x493, g494)), (BlkD.is ⟨g17, 25, [.int .i64 x343, .slice a344 x346.length c345]⟩)] (.cons 1 rfl .nil) (qz 0 rfl (qz 1 rfl (qeE 1 rfl (qdD kR h495 h497) (qkJ 0 rfl qL)))) 7 rfl (zq 0 (.agg #[.int .i64 x343, .slice a344 x346.length c345]) [[6]] rfl rfl rfl (qhm (j := 3) rfl tf25 rfl rfl (by simp) rfl) ?_))
 refine au [11,1,11,2] ?_
 refine qo (d := 57) (v := .slice (some ⟨g496, 0, none⟩) x14.1.length c16.1) rfl (by rw [h497] <;> rfl) (qj 3 (.pointer (some ⟨g496, x465.toNat * 2, none⟩)) rfl rfl rfl (qbG Tryz.underlying95 tf25 rfl rfl (qt e493).1 (kH e493)) (qo (d := 57) (v := .slice a15 x14.1.length c16.1) rfl (by rw [h497] <;> rfl) (zq 4 (.agg #[.int .i64 x493.1, .slice g494.1 x493.2.length g494.2]) [[6]] rfl rfl rfl (zN (j := 2) rfl tf25 rfl rfl (by simp) rfl) ?_)))
 refine au [17,5,29,5] ?_
 rintro x499 e499 ⟨a500, c501⟩
 refine au [0] ?_
 refine q9 (.cons 1 rfl .nil) (qz 0 rfl (qz 1 rfl (qeE 2 rfl (qdD kR h495 h497) (qkJ 0 rfl qL)))) ?_
 refine au [17,6,22,0] ?_
 refine qdu 6 rfl (by kernel_rfl) (.cons 1 rfl .nil) ?_
 refine au [24,7] ?_
 refine qR ?_ (by intro c h; cases h)
 refine au [24,2,2] ?_
 refine qaX (rin := rN25) (p := (x493, g494)) (i := 1) (k := 0) (.cons 1 rfl .nil) rfl rfl h495 ?_
 refine au [5,21,1,0] ?_
 exact qs ((iadd .i64 x342 1, x499.1, x499.2), (a500, c501))
 intro _
 refine au [24,8,20,20,24,9] ?_
 exact qc ((x343, x346), (a344, c345))
 rintro ⟨⟨x259, x262⟩, ⟨a260, c261⟩⟩
 try dsimp only
 refine au [3] ?_
 refine qT mixed [] [⟨g17, 25, [.int .i64 x259, .slice a260 x262.length c261]⟩] [] (.cons 0 rfl .nil) qL 5 rfl ?_
 refine au [11,0] ?_
 refine zJ 1 (.agg #[.int .i64 x259, .slice a260 x262.length c261]) rfl rfl rfl (zQ (i := 0) rfl tf25 rfl rfl (by simp) rfl) ?_
 refine au [11,2,17,3,25,6,0] ?_
 refine q9 (.cons 0 rfl .nil) qL ?_
 refine au [11,4,24,7] ?_
 refine qR ?_ (by intro c h; cases h)
 refine au [2,9] ?_
 exact qI ((a11, c12), (a260, c261)) (resL (rs := [.tmp 4, .cell 5 25, .tmp 6]) rfl (.tmp rfl (.cell (i := 1) rfl tf25 rfl rfl (by simp) rfl (.tmp rfl ResOk.nil))) rfl) (fun h => by subst h; exact (.cons 0 rfl (.cons 0 rfl .nil)))
set_option maxHeartbeats 4000000 in
theorem qhC {F : Nat} {x1 : List (Int × List Int)} {a2 : Option Addr} {c3 : Nat} {s3 : List (Option Addr × Nat)} {x4 : Int} {x5 : List Int} {a6 : Option Addr} {c7 : Nat} {x8 : Int} {r : (Int × Int × Int)} (hm : qar F x1 x4 x5 x8 = some r) :
    Pure Tryz.prog 136 [.slice a2 x1.length c3, .agg #[.int .i64 x4, .slice a6 x5.length c7], .int .i64 x8] [SlN eN25 iN25 2 (.slice a2 x1.length c3) x1 s3, Sl (eI .u8) 1 (.slice a6 x5.length c7) x5] Unit (fun _ => .tuple #[.int .i64 r.1, .int .i64 r.2.1, .int .i64 r.2.2]) (fun _ => []) (fun _ => []) := by
 refine qk Tryz.func136 rfl Tryz.ntmps136 rfl hm (fun w => ?_)
 refine au [25,8,3,5,24,6] ?_
 intro g9
 refine au [4,4,4,0,2,3,5,4,0,2] ?_
 refine qm (fun ((x88, _) : (Int × Unit)) => ([(9, .int .i64 x88)], [], [], [], qbs F x88)) ?_ ?_
 refine au [3,5,1,24,4,1,0,2,18] ?_
 refine qx (fun (((x114, x115), _) : ((Int × Int) × Unit)) => ([(2, .int .i64 x8), (4, .pointer (some ⟨g9, 0, none⟩)), (9, .int .i64 x114), (12, .slice a2 x1.length c3), (13, .int .i64 (x1.length : Int)), (14, .int .i64 x115)], [⟨g9, 25, [.int .i64 x4, .slice a6 x5.length c7]⟩], [], [SlN eN25 iN25 2 (.slice a2 x1.length c3) x1 s3, Sl (eI .u8) 1 (.slice a6 x5.length c7) x5])) (fun k (s : ((Int × Int) × Unit)) => zR F x1 x4 x5 x8 k s.1) ((5, 0), ()) F ?_
 intro k141
 rintro ⟨⟨x114, x115⟩, _⟩
 try dsimp only
 refine qN (m' := v7 F x1 x4 x5 x8 (zR F x1 x4 x5 x8 k141) x114 x115) rfl ?_
 refine av [3,5,24,3,0,2,3,10] ?_ ?_
 intro _
 refine au [13,2] ?_
 refine qm (fun ((x154, _) : (Int × Unit)) => ([(2, .int .i64 x8), (4, .pointer (some ⟨g9, 0, none⟩)), (9, .int .i64 x154), (12, .slice a2 x1.length c3), (13, .int .i64 (x1.length : Int)), (14, .int .i64 x115)], [⟨g9, 25, [.int .i64 x4, .slice a6 x5.length c7]⟩], [], [SlN eN25 iN25 2 (.slice a2 x1.length c3) x1 s3, Sl (eI .u8) 1 (.slice a6 x5.length c7) x5], v8 F (zR F x1 x4 x5 x8 k141) x115 x154)) ?_ ?_
 refine au [18,3,5,1,29,15] ?_
 intro x155 e155 g158 b156 o157
 refine au [28,9,23] ?_
 intro g159
 refine au [4,22,0,2,18,3,5,24,11,25,2,19,1] ?_
 refine qy 6 (fun ((x162, _) : (Bool × Unit)) => ([(2, .int .i64 x8), (4, .pointer (some ⟨g9, 0, none⟩)), (9, .int .i64 x114), (10, .int .i64 x115), (11, .pointer (some ⟨g159, 0, none⟩)), (12, .slice a2 x1.length c3), (13, .int .i64 (x1.length : Int)), (14, .int .i64 x115), (34, .bool x162)], [⟨g159, 25, [.int .i64 x155.1, .slice g158.1 x155.2.length g158.2]⟩, ⟨g9, 25, [.int .i64 x4, .slice a6 x5.length c7]⟩], [], [SlN eN25 iN25 2 (.slice a2 x1.length c3) x1 s3, Sl (eI .u8) 1 (.slice g158.1 x155.2.length g158.2) x155.2, Sl (eI .u8) 1 (.slice a6 x5.length c7) x5], ja F (zR F x1 x4 x5 x8 k141) x4 x8 x114 x115 x155 x162)) ?_ ?_
 refine qa (os := _) rfl ?_
 refine av [24,12] ?_ ?_
 intro h160
 refine qg (k := 28) rfl h160 ?_
 refine au [6,6,6,6,6,14,0] ?_
 exact qc (true, ())
 intro h160
 refine qf (k := 28) rfl h160 ?_
 refine au [25,14,1,24,5,32,3] ?_
 intro x165 e165 _
 refine au [25,7,15,0] ?_
 exact qc ((!x165), ())
 rintro ⟨x162, _⟩
 try dsimp only
 refine qa (os := _) rfl ?_
 refine av [4,0,2,10] ?_ ?_
 intro _
 refine au [13,24,2,24,2] ?_
 exact qc (x114, ())
 intro _
 refine av [3,5,24,11,26,7,1,25,0,24,11,25,2,24,3,4,0,2,10] ?_ ?_
 intro _
 refine au [5,4,0,24,2,24,2] ?_
 exact qc ((7 : Int), ())
 intro _
 refine au [3] ?_
 refine qT mixed [] [⟨g159, 25, [.int .i64 x155.1, .slice g158.1 x155.2.length g158.2]⟩, ⟨g9, 25, [.int .i64 x4, .slice a6 x5.length c7]⟩] [SlN eN25 iN25 2 (.slice a2 x1.length c3) x1 s3, Sl (eI .u8) 1 (.slice g158.1 x155.2.length g158.2) x155.2, Sl (eI .u8) 1 (.slice a6 x5.length c7) x5] (.cons 0 rfl (.cons 0 rfl .nil)) (qz 0 rfl (qz 1 rfl (qz 2 rfl qL))) 8 rfl ?_
 refine au [11,0,11,1,25,3,2,25,11,3,11,4,11,5,11,6,11,7,24,7] ?_
 refine qR ?_ (by intro c h; cases h)
 exact az [2,9,24,0,24,0,12,12,24,0,12,16]
 rintro ⟨x154, _⟩
 try dsimp only
 refine au [5,21,1,0] ?_
 exact qs ((x154, iadd .i64 x115 1), ())
 intro _
 refine au [24,8,20,20,24,9] ?_
 exact qc (x114, ())
 rintro ⟨x88, _⟩
 try dsimp only
 exact az [3,5,1,4,4,4,0,2,9,16]
set_option maxHeartbeats 4000000 in
theorem qeF (F : Nat) (x1 : List Int) (a2 : Option Addr) (c3 : Nat) (x4 : Int) (x5 : List Int) (a6 : Option Addr) (c7 : Nat) (x8 : Int) (r : (List Int × Int)) (hm : vL F x1 x4 x5 x8 = some r) :
    Pure Tryz.prog 54 [.slice a2 x1.length c3, .agg #[.int .i64 x4, .slice a6 x5.length c7], .int .i64 x8] [Sl (eI .i64) 1 (.slice a2 x1.length c3) x1, Sl (eI .u8) 1 (.slice a6 x5.length c7) x5] (Option Addr × Nat) (fun g => .tuple #[.slice g.1 r.1.length g.2, .int .i64 r.2]) (fun g => [Ro (eI .i64) 3 1 (.slice g.1 r.1.length g.2) r.1]) (fun _ => []) := by
 refine qk Tryz.func54 rfl Tryz.ntmps54 rfl hm (fun w => ?_)
 refine au [25,8,3,5,24,6] ?_
 intro g9
 refine au [4,4,0,2,3,5,1,27,14] ?_
 rintro x10 e10 ⟨a11, c12⟩
 refine au [1,7,7,4,4,0,2] ?_
 refine qm (fun ((x15, _) : (Int × Unit)) => ([(2, .int .i64 x8), (4, .pointer (some ⟨g9, 0, none⟩)), (8, .slice a11 x10.1.length c12.1), (9, .int .i64 x15)], [⟨g9, 25, [.int .i64 x4, .slice a6 x5.length c7]⟩], [RoN eN25 rN25 25 2 (.slice a11 x10.1.length c12.1) x10.1 c12.2 []], [Sl (eI .u8) 1 (.slice a6 x5.length c7) x5], j5 F x4 x5 x8 x10 x15)) ?_ ?_
 refine av [3,5,1,19,0,2,10] ?_ ?_
 intro _
 refine au [5,24,5,26,8] ?_
 intro x114 e114 _
 refine au [4,0] ?_
 exact qc (x114, ())
 intro _
 refine au [13] ?_
 exact qc (x10.2, ())
 rintro ⟨x15, _⟩
 try dsimp only
 refine qm (fun ((x21, _) : (Int × Unit)) => ([(2, .int .i64 x8), (4, .pointer (some ⟨g9, 0, none⟩)), (8, .slice a11 x10.1.length c12.1), (9, .int .i64 x21)], [⟨g9, 25, [.int .i64 x4, .slice a6 x5.length c7]⟩], [RoN eN25 rN25 25 2 (.slice a11 x10.1.length c12.1) x10.1 c12.2 []], [Sl (eI .u8) 1 (.slice a6 x5.length c7) x5], j6 F x4 x5 x8 x10 x21)) ?_ ?_
 refine au [3,5,1,19,1] ?_
 refine qy 7 (fun ((x111, _) : (Bool × Unit)) => ([(2, .int .i64 x8), (4, .pointer (some ⟨g9, 0, none⟩)), (8, .slice a11 x10.1.length c12.1), (9, .int .i64 x15), (31, .bool x111)], [⟨g9, 25, [.int .i64 x4, .slice a6 x5.length c7]⟩], [RoN eN25 rN25 25 2 (.slice a11 x10.1.length c12.1) x10.1 c12.2 []], [Sl (eI .u8) 1 (.slice a6 x5.length c7) x5], j7 F x4 x5 x8 x10 x15 x111)) ?_ ?_
 refine qa (os := _) rfl ?_
 refine av [24,12] ?_ ?_
 intro h109
 refine qg (k := 24) rfl h109 ?_
 refine au [1,24,3,1] ?_
 refine qi 3 (decide (x8 < 0)) [(2, .int .i64 x8), (4, .pointer (some ⟨g9, 0, none⟩)), (8, .slice a11 x10.1.length c12.1), (9, .int .i64 x15), (24, .bool true), (30, .bool ((decide (x8 < 0)) || (decide (1000 < x8))))] (fun h113 => ?_) (fun h113 => ?_) ?_
 refine qa (os := _) rfl (qg (k := 27) rfl h113 ?_)
 refine au [6,6,14] ?_
 refine qb (d := 30) (v := .bool ((decide (x8 < 0)) || (decide (1000 < x8)))) rfl (by rw [h113]; simp only [Bool.true_or]) ?_
 exact az [0,8]
 refine qa (os := _) rfl (qf (k := 27) rfl h113 ?_)
 refine au [1,24,13,15] ?_
 refine qb (d := 30) (v := .bool ((decide (x8 < 0)) || (decide (1000 < x8)))) rfl (by rw [h113]; simp only [Bool.false_or]) ?_
 exact az [0,8]
 refine qa (os := _) rfl ?_
 refine au [14,0] ?_
 exact qc (((decide (x8 < 0)) || (decide (1000 < x8))), ())
 intro h109
 refine qf (k := 24) rfl h109 ?_
 refine au [6,6,6,6,6,6,15,0] ?_
 exact qc (false, ())
 rintro ⟨x111, _⟩
 try dsimp only
 refine qa (os := _) rfl ?_
 refine av [0,2,10] ?_ ?_
 intro _
 refine au [5,4,0] ?_
 exact qc ((3 : Int), ())
 intro _
 refine au [13] ?_
 exact qc (x15, ())
 rintro ⟨x21, _⟩
 try dsimp only
 refine au [3,5,4,0,2,3,5,4,0,2] ?_
 refine qm (fun (((x60, x63, x64), (a61, c62)) : ((Int × List Int × Int) × (Option Addr × Nat))) => ([(4, .pointer (some ⟨g9, 0, none⟩)), (9, .int .i64 x60), (10, .slice a61 x63.length c62), (11, .int .i64 x64)], [⟨g9, 25, [.int .i64 x4, .slice a6 x5.length c7]⟩], [Ro (eI .i64) 3 1 (.slice a61 x63.length c62) x63], [Sl (eI .u8) 1 (.slice a6 x5.length c7) x5], yU F x4 x60 x63 x64)) ?_ ?_
 refine au [18,29,11] ?_
 refine qx (fun (((x83, x86, x87), (a84, c85)) : ((Int × List Int × Int) × (Option Addr × Nat))) => ([(2, .int .i64 x8), (4, .pointer (some ⟨g9, 0, none⟩)), (8, .slice a11 x10.1.length c12.1), (9, .int .i64 x83), (10, .slice a84 x86.length c85), (11, .int .i64 x87)], [⟨g9, 25, [.int .i64 x4, .slice a6 x5.length c7]⟩], [RoN eN25 rN25 25 2 (.slice a11 x10.1.length c12.1) x10.1 c12.2 [], Ro (eI .i64) 3 1 (.slice a84 x86.length c85) x86], [Sl (eI .u8) 1 (.slice a6 x5.length c7) x5])) (fun k (s : ((Int × List Int × Int) × (Option Addr × Nat))) => zB F x4 x5 x8 x10 k s.1) ((x21, ([] : List Int), 0), (none, 0)) F ?_
 intro k98
 rintro ⟨⟨x83, x86, x87⟩, ⟨a84, c85⟩⟩
 try dsimp only
 refine qN (m' := zV F x4 x5 x8 x10 (zB F x4 x5 x8 x10 k98) x83 x86 x87) rfl ?_
 refine au [3,3,5,1,19,1] ?_
 refine qi 5 ((x83 : Int) == 0) [(2, .int .i64 x8), (4, .pointer (some ⟨g9, 0, none⟩)), (8, .slice a11 x10.1.length c12.1), (9, .int .i64 x83), (10, .slice a84 x86.length c85), (11, .int .i64 x87), (39, .bool (((x83 : Int) == 0) && (decide ((x86.length : Int) < x8))))] (fun h101 => ?_) (fun h101 => ?_) ?_
 refine qa (os := _) rfl (qg (k := 34) rfl h101 ?_)
 refine au [1,24,4,1,24,3,14] ?_
 refine qb (d := 39) (v := .bool (((x83 : Int) == 0) && (decide ((x86.length : Int) < x8)))) rfl (by rw [h101]; simp only [Bool.true_and]) ?_
 exact az [0,8]
 refine qa (os := _) rfl (qf (k := 34) rfl h101 ?_)
 refine au [6,6,6,6,15] ?_
 refine qb (d := 39) (v := .bool (((x83 : Int) == 0) && (decide ((x86.length : Int) < x8)))) rfl (by rw [h101]; simp only [Bool.false_and]) ?_
 exact az [0,8]
 refine qa (os := _) rfl ?_
 refine av [0,2,10] ?_ ?_
 intro _
 refine au [13,2,18,3,5,4,0,2,3,5,1,24,5,1,32,10] ?_
 intro x102 e102 _
 refine au [1,7,7,7,4,4,4,0,2,5,1,1] ?_
 refine qq (vs := [.int .i64 x102.1]) (ys := ([x102.1] : List Int)) (qn .i64) (by decide) rfl Tryz.underlying22 tf3 rfl rfl rfl rfl rfl (by decide) (fun a103 c104 => yo 2 (qn .i64) rfl Tryz.underlying22 tf3 rfl rfl rfl rfl rfl (.inl ⟨0, _, rfl⟩) rfl rfl (fun x105 e105 a106 c107 => ?_))
 refine au [4,0,24,2] ?_
 exact qs ((x102.2.2, x105, x102.2.1), (a106, c107))
 intro _
 refine au [24,8,20,20,24,9] ?_
 exact qc ((x83, x86, x87), (a84, c85))
 rintro ⟨⟨x60, x63, x64⟩, ⟨a61, c62⟩⟩
 try dsimp only
 refine qm (fun ((x67, _) : (Int × Unit)) => ([(9, .int .i64 x67), (10, .slice a61 x63.length c62)], [], [Ro (eI .i64) 3 1 (.slice a61 x63.length c62) x63], [], ye F x63 x67)) ?_ ?_
 refine au [3,5,1,19,1] ?_
 refine qi 5 ((x60 : Int) == 0) [(9, .int .i64 x60), (10, .slice a61 x63.length c62), (59, .bool (((x60 : Int) == 0) && (decide (x64 < x4))))] (fun h70 => ?_) (fun h70 => ?_) ?_
 refine qa (os := _) rfl (qg (k := 54) rfl h70 ?_)
 refine au [1,24,11,25,2,24,3,14] ?_
 refine qb (d := 59) (v := .bool (((x60 : Int) == 0) && (decide (x64 < x4)))) rfl (by rw [h70]; simp only [Bool.true_and]) ?_
 exact az [0,8]
 refine qa (os := _) rfl (qf (k := 54) rfl h70 ?_)
 refine au [6,6,6,6,15] ?_
 refine qb (d := 59) (v := .bool (((x60 : Int) == 0) && (decide (x64 < x4)))) rfl (by rw [h70]; simp only [Bool.false_and]) ?_
 exact az [0,8]
 refine qa (os := _) rfl ?_
 refine av [0,2,10] ?_ ?_
 intro _
 refine au [5,4,0] ?_
 exact qc ((1 : Int), ())
 intro _
 refine au [13] ?_
 exact qc (x60, ())
 rintro ⟨x67, _⟩
 try dsimp only
 refine av [3,3,5,1,24,15,0,2,10] ?_ ?_
 intro _
 refine au [3,5,1,4,4,0,2,9,12,26,14] ?_
 exact zC (none, 0)
 intro _
 refine au [13,2,3,5,1,4,4,0,2,9] ?_
 exact zC (a61, c62)
set_option maxHeartbeats 4000000 in
theorem qjk {F : Nat} {x1 : Int} {x2 : List Int} {a3 : Option Addr} {c4 : Nat} {x5 : Int} {x6 : Int} {r : (Int × Bool)} (hm : qaZ F x1 x2 x5 x6 = some r) :
    Pure Tryz.prog 206 [.agg #[.int .i64 x1, .slice a3 x2.length c4], .int .i64 x5, .int .i64 x6] [Sl (eI .u8) 1 (.slice a3 x2.length c4) x2] Unit (fun _ => .tuple #[.int .u64 r.1, .bool r.2]) (fun _ => []) (fun _ => []) := by
 refine qk Tryz.func206 rfl Tryz.ntmps206 rfl hm (fun w => ?_)
 refine au [25,8,3,5,24,6] ?_
 intro g7
 refine av [4,4,0,2,3,3,5,24,11,25,2,1,25,0,1,24,3,0,2,10] ?_ ?_
 intro _
 exact az [3,5,4,4,0,2,9,12,16]
 intro _
 refine au [13,2] ?_
 refine qm (fun ((x24, _) : (Int × Unit)) => ([(6, .int .u64 x24)], [], [], [], qd9 F x24)) ?_ ?_
 refine au [3,5,1,1,0,2,18] ?_
 refine qx (fun (((x29, x30), _) : ((Int × Int) × Unit)) => ([(1, .int .i64 x5), (3, .pointer (some ⟨g7, 0, none⟩)), (6, .int .u64 x29), (15, .int .i64 x6), (16, .int .i64 x30)], [⟨g7, 25, [.int .i64 x1, .slice a3 x2.length c4]⟩], [], [Sl (eI .u8) 1 (.slice a3 x2.length c4) x2])) (fun k (s : ((Int × Int) × Unit)) => qbb F x1 x2 x5 x6 k s.1) ((0, 0), ()) F ?_
 intro k35
 rintro ⟨⟨x29, x30⟩, _⟩
 try dsimp only
 refine qN (m' := qd8 F x1 x2 x5 x6 (qbb F x1 x2 x5 x6 k35) x29 x30) rfl ?_
 refine av [3,5,24,3,0,2,3,10] ?_ ?_
 intro _
 refine au [13,2,3,18,3,5,1,4,0,2,5,1,32,11,24,5,1,1,21,27,5] ?_
 intro x38 e38 _
 refine au [29,12,4,0,24,2,2,5,21,1,0] ?_
 exact qs ((ior .u64 (ishl .u64 x29 1) x38, iadd .i64 x30 1), ())
 intro _
 refine au [24,8,20,20,24,9] ?_
 exact qc (x29, ())
 rintro ⟨x24, _⟩
 try dsimp only
 exact az [3,5,1,4,4,0,2,9,16]
set_option maxHeartbeats 4000000 in
theorem qku {F : Nat} {x1 : Int} {x2 : List Int} {a3 : Option Addr} {c4 : Nat} {x5 : Int} {x6 : Int} {r : (Int × Int)} (hm : qeO F x1 x2 x5 x6 = some r) :
    Pure Tryz.prog 137 [.agg #[.int .i64 x1, .slice a3 x2.length c4], .int .i64 x5, .int .i64 x6] [Sl (eI .u8) 1 (.slice a3 x2.length c4) x2] Unit (fun _ => .tuple #[.int .u64 r.1, .int .i64 r.2]) (fun _ => []) (fun _ => []) := by
 refine qk Tryz.func137 rfl Tryz.ntmps137 rfl hm (fun w => ?_)
 refine au [25,8,3,5,24,6] ?_
 intro g7
 refine au [4,4,0,2,3,5,24,5,26,8] ?_
 intro x8 e8 _
 refine au [4,0,2] ?_
 refine qm (fun ((x18, _) : (Int × Unit)) => ([(1, .int .i64 x5), (2, .int .i64 x6), (3, .pointer (some ⟨g7, 0, none⟩)), (8, .int .i64 x18)], [⟨g7, 25, [.int .i64 x1, .slice a3 x2.length c4]⟩], [], [Sl (eI .u8) 1 (.slice a3 x2.length c4) x2], qde F x1 x2 x5 x6 x18)) ?_ ?_
 refine au [3,5,1,19,1] ?_
 refine qy 17 (fun ((x28, _) : (Bool × Unit)) => ([(1, .int .i64 x5), (2, .int .i64 x6), (3, .pointer (some ⟨g7, 0, none⟩)), (8, .int .i64 x8), (32, .bool x28)], [⟨g7, 25, [.int .i64 x1, .slice a3 x2.length c4]⟩], [], [Sl (eI .u8) 1 (.slice a3 x2.length c4) x2], qdf F x1 x2 x5 x6 x8 x28)) ?_ ?_
 refine qa (os := _) rfl ?_
 refine av [24,12] ?_ ?_
 intro h24
 refine qg (k := 15) rfl h24 ?_
 refine au [1,24,3,1] ?_
 refine qi 3 (decide (x6 < 0)) [(1, .int .i64 x5), (2, .int .i64 x6), (3, .pointer (some ⟨g7, 0, none⟩)), (8, .int .i64 x8), (15, .bool true), (21, .bool ((decide (x6 < 0)) || (decide (64 < x6))))] (fun h30 => ?_) (fun h30 => ?_) ?_
 refine qa (os := _) rfl (qg (k := 18) rfl h30 ?_)
 refine au [6,6,14] ?_
 refine qb (d := 21) (v := .bool ((decide (x6 < 0)) || (decide (64 < x6)))) rfl (by rw [h30]; simp only [Bool.true_or]) ?_
 exact az [0,8]
 refine qa (os := _) rfl (qf (k := 18) rfl h30 ?_)
 refine au [1,24,13,15] ?_
 refine qb (d := 21) (v := .bool ((decide (x6 < 0)) || (decide (64 < x6)))) rfl (by rw [h30]; simp only [Bool.false_or]) ?_
 exact az [0,8]
 refine qa (os := _) rfl ?_
 refine au [1] ?_
 refine qi 3 ((decide (x6 < 0)) || (decide (64 < x6))) [(1, .int .i64 x5), (2, .int .i64 x6), (3, .pointer (some ⟨g7, 0, none⟩)), (8, .int .i64 x8), (15, .bool true), (25, .bool (((decide (x6 < 0)) || (decide (64 < x6))) || (decide (x5 < 0))))] (fun h31 => ?_) (fun h31 => ?_) ?_
 refine qa (os := _) rfl (qg (k := 22) rfl h31 ?_)
 refine au [6,6,14] ?_
 refine qb (d := 25) (v := .bool (((decide (x6 < 0)) || (decide (64 < x6))) || (decide (x5 < 0)))) rfl (by rw [h31]; simp only [Bool.true_or]) ?_
 exact az [0,8]
 refine qa (os := _) rfl (qf (k := 22) rfl h31 ?_)
 refine au [1,24,3,15] ?_
 refine qb (d := 25) (v := .bool (((decide (x6 < 0)) || (decide (64 < x6))) || (decide (x5 < 0)))) rfl (by rw [h31]; simp only [Bool.false_or]) ?_
 exact az [0,8]
 refine qa (os := _) rfl ?_
 refine au [1] ?_
 refine qi 5 (((decide (x6 < 0)) || (decide (64 < x6))) || (decide (x5 < 0))) [(1, .int .i64 x5), (2, .int .i64 x6), (3, .pointer (some ⟨g7, 0, none⟩)), (8, .int .i64 x8), (15, .bool true), (31, .bool ((((decide (x6 < 0)) || (decide (64 < x6))) || (decide (x5 < 0))) || (decide (x1 < x5))))] (fun h32 => ?_) (fun h32 => ?_) ?_
 refine qa (os := _) rfl (qg (k := 26) rfl h32 ?_)
 refine au [6,6,6,6,14] ?_
 refine qb (d := 31) (v := .bool ((((decide (x6 < 0)) || (decide (64 < x6))) || (decide (x5 < 0))) || (decide (x1 < x5)))) rfl (by rw [h32]; simp only [Bool.true_or]) ?_
 exact az [0,8]
 refine qa (os := _) rfl (qf (k := 26) rfl h32 ?_)
 refine au [1,24,11,25,2,24,13,15] ?_
 refine qb (d := 31) (v := .bool ((((decide (x6 < 0)) || (decide (64 < x6))) || (decide (x5 < 0))) || (decide (x1 < x5)))) rfl (by rw [h32]; simp only [Bool.false_or]) ?_
 exact az [0,8]
 refine qa (os := _) rfl ?_
 refine au [14,0] ?_
 exact qc (((((decide (x6 < 0)) || (decide (64 < x6))) || (decide (x5 < 0))) || (decide (x1 < x5))), ())
 intro h24
 refine qf (k := 15) rfl h24 ?_
 refine au [6,6,6,6,6,6,6,6,6,6,6,6,6,6,6,6,15,0] ?_
 exact qc (false, ())
 rintro ⟨x28, _⟩
 try dsimp only
 refine qa (os := _) rfl ?_
 refine av [0,2,10] ?_ ?_
 intro _
 refine au [5,4,0] ?_
 exact qc ((3 : Int), ())
 intro _
 refine au [13] ?_
 exact qc (x8, ())
 rintro ⟨x18, _⟩
 try dsimp only
 refine av [3,3,5,1,24,15,0,2,10] ?_ ?_
 intro _
 exact az [3,5,1,4,4,0,2,9,12,16]
 intro _
 refine au [13,2,3,5,24,5,1,1,27,15] ?_
 intro x20 e20 _
 refine av [1,7,7,4,4,0,2,3,3,5,1,25,7,0,2,10] ?_ ?_
 intro _
 exact az [3,5,4,4,0,2,9,12,16]
 intro _
 exact az [13,2,3,5,1,4,4,0,2,9,16]
set_option maxHeartbeats 4000000 in
theorem qho {F : Nat}  {r : Bool} (hm : qbU F  = some r) :
    Pure Tryz.prog 55 [] [] Unit (fun _ => .bool r) (fun _ => []) (fun _ => []) := by
 refine qk Tryz.func55 rfl Tryz.ntmps55 rfl hm (fun w => ?_)
 refine au [26,11,3,5,4,0,2,3,5] ?_
 refine qH (cells := [.int .i64 0, .slice none 0 0]) rfl st25 rfl (by kernel_rfl) rfl ?_
 refine au [28,8,32,12] ?_
 rintro x1 e1 ⟨a2, c3⟩
 refine au [1,7,7,23] ?_
 intro g4
 refine au [22,4,0,2,3,5,24,5,32,12] ?_
 rintro x5 e5 ⟨a6, c7⟩
 refine au [1,7,7,23] ?_
 intro g8
 refine au [22,4,0,2,3,5,24,5,32,13] ?_
 intro x9 e9 _
 refine au [1,7,7,4,4,0,2,3,5,25,14,24,5] ?_
 refine qh (fun h => qf2 F _ _ _ _ _ _ _ _ _ h) ?_
 rintro x10 e10 ⟨a11, c12⟩
 refine au [1,7,7,23] ?_
 intro g13
 refine au [22,4,0,2,3,5,25,14] ?_
 refine kU (fun h => qgx F _ _ _ _ _ _ _ h) ?_
 rintro x14 e14 ⟨a15, c16⟩
 refine au [1,7,7,23] ?_
 intro g17
 refine au [22,4,0,2,3,5,26,5,32,13] ?_
 intro x18 e18 _
 refine au [1,7,7,4,4,0,2,3,5,26,15] ?_
 refine qq (vs := [.int .u8 160]) (ys := ([160] : List Int)) (qn .u8) (by decide) rfl Tryz.underlying23 tf5 rfl rfl rfl rfl rfl (by decide) (fun a19 c20 => qH (cells := [.int .i64 3, .slice a19 ([160] : List Int).length c20]) rfl st25 rfl (by kernel_rfl) rfl ?_)
 refine au [26,2] ?_
 intro x21 e21 _
 refine au [1] ?_
 refine qi 3 x21 [(1, .pointer (some ⟨g4, 0, none⟩)), (3, .pointer (some ⟨g8, 0, none⟩)), (4, .int .i64 x5.2.2), (5, .int .u64 x9.1), (6, .int .i64 x9.2), (7, .pointer (some ⟨g13, 0, none⟩)), (8, .int .i64 x10.2.2), (9, .pointer (some ⟨g17, 0, none⟩)), (10, .int .i64 x14.2.2), (12, .int .i64 x18.2), (51, .bool (x21 && ((x1.2.2 : Int) == 0)))] (fun h22 => ?_) (fun h22 => ?_) ?_
 refine qa (os := _) rfl (qg (k := 48) rfl h22 ?_)
 refine au [1,19,14] ?_
 refine qb (d := 51) (v := .bool (x21 && ((x1.2.2 : Int) == 0))) rfl (by rw [h22]; simp only [Bool.true_and]) ?_
 exact az [0,8]
 refine qa (os := _) rfl (qf (k := 48) rfl h22 ?_)
 refine au [6,6,15] ?_
 refine qb (d := 51) (v := .bool (x21 && ((x1.2.2 : Int) == 0))) rfl (by rw [h22]; simp only [Bool.false_and]) ?_
 exact az [0,8]
 refine qa (os := _) rfl ?_
 refine au [1] ?_
 refine qy 5 (fun ((x27, _) : (Bool × Unit)) => ([(1, .pointer (some ⟨g4, 0, none⟩)), (4, .int .i64 x5.2.2), (5, .int .u64 x9.1), (6, .int .i64 x9.2), (7, .pointer (some ⟨g13, 0, none⟩)), (8, .int .i64 x10.2.2), (9, .pointer (some ⟨g17, 0, none⟩)), (10, .int .i64 x14.2.2), (12, .int .i64 x18.2), (57, .bool x27)], [⟨g17, 25, [.int .i64 x14.1, .slice a15 x14.2.1.length c16]⟩, ⟨g13, 25, [.int .i64 x10.1, .slice a11 x10.2.1.length c12]⟩, ⟨g4, 25, [.int .i64 x1.1, .slice a2 x1.2.1.length c3]⟩], [Ro (eI .u8) 5 1 (.slice a15 x14.2.1.length c16) x14.2.1, Ro (eI .u8) 5 1 (.slice a11 x10.2.1.length c12) x10.2.1, Ro (eI .u8) 5 1 (.slice a2 x1.2.1.length c3) x1.2.1], [], qbI F x1 x5 x9 x10 x14 x18 x27)) ?_ ?_
 refine qa (os := _) rfl ?_
 refine av [24,12] ?_ ?_
 intro h23
 refine qg (k := 52) rfl h23 ?_
 refine au [26,5] ?_
 refine qq (vs := [.int .u8 162, .int .u8 64]) (ys := ([162, 64] : List Int)) (qn .u8) (by decide) rfl Tryz.underlying23 tf5 rfl rfl rfl rfl rfl (by decide) (fun a47 c48 => qH (cells := [.int .i64 10, .slice a47 ([162, 64] : List Int).length c48]) rfl st25 rfl (by kernel_rfl) rfl ?_)
 refine au [26,2] ?_
 intro x49 e49 _
 refine au [14,0] ?_
 exact qc (x49, ())
 intro h23
 refine qf (k := 52) rfl h23 ?_
 refine au [6,6,6,6,15,0] ?_
 exact qc (false, ())
 rintro ⟨x27, _⟩
 try dsimp only
 refine qa (os := _) rfl ?_
 refine au [1] ?_
 refine qi 3 x27 [(1, .pointer (some ⟨g4, 0, none⟩)), (5, .int .u64 x9.1), (6, .int .i64 x9.2), (7, .pointer (some ⟨g13, 0, none⟩)), (8, .int .i64 x10.2.2), (9, .pointer (some ⟨g17, 0, none⟩)), (10, .int .i64 x14.2.2), (12, .int .i64 x18.2), (61, .bool (x27 && ((x5.2.2 : Int) == 0)))] (fun h28 => ?_) (fun h28 => ?_) ?_
 refine qa (os := _) rfl (qg (k := 58) rfl h28 ?_)
 refine au [1,19,14] ?_
 refine qb (d := 61) (v := .bool (x27 && ((x5.2.2 : Int) == 0))) rfl (by rw [h28]; simp only [Bool.true_and]) ?_
 exact az [0,8]
 refine qa (os := _) rfl (qf (k := 58) rfl h28 ?_)
 refine au [6,6,15] ?_
 refine qb (d := 61) (v := .bool (x27 && ((x5.2.2 : Int) == 0))) rfl (by rw [h28]; simp only [Bool.false_and]) ?_
 exact az [0,8]
 refine qa (os := _) rfl ?_
 refine au [1] ?_
 refine qi 3 (x27 && ((x5.2.2 : Int) == 0)) [(1, .pointer (some ⟨g4, 0, none⟩)), (6, .int .i64 x9.2), (7, .pointer (some ⟨g13, 0, none⟩)), (8, .int .i64 x10.2.2), (9, .pointer (some ⟨g17, 0, none⟩)), (10, .int .i64 x14.2.2), (12, .int .i64 x18.2), (65, .bool ((x27 && ((x5.2.2 : Int) == 0)) && ((x9.1 : Int) == 9)))] (fun h29 => ?_) (fun h29 => ?_) ?_
 refine qa (os := _) rfl (qg (k := 62) rfl h29 ?_)
 refine au [1,19,14] ?_
 refine qb (d := 65) (v := .bool ((x27 && ((x5.2.2 : Int) == 0)) && ((x9.1 : Int) == 9))) rfl (by rw [h29]; simp only [Bool.true_and]) ?_
 exact az [0,8]
 refine qa (os := _) rfl (qf (k := 62) rfl h29 ?_)
 refine au [6,6,15] ?_
 refine qb (d := 65) (v := .bool ((x27 && ((x5.2.2 : Int) == 0)) && ((x9.1 : Int) == 9))) rfl (by rw [h29]; simp only [Bool.false_and]) ?_
 exact az [0,8]
 refine qa (os := _) rfl ?_
 refine au [1] ?_
 refine qi 3 ((x27 && ((x5.2.2 : Int) == 0)) && ((x9.1 : Int) == 9)) [(1, .pointer (some ⟨g4, 0, none⟩)), (7, .pointer (some ⟨g13, 0, none⟩)), (8, .int .i64 x10.2.2), (9, .pointer (some ⟨g17, 0, none⟩)), (10, .int .i64 x14.2.2), (12, .int .i64 x18.2), (69, .bool (((x27 && ((x5.2.2 : Int) == 0)) && ((x9.1 : Int) == 9)) && ((x9.2 : Int) == 0)))] (fun h30 => ?_) (fun h30 => ?_) ?_
 refine qa (os := _) rfl (qg (k := 66) rfl h30 ?_)
 refine au [1,19,14] ?_
 refine qb (d := 69) (v := .bool (((x27 && ((x5.2.2 : Int) == 0)) && ((x9.1 : Int) == 9)) && ((x9.2 : Int) == 0))) rfl (by rw [h30]; simp only [Bool.true_and]) ?_
 exact az [0,8]
 refine qa (os := _) rfl (qf (k := 66) rfl h30 ?_)
 refine au [6,6,15] ?_
 refine qb (d := 69) (v := .bool (((x27 && ((x5.2.2 : Int) == 0)) && ((x9.1 : Int) == 9)) && ((x9.2 : Int) == 0))) rfl (by rw [h30]; simp only [Bool.false_and]) ?_
 exact az [0,8]
 refine qa (os := _) rfl ?_
 refine au [1] ?_
 refine qi 4 (((x27 && ((x5.2.2 : Int) == 0)) && ((x9.1 : Int) == 9)) && ((x9.2 : Int) == 0)) [(1, .pointer (some ⟨g4, 0, none⟩)), (8, .int .i64 x10.2.2), (9, .pointer (some ⟨g17, 0, none⟩)), (10, .int .i64 x14.2.2), (12, .int .i64 x18.2), (74, .bool ((((x27 && ((x5.2.2 : Int) == 0)) && ((x9.1 : Int) == 9)) && ((x9.2 : Int) == 0)) && ((x10.1 : Int) == 13)))] (fun h31 => ?_) (fun h31 => ?_) ?_
 refine qa (os := _) rfl (qg (k := 70) rfl h31 ?_)
 refine au [24,11,26,7,19,14] ?_
 refine qb (d := 74) (v := .bool ((((x27 && ((x5.2.2 : Int) == 0)) && ((x9.1 : Int) == 9)) && ((x9.2 : Int) == 0)) && ((x10.1 : Int) == 13))) rfl (by rw [h31]; simp only [Bool.true_and]) ?_
 exact az [0,8]
 refine qa (os := _) rfl (qf (k := 70) rfl h31 ?_)
 refine au [6,6,6,15] ?_
 refine qb (d := 74) (v := .bool ((((x27 && ((x5.2.2 : Int) == 0)) && ((x9.1 : Int) == 9)) && ((x9.2 : Int) == 0)) && ((x10.1 : Int) == 13))) rfl (by rw [h31]; simp only [Bool.false_and]) ?_
 exact az [0,8]
 refine qa (os := _) rfl ?_
 refine au [1] ?_
 refine qi 3 ((((x27 && ((x5.2.2 : Int) == 0)) && ((x9.1 : Int) == 9)) && ((x9.2 : Int) == 0)) && ((x10.1 : Int) == 13)) [(1, .pointer (some ⟨g4, 0, none⟩)), (9, .pointer (some ⟨g17, 0, none⟩)), (10, .int .i64 x14.2.2), (12, .int .i64 x18.2), (78, .bool (((((x27 && ((x5.2.2 : Int) == 0)) && ((x9.1 : Int) == 9)) && ((x9.2 : Int) == 0)) && ((x10.1 : Int) == 13)) && ((x10.2.2 : Int) == 0)))] (fun h32 => ?_) (fun h32 => ?_) ?_
 refine qa (os := _) rfl (qg (k := 75) rfl h32 ?_)
 refine au [1,19,14] ?_
 refine qb (d := 78) (v := .bool (((((x27 && ((x5.2.2 : Int) == 0)) && ((x9.1 : Int) == 9)) && ((x9.2 : Int) == 0)) && ((x10.1 : Int) == 13)) && ((x10.2.2 : Int) == 0))) rfl (by rw [h32]; simp only [Bool.true_and]) ?_
 exact az [0,8]
 refine qa (os := _) rfl (qf (k := 75) rfl h32 ?_)
 refine au [6,6,15] ?_
 refine qb (d := 78) (v := .bool (((((x27 && ((x5.2.2 : Int) == 0)) && ((x9.1 : Int) == 9)) && ((x9.2 : Int) == 0)) && ((x10.1 : Int) == 13)) && ((x10.2.2 : Int) == 0))) rfl (by rw [h32]; simp only [Bool.false_and]) ?_
 exact az [0,8]
 refine qa (os := _) rfl ?_
 refine au [1] ?_
 refine qy 4 (fun ((x35, _) : (Bool × Unit)) => ([(10, .int .i64 x14.2.2), (12, .int .i64 x18.2), (83, .bool x35)], [], [], [], qbJ F x14 x18 x35)) ?_ ?_
 refine qa (os := _) rfl ?_
 refine av [24,12] ?_ ?_
 intro h33
 refine qg (k := 79) rfl h33 ?_
 refine au [24,5,26,5,26,2] ?_
 intro x46 e46 _
 refine au [14,0] ?_
 exact qc (x46, ())
 intro h33
 refine qf (k := 79) rfl h33 ?_
 refine au [6,6,6,15,0] ?_
 exact qc (false, ())
 rintro ⟨x35, _⟩
 try dsimp only
 refine qa (os := _) rfl ?_
 refine au [1] ?_
 refine qi 3 x35 [(12, .int .i64 x18.2), (87, .bool (x35 && ((x14.2.2 : Int) == 0)))] (fun h36 => ?_) (fun h36 => ?_) ?_
 refine qa (os := _) rfl (qg (k := 84) rfl h36 ?_)
 refine au [1,19,14] ?_
 refine qb (d := 87) (v := .bool (x35 && ((x14.2.2 : Int) == 0))) rfl (by rw [h36]; simp only [Bool.true_and]) ?_
 exact az [0,8]
 refine qa (os := _) rfl (qf (k := 84) rfl h36 ?_)
 refine au [6,6,15] ?_
 refine qb (d := 87) (v := .bool (x35 && ((x14.2.2 : Int) == 0))) rfl (by rw [h36]; simp only [Bool.false_and]) ?_
 exact az [0,8]
 refine qa (os := _) rfl ?_
 refine au [1] ?_
 refine qi 3 (x35 && ((x14.2.2 : Int) == 0)) [(91, .bool ((x35 && ((x14.2.2 : Int) == 0)) && ((x18.2 : Int) == 7)))] (fun h37 => ?_) (fun h37 => ?_) ?_
 refine qa (os := _) rfl (qg (k := 88) rfl h37 ?_)
 refine au [1,19,14] ?_
 refine qb (d := 91) (v := .bool ((x35 && ((x14.2.2 : Int) == 0)) && ((x18.2 : Int) == 7))) rfl (by rw [h37]; simp only [Bool.true_and]) ?_
 exact az [0,8]
 refine qa (os := _) rfl (qf (k := 88) rfl h37 ?_)
 refine au [6,6,15] ?_
 refine qb (d := 91) (v := .bool ((x35 && ((x14.2.2 : Int) == 0)) && ((x18.2 : Int) == 7))) rfl (by rw [h37]; simp only [Bool.false_and]) ?_
 exact az [0,8]
 refine qa (os := _) rfl ?_
 refine au [1] ?_
 refine qy 5 (fun ((x42, _) : (Bool × Unit)) => ([(97, .bool x42)], [], [], [], qbK F x42)) ?_ ?_
 refine qa (os := _) rfl ?_
 refine av [24,12] ?_ ?_
 intro h38
 refine qg (k := 92) rfl h38 (qq (vs := [.int .u8 1]) (ys := ([1] : List Int)) (qn .u8) (by decide) rfl Tryz.underlying23 tf5 rfl rfl rfl rfl rfl (by decide) (fun a43 c44 => qH (cells := [.int .i64 3, .slice a43 ([1] : List Int).length c44]) rfl st25 rfl (by kernel_rfl) rfl ?_))
 refine au [26,8] ?_
 intro x45 e45 _
 refine au [19,14,0] ?_
 exact qc (((x45 : Int) == 1), ())
 intro h38
 refine qf (k := 92) rfl h38 ?_
 refine au [6,6,6,6,15,0] ?_
 exact qc (false, ())
 rintro ⟨x42, _⟩
 try dsimp only
 refine qa (os := _) rfl ?_
 exact az [4,0,2,9,16]
end Go.Proofs.YtmoikolponkmpaaGreat
