/- Each Go function of this seat computes what its model says, part 3. -/
import Derived.Test.YtidnfcdnhdbolaaGreatWalks2
namespace Go.Proofs.YtidnfcdnhdbolaaGreat
open Go SX
theorem qiR (F : Nat) (x1 : Int) (x2 : List Int) (a3 : Option Addr) (c4 : Nat) (x5 : List Int) (a6 : Option Addr) (c7 : Nat) (x8 : Int) (x9 : Int) (x10 : Int) (r : (Int × List Int × Int)) (hm : qc0 F x1 x2 x5 x8 x9 x10 = some r) :
    Pure Tryz.prog 6 [.int .i64 x1, .slice a3 x2.length c4, .slice a6 x5.length c7, .agg #[.int .i64 x8, .int .i64 x9, .int .i64 x10]] [Sl (eI .i64) 1 (.slice a3 x2.length c4) x2, Sl (eI .i64) 1 (.slice a6 x5.length c7) x5] (Option Addr × Nat) (fun g => .tuple #[.agg #[.int .i64 r.1, .slice g.1 r.2.1.length g.2], .int .i64 r.2.2]) (fun g => [Ro (eI .u8) 5 1 (.slice g.1 r.2.1.length g.2) r.2.1]) (fun _ => []) := by
 refine qQ Tryz.func6 rfl Tryz.ntmps6 rfl hm (fun w => qF (l' := [(0, .int .i64 x1), (1, .slice a3 x2.length c4), (2, .slice a6 x5.length c7), (3, .agg #[.int .i64 x8, .int .i64 x9, .int .i64 x10])]) rfl (qf (qa (zp rfl rfl rfl (fun g11 => zL rfl tf27 rfl (fun g12 => qb rfl rfl rfl (qe (qd (qf (qa (qp (i := 1) rfl rfl tf24 rfl rfl (by simp) rfl rfl (qv ent10 rfl rfl rfl (fun x13 e13 => qeP F x8 x9 x10 x13 e13) .nil (fun x13 e13 => ?_)))))))))))))
 intro _
 refine qb rfl rfl rfl (qe (qd (qC (fun ((x19, _) : (Int × Unit)) => [(0, .int .i64 x1), (1, .slice a3 x2.length c4), (2, .slice a6 x5.length c7), (7, .pointer (some ⟨g11, 0, none⟩)), (8, .pointer (some ⟨g12, 0, none⟩)), (10, .int .i64 x19)]) (fun ((x19, _) : (Int × Unit)) => [⟨g12, 27, [.int .i64 0, .slice none 0 0]⟩, ⟨g11, 24, [.int .i64 x8, .int .i64 x9, .int .i64 x10]⟩]) (fun ((x19, _) : (Int × Unit)) => []) (fun ((x19, _) : (Int × Unit)) => [Sl (eI .i64) 1 (.slice a3 x2.length c4) x2, Sl (eI .i64) 1 (.slice a6 x5.length c7) x5]) (fun ((x19, _) : (Int × Unit)) => qa8 F x1 x2 x5 x8 x9 x10 x19) ?_ ?_)))
 refine qf (qa (qc rfl rfl rfl (zu rfl rfl rfl rfl (qc rfl rfl rfl (kT 4 (fun ((x42, _) : (Bool × Unit)) => [(0, .int .i64 x1), (1, .slice a3 x2.length c4), (2, .slice a6 x5.length c7), (7, .pointer (some ⟨g11, 0, none⟩)), (8, .pointer (some ⟨g12, 0, none⟩)), (10, .int .i64 x13), (20, .bool x42)]) (fun ((x42, _) : (Bool × Unit)) => [⟨g12, 27, [.int .i64 0, .slice none 0 0]⟩, ⟨g11, 24, [.int .i64 x8, .int .i64 x9, .int .i64 x10]⟩]) (fun ((x42, _) : (Bool × Unit)) => []) (fun ((x42, _) : (Bool × Unit)) => [Sl (eI .i64) 1 (.slice a3 x2.length c4) x2, Sl (eI .i64) 1 (.slice a6 x5.length c7) x5]) (fun ((x42, _) : (Bool × Unit)) => qba F x1 x2 x5 x8 x9 x10 x13 x42) ?_ ?_)))))
 refine qw (os := _) rfl (jq (fun h40 => ?_) (fun h40 => ?_))
 refine zj (k := 16) rfl h40 (qc rfl rfl rfl (qv ent18 rfl rfl rfl (fun x44 e44 => v8 F x1 0 1048576 x44 e44) .nil (fun x44 e44 => ?_)))
 intro _
 exact ko rfl rfl rfl (qE (b := true) rfl rfl rfl rfl (qe (qj ((!x44), ()) (hB := (.cons 0 rfl (.cons 0 rfl .nil))) (hF := (qi 0 rfl (qi 1 rfl qu))))))
 exact zk (k := 16) rfl h40 (qk rfl rfl rfl (qk rfl rfl rfl (qk rfl rfl rfl (qE (b := false) rfl rfl rfl rfl (qe (qj (false, ()) (hB := (.cons 0 rfl (.cons 0 rfl .nil))) (hF := (qi 0 rfl (qi 1 rfl qu)))))))))
 rintro ⟨x42, _⟩
 try dsimp only
 refine qw (os := _) rfl (qe (qd (qy rfl (fun h43 => ?_) (fun h43 => ?_))))
 exact qa (qb rfl rfl rfl (qe (qj (3, ()) (hB := (.cons 0 rfl (.cons 0 rfl .nil))) (hF := (qi 0 rfl (qi 1 rfl qu))))))
 exact ql (qj (x13, ()) (hB := (.cons 0 rfl (.cons 0 rfl .nil))) (hF := (qi 0 rfl (qi 1 rfl qu))))
 rintro ⟨x19, _⟩
 try dsimp only
 refine qC (fun ((x22, _) : (Int × Unit)) => [(0, .int .i64 x1), (1, .slice a3 x2.length c4), (2, .slice a6 x5.length c7), (7, .pointer (some ⟨g11, 0, none⟩)), (8, .pointer (some ⟨g12, 0, none⟩)), (10, .int .i64 x22)]) (fun ((x22, _) : (Int × Unit)) => [⟨g12, 27, [.int .i64 0, .slice none 0 0]⟩, ⟨g11, 24, [.int .i64 x8, .int .i64 x9, .int .i64 x10]⟩]) (fun ((x22, _) : (Int × Unit)) => []) (fun ((x22, _) : (Int × Unit)) => [Sl (eI .i64) 1 (.slice a3 x2.length c4) x2, Sl (eI .i64) 1 (.slice a6 x5.length c7) x5]) (fun ((x22, _) : (Int × Unit)) => qbc F x1 x2 x5 x8 x9 x10 x22) ?_ ?_
 refine qf (qa (qc rfl rfl rfl (zu rfl rfl rfl rfl (qe (qd (qy rfl (fun h39 => ?_) (fun h39 => ?_)))))))
 refine qa (qc rfl rfl rfl (qv ent19 rfl rfl rfl (fun x38 e38 => qby F x2 a3 c4 x38 e38) (.consF 0 rfl .nil) (fun x38 e38 => ?_)))
 intro _
 exact qb rfl rfl rfl (qe (qj (x38, ()) (hB := (.cons 0 rfl (.cons 0 rfl .nil))) (hF := (qi 0 rfl (qi 1 rfl qu)))))
 exact ql (qj (x19, ()) (hB := (.cons 0 rfl (.cons 0 rfl .nil))) (hF := (qi 0 rfl (qi 1 rfl qu))))
 rintro ⟨x22, _⟩
 try dsimp only
 refine qC (fun ((x25, _) : (Int × Unit)) => [(0, .int .i64 x1), (1, .slice a3 x2.length c4), (2, .slice a6 x5.length c7), (7, .pointer (some ⟨g11, 0, none⟩)), (8, .pointer (some ⟨g12, 0, none⟩)), (10, .int .i64 x25)]) (fun ((x25, _) : (Int × Unit)) => [⟨g12, 27, [.int .i64 0, .slice none 0 0]⟩, ⟨g11, 24, [.int .i64 x8, .int .i64 x9, .int .i64 x10]⟩]) (fun ((x25, _) : (Int × Unit)) => []) (fun ((x25, _) : (Int × Unit)) => [Sl (eI .i64) 1 (.slice a3 x2.length c4) x2, Sl (eI .i64) 1 (.slice a6 x5.length c7) x5]) (fun ((x25, _) : (Int × Unit)) => qaX F x1 x2 x5 x8 x9 x10 x25) ?_ ?_
 refine qf (qa (qc rfl rfl rfl (zu rfl rfl rfl rfl (qe (qd (qy rfl (fun h37 => ?_) (fun h37 => ?_)))))))
 refine qa (qc rfl rfl rfl (qc rfl rfl rfl (qp (i := 1) rfl rfl tf24 rfl rfl (by simp) rfl rfl (qv ent20 rfl rfl rfl (fun x36 e36 => qhd F x1 x5 a6 c7 x8 x9 x10 x36 e36) (.consF 1 rfl .nil) (fun x36 e36 => ?_)))))
 intro _
 exact qb rfl rfl rfl (qe (qj (x36, ()) (hB := (.cons 0 rfl (.cons 0 rfl .nil))) (hF := (qi 0 rfl (qi 1 rfl qu)))))
 exact ql (qj (x22, ()) (hB := (.cons 0 rfl (.cons 0 rfl .nil))) (hF := (qi 0 rfl (qi 1 rfl qu))))
 rintro ⟨x25, _⟩
 try dsimp only
 refine qf (qf (qa (qc rfl rfl rfl (kD rfl rfl rfl rfl (qe (qd (qy rfl (fun h35 => ?_) (fun h35 => ?_))))))))
 exact qf (qa (zX (cells := [.int .i64 0, .slice none 0 0]) rfl st27 rfl (by kernel_rfl) rfl (qc rfl rfl rfl (qI (i := 0) rfl rfl rfl tf27 rfl rfl rfl rfl rfl (qb rfl rfl rfl (qe (qd (qr (qn (qU Int (eI .u8) 5 1 (qm (none, 0) (resL (rs := [.cell 8 27, .tmp 9]) rfl (.cell (i := 0) rfl tf27 rfl rfl (by simp) rfl (.tmp rfl ResOk.nil)) rfl) (fun h => by subst h; exact (.cons 0 rfl .nil)))))))))))))
 refine ql (qd (qf (qa (qc rfl rfl rfl (qc rfl rfl rfl (qc rfl rfl rfl (qp (i := 1) rfl rfl tf24 rfl rfl (by simp) rfl rfl (qv ent21 rfl rfl rfl (fun x27 e27 => qgz F x1 x2 a3 c4 x5 a6 c7 x8 x9 x10 x27 e27) (.consF 0 rfl (.consF 1 rfl .nil)) (fun x27 e27 => ?_)))))))))
 rintro ⟨a28, c29⟩
 refine qb rfl rfl rfl (qe (qd (qf (qf (qa (qc rfl rfl rfl (qN rfl Tryz.underlying22 rfl rfl (zi rfl rfl rfl rfl (qe (qd (qy rfl (fun h34 => ?_) (fun h34 => ?_))))))))))))
 exact qf (qa (zX (cells := [.int .i64 0, .slice none 0 0]) rfl st27 rfl (by kernel_rfl) rfl (qI (i := 0) rfl rfl rfl tf27 rfl rfl rfl rfl rfl (qb rfl rfl rfl (qe (qd (qr (qn (qU Int (eI .u8) 5 1 (qm (none, 0) (resL (rs := [.cell 8 27, .tmp 9]) rfl (.cell (i := 0) rfl tf27 rfl rfl (by simp) rfl (.tmp rfl ResOk.nil)) rfl) (fun h => by subst h; exact (.cons 0 rfl .nil))))))))))))
 refine ql (qd (qf (qa (qc rfl rfl rfl (qv ent22 rfl rfl rfl (fun x31 e31 => qko F x27 a28 c29 x31 e31) (.consR 0 (Ro (eI .i64) 3 1 (.slice a28 x27.length c29) x27) rfl .nil) (fun x31 e31 => ?_))))))
 rintro ⟨a32, c33⟩
 exact qI (i := 0) rfl rfl rfl tf27 rfl rfl rfl rfl rfl (qb rfl rfl rfl (qe (qd (qr (qm (a32, c33) (resL (rs := [.cell 8 27, .tmp 9]) rfl (.cell (i := 0) rfl tf27 rfl rfl (by simp) rfl (.tmp rfl ResOk.nil)) rfl) (fun h => by subst h; exact (.cons 0 rfl .nil)))))))
theorem qeT (F : Nat) (x1 : List Int) (a2 : Option Addr) (c3 : Nat) (x4 : List Int) (a5 : Option Addr) (c6 : Nat) (r : Bool) (hm : yg F x1 x4 = some r) :
    Pure Tryz.prog 12 [.slice a2 x1.length c3, .slice a5 x4.length c6] [Sl (eI .i64) 1 (.slice a2 x1.length c3) x1, Sl (eI .i64) 1 (.slice a5 x4.length c6) x4] Unit (fun _ => .bool r) (fun _ => []) (fun _ => []) := by
  refine qQ Tryz.func12 rfl Tryz.ntmps12 rfl hm (fun w => ?_)
  refine qF (l' := [(0, .slice a2 x1.length c3), (1, .slice a5 x4.length c6)]) rfl ?_
  refine qf ?_
  refine qa ?_
  refine qb rfl rfl rfl ?_
  refine qe ?_
  refine qd ?_
  refine qf ?_
  refine qf ?_
  refine qa ?_
  refine qc rfl rfl rfl ?_
  refine qN rfl Tryz.underlying22 rfl rfl ?_
  refine qc rfl rfl rfl ?_
  refine qN rfl Tryz.underlying22 rfl rfl ?_
  refine kD rfl rfl rfl rfl ?_
  refine qe ?_
  refine qd ?_
  refine qy rfl (fun h228 => ?_) (fun h228 => ?_)
  · refine qf ?_
    refine qa ?_
    refine qb rfl rfl rfl ?_
    refine qe ?_
    refine qd ?_
    refine qr ?_
    refine qn ?_
    exact qm () (res1 rfl rfl)
  · refine ql ?_
    refine qd ?_
    refine qC (fun ((_, _) : (Unit × Unit)) => []) (fun ((_, _) : (Unit × Unit)) => []) (fun ((_, _) : (Unit × Unit)) => []) (fun ((_, _) : (Unit × Unit)) => []) (fun ((_, _) : (Unit × Unit)) => qe2 F) ?_ ?_
    · refine qf ?_
      refine qa ?_
      refine qb rfl rfl rfl ?_
      refine qe ?_
      refine qd ?_
      refine qt ?_
      refine qM (fun ((x154, _) : (Int × Unit)) => [(0, .slice a2 x1.length c3), (1, .slice a5 x4.length c6), (5, .int .i64 x154)]) (fun ((x154, _) : (Int × Unit)) => []) (fun ((x154, _) : (Int × Unit)) => []) (fun ((x154, _) : (Int × Unit)) => [Sl (eI .i64) 1 (.slice a2 x1.length c3) x1, Sl (eI .i64) 1 (.slice a5 x4.length c6) x4]) (fun k (s : (Int × Unit)) => kJ F x1 x4 k s.1) (0, ()) F ?_ (hF := (qi 0 rfl (qi 1 rfl qu)))
      intro k191
      rintro ⟨x154, _⟩
      try dsimp only
      refine qZ (m' := yU F x1 x4 (kJ F x1 x4 k191) x154) rfl ?_
      refine qf ?_
      refine qf ?_
      refine qa ?_
      refine qc rfl rfl rfl ?_
      refine qc rfl rfl rfl ?_
      refine qN rfl Tryz.underlying22 rfl rfl ?_
      refine qP rfl rfl rfl rfl ?_
      refine qe ?_
      refine qd ?_
      refine qy rfl (fun h227 => ?_) (fun h227 => ?_)
      · refine ql ?_
        refine qd ?_
        refine qf ?_
        refine qt ?_
        refine qf ?_
        refine vm (j := 0) (qL .i64) (by decide) rfl (fun x218 e218 b219 o220 h221 => ?_)
        replace h221 : a2 = some ⟨b219, o220, none⟩ := h221
        refine vm (j := 2) (qL .i64) (by decide) rfl (fun x222 e222 b223 o224 h225 => ?_)
        replace h225 : a5 = some ⟨b223, o224, none⟩ := h225
        refine zP mixed [] [] [zG b223 (o224 + x154.toNat * 1) ((eI .i64) x222), zG b219 (o220 + x154.toNat * 1) ((eI .i64) x218), Sl (eI .i64) 1 (.slice a2 x1.length c3) x1, Sl (eI .i64) 1 (.slice a5 x4.length c6) x4] .nil (qW 0 rfl (qW 1 rfl (qW 2 rfl (qW 3 rfl qV)))) 9 rfl ?_
        refine qg 0 (.slice a2 x1.length c3) rfl rfl rfl (qs rfl) ?_
        refine qg 1 (.int .i64 x154) rfl rfl rfl (qs rfl) ?_
        refine qJ (d := 17) (v := .slice (some ⟨b219, o220, none⟩) x1.length c3) rfl (by rw [h221] <;> rfl) ?_
        refine qg 2 (.pointer (some ⟨b219, (o220 + x154.toNat * 1), none⟩)) rfl rfl rfl (qbj Tryz.underlying22 tf3 rfl rfl (zW e218).1 (vx e218)) ?_
        refine qJ (d := 17) (v := .slice a2 x1.length c3) rfl (by rw [h221] <;> rfl) ?_
        refine z8 3 (.int .i64 x218) [] rfl rfl rfl (yC (j := 1) rfl tf3 rfl rfl (fun _ => rfl) rfl) ?_
        refine qg 4 (.slice a5 x4.length c6) rfl rfl rfl (qs rfl) ?_
        refine qg 5 (.int .i64 x154) rfl rfl rfl (qs rfl) ?_
        refine qJ (d := 21) (v := .slice (some ⟨b223, o224, none⟩) x4.length c6) rfl (by rw [h225] <;> rfl) ?_
        refine qg 6 (.pointer (some ⟨b223, (o224 + x154.toNat * 1), none⟩)) rfl rfl rfl (qbj Tryz.underlying22 tf3 rfl rfl (zW e222).1 (vx e222)) ?_
        refine qJ (d := 21) (v := .slice a5 x4.length c6) rfl (by rw [h225] <;> rfl) ?_
        refine z8 7 (.int .i64 x222) [] rfl rfl rfl (yC (j := 0) rfl tf3 rfl rfl (fun _ => rfl) rfl) ?_
        refine qg 8 (.bool ((x218 : Int) != x222)) rfl rfl rfl (qs rfl) ?_
        refine zm (by kernel_rfl) ?_
        refine z7 ?_ (by intro c h; cases h)
        refine qd ?_
        refine qy rfl (fun h226 => ?_) (fun h226 => ?_)
        · refine qf ?_
          refine qa ?_
          refine qb rfl rfl rfl ?_
          refine qe ?_
          refine qd ?_
          refine qr ?_
          refine qR ?_
          refine qn ?_
          refine qn ?_
          refine qR ?_
          refine qn ?_
          exact qm () (res1 rfl rfl)
        · refine ql ?_
          refine qH ?_
          refine qd ?_
          refine qa ?_
          refine qc rfl rfl rfl ?_
          refine qD rfl rfl rfl rfl ?_
          refine qb rfl rfl rfl ?_
          refine qe ?_
          exact qG (iadd .i64 x154 1, ()) (hF := (qi 2 rfl (qi 3 rfl qu)))
      · refine qS ?_
        refine qx ?_
        refine qx ?_
        refine qT ?_
        exact qj ((), ())
    · rintro ⟨_, _⟩
      try dsimp only
      refine qf ?_
      refine qa ?_
      refine qb rfl rfl rfl ?_
      refine qe ?_
      refine qd ?_
      refine qr ?_
      exact qm () (res1 rfl rfl)
theorem qg8 (F : Nat) (x1 : Int) (x2 : List Int) (a3 : Option Addr) (c4 : Nat) (r : List Int) (hm : qb1 F x1 x2 = some r) :
    Pure Tryz.prog 24 [.agg #[.int .i64 x1, .slice a3 x2.length c4]] [Sl (eI .u8) 1 (.slice a3 x2.length c4) x2] (Option Addr × Nat) (fun g => .slice g.1 r.length g.2) (fun g => [Ro (eI .i64) 3 1 (.slice g.1 r.length g.2) r]) (fun _ => []) := by
 refine qQ Tryz.func24 rfl Tryz.ntmps24 rfl hm (fun w => qF (l' := [(0, .agg #[.int .i64 x1, .slice a3 x2.length c4])]) rfl (qf (qa (zp rfl rfl rfl (fun g5 => qb rfl rfl rfl (qe (qd (qf (qa (qb rfl rfl rfl (qe (qd ?_))))))))))))
 refine qC (fun ((x190, (a188, c189)) : (List Int × (Option Addr × Nat))) => [(3, .slice a188 x190.length c189)]) (fun ((x190, (a188, c189)) : (List Int × (Option Addr × Nat))) => []) (fun ((x190, (a188, c189)) : (List Int × (Option Addr × Nat))) => [Ro (eI .i64) 3 1 (.slice a188 x190.length c189) x190]) (fun ((x190, (a188, c189)) : (List Int × (Option Addr × Nat))) => []) (fun ((x190, _) : (List Int × (Option Addr × Nat))) => qe6 F x190) ?_ ?_
 refine qf (qa (qb rfl rfl rfl (qe (qd (qt (zS Int (eI .i64) 3 1 (qM (fun (((x252, x253), (a250, c251)) : ((List Int × Int) × (Option Addr × Nat))) => [(1, .pointer (some ⟨g5, 0, none⟩)), (3, .slice a250 x252.length c251), (4, .int .i64 x253)]) (fun (((x252, x253), (a250, c251)) : ((List Int × Int) × (Option Addr × Nat))) => [⟨g5, 27, [.int .i64 x1, .slice a3 x2.length c4]⟩]) (fun (((x252, x253), (a250, c251)) : ((List Int × Int) × (Option Addr × Nat))) => [Ro (eI .i64) 3 1 (.slice a250 x252.length c251) x252]) (fun (((x252, x253), (a250, c251)) : ((List Int × Int) × (Option Addr × Nat))) => [Sl (eI .u8) 1 (.slice a3 x2.length c4) x2]) (fun k (s : ((List Int × Int) × (Option Addr × Nat))) => kv F x1 x2 k s.1) ((([] : List Int), 0), (none, 0)) F ?_ (hB := (.cons 0 rfl .nil)) (hR := (.cons 0 rfl .nil)) (hF := (qi 0 rfl qu)))))))))
 intro k313
 rintro ⟨⟨x252, x253⟩, ⟨a250, c251⟩⟩
 try dsimp only
 refine qZ (m' := qbF F x1 x2 (kv F x1 x2 k313) x252 x253) rfl (qf (qf (qa (qc rfl rfl rfl (qo rfl rfl kW rfl (qp (i := 0) rfl rfl tf3 rfl rfl (fun _ => rfl) rfl rfl (qP rfl rfl rfl rfl (qe (qd (qy rfl (fun h372 => ?_) (fun h372 => ?_)))))))))))
 refine ql (qd (qC (fun ((x344, (a342, c343)) : (List Int × (Option Addr × Nat))) => [(1, .pointer (some ⟨g5, 0, none⟩)), (3, .slice a342 x344.length c343), (4, .int .i64 x253)]) (fun ((x344, (a342, c343)) : (List Int × (Option Addr × Nat))) => [⟨g5, 27, [.int .i64 x1, .slice a3 x2.length c4]⟩]) (fun ((x344, (a342, c343)) : (List Int × (Option Addr × Nat))) => [Ro (eI .i64) 3 1 (.slice a342 x344.length c343) x344]) (fun ((x344, (a342, c343)) : (List Int × (Option Addr × Nat))) => [Sl (eI .u8) 1 (.slice a3 x2.length c4) x2]) (fun ((x344, _) : (List Int × (Option Addr × Nat))) => qdd F (kv F x1 x2 k313) x253 x344) ?_ ?_))
 refine qt (qf (qa (qo rfl rfl qbT rfl (qp (i := 0) rfl rfl tf25 rfl rfl (fun _ => rfl) rfl rfl (qc rfl rfl rfl (qbL rfl rfl rfl rfl rfl (q7 (j := 0) (qL .u8) (by decide) rfl Tryz.underlying25 tf5 rfl rfl rfl rfl (fun x345 e345 b346 o347 => zl (j := 0) rfl rfl tf5 rfl rfl (fun _ => rfl) rfl rfl (q9 rfl Tryz.underlying5 Tryz.underlying3 rfl rfl (qb rfl rfl rfl (qe (qd ?_))))))))))))
 refine qC (fun ((x357, _) : (Int × Unit)) => [(1, .pointer (some ⟨g5, 0, none⟩)), (3, .slice a250 x252.length c251), (4, .int .i64 x253), (5, .int .i64 x357)]) (fun ((x357, _) : (Int × Unit)) => [⟨g5, 27, [.int .i64 x1, .slice a3 x2.length c4]⟩]) (fun ((x357, _) : (Int × Unit)) => [Ro (eI .i64) 3 1 (.slice a250 x252.length c251) x252]) (fun ((x357, _) : (Int × Unit)) => [Sl (eI .u8) 1 (.slice a3 x2.length c4) x2]) (fun ((x357, _) : (Int × Unit)) => qbD F (kv F x1 x2 k313) x252 x253 x357) ?_ ?_
 refine qf (qa (qb rfl rfl rfl (qe (qd (qt (qM (fun (((x365, x366), _) : ((Int × Int) × Unit)) => [(1, .pointer (some ⟨g5, 0, none⟩)), (3, .slice a250 x252.length c251), (4, .int .i64 x253), (5, .int .i64 x365), (6, .int .i64 x366)]) (fun (((x365, x366), _) : ((Int × Int) × Unit)) => [⟨g5, 27, [.int .i64 x1, .slice a3 x2.length c4]⟩]) (fun (((x365, x366), _) : ((Int × Int) × Unit)) => [Ro (eI .i64) 3 1 (.slice a250 x252.length c251) x252]) (fun (((x365, x366), _) : ((Int × Int) × Unit)) => [Sl (eI .u8) 1 (.slice a3 x2.length c4) x2]) (fun k (s : ((Int × Int) × Unit)) => vF F (kv F x1 x2 k313) x252 x253 k s.1) ((iconv .i64 x345, 0), ()) F ?_ (hB := (.cons 0 rfl .nil)) (hR := (.cons 0 rfl .nil)) (hF := (qi 1 rfl qu))))))))
 intro k369
 rintro ⟨⟨x365, x366⟩, _⟩
 try dsimp only
 refine qZ (m' := qbM F (kv F x1 x2 k313) x252 x253 (vF F (kv F x1 x2 k313) x252 x253 k369) x365 x366) rfl (qf (qf (qa (qc rfl rfl rfl (qc rfl rfl rfl (qds rfl rfl rfl rfl rfl (zd rfl rfl rfl rfl (qP rfl rfl rfl rfl (qe (qd (qy rfl (fun h371 => ?_) (fun h371 => ?_))))))))))))
 refine ql (qd (qf (qt (qa (qc rfl rfl rfl (qbL rfl rfl rfl rfl rfl (qb rfl rfl rfl (qe (qH (qd (qa (qc rfl rfl rfl ?_))))))))))))
 exact qD rfl rfl rfl rfl (qb rfl rfl rfl (qe (qG ((iquo .i64 x365 2, iadd .i64 x366 1), ()) (hB := (.cons 0 rfl .nil)) (hR := (.cons 0 rfl .nil)) (hF := (qi 0 rfl qu)))))
 exact qS (qx (qx (qT (qj (x365, ()) (hB := (.cons 0 rfl .nil)) (hR := (.cons 0 rfl .nil)) (hF := (qi 0 rfl qu))))))
 rintro ⟨x357, _⟩
 try dsimp only
 exact qa (qc rfl rfl rfl (qc rfl rfl rfl (qds rfl rfl rfl rfl rfl (zE (vs := [.int .i64 (irem x357 2)]) (ys := ([irem x357 2] : List Int)) (qL .i64) (by decide) rfl Tryz.underlying22 tf3 rfl rfl rfl rfl rfl (by decide) (fun a358 c359 => zy 1 (qL .i64) rfl Tryz.underlying22 tf3 rfl rfl rfl rfl rfl (.inl ⟨0, _, rfl⟩) rfl rfl (fun x360 e360 a361 c362 => qb rfl rfl rfl (qe (qH (qj (x360, (a361, c362)) (hB := (.cons 0 rfl .nil)) (hR := (.cons 0 rfl .nil)) (hF := (qi 0 rfl qu)))))))))))
 rintro ⟨x344, ⟨a342, c343⟩⟩
 try dsimp only
 exact qa (qc rfl rfl rfl (qD rfl rfl rfl rfl (qb rfl rfl rfl (qe (qG ((x344, iadd .i64 x253 1), (a342, c343)) (hB := (.cons 0 rfl .nil)) (hR := (.cons 0 rfl .nil)) (hF := (qi 0 rfl qu)))))))
 exact qS (qx (qx (qT (qj (x252, (a250, c251)) (hR := (.cons 0 rfl .nil))))))
 rintro ⟨x190, ⟨a188, c189⟩⟩
 try dsimp only
 exact qf (qa (qc rfl rfl rfl (qb rfl rfl rfl (qe (qd (qr (qm (a188, c189) (res1 rfl rfl) (fun h => by subst h; exact (.cons 0 rfl .nil)))))))))
theorem qix (F : Nat) (x1 : Int) (x2 : List Int) (a3 : Option Addr) (c4 : Nat) (r : Int) (hm : qcG F x1 x2 = some r) :
    Pure Tryz.prog 44 [.agg #[.int .i64 x1, .slice a3 x2.length c4]] [Sl (eI .u8) 1 (.slice a3 x2.length c4) x2] Unit (fun _ => .int .i64 r) (fun _ => []) (fun _ => []) := by
 refine qQ Tryz.func44 rfl Tryz.ntmps44 rfl hm (fun w => qF (l' := [(0, .agg #[.int .i64 x1, .slice a3 x2.length c4])]) rfl (qf (qa (zp rfl rfl rfl (fun g5 => qb rfl rfl rfl (qe (qd (qf (qf (qa (qo rfl rfl kW rfl (qp (i := 0) rfl rfl tf3 rfl rfl (fun _ => rfl) rfl rfl ?_))))))))))))
 refine qv ent18 rfl rfl rfl (fun x8 e8 => v8 F x1 0 8192 x8 e8) .nil (fun x8 e8 _ => ko rfl rfl rfl (qe (qd (qy rfl (fun h81 => ?_) (fun h81 => ?_)))))
 exact qf (qa (qb rfl rfl rfl (qe (qd (qr (qn (qm () (res1 rfl rfl))))))))
 refine ql (qd (qf (qa (qo rfl rfl kW rfl (qp (i := 0) rfl rfl tf3 rfl rfl (fun _ => rfl) rfl rfl (qbL rfl rfl rfl rfl rfl (qb rfl rfl rfl (qe (qd (qC (fun ((x10, _) : (Int × Unit)) => [(1, .pointer (some ⟨g5, 0, none⟩)), (3, .int .i64 x10)]) (fun ((x10, _) : (Int × Unit)) => [⟨g5, 27, [.int .i64 x1, .slice a3 x2.length c4]⟩]) (fun ((x10, _) : (Int × Unit)) => []) (fun ((x10, _) : (Int × Unit)) => [Sl (eI .u8) 1 (.slice a3 x2.length c4) x2]) (fun ((x10, _) : (Int × Unit)) => jw F x1 x2 x10) ?_ ?_))))))))))
 refine qf (qa (qo rfl rfl kW rfl (qp (i := 0) rfl rfl tf3 rfl rfl (fun _ => rfl) rfl rfl (qds rfl rfl rfl rfl rfl (zi rfl rfl rfl rfl (qe (qd (qy rfl (fun h80 => ?_) (fun h80 => ?_)))))))))
 exact qa (qc rfl rfl rfl (qD rfl rfl rfl rfl (qb rfl rfl rfl (qe (qj (iadd .i64 (iquo .i64 x1 8) 1, ()) (hB := (.cons 0 rfl .nil)) (hF := (qi 0 rfl qu)))))))
 exact ql (qj (iquo .i64 x1 8, ()) (hB := (.cons 0 rfl .nil)) (hF := (qi 0 rfl qu)))
 rintro ⟨x10, _⟩
 try dsimp only
 refine qf (qf (qa (qo rfl rfl qbT rfl (qp (i := 0) rfl rfl tf25 rfl rfl (fun _ => rfl) rfl rfl (qN rfl Tryz.underlying25 rfl rfl (qc rfl rfl rfl (kD rfl rfl rfl rfl (qe (qd (qy rfl (fun h79 => ?_) (fun h79 => ?_)))))))))))
 exact qf (qa (qb rfl rfl rfl (qe (qd (qr (qn (qm () (res1 rfl rfl))))))))
 refine ql (qd (qf (qa (qc rfl rfl rfl (qdp rfl rfl rfl rfl (qo rfl rfl qbT rfl (qp (i := 0) rfl rfl tf25 rfl rfl (fun _ => rfl) rfl rfl (zX (cells := [.int .i64 (imul .i64 8 x10), .slice a3 x2.length c4]) rfl st27 rfl (by kernel_rfl) rfl (qv ent24 rfl rfl rfl (fun x12 e12 => qg8 F (imul .i64 8 x10) x2 a3 c4 x12 e12) (.consF 0 rfl .nil) (fun x12 e12 => ?_))))))))))
 rintro ⟨a13, c14⟩
 refine qb rfl rfl rfl (qe (qd (qC (fun ((_, _) : (Unit × Unit)) => []) (fun ((_, _) : (Unit × Unit)) => []) (fun ((_, _) : (Unit × Unit)) => []) (fun ((_, _) : (Unit × Unit)) => []) (fun ((_, _) : (Unit × Unit)) => qem F) ?_ ?_)))
 refine qf (qa (qo rfl rfl kW rfl (qp (i := 0) rfl rfl tf3 rfl rfl (fun _ => rfl) rfl rfl (qb rfl rfl rfl (qe (qd (qt (qM (fun ((x57, _) : (Int × Unit)) => [(4, .slice a13 x12.length c14), (5, .int .i64 x57)]) (fun ((x57, _) : (Int × Unit)) => []) (fun ((x57, _) : (Int × Unit)) => [Ro (eI .i64) 3 1 (.slice a13 x12.length c14) x12]) (fun ((x57, _) : (Int × Unit)) => []) (fun k (s : (Int × Unit)) => ve F x12 k s.1) (x1, ()) F ?_ (hR := (.cons 0 rfl .nil))))))))))
 intro k68
 rintro ⟨x57, _⟩
 try dsimp only
 refine qZ (m' := qbb F x12 (ve F x12 k68) x57) rfl (qf (qf (qa (qc rfl rfl rfl (qc rfl rfl rfl (qN rfl Tryz.underlying22 rfl rfl (qP rfl rfl rfl rfl (qe (qd (qy rfl (fun h78 => ?_) (fun h78 => ?_)))))))))))
 refine ql (qd (qf (qt (qf (qa (qc rfl rfl rfl (qc rfl rfl rfl (qbV (j := 0) rfl Tryz.underlying22 tf3 rfl rfl rfl rfl (fun x74 e74 g75 h76 => qjs (j := 0) (y := x74) (qL .i64) rfl rfl tf3 rfl h76 (zW e74).2.2 (fun _ => rfl) rfl rfl (kD rfl rfl rfl rfl (qe (qd ?_))))))))))))
 refine qy rfl (fun h77 => ?_) (fun h77 => ?_)
 exact qf (qa (qb rfl rfl rfl (qe (qd (qr (qR (qn (qn (qR (qn (qm () (res1 rfl rfl))))))))))))
 exact ql (qH (qd (qa (qc rfl rfl rfl (qD rfl rfl rfl rfl (qb rfl rfl rfl (qe (qG (iadd .i64 x57 1, ()) (hR := (.cons 0 rfl .nil))))))))))
 exact qS (qx (qx (qT (qj ((), ())))))
 rintro ⟨_, _⟩
 try dsimp only
 exact qf (qa (qb rfl rfl rfl (qe (qd (qr (qm () (res1 rfl rfl)))))))
theorem qkO (F : Nat) (x1 : Int) (x2 : List Int) (a3 : Option Addr) (c4 : Nat) (x5 : Int) (r : Int) (hm : qd3 F x1 x2 x5 = some r) :
    Pure Tryz.prog 23 [.agg #[.int .i64 x1, .slice a3 x2.length c4], .int .i64 x5] [Sl (eI .u8) 1 (.slice a3 x2.length c4) x2] Unit (fun _ => .int .i64 r) (fun _ => []) (fun _ => []) := by
 refine qQ Tryz.func23 rfl Tryz.ntmps23 rfl hm (fun w => qF (l' := [(0, .agg #[.int .i64 x1, .slice a3 x2.length c4]), (1, .int .i64 x5)]) rfl (qf (qa (zp rfl rfl rfl (fun g6 => qb rfl rfl rfl (qe (qd (qf (qa (qp (i := 0) rfl rfl tf27 rfl rfl (by simp) rfl rfl (qv ent44 rfl rfl rfl (fun x7 e7 => qix F x1 x2 a3 c4 x7 e7) (.consF 0 rfl .nil) (fun x7 e7 => ?_))))))))))))
 intro _
 refine qb rfl rfl rfl (qe (qd (qC (fun ((x13, _) : (Int × Unit)) => [(5, .int .i64 x13)]) (fun ((x13, _) : (Int × Unit)) => []) (fun ((x13, _) : (Int × Unit)) => []) (fun ((x13, _) : (Int × Unit)) => []) (fun ((x13, _) : (Int × Unit)) => qb4 F x13) ?_ ?_)))
 refine qf (qa (qc rfl rfl rfl (zu rfl rfl rfl rfl (qc rfl rfl rfl (kT 6 (fun ((x16, _) : (Bool × Unit)) => [(5, .int .i64 x7), (16, .bool x16)]) (fun ((x16, _) : (Bool × Unit)) => []) (fun ((x16, _) : (Bool × Unit)) => []) (fun ((x16, _) : (Bool × Unit)) => []) (fun ((x16, _) : (Bool × Unit)) => qb9 F x7 x16) ?_ ?_)))))
 refine qw (os := _) rfl (jq (fun h14 => ?_) (fun h14 => ?_))
 refine zj (k := 10) rfl h14 (qc rfl rfl rfl (qo rfl rfl kW rfl (qp (i := 0) rfl rfl tf3 rfl rfl (fun _ => rfl) rfl rfl (qv ent18 rfl rfl rfl (fun x18 e18 => v8 F x5 0 x1 x18 e18) .nil (fun x18 e18 => ?_)))))
 intro _
 exact ko rfl rfl rfl (qE (b := true) rfl rfl rfl rfl (qe (qj ((!x18), ()))))
 exact zk (k := 10) rfl h14 (qk rfl rfl rfl (qk rfl rfl rfl (qk rfl rfl rfl (qk rfl rfl rfl (qk rfl rfl rfl (qE (b := false) rfl rfl rfl rfl (qe (qj (false, ())))))))))
 rintro ⟨x16, _⟩
 try dsimp only
 refine qw (os := _) rfl (qe (qd (qy rfl (fun h17 => ?_) (fun h17 => ?_))))
 exact qa (qb rfl rfl rfl (qe (qj (3, ()))))
 exact ql (qj (x7, ()))
 rintro ⟨x13, _⟩
 try dsimp only
 exact qf (qa (qc rfl rfl rfl (qb rfl rfl rfl (qe (qd (qr (qm () (res1 rfl rfl))))))))
theorem qfR (F : Nat) (x1 : List Int) (a2 : Option Addr) (c3 : Nat) (x4 : Int) (r : (Int × Int)) (hm : qbs F x1 x4 = some r) :
    Pure Tryz.prog 65 [.slice a2 x1.length c3, .int .i64 x4] [Sl (eI .i64) 1 (.slice a2 x1.length c3) x1] Unit (fun _ => .tuple #[.int .u64 r.1, .int .i64 r.2]) (fun _ => []) (fun _ => []) := by
 refine qQ Tryz.func65 rfl Tryz.ntmps65 rfl hm (fun w => qF (l' := [(0, .slice a2 x1.length c3), (1, .int .i64 x4)]) rfl (qf (qa (qb rfl rfl rfl (qb rfl rfl rfl (qe (qd (qf (qa (qb rfl rfl rfl (qe (qd ?_))))))))))))
 refine qC (fun ((_, _) : (Unit × Unit)) => []) (fun ((_, _) : (Unit × Unit)) => []) (fun ((_, _) : (Unit × Unit)) => []) (fun ((_, _) : (Unit × Unit)) => []) (fun ((_, _) : (Unit × Unit)) => qen F) ?_ ?_
 refine qf (qa (qc rfl rfl rfl (qb rfl rfl rfl (qe (qd (qt (qM (fun (((x80, x81), _) : ((Int × Int) × Unit)) => [(0, .slice a2 x1.length c3), (6, .int .u64 x80), (7, .int .i64 x81)]) (fun (((x80, x81), _) : ((Int × Int) × Unit)) => []) (fun (((x80, x81), _) : ((Int × Int) × Unit)) => []) (fun (((x80, x81), _) : ((Int × Int) × Unit)) => [Sl (eI .i64) 1 (.slice a2 x1.length c3) x1]) (fun k (s : ((Int × Int) × Unit)) => vf F x1 k s.1) ((0, x4), ()) F ?_ (hF := (qi 0 rfl qu)))))))))
 intro k100
 rintro ⟨⟨x80, x81⟩, _⟩
 try dsimp only
 refine qZ (m' := qbi F x1 (vf F x1 k100) x80 x81) rfl (qf (qf (qa (qc rfl rfl rfl (qc rfl rfl rfl (qN rfl Tryz.underlying22 rfl rfl (qP rfl rfl rfl rfl (qe (qd (qy rfl (fun h118 => ?_) (fun h118 => ?_)))))))))))
 refine ql (qd (qf (qt (qf (qf (qa (qc rfl rfl rfl (qc rfl rfl rfl (q7 (j := 0) (qL .i64) (by decide) rfl Tryz.underlying22 tf3 rfl rfl rfl rfl (fun x114 e114 b115 o116 => zl (j := 0) rfl rfl tf3 rfl rfl (fun _ => rfl) rfl rfl (zu rfl rfl rfl rfl (qe ?_))))))))))))
 refine qd (qy rfl (fun h117 => ?_) (fun h117 => ?_))
 refine qf (qa (qc rfl rfl rfl (qc rfl rfl rfl (qD rfl rfl rfl rfl (qb rfl rfl rfl (qb rfl rfl rfl (qe (qd (qr (qn (qR (qn ?_))))))))))))
 exact qn (qR (qn (qm () (res2 rfl rfl rfl))))
 refine ql (qd (qa (qc rfl rfl rfl (qD rfl rfl rfl rfl (qb rfl rfl rfl (qe (qH (qd (qa (qc rfl rfl rfl (qD rfl rfl rfl rfl (qb rfl rfl rfl ?_))))))))))))
 exact qe (qG ((iadd .u64 x80 1, iadd .i64 x81 1), ()) (hF := (qi 1 rfl qu)))
 exact qS (qx (qx (qT (qj ((), ())))))
 rintro ⟨_, _⟩
 try dsimp only
 exact qf (qa (qb rfl rfl rfl (qb rfl rfl rfl (qe (qd (qr (qm () (res2 rfl rfl rfl))))))))
theorem qmh (F : Nat) (x1 : List Int) (a2 : Option Addr) (c3 : Nat) (r : Int) (hm : qeR F x1 = some r) :
    Pure Tryz.prog 91 [.slice a2 x1.length c3] [Sl (eI .i64) 1 (.slice a2 x1.length c3) x1] Unit (fun _ => .int .u64 r) (fun _ => []) (fun _ => []) := by
 refine qQ Tryz.func91 rfl Tryz.ntmps91 rfl hm (fun w => qF (l' := [(0, .slice a2 x1.length c3)]) rfl (qf (qa (qb rfl rfl rfl (qe (qd (qf (qa (qb rfl rfl rfl (qe (qd (qC (fun ((x37, _) : (Int × Unit)) => [(3, .int .u64 x37)]) (fun ((x37, _) : (Int × Unit)) => []) (fun ((x37, _) : (Int × Unit)) => []) (fun ((x37, _) : (Int × Unit)) => []) (fun ((x37, _) : (Int × Unit)) => qfL F x37) ?_ ?_))))))))))))
 refine qf (qa (qb rfl rfl rfl (qe (qd (qt (qM (fun (((x48, x49), _) : ((Int × Int) × Unit)) => [(0, .slice a2 x1.length c3), (3, .int .u64 x48), (4, .int .i64 x49)]) (fun (((x48, x49), _) : ((Int × Int) × Unit)) => []) (fun (((x48, x49), _) : ((Int × Int) × Unit)) => []) (fun (((x48, x49), _) : ((Int × Int) × Unit)) => [Sl (eI .i64) 1 (.slice a2 x1.length c3) x1]) (fun k (s : ((Int × Int) × Unit)) => qah F x1 k s.1) ((0, 0), ()) F ?_ (hF := (qi 0 rfl qu))))))))
 intro k60
 rintro ⟨⟨x48, x49⟩, _⟩
 try dsimp only
 refine qZ (m' := qcH F x1 (qah F x1 k60) x48 x49) rfl (qf (qf (qa (qc rfl rfl rfl (qc rfl rfl rfl (qN rfl Tryz.underlying22 rfl rfl (qP rfl rfl rfl rfl (qe (qd (qy rfl (fun h70 => ?_) (fun h70 => ?_)))))))))))
 refine ql (qd (qf (qt (qa (qc rfl rfl rfl (qdp rfl rfl rfl rfl (qc rfl rfl rfl (qc rfl rfl rfl (q7 (j := 0) (qL .i64) (by decide) rfl Tryz.underlying22 tf3 rfl rfl rfl rfl (fun x66 e66 b67 o68 => zl (j := 0) rfl rfl tf3 rfl rfl (fun _ => rfl) rfl rfl (q9 rfl Tryz.underlying3 Tryz.underlying72 rfl rfl (qD rfl rfl rfl rfl ?_))))))))))))
 exact qb rfl rfl rfl (yf (fun x69 e69 => qA (d := 3) (v := .int .u64 x69) rfl (by rw [e69] <;> rfl) (qe (qH (qd (qa (qc rfl rfl rfl (qD rfl rfl rfl rfl (qb rfl rfl rfl (qe (qG ((x69, iadd .i64 x49 1), ()) (hF := (qi 1 rfl qu)))))))))))))
 exact qS (qx (qx (qT (qj (x48, ())))))
 rintro ⟨x37, _⟩
 try dsimp only
 exact qf (qa (qc rfl rfl rfl (qb rfl rfl rfl (qe (qd (qr (qm () (res1 rfl rfl))))))))
theorem qj9 (F : Nat) (x1 : List Int) (a2 : Option Addr) (c3 : Nat) (x4 : Int) (x5 : Int) (r : (Int × Int × Int)) (hm : qdh F x1 x4 x5 = some r) :
    Pure Tryz.prog 66 [.slice a2 x1.length c3, .int .i64 x4, .int .u64 x5] [Sl (eI .i64) 1 (.slice a2 x1.length c3) x1] Unit (fun _ => .tuple #[.int .u64 r.1, .int .i64 r.2.1, .int .i64 r.2.2]) (fun _ => []) (fun _ => []) := by
 refine qQ Tryz.func66 rfl Tryz.ntmps66 rfl hm (fun w => qF (l' := [(0, .slice a2 x1.length c3), (1, .int .i64 x4), (2, .int .u64 x5)]) rfl (qf (qa (qb rfl rfl rfl (qb rfl rfl rfl (qb rfl rfl rfl (qe (qd (qf (qf (qa (qc rfl rfl rfl ?_))))))))))))
 refine zi rfl rfl rfl rfl (qe (qd (qy rfl (fun h20 => ?_) (fun h20 => ?_))))
 exact qf (qa (qb rfl rfl rfl (qb rfl rfl rfl (qb rfl rfl rfl (qe (qd (qr (qn (qm () (res3 rfl rfl rfl rfl))))))))))
 refine ql (qd (qf (qf (qa (qc rfl rfl rfl (qc rfl rfl rfl (q9 rfl Tryz.underlying72 Tryz.underlying3 rfl rfl (qD rfl rfl rfl rfl (qc rfl rfl rfl (qN rfl Tryz.underlying22 rfl rfl (zi rfl rfl rfl rfl (qe ?_))))))))))))
 refine qd (qy rfl (fun h19 => ?_) (fun h19 => ?_))
 exact qf (qa (qb rfl rfl rfl (qb rfl rfl rfl (qb rfl rfl rfl (qe (qd (qr (qn (qm () (res3 rfl rfl rfl rfl))))))))))
 refine ql (qd (qf (qa (zE (vs := [.int .i64 1]) (ys := ([1] : List Int)) (qL .i64) (by decide) rfl Tryz.underlying22 tf3 rfl rfl rfl rfl rfl (by decide) (fun a8 c9 => qc rfl rfl rfl (qc rfl rfl rfl (qc rfl rfl rfl (qc rfl rfl rfl (q9 rfl Tryz.underlying72 Tryz.underlying3 rfl rfl (qD rfl rfl rfl rfl (qhp (j := 0) (qL .i64) rfl Tryz.underlying22 tf3 rfl rfl rfl rfl rfl (fun x10 e10 a11 c12 => zy 0 (qL .i64) rfl Tryz.underlying22 tf3 rfl rfl rfl rfl rfl (.inr ⟨0, rfl⟩) rfl rfl (fun x13 e13 a14 c15 => ?_)))))))))))))
 refine qv ent91 rfl rfl rfl (fun x16 e16 => qmh F x13 a14 c15 x16 e16) (.consR 0 (Ro (eI .i64) 3 1 (.slice a14 x13.length c15) x13) rfl .nil) (fun x16 e16 _ => zd rfl rfl rfl rfl (qb rfl rfl rfl (qe (qd (qf (qf (qa (qc rfl rfl rfl (zi rfl rfl rfl rfl (qe (qd (qy rfl (fun h18 => ?_) (fun h18 => ?_)))))))))))))
 exact qf (qa (qb rfl rfl rfl (qb rfl rfl rfl (qb rfl rfl rfl (qe (qd (qr (qn (qm () (res3 rfl rfl rfl rfl))))))))))
 refine ql (qd (qf (qa (qc rfl rfl rfl (qc rfl rfl rfl (qc rfl rfl rfl (q9 rfl Tryz.underlying72 Tryz.underlying3 rfl rfl (qD rfl rfl rfl rfl (qb rfl rfl rfl (qb rfl rfl rfl (qb rfl rfl rfl (qe ?_))))))))))))
 exact qd (qr (qm () (res3 rfl rfl rfl rfl)))
theorem qad (F : Nat) (x1 : List Int) (a2 : Option Addr) (c3 : Nat) (x4 : Int) (r : (Int × Int × Int)) (hm : k6 F x1 x4 = some r) :
    Pure Tryz.prog 45 [.slice a2 x1.length c3, .int .i64 x4] [Sl (eI .i64) 1 (.slice a2 x1.length c3) x1] Unit (fun _ => .tuple #[.int .u64 r.1, .int .i64 r.2.1, .int .i64 r.2.2]) (fun _ => []) (fun _ => []) := by
 refine qQ Tryz.func45 rfl Tryz.ntmps45 rfl hm (fun w => qF (l' := [(0, .slice a2 x1.length c3), (1, .int .i64 x4)]) rfl (qf (qa (qb rfl rfl rfl (qb rfl rfl rfl (qb rfl rfl rfl (qe (qd (qf (qa (qc rfl rfl rfl (qc rfl rfl rfl ?_))))))))))))
 refine qv ent65 rfl rfl rfl (fun x5 e5 => qfR F x1 a2 c3 x4 x5 e5) (.consF 0 rfl .nil) (fun x5 e5 _ => qc rfl rfl rfl (qq rfl rfl rfl rfl (qq rfl rfl rfl rfl (qb rfl rfl rfl (qb rfl rfl rfl (qe (qd (qf (qf (qa (qc rfl rfl rfl (qP rfl rfl rfl rfl ?_))))))))))))
 refine qe (qd (qy rfl (fun h8 => ?_) (fun h8 => ?_)))
 exact qf (qa (qb rfl rfl rfl (qb rfl rfl rfl (qb rfl rfl rfl (qe (qd (qr (qn (qm () (res3 rfl rfl rfl rfl))))))))))
 refine ql (qd (qf (qa (qc rfl rfl rfl (qc rfl rfl rfl (qc rfl rfl rfl (qv ent66 rfl rfl rfl (fun x7 e7 => qj9 F x1 a2 c3 x5.2 x5.1 x7 e7) (.consF 0 rfl .nil) (fun x7 e7 => ?_))))))))
 intro _
 exact qq rfl rfl rfl rfl (qq rfl rfl rfl rfl (qq rfl rfl rfl rfl (qb rfl rfl rfl (qb rfl rfl rfl (qb rfl rfl rfl (qe (qd (qr (qm () (res3 rfl rfl rfl rfl))))))))))
set_option maxHeartbeats 4000000 in
theorem qiK (F : Nat) (x1 : List Int) (a2 : Option Addr) (c3 : Nat) (x4 : List Int) (a5 : Option Addr) (c6 : Nat) (r : (List Int × Int)) (hm : qcY F x1 x4 = some r) :
    Pure Tryz.prog 46 [.slice a2 x1.length c3, .slice a5 x4.length c6] [Sl (eI .i64) 1 (.slice a2 x1.length c3) x1, Sl (eI .i64) 1 (.slice a5 x4.length c6) x4] (Option Addr × Nat) (fun g => .tuple #[.slice g.1 r.1.length g.2, .int .i64 r.2]) (fun g => [Ro (eI .i64) 3 1 (.slice g.1 r.1.length g.2) r.1]) (fun _ => []) := by
 refine qQ Tryz.func46 rfl Tryz.ntmps46 rfl hm (fun w => qF (l' := [(0, .slice a2 x1.length c3), (1, .slice a5 x4.length c6)]) rfl (qf (qa (qb rfl rfl rfl (qb rfl rfl rfl (qe (qd (qf (qa (qc rfl rfl rfl (qv ent19 rfl rfl rfl (fun x7 e7 => qby F x1 a2 c3 x7 e7) (.consF 0 rfl .nil) (fun x7 e7 => ?_))))))))))))
 intro _
 refine qb rfl rfl rfl (qe (qd (qf (qf (qa (qc rfl rfl rfl (kD rfl rfl rfl rfl (qe (qd (qy rfl (fun h2277 => ?_) (fun h2277 => ?_)))))))))))
 exact qf (qa (qc rfl rfl rfl (qb rfl rfl rfl (qb rfl rfl rfl (qe (qd (qr (qn (qU Int (eI .i64) 3 1 (qm (none, 0) (res2 rfl rfl rfl) (fun h => by subst h; exact (.cons 0 rfl .nil))))))))))))
 refine ql (qd (qf (qf (qa (qc rfl rfl rfl (qN rfl Tryz.underlying22 rfl rfl (qc rfl rfl rfl (qN rfl Tryz.underlying22 rfl rfl (qD rfl rfl rfl rfl (zi rfl rfl rfl rfl (qe (qd ?_))))))))))))
 refine qy rfl (fun h2276 => ?_) (fun h2276 => ?_)
 exact qf (qa (qb rfl rfl rfl (qb rfl rfl rfl (qe (qd (qr (qn (qU Int (eI .i64) 3 1 (qm (none, 0) (res2 rfl rfl rfl) (fun h => by subst h; exact (.cons 0 rfl .nil)))))))))))
 refine ql (qd (qf (qa (qb rfl rfl rfl (qe (qd (qC (fun ((x268, _) : (Int × Unit)) => [(0, .slice a2 x1.length c3), (1, .slice a5 x4.length c6), (7, .int .i64 x268)]) (fun ((x268, _) : (Int × Unit)) => []) (fun ((x268, _) : (Int × Unit)) => []) (fun ((x268, _) : (Int × Unit)) => [Sl (eI .i64) 1 (.slice a2 x1.length c3) x1, Sl (eI .i64) 1 (.slice a5 x4.length c6) x4]) (fun ((x268, _) : (Int × Unit)) => qcc F x1 x4 x268) ?_ ?_)))))))
 refine qf (qa (qb rfl rfl rfl (qe (qd (qt (qM (fun (((x2103, x2104), _) : ((Int × Int) × Unit)) => [(0, .slice a2 x1.length c3), (1, .slice a5 x4.length c6), (7, .int .i64 x2103), (8, .int .i64 x2104)]) (fun (((x2103, x2104), _) : ((Int × Int) × Unit)) => []) (fun (((x2103, x2104), _) : ((Int × Int) × Unit)) => []) (fun (((x2103, x2104), _) : ((Int × Int) × Unit)) => [Sl (eI .i64) 1 (.slice a2 x1.length c3) x1, Sl (eI .i64) 1 (.slice a5 x4.length c6) x4]) (fun k (s : ((Int × Int) × Unit)) => ku F x1 x4 k s.1) ((0, 0), ()) F ?_ (hF := (qi 0 rfl (qi 1 rfl qu)))))))))
 intro k2190
 rintro ⟨⟨x2103, x2104⟩, _⟩
 try dsimp only
 refine qZ (m' := jK F x1 x4 (ku F x1 x4 k2190) x2103 x2104) rfl (qf (qf (qa (qc rfl rfl rfl (qc rfl rfl rfl (qN rfl Tryz.underlying22 rfl rfl (qP rfl rfl rfl rfl (qe (qd (qy rfl (fun h2275 => ?_) (fun h2275 => ?_)))))))))))
 refine ql (qd (qC (fun ((x2233, _) : (Int × Unit)) => [(0, .slice a2 x1.length c3), (1, .slice a5 x4.length c6), (7, .int .i64 x2233), (8, .int .i64 x2104)]) (fun ((x2233, _) : (Int × Unit)) => []) (fun ((x2233, _) : (Int × Unit)) => []) (fun ((x2233, _) : (Int × Unit)) => [Sl (eI .i64) 1 (.slice a2 x1.length c3) x1, Sl (eI .i64) 1 (.slice a5 x4.length c6) x4]) (fun ((x2233, _) : (Int × Unit)) => jN F (ku F x1 x4 k2190) x2104 x2233) ?_ ?_))
 refine qt (qf (qf (qa (qc rfl rfl rfl (qc rfl rfl rfl (q7 (j := 1) (qL .i64) (by decide) rfl Tryz.underlying22 tf3 rfl rfl rfl rfl (fun x2248 e2248 b2249 o2250 => zl (j := 0) rfl rfl tf3 rfl rfl (fun _ => rfl) rfl rfl (qP rfl rfl rfl rfl (qc rfl rfl rfl (kT 10 (fun ((x2256, _) : (Bool × Unit)) => [(0, .slice a2 x1.length c3), (1, .slice a5 x4.length c6), (7, .int .i64 x2103), (8, .int .i64 x2104), (45, .bool x2256)]) (fun ((x2256, _) : (Bool × Unit)) => []) (fun ((x2256, _) : (Bool × Unit)) => []) (fun ((x2256, _) : (Bool × Unit)) => [Sl (eI .i64) 1 (.slice a2 x1.length c3) x1, Sl (eI .i64) 1 (.slice a5 x4.length c6) x4]) (fun ((x2256, _) : (Bool × Unit)) => jU F (ku F x1 x4 k2190) x1 x4 x2103 x2104 x2256) ?_ ?_))))))))))
 refine qw (os := _) rfl (jq (fun h2251 => ?_) (fun h2251 => ?_))
 exact zj (k := 35) rfl h2251 (qk rfl rfl rfl (qk rfl rfl rfl (qk rfl rfl rfl (qk rfl rfl rfl (qk rfl rfl rfl (qk rfl rfl rfl (qk rfl rfl rfl (qk rfl rfl rfl (qk rfl rfl rfl (qE (b := true) rfl rfl rfl rfl (qe (qj (true, ()) (hF := (qi 1 rfl (qi 2 rfl qu)))))))))))))))
 refine zk (k := 35) rfl h2251 (qc rfl rfl rfl (qc rfl rfl rfl (q7 (j := 2) (qL .i64) (by decide) rfl Tryz.underlying22 tf3 rfl rfl rfl rfl (fun x2271 e2271 b2272 o2273 => zl (j := 0) rfl rfl tf3 rfl rfl (fun _ => rfl) rfl rfl (zu rfl rfl rfl rfl (qc rfl rfl rfl (zH 3 ((x2271 : Int) == 0) [(0, .slice a2 x1.length c3), (1, .slice a5 x4.length c6), (7, .int .i64 x2103), (8, .int .i64 x2104), (35, .bool false), (36, .slice a5 x4.length c6), (37, .int .i64 x2104), (38, .pointer (some ⟨b2272, o2273, none⟩)), (39, .int .i64 x2271), (40, .bool ((x2271 : Int) == 0)), (41, .bool ((x2271 : Int) == 0)), (44, .bool (((x2271 : Int) == 0) && (decide (0 < x2104))))] (fun h2274 => ?_) (fun h2274 => ?_) ?_)))))))
 exact qw (os := _) rfl (zj (k := 41) rfl h2274 (qc rfl rfl rfl (zi rfl rfl rfl rfl (qE (b := true) rfl rfl rfl rfl (qA (d := 44) (v := .bool (((x2271 : Int) == 0) && (decide (0 < x2104)))) rfl (by rw [h2274]; simp only [Bool.true_and]) (qA (d := 41) (v := .bool ((x2271 : Int) == 0)) rfl (by rw [h2274] <;> rfl) (qe (qO (qh rfl (qh rfl (qh rfl (qh rfl (qh rfl (qh rfl (qh rfl (qh rfl (qh rfl (qh rfl (qh rfl (qh rfl q8))))))))))))))))))))
 exact qw (os := _) rfl (zk (k := 41) rfl h2274 (qk rfl rfl rfl (qk rfl rfl rfl (qE (b := false) rfl rfl rfl rfl (qA (d := 44) (v := .bool (((x2271 : Int) == 0) && (decide (0 < x2104)))) rfl (by rw [h2274]; simp only [Bool.false_and]) (qA (d := 41) (v := .bool ((x2271 : Int) == 0)) rfl (by rw [h2274] <;> rfl) (qe (qO (qh rfl (qh rfl (qh rfl (qh rfl (qh rfl (qh rfl (qh rfl (qh rfl (qh rfl (qh rfl (qh rfl (qh rfl q8))))))))))))))))))))
 exact qw (os := _) rfl (qE (b := false) rfl rfl rfl rfl (qe (qj ((((x2271 : Int) == 0) && (decide (0 < x2104))), ()) (hF := (qi 2 rfl (qi 3 rfl qu))))))
 rintro ⟨x2256, _⟩
 try dsimp only
 refine qw (os := _) rfl (qe (qd (qy rfl (fun h2270 => ?_) (fun h2270 => ?_))))
 refine qf (qa (qb rfl rfl rfl (qb rfl rfl rfl (qe (qd (qr (qn (qR (qn (qn (qR (qn ?_))))))))))))
 exact qU Int (eI .i64) 3 1 (qm (none, 0) (res2 rfl rfl rfl) (fun h => by subst h; exact (.cons 0 rfl .nil)))
 refine ql (qd (qC (fun ((x2261, _) : (Int × Unit)) => [(0, .slice a2 x1.length c3), (1, .slice a5 x4.length c6), (7, .int .i64 x2261), (8, .int .i64 x2104)]) (fun ((x2261, _) : (Int × Unit)) => []) (fun ((x2261, _) : (Int × Unit)) => []) (fun ((x2261, _) : (Int × Unit)) => [Sl (eI .i64) 1 (.slice a2 x1.length c3) x1, Sl (eI .i64) 1 (.slice a5 x4.length c6) x4]) (fun ((x2261, _) : (Int × Unit)) => jO F (ku F x1 x4 k2190) x4 x2104 x2261) ?_ ?_))
 refine qf (qa (qc rfl rfl rfl (qc rfl rfl rfl (q7 (j := 1) (qL .i64) (by decide) rfl Tryz.underlying22 tf3 rfl rfl rfl rfl (fun x2266 e2266 b2267 o2268 => zl (j := 0) rfl rfl tf3 rfl rfl (fun _ => rfl) rfl rfl (qc rfl rfl rfl (qN rfl Tryz.underlying22 rfl rfl (zi rfl rfl rfl rfl (qe (qd (qy rfl (fun h2269 => ?_) (fun h2269 => ?_))))))))))))
 exact qa (qb rfl rfl rfl (qe (qj (1000, ()) (hF := (qi 1 rfl (qi 2 rfl qu))))))
 exact ql (qj (x2103, ()) (hF := (qi 1 rfl (qi 2 rfl qu))))
 rintro ⟨x2261, _⟩
 try dsimp only
 refine qf (qa (qc rfl rfl rfl (qP rfl rfl rfl rfl (qe (qd (qy rfl (fun h2265 => ?_) (fun h2265 => ?_)))))))
 exact qa (qc rfl rfl rfl (qc rfl rfl rfl (qc rfl rfl rfl (q7 (j := 1) (qL .i64) (by decide) rfl Tryz.underlying22 tf3 rfl rfl rfl rfl (fun x2262 e2262 b2263 o2264 => zl (j := 0) rfl rfl tf3 rfl rfl (fun _ => rfl) rfl rfl (qD rfl rfl rfl rfl (qb rfl rfl rfl (qe (qH (qj (iadd .i64 x2261 x2262, ()) (hF := (qi 1 rfl (qi 2 rfl qu)))))))))))))
 exact ql (qH (qj (x2261, ()) (hF := (qi 0 rfl (qi 1 rfl qu)))))
 rintro ⟨x2233, _⟩
 try dsimp only
 exact qa (qc rfl rfl rfl (qD rfl rfl rfl rfl (qb rfl rfl rfl (qe (qG ((x2233, iadd .i64 x2104 1), ()) (hF := (qi 0 rfl (qi 1 rfl qu))))))))
 exact qS (qx (qx (qT (qj (x2103, ()) (hF := (qi 0 rfl (qi 1 rfl qu)))))))
 rintro ⟨x268, _⟩
 try dsimp only
 refine qf (qf (qa (qc rfl rfl rfl (qc rfl rfl rfl (qN rfl Tryz.underlying22 rfl rfl (zi rfl rfl rfl rfl (qe (qd (qy rfl (fun h2017 => ?_) (fun h2017 => ?_))))))))))
 exact qf (qa (qb rfl rfl rfl (qb rfl rfl rfl (qe (qd (qr (qn (qU Int (eI .i64) 3 1 (qm (none, 0) (res2 rfl rfl rfl) (fun h => by subst h; exact (.cons 0 rfl .nil)))))))))))
 refine ql (qd (qf (qa (qb rfl rfl rfl (qe (qd (qC (fun ((x1144, (a1142, c1143)) : (List Int × (Option Addr × Nat))) => [(9, .slice a1142 x1144.length c1143)]) (fun ((x1144, (a1142, c1143)) : (List Int × (Option Addr × Nat))) => []) (fun ((x1144, (a1142, c1143)) : (List Int × (Option Addr × Nat))) => [Ro (eI .i64) 3 1 (.slice a1142 x1144.length c1143) x1144]) (fun ((x1144, (a1142, c1143)) : (List Int × (Option Addr × Nat))) => []) (fun ((x1144, _) : (List Int × (Option Addr × Nat))) => qbW F x1144) ?_ ?_)))))))
 refine qf (qa (qb rfl rfl rfl (qe (qd (qt (zS Int (eI .i64) 3 1 (qM (fun (((x1436, x1437), (a1434, c1435)) : ((List Int × Int) × (Option Addr × Nat))) => [(0, .slice a2 x1.length c3), (1, .slice a5 x4.length c6), (9, .slice a1434 x1436.length c1435), (10, .int .i64 x1437)]) (fun (((x1436, x1437), (a1434, c1435)) : ((List Int × Int) × (Option Addr × Nat))) => []) (fun (((x1436, x1437), (a1434, c1435)) : ((List Int × Int) × (Option Addr × Nat))) => [Ro (eI .i64) 3 1 (.slice a1434 x1436.length c1435) x1436]) (fun (((x1436, x1437), (a1434, c1435)) : ((List Int × Int) × (Option Addr × Nat))) => [Sl (eI .i64) 1 (.slice a2 x1.length c3) x1, Sl (eI .i64) 1 (.slice a5 x4.length c6) x4]) (fun k (s : ((List Int × Int) × (Option Addr × Nat))) => zx F x1 x4 k s.1) ((([] : List Int), 0), (none, 0)) F ?_ (hR := (.cons 0 rfl .nil)) (hF := (qi 0 rfl (qi 1 rfl qu))))))))))
 intro k1727
 rintro ⟨⟨x1436, x1437⟩, ⟨a1434, c1435⟩⟩
 try dsimp only
 refine qZ (m' := jQ F x1 x4 (zx F x1 x4 k1727) x1436 x1437) rfl (qf (qf (qa (qc rfl rfl rfl (qc rfl rfl rfl (qN rfl Tryz.underlying22 rfl rfl (qP rfl rfl rfl rfl (qe (qd (qy rfl (fun h2016 => ?_) (fun h2016 => ?_)))))))))))
 refine ql (qd (qC (fun ((x1873, (a1871, c1872)) : (List Int × (Option Addr × Nat))) => [(0, .slice a2 x1.length c3), (1, .slice a5 x4.length c6), (9, .slice a1871 x1873.length c1872), (10, .int .i64 x1437)]) (fun ((x1873, (a1871, c1872)) : (List Int × (Option Addr × Nat))) => []) (fun ((x1873, (a1871, c1872)) : (List Int × (Option Addr × Nat))) => [Ro (eI .i64) 3 1 (.slice a1871 x1873.length c1872) x1873]) (fun ((x1873, (a1871, c1872)) : (List Int × (Option Addr × Nat))) => [Sl (eI .i64) 1 (.slice a2 x1.length c3) x1, Sl (eI .i64) 1 (.slice a5 x4.length c6) x4]) (fun ((x1873, _) : (List Int × (Option Addr × Nat))) => jL F (zx F x1 x4 k1727) x1437 x1873) ?_ ?_))
 refine qt (qf (qa (qb rfl rfl rfl (qb rfl rfl rfl (qe (qd (qC (fun ((x1940, _) : (Int × Unit)) => [(0, .slice a2 x1.length c3), (1, .slice a5 x4.length c6), (9, .slice a1434 x1436.length c1435), (10, .int .i64 x1437), (11, .int .i64 x1940)]) (fun ((x1940, _) : (Int × Unit)) => []) (fun ((x1940, _) : (Int × Unit)) => [Ro (eI .i64) 3 1 (.slice a1434 x1436.length c1435) x1436]) (fun ((x1940, _) : (Int × Unit)) => [Sl (eI .i64) 1 (.slice a2 x1.length c3) x1, Sl (eI .i64) 1 (.slice a5 x4.length c6) x4]) (fun ((x1940, _) : (Int × Unit)) => jS F (zx F x1 x4 k1727) x1 x1436 x1437 x1940) ?_ ?_)))))))
 refine qt (qM (fun (((x1971, x1972), _) : ((Int × Int) × Unit)) => [(0, .slice a2 x1.length c3), (1, .slice a5 x4.length c6), (9, .slice a1434 x1436.length c1435), (10, .int .i64 x1437), (11, .int .i64 x1971), (12, .int .i64 x1972)]) (fun (((x1971, x1972), _) : ((Int × Int) × Unit)) => []) (fun (((x1971, x1972), _) : ((Int × Int) × Unit)) => [Ro (eI .i64) 3 1 (.slice a1434 x1436.length c1435) x1436]) (fun (((x1971, x1972), _) : ((Int × Int) × Unit)) => [Sl (eI .i64) 1 (.slice a2 x1.length c3) x1, Sl (eI .i64) 1 (.slice a5 x4.length c6) x4]) (fun k (s : ((Int × Int) × Unit)) => kU F (zx F x1 x4 k1727) x1 x4 x1436 x1437 k s.1) ((0, 0), ()) F ?_ (hR := (.cons 0 rfl .nil)) (hF := (qi 0 rfl (qi 1 rfl qu))))
 intro k1994
 rintro ⟨⟨x1971, x1972⟩, _⟩
 try dsimp only
 refine qZ (m' := jH F (zx F x1 x4 k1727) x1 x4 x1436 x1437 (kU F (zx F x1 x4 k1727) x1 x4 x1436 x1437 k1994) x1971 x1972) rfl (qf (qf (qa (qc rfl rfl rfl (qc rfl rfl rfl (qN rfl Tryz.underlying22 rfl rfl (qP rfl rfl rfl rfl (qc rfl rfl rfl (kT 9 (fun ((x2008, _) : (Bool × Unit)) => [(0, .slice a2 x1.length c3), (1, .slice a5 x4.length c6), (9, .slice a1434 x1436.length c1435), (10, .int .i64 x1437), (11, .int .i64 x1971), (12, .int .i64 x1972), (84, .bool x2008)]) (fun ((x2008, _) : (Bool × Unit)) => []) (fun ((x2008, _) : (Bool × Unit)) => [Ro (eI .i64) 3 1 (.slice a1434 x1436.length c1435) x1436]) (fun ((x2008, _) : (Bool × Unit)) => [Sl (eI .i64) 1 (.slice a2 x1.length c3) x1, Sl (eI .i64) 1 (.slice a5 x4.length c6) x4]) (fun ((x2008, _) : (Bool × Unit)) => vk F (zx F x1 x4 k1727) (kU F (zx F x1 x4 k1727) x1 x4 x1436 x1437 k1994) x1 x4 x1436 x1437 x1971 x1972 x2008) ?_ ?_)))))))))
 refine qw (os := _) rfl (jq (fun h2004 => ?_) (fun h2004 => ?_))
 exact zj (k := 75) rfl h2004 (qc rfl rfl rfl (qc rfl rfl rfl (qc rfl rfl rfl (qc rfl rfl rfl (q7 (j := 1) (qL .i64) (by decide) rfl Tryz.underlying22 tf3 rfl rfl rfl rfl (fun x2013 e2013 b2014 o2015 => zl (j := 0) rfl rfl tf3 rfl rfl (fun _ => rfl) rfl rfl (qD rfl rfl rfl rfl (jl rfl rfl rfl rfl (qE (b := true) rfl rfl rfl rfl (qe (qj ((decide ((iadd .i64 x1972 x2013) ≤ x1437)), ()) (hR := (.cons 0 rfl .nil)) (hF := (qi 1 rfl (qi 2 rfl qu))))))))))))))
 exact zk (k := 75) rfl h2004 (qk rfl rfl rfl (qk rfl rfl rfl (qk rfl rfl rfl (qk rfl rfl rfl (qk rfl rfl rfl (qk rfl rfl rfl (qk rfl rfl rfl (qk rfl rfl rfl (qE (b := false) rfl rfl rfl rfl (qe (qj (false, ()) (hR := (.cons 0 rfl .nil)) (hF := (qi 0 rfl (qi 1 rfl qu))))))))))))))
 rintro ⟨x2008, _⟩
 try dsimp only
 refine qw (os := _) rfl (qe (qd (qy rfl (fun h2012 => ?_) (fun h2012 => ?_))))
 refine ql (qd (qt (qf (qa (qc rfl rfl rfl (qc rfl rfl rfl (qc rfl rfl rfl (q7 (j := 1) (qL .i64) (by decide) rfl Tryz.underlying22 tf3 rfl rfl rfl rfl (fun x2009 e2009 b2010 o2011 => zl (j := 0) rfl rfl tf3 rfl rfl (fun _ => rfl) rfl rfl (qD rfl rfl rfl rfl (qb rfl rfl rfl (qe ?_))))))))))))
 exact qd (qa (qc rfl rfl rfl (qD rfl rfl rfl rfl (qb rfl rfl rfl (qe (qH (qG ((iadd .i64 x1971 1, iadd .i64 x1972 x2009), ()) (hR := (.cons 0 rfl .nil)) (hF := (qi 1 rfl (qi 2 rfl qu))))))))))
 exact qS (qx (qx (qT (qj (x1971, ()) (hR := (.cons 0 rfl .nil)) (hF := (qi 0 rfl (qi 1 rfl qu)))))))
 rintro ⟨x1940, _⟩
 try dsimp only
 refine qf (qa (qc rfl rfl rfl (qds rfl rfl rfl rfl rfl (zu rfl rfl rfl rfl (qe (qd (qy rfl (fun h1949 => ?_) (fun h1949 => ?_))))))))
 exact qa (qc rfl rfl rfl (qc rfl rfl rfl (qc rfl rfl rfl (q7 (j := 0) (qL .i64) (by decide) rfl Tryz.underlying22 tf3 rfl rfl rfl rfl (fun x1941 e1941 b1942 o1943 => zl (j := 0) rfl rfl tf3 rfl rfl (fun _ => rfl) rfl rfl (zE (vs := [.int .i64 x1941]) (ys := ([x1941] : List Int)) (qL .i64) (by decide) rfl Tryz.underlying22 tf3 rfl rfl rfl rfl rfl (by decide) (fun a1944 c1945 => zy 1 (qL .i64) rfl Tryz.underlying22 tf3 rfl rfl rfl rfl rfl (.inl ⟨0, _, rfl⟩) rfl rfl (fun x1946 e1946 a1947 c1948 => qb rfl rfl rfl (qe (qH (qj (x1946, (a1947, c1948)) (hR := (.cons 0 rfl .nil)) (hF := (qi 1 rfl (qi 2 rfl qu))))))))))))))
 exact ql (qH (qj (x1436, (a1434, c1435)) (hR := (.cons 0 rfl .nil)) (hF := (qi 0 rfl (qi 1 rfl qu)))))
 rintro ⟨x1873, ⟨a1871, c1872⟩⟩
 try dsimp only
 exact qa (qc rfl rfl rfl (qD rfl rfl rfl rfl (qb rfl rfl rfl (qe (qG ((x1873, iadd .i64 x1437 1), (a1871, c1872)) (hR := (.cons 0 rfl .nil)) (hF := (qi 0 rfl (qi 1 rfl qu))))))))
 exact qS (qx (qx (qT (qj (x1436, (a1434, c1435)) (hR := (.cons 0 rfl .nil))))))
 rintro ⟨x1144, ⟨a1142, c1143⟩⟩
 try dsimp only
 exact qf (qa (qc rfl rfl rfl (qb rfl rfl rfl (qb rfl rfl rfl (qe (qd (qr (qm (a1142, c1143) (res2 rfl rfl rfl) (fun h => by subst h; exact (.cons 0 rfl .nil))))))))))
theorem qhc (F : Nat) (x1 : Int) (x2 : Int) (x3 : Bool) (r : Int) (hm : qbY F x1 x2 x3 = some r) :
    Pure Tryz.prog 47 [.int .u64 x1, .int .i64 x2, .bool x3] [] Unit (fun _ => .int .i64 r) (fun _ => []) (fun _ => []) := by
 refine qQ Tryz.func47 rfl Tryz.ntmps47 rfl hm (fun w => qF (l' := [(0, .int .u64 x1), (1, .int .i64 x2), (2, .bool x3)]) rfl (qf (qa (qb rfl rfl rfl (qe (qd (qf (qf (qa (qc rfl rfl rfl (zi rfl rfl rfl rfl (qe ?_))))))))))))
 refine qd (qy rfl (fun h19 => ?_) (fun h19 => ?_))
 exact qf (qa (qb rfl rfl rfl (qe (qd (qr (qn (qm () (res1 rfl rfl))))))))
 refine ql (qd (qf (qa (qc rfl rfl rfl (qc rfl rfl rfl (q9 rfl Tryz.underlying72 Tryz.underlying3 rfl rfl (qD rfl rfl rfl rfl (qD rfl rfl rfl rfl (qb rfl rfl rfl (yf (fun x5 e5 => qA (d := 7) (v := .int .i64 x5) rfl (by rw [e5] <;> rfl) (qe ?_))))))))))))
 refine qd (qC (fun ((x10, _) : (Int × Unit)) => [(7, .int .i64 x10)]) (fun ((x10, _) : (Int × Unit)) => []) (fun ((x10, _) : (Int × Unit)) => []) (fun ((x10, _) : (Int × Unit)) => []) (fun ((x10, _) : (Int × Unit)) => jr F x10) ?_ ?_)
 refine qf (qa (qc rfl rfl rfl (qe (qd (qy rfl (fun h18 => ?_) (fun h18 => ?_))))))
 refine qf (qa (qc rfl rfl rfl (qc rfl rfl rfl (q9 rfl Tryz.underlying72 Tryz.underlying3 rfl rfl (qbL rfl rfl rfl rfl rfl (qD rfl rfl rfl rfl (qb rfl rfl rfl (yf (fun x15 e15 => qA (d := 7) (v := .int .i64 x15) rfl (by rw [e15] <;> rfl) (qe (qd (qf ?_))))))))))))
 refine qa (qc rfl rfl rfl (qds rfl rfl rfl rfl rfl (zu rfl rfl rfl rfl (qe (qd (qy rfl (fun h17 => ?_) (fun h17 => ?_)))))))
 exact qa (qc rfl rfl rfl (qc rfl rfl rfl (q9 rfl Tryz.underlying72 Tryz.underlying3 rfl rfl (qbL rfl rfl rfl rfl rfl (zd rfl rfl rfl rfl (zd rfl rfl rfl rfl (qb rfl rfl rfl (yf (fun x16 e16 => qA (d := 7) (v := .int .i64 x16) rfl (by rw [e16] <;> rfl) (qe (qj (x16, ()))))))))))))
 exact ql (qj (x15, ()))
 exact ql (qj (x5, ()))
 rintro ⟨x10, _⟩
 try dsimp only
 refine qf (qf (qa (qc rfl rfl rfl (qv ent18 rfl rfl rfl (fun x13 e13 => v8 F x10 0 1048576 x13 e13) .nil (fun x13 e13 => ?_)))))
 intro _
 refine ko rfl rfl rfl (qe (qd (qy rfl (fun h14 => ?_) (fun h14 => ?_))))
 exact qf (qa (qb rfl rfl rfl (qe (qd (qr (qn (qm () (res1 rfl rfl))))))))
 exact ql (qd (qf (qa (qc rfl rfl rfl (qb rfl rfl rfl (qe (qd (qr (qm () (res1 rfl rfl))))))))))
set_option maxHeartbeats 4000000 in
theorem qiw (F : Nat) (x1 : List Int) (a2 : Option Addr) (c3 : Nat) (x4 : Int) (x5 : Int) (r : (Int × Int)) (hm : qcP F x1 x4 x5 = some r) :
    Pure Tryz.prog 92 [.slice a2 x1.length c3, .int .i64 x4, .int .u64 x5] [Sl (eI .i64) 1 (.slice a2 x1.length c3) x1] Unit (fun _ => .tuple #[.int .u64 r.1, .int .i64 r.2]) (fun _ => []) (fun _ => []) := by
 refine qQ Tryz.func92 rfl Tryz.ntmps92 rfl hm (fun w => qF (l' := [(0, .slice a2 x1.length c3), (1, .int .i64 x4), (2, .int .u64 x5)]) rfl (qf (qa (qb rfl rfl rfl (qb rfl rfl rfl (qe (qd (qf (qa (qb rfl rfl rfl (qe (qd ?_))))))))))))
 refine qC (fun ((x18, _) : (Int × Unit)) => [(0, .slice a2 x1.length c3), (1, .int .i64 x4), (2, .int .u64 x5), (8, .int .i64 x18)]) (fun ((x18, _) : (Int × Unit)) => []) (fun ((x18, _) : (Int × Unit)) => []) (fun ((x18, _) : (Int × Unit)) => [Sl (eI .i64) 1 (.slice a2 x1.length c3) x1]) (fun ((x18, _) : (Int × Unit)) => qcs F x1 x4 x5 x18) ?_ ?_
 refine qt (qM (fun ((x208, _) : (Int × Unit)) => [(0, .slice a2 x1.length c3), (1, .int .i64 x4), (2, .int .u64 x5), (8, .int .i64 x208)]) (fun ((x208, _) : (Int × Unit)) => []) (fun ((x208, _) : (Int × Unit)) => []) (fun ((x208, _) : (Int × Unit)) => [Sl (eI .i64) 1 (.slice a2 x1.length c3) x1]) (fun k (s : (Int × Unit)) => vj F x1 x4 x5 k s.1) (0, ()) F ?_ (hF := (qi 0 rfl qu)))
 intro k213
 rintro ⟨x208, _⟩
 try dsimp only
 refine qZ (m' := qbh F x1 x4 x5 (vj F x1 x4 x5 k213) x208) rfl (qf (qf (qa (qc rfl rfl rfl (vY (fun h216 => qa5 rfl rfl rfl rfl h216 (qc rfl rfl rfl (qP rfl rfl rfl rfl (qe (qd (qy rfl (fun h217 => ?_) (fun h217 => ?_))))))))))))
 exact ql (qd (qt (qa (qc rfl rfl rfl (qD rfl rfl rfl rfl (qb rfl rfl rfl (qe (qH (qG (iadd .i64 x208 1, ()) (hF := (qi 0 rfl qu)))))))))))
 exact qS (qx (qx (qT (qj (x208, ()) (hF := (qi 0 rfl qu))))))
 rintro ⟨x18, _⟩
 try dsimp only
 refine qf (qa (qc rfl rfl rfl (vY (fun h19 => qa5 rfl rfl rfl rfl h19 (qc rfl rfl rfl (zd rfl rfl rfl rfl (qb rfl rfl rfl (qe (qd (qf (qa (qb rfl rfl rfl ?_))))))))))))
 refine qe (qd (qC (fun ((_, _) : (Unit × Unit)) => []) (fun ((_, _) : (Unit × Unit)) => []) (fun ((_, _) : (Unit × Unit)) => []) (fun ((_, _) : (Unit × Unit)) => []) (fun ((_, _) : (Unit × Unit)) => qej F) ?_ ?_))
 refine qf (qa (qb rfl rfl rfl (qe (qd (qt (qM (fun (((x143, x144), _) : ((Int × Int) × Unit)) => [(0, .slice a2 x1.length c3), (1, .int .i64 x4), (8, .int .i64 x18), (9, .int .u64 (isub .u64 (ishl .u64 1 x18) x5)), (10, .int .u64 x143), (11, .int .i64 x144)]) (fun (((x143, x144), _) : ((Int × Int) × Unit)) => []) (fun (((x143, x144), _) : ((Int × Int) × Unit)) => []) (fun (((x143, x144), _) : ((Int × Int) × Unit)) => [Sl (eI .i64) 1 (.slice a2 x1.length c3) x1]) (fun k (s : ((Int × Int) × Unit)) => vd F x1 x4 x5 x18 k s.1) ((0, 0), ()) F ?_ (hF := (qi 0 rfl qu))))))))
 intro k175
 rintro ⟨⟨x143, x144⟩, _⟩
 try dsimp only
 refine qZ (m' := qa1 F x1 x4 x5 x18 (vd F x1 x4 x5 x18 k175) x143 x144) rfl (qf (qf (qa (qc rfl rfl rfl (qc rfl rfl rfl (qdX rfl rfl rfl rfl (qe (qd (qy rfl (fun h205 => ?_) (fun h205 => ?_))))))))))
 refine ql (qd (qf (qt (qf (qf (qa (qc rfl rfl rfl (qc rfl rfl rfl (zd rfl rfl rfl rfl (zu rfl rfl rfl rfl (qc rfl rfl rfl (zH 4 ((x144 : Int) == (isub .i64 x18 1)) [(0, .slice a2 x1.length c3), (1, .int .i64 x4), (8, .int .i64 x18), (9, .int .u64 (isub .u64 (ishl .u64 1 x18) x5)), (10, .int .u64 x143), (11, .int .i64 x144), (35, .bool (((x144 : Int) == (isub .i64 x18 1)) && (decide (x143 < (isub .u64 (ishl .u64 1 x18) x5)))))] (fun h193 => ?_) (fun h193 => ?_) ?_))))))))))))
 exact qw (os := _) rfl (zj (k := 31) rfl h193 (qc rfl rfl rfl (qc rfl rfl rfl (qP rfl rfl rfl rfl (qE (b := true) rfl rfl rfl rfl (qA (d := 35) (v := .bool (((x144 : Int) == (isub .i64 x18 1)) && (decide (x143 < (isub .u64 (ishl .u64 1 x18) x5))))) rfl (by rw [h193]; simp only [Bool.true_and]) (qe (qO (qh rfl (qh rfl (qh rfl (qh rfl (qh rfl (qh rfl (qh rfl q8)))))))))))))))
 exact qw (os := _) rfl (zk (k := 31) rfl h193 (qk rfl rfl rfl (qk rfl rfl rfl (qk rfl rfl rfl (qE (b := false) rfl rfl rfl rfl (qA (d := 35) (v := .bool (((x144 : Int) == (isub .i64 x18 1)) && (decide (x143 < (isub .u64 (ishl .u64 1 x18) x5))))) rfl (by rw [h193]; simp only [Bool.false_and]) (qe (qO (qh rfl (qh rfl (qh rfl (qh rfl (qh rfl (qh rfl (qh rfl q8)))))))))))))))
 refine qw (os := _) rfl (qe (qd (qy rfl (fun h204 => ?_) (fun h204 => ?_))))
 refine qf (qa (qc rfl rfl rfl (qc rfl rfl rfl (qc rfl rfl rfl (qD rfl rfl rfl rfl (qb rfl rfl rfl (qb rfl rfl rfl (qe (qd (qr (qn (qR ?_))))))))))))
 exact qn (qn (qR (qn (qm () (res2 rfl rfl rfl)))))
 refine ql (qd (qf (qf (qa (qc rfl rfl rfl (qc rfl rfl rfl (zu rfl rfl rfl rfl (qe (qd (qy rfl (fun h203 => ?_) (fun h203 => ?_)))))))))))
 refine qf (qa (qc rfl rfl rfl (qc rfl rfl rfl (zd rfl rfl rfl rfl (qc rfl rfl rfl (qc rfl rfl rfl (qD rfl rfl rfl rfl (qb rfl rfl rfl (yf (fun x196 e196 => qA (d := 6) (v := .int .u64 x196) rfl (by rw [e196] <;> rfl) (qb rfl rfl rfl (qe ?_))))))))))))
 exact qd (qr (qn (qR (qn (qn (qR (qn (qm () (res2 rfl rfl rfl)))))))))
 refine ql (qd (qf (qf (qa (qc rfl rfl rfl (qc rfl rfl rfl (qD rfl rfl rfl rfl (qc rfl rfl rfl (qN rfl Tryz.underlying22 rfl rfl (jl rfl rfl rfl rfl (qe (qd ?_))))))))))))
 refine qy rfl (fun h202 => ?_) (fun h202 => ?_)
 refine qf (qa (qb rfl rfl rfl (qb rfl rfl rfl (qe (qd (qr (qn (qR (qn (qn (qR (qn ?_))))))))))))
 exact qm () (res2 rfl rfl rfl)
 refine ql (qd (qa (qc rfl rfl rfl (qdp rfl rfl rfl rfl (qc rfl rfl rfl (qc rfl rfl rfl (qc rfl rfl rfl (qD rfl rfl rfl rfl (q7 (j := 0) (qL .i64) (by decide) rfl Tryz.underlying22 tf3 rfl rfl rfl rfl (fun x198 e198 b199 o200 => zl (j := 0) rfl rfl tf3 rfl rfl (fun _ => rfl) rfl rfl (q9 rfl Tryz.underlying3 Tryz.underlying72 rfl rfl (qD rfl rfl rfl rfl ?_))))))))))))
 exact qb rfl rfl rfl (yf (fun x201 e201 => qA (d := 10) (v := .int .u64 x201) rfl (by rw [e201] <;> rfl) (qe (qH (qd (qa (qc rfl rfl rfl (qD rfl rfl rfl rfl (qb rfl rfl rfl (qe (qG ((x201, iadd .i64 x144 1), ()) (hF := (qi 1 rfl qu)))))))))))))
 exact qS (qx (qx (qT (qj ((), ())))))
 rintro ⟨_, _⟩
 try dsimp only
 exact qf (qa (qb rfl rfl rfl (qb rfl rfl rfl (qe (qd (qr (qm () (res2 rfl rfl rfl))))))))
set_option maxHeartbeats 4000000 in
theorem qjD (F : Nat) (x1 : List Int) (a2 : Option Addr) (c3 : Nat) (x4 : Int) (x5 : Int) (r : (Int × Int × Int)) (hm : qdi F x1 x4 x5 = some r) :
    Pure Tryz.prog 67 [.slice a2 x1.length c3, .int .i64 x4, .int .i64 x5] [Sl (eI .i64) 1 (.slice a2 x1.length c3) x1] Unit (fun _ => .tuple #[.int .u64 r.1, .int .i64 r.2.1, .int .i64 r.2.2]) (fun _ => []) (fun _ => []) := by
 refine qQ Tryz.func67 rfl Tryz.ntmps67 rfl hm (fun w => qF (l' := [(0, .slice a2 x1.length c3), (1, .int .i64 x4), (2, .int .i64 x5)]) rfl (qf (qa (qb rfl rfl rfl (qb rfl rfl rfl (qb rfl rfl rfl (qe (qd (qf (qa (qc rfl rfl rfl (qc rfl rfl rfl ?_))))))))))))
 refine qv ent65 rfl rfl rfl (fun x6 e6 => qfR F x1 a2 c3 x4 x6 e6) (.consF 0 rfl .nil) (fun x6 e6 _ => qc rfl rfl rfl (qq rfl rfl rfl rfl (qq rfl rfl rfl rfl (qb rfl rfl rfl (qb rfl rfl rfl (qe (qd (qf (qf (qa (qc rfl rfl rfl (qP rfl rfl rfl rfl ?_))))))))))))
 refine qe (qd (qy rfl (fun h49 => ?_) (fun h49 => ?_)))
 exact qf (qa (qb rfl rfl rfl (qb rfl rfl rfl (qb rfl rfl rfl (qe (qd (qr (qn (qm () (res3 rfl rfl rfl rfl))))))))))
 refine ql (qd (qf (qf (qa (qc rfl rfl rfl (jl rfl rfl rfl rfl (qc rfl rfl rfl (zH 6 (decide (41 ≤ x6.1)) [(0, .slice a2 x1.length c3), (2, .int .i64 x5), (9, .int .u64 x6.1), (10, .int .i64 x6.2), (30, .bool ((decide (41 ≤ x6.1)) || (decide (41 ≤ (imul .i64 (iconv .i64 x6.1) x5)))))] (fun h10 => ?_) (fun h10 => ?_) ?_))))))))
 exact qw (os := _) rfl (zj (k := 24) rfl h10 (qk rfl rfl rfl (qk rfl rfl rfl (qk rfl rfl rfl (qk rfl rfl rfl (qk rfl rfl rfl (qE (b := true) rfl rfl rfl rfl (qA (d := 30) (v := .bool ((decide (41 ≤ x6.1)) || (decide (41 ≤ (imul .i64 (iconv .i64 x6.1) x5))))) rfl (by rw [h10]; simp only [Bool.true_or]) (qe (qO (qh rfl (qh rfl (qh rfl (qh rfl (qh rfl q8)))))))))))))))
 exact qw (os := _) rfl (zk (k := 24) rfl h10 (qc rfl rfl rfl (q9 rfl Tryz.underlying72 Tryz.underlying3 rfl rfl (qc rfl rfl rfl (qdp rfl rfl rfl rfl (jl rfl rfl rfl rfl (qE (b := false) rfl rfl rfl rfl (qA (d := 30) (v := .bool ((decide (41 ≤ x6.1)) || (decide (41 ≤ (imul .i64 (iconv .i64 x6.1) x5))))) rfl (by rw [h10]; simp only [Bool.false_or]) (qe (qO (qh rfl (qh rfl (qh rfl (qh rfl (qh rfl q8)))))))))))))))
 refine qw (os := _) rfl (qe (qd (qy rfl (fun h48 => ?_) (fun h48 => ?_))))
 exact qf (qa (qb rfl rfl rfl (qb rfl rfl rfl (qb rfl rfl rfl (qe (qd (qr (qn (qm () (res3 rfl rfl rfl rfl))))))))))
 refine ql (qd (qf (qa (qb rfl rfl rfl (qe (qd (qC (fun ((x26, _) : (Int × Unit)) => [(0, .slice a2 x1.length c3), (2, .int .i64 x5), (10, .int .i64 x6.2), (11, .int .u64 x26)]) (fun ((x26, _) : (Int × Unit)) => []) (fun ((x26, _) : (Int × Unit)) => []) (fun ((x26, _) : (Int × Unit)) => [Sl (eI .i64) 1 (.slice a2 x1.length c3) x1]) (fun ((x26, _) : (Int × Unit)) => qdf F x1 x5 x6 x26) ?_ ?_)))))))
 refine qf (qa (qb rfl rfl rfl (qe (qd (qt (qM (fun (((x37, x38), _) : ((Int × Int) × Unit)) => [(0, .slice a2 x1.length c3), (2, .int .i64 x5), (9, .int .u64 x6.1), (10, .int .i64 x6.2), (11, .int .u64 x37), (12, .int .u64 x38)]) (fun (((x37, x38), _) : ((Int × Int) × Unit)) => []) (fun (((x37, x38), _) : ((Int × Int) × Unit)) => []) (fun (((x37, x38), _) : ((Int × Int) × Unit)) => [Sl (eI .i64) 1 (.slice a2 x1.length c3) x1]) (fun k (s : ((Int × Int) × Unit)) => vK F x1 x5 x6 k s.1) ((1, 0), ()) F ?_ (hF := (qi 0 rfl qu))))))))
 intro k43
 rintro ⟨⟨x37, x38⟩, _⟩
 try dsimp only
 refine qZ (m' := qbI F x1 x5 x6 (vK F x1 x5 x6 k43) x37 x38) rfl (qf (qf (qa (qc rfl rfl rfl (qc rfl rfl rfl (qP rfl rfl rfl rfl (qe (qd (qy rfl (fun h47 => ?_) (fun h47 => ?_))))))))))
 refine ql (qd (qf (qt (qa (qc rfl rfl rfl (qc rfl rfl rfl (vY (fun h46 => qa5 rfl rfl rfl rfl h46 (qb rfl rfl rfl (qe (qH (qd ?_))))))))))))
 exact qa (qc rfl rfl rfl (qD rfl rfl rfl rfl (qb rfl rfl rfl (qe (qG ((ishl .u64 x37 x5, iadd .u64 x38 1), ()) (hF := (qi 0 rfl qu)))))))
 exact qS (qx (qx (qT (qj (x37, ()) (hF := (qi 0 rfl qu))))))
 rintro ⟨x26, _⟩
 try dsimp only
 refine qf (qa (qc rfl rfl rfl (qc rfl rfl rfl (qc rfl rfl rfl (qc rfl rfl rfl (vY (fun h27 => qa5 rfl rfl rfl rfl h27 (qc rfl rfl rfl (zd rfl rfl rfl rfl (qv ent92 rfl rfl rfl (fun x28 e28 => qiw F x1 a2 c3 x6.2 (isub .u64 (ishl .u64 x26 x5) x26) x28 e28) (.consF 0 rfl .nil) (fun x28 e28 => ?_)))))))))))
 intro _
 refine qc rfl rfl rfl (qq rfl rfl rfl rfl (qq rfl rfl rfl rfl (qb rfl rfl rfl (qb rfl rfl rfl (qe (qd (qf (qf (qa (qc rfl rfl rfl (qP rfl rfl rfl rfl (qe ?_))))))))))))
 refine qd (qy rfl (fun h32 => ?_) (fun h32 => ?_))
 exact qf (qa (qb rfl rfl rfl (qb rfl rfl rfl (qb rfl rfl rfl (qe (qd (qr (qn (qm () (res3 rfl rfl rfl rfl))))))))))
 refine ql (qd (qf (qf (qa (qc rfl rfl rfl (qc rfl rfl rfl (qD rfl rfl rfl rfl (zd rfl rfl rfl rfl (zi rfl rfl rfl rfl (qe (qd (qy rfl (fun h31 => ?_) (fun h31 => ?_)))))))))))))
 exact qf (qa (qb rfl rfl rfl (qb rfl rfl rfl (qb rfl rfl rfl (qe (qd (qr (qn (qm () (res3 rfl rfl rfl rfl))))))))))
 refine ql (qd (qf (qa (qc rfl rfl rfl (qc rfl rfl rfl (qD rfl rfl rfl rfl (zd rfl rfl rfl rfl (qc rfl rfl rfl (qb rfl rfl rfl (qb rfl rfl rfl (qb rfl rfl rfl (qe ?_))))))))))))
 exact qd (qr (qm () (res3 rfl rfl rfl rfl)))
theorem qjP (F : Nat) (x1 : List Int) (a2 : Option Addr) (c3 : Nat) (x4 : Int) (x5 : Int) (x6 : Int) (x7 : Int) (r : (List Int × Int × Int)) (hm : qeS F x1 x4 x5 x6 x7 = some r) :
    Pure Tryz.prog 48 [.slice a2 x1.length c3, .int .i64 x4, .int .i64 x5, .int .i64 x6, .int .i64 x7] [Sl (eI .i64) 1 (.slice a2 x1.length c3) x1] (Option Addr × Nat) (fun g => .tuple #[.slice g.1 r.1.length g.2, .int .i64 r.2.1, .int .i64 r.2.2]) (fun g => [Ro (eI .i64) 3 1 (.slice g.1 r.1.length g.2) r.1]) (fun _ => []) := by
 refine qQ Tryz.func48 rfl Tryz.ntmps48 rfl hm (fun w => qF (l' := [(0, .slice a2 x1.length c3), (1, .int .i64 x4), (2, .int .i64 x5), (3, .int .i64 x6), (4, .int .i64 x7)]) rfl (qf (qa (qb rfl rfl rfl (qb rfl rfl rfl (qb rfl rfl rfl (qe (qd (qf (qa (qb rfl rfl rfl (qe ?_))))))))))))
 refine qd (qC (fun (((x56, x59), (a57, c58)) : ((Int × List Int) × (Option Addr × Nat))) => [(1, .int .i64 x56), (13, .slice a57 x59.length c58)]) (fun (((x56, x59), (a57, c58)) : ((Int × List Int) × (Option Addr × Nat))) => []) (fun (((x56, x59), (a57, c58)) : ((Int × List Int) × (Option Addr × Nat))) => [Ro (eI .i64) 3 1 (.slice a57 x59.length c58) x59]) (fun (((x56, x59), (a57, c58)) : ((Int × List Int) × (Option Addr × Nat))) => []) (fun (((x56, x59), _) : ((Int × List Int) × (Option Addr × Nat))) => qde F x56 x59) ?_ ?_)
 refine qt (zS Int (eI .i64) 3 1 (qM (fun (((x75, x76, x79), (a77, c78)) : ((Int × Int × List Int) × (Option Addr × Nat))) => [(0, .slice a2 x1.length c3), (1, .int .i64 x75), (2, .int .i64 x76), (3, .int .i64 x6), (4, .int .i64 x7), (13, .slice a77 x79.length c78)]) (fun (((x75, x76, x79), (a77, c78)) : ((Int × Int × List Int) × (Option Addr × Nat))) => []) (fun (((x75, x76, x79), (a77, c78)) : ((Int × Int × List Int) × (Option Addr × Nat))) => [Ro (eI .i64) 3 1 (.slice a77 x79.length c78) x79]) (fun (((x75, x76, x79), (a77, c78)) : ((Int × Int × List Int) × (Option Addr × Nat))) => [Sl (eI .i64) 1 (.slice a2 x1.length c3) x1]) (fun k (s : ((Int × Int × List Int) × (Option Addr × Nat))) => vz F x1 x6 x7 k s.1) ((x4, x5, ([] : List Int)), (none, 0)) F ?_ (hR := (.cons 0 rfl .nil)) (hF := (qi 0 rfl qu))))
 intro k93
 rintro ⟨⟨x75, x76, x79⟩, ⟨a77, c78⟩⟩
 try dsimp only
 refine qZ (m' := qbN F x1 x6 x7 (vz F x1 x6 x7 k93) x75 x76 x79) rfl (qf (qf (qa (qc rfl rfl rfl (qN rfl Tryz.underlying22 rfl rfl (qc rfl rfl rfl (qP rfl rfl rfl rfl (qe (qd (qy rfl (fun h106 => ?_) (fun h106 => ?_)))))))))))
 refine ql (qd (qt (qf (qa (qc rfl rfl rfl (qc rfl rfl rfl (qc rfl rfl rfl (qv ent67 rfl rfl rfl (fun x95 e95 => qjD F x1 a2 c3 x75 x6 x95 e95) (.consF 0 rfl .nil) (fun x95 e95 => ?_)))))))))
 intro _
 refine qc rfl rfl rfl (qq rfl rfl rfl rfl (qq rfl rfl rfl rfl (qq rfl rfl rfl rfl (qb rfl rfl rfl (qb rfl rfl rfl (qb rfl rfl rfl (qe (qd (qf (qf (qa (qc rfl rfl rfl ?_))))))))))))
 refine kD rfl rfl rfl rfl (qe (qd (qy rfl (fun h105 => ?_) (fun h105 => ?_))))
 refine qf (qa (qc rfl rfl rfl (qb rfl rfl rfl (qb rfl rfl rfl (qb rfl rfl rfl (qe (qd (qr (qn (qR (qn (qR ?_))))))))))))
 exact qn (qU Int (eI .i64) 3 1 (qm (none, 0) (res3 rfl rfl rfl rfl) (fun h => by subst h; exact (.cons 0 rfl .nil))))
 refine ql (qd (qf (qa (qc rfl rfl rfl (qc rfl rfl rfl (qc rfl rfl rfl (qN rfl Tryz.underlying22 rfl rfl (zu rfl rfl rfl rfl (qv ent47 rfl rfl rfl (fun x97 e97 => qhc F x95.1 x76 (((x79.length : Int) : Int) == 0) x97 e97) .nil (fun x97 e97 => ?_))))))))))
 intro _
 refine qb rfl rfl rfl (qe (qd (qf (qf (qa (qc rfl rfl rfl (qP rfl rfl rfl rfl (qe (qd (qy rfl (fun h104 => ?_) (fun h104 => ?_)))))))))))
 refine qf (qa (qb rfl rfl rfl (qb rfl rfl rfl (qb rfl rfl rfl (qe (qd (qr (qn (qR (qn (qR (qn ?_))))))))))))
 exact qU Int (eI .i64) 3 1 (qm (none, 0) (res3 rfl rfl rfl rfl) (fun h => by subst h; exact (.cons 0 rfl .nil)))
 refine ql (qd (qf (qa (qc rfl rfl rfl (qc rfl rfl rfl (zE (vs := [.int .i64 x97]) (ys := ([x97] : List Int)) (qL .i64) (by decide) rfl Tryz.underlying22 tf3 rfl rfl rfl rfl rfl (by decide) (fun a99 c100 => zy 1 (qL .i64) rfl Tryz.underlying22 tf3 rfl rfl rfl rfl rfl (.inl ⟨0, _, rfl⟩) rfl rfl (fun x101 e101 a102 c103 => qb rfl rfl rfl (qe (qd (qf (qa ?_))))))))))))
 exact qc rfl rfl rfl (qb rfl rfl rfl (qe (qd (qa (qc rfl rfl rfl (qb rfl rfl rfl (qe (qH (qG ((x95.2.1, x97, x101), (a102, c103)) (hR := (.cons 0 rfl .nil)) (hF := (qi 0 rfl qu)))))))))))
 exact qS (qx (qx (qT (qj ((x75, x79), (a77, c78)) (hR := (.cons 0 rfl .nil))))))
 rintro ⟨⟨x56, x59⟩, ⟨a57, c58⟩⟩
 try dsimp only
 exact qf (qa (qc rfl rfl rfl (qc rfl rfl rfl (qb rfl rfl rfl (qb rfl rfl rfl (qb rfl rfl rfl (qe (qd (qr (qm (a57, c58) (res3 rfl rfl rfl rfl) (fun h => by subst h; exact (.cons 0 rfl .nil))))))))))))
set_option maxHeartbeats 4000000 in
theorem qmq (F : Nat) (x1 : List Int) (a2 : Option Addr) (c3 : Nat) (r : List Int) (hm : qeI F x1 = some r) :
    Pure Tryz.prog 49 [.slice a2 x1.length c3] [Sl (eI .i64) 1 (.slice a2 x1.length c3) x1] (Option Addr × Nat) (fun g => .slice g.1 r.length g.2) (fun g => [Ro (eI .i64) 3 1 (.slice g.1 r.length g.2) r]) (fun _ => []) := by
  refine qQ Tryz.func49 rfl Tryz.ntmps49 rfl hm (fun w => ?_)
  refine qF (l' := [(0, .slice a2 x1.length c3)]) rfl ?_
  refine qf ?_
  refine qa ?_
  refine qb rfl rfl rfl ?_
  refine qe ?_
  refine qd ?_
  refine qf ?_
  refine qa ?_
  refine qb rfl rfl rfl ?_
  refine qe ?_
  refine qd ?_
  refine qC (fun ((x1812, (a1810, c1811)) : (List Int × (Option Addr × Nat))) => [(3, .slice a1810 x1812.length c1811)]) (fun ((x1812, (a1810, c1811)) : (List Int × (Option Addr × Nat))) => []) (fun ((x1812, (a1810, c1811)) : (List Int × (Option Addr × Nat))) => [Ro (eI .i64) 3 1 (.slice a1810 x1812.length c1811) x1812]) (fun ((x1812, (a1810, c1811)) : (List Int × (Option Addr × Nat))) => []) (fun ((x1812, _) : (List Int × (Option Addr × Nat))) => qdO F x1812) ?_ ?_
  · refine qf ?_
    refine qa ?_
    refine qb rfl rfl rfl ?_
    refine qe ?_
    refine qd ?_
    refine qt ?_
    refine zS Int (eI .i64) 3 1 ?_
    refine qM (fun (((x2422, x2423), (a2420, c2421)) : ((List Int × Int) × (Option Addr × Nat))) => [(0, .slice a2 x1.length c3), (3, .slice a2420 x2422.length c2421), (4, .int .i64 x2423)]) (fun (((x2422, x2423), (a2420, c2421)) : ((List Int × Int) × (Option Addr × Nat))) => []) (fun (((x2422, x2423), (a2420, c2421)) : ((List Int × Int) × (Option Addr × Nat))) => [Ro (eI .i64) 3 1 (.slice a2420 x2422.length c2421) x2422]) (fun (((x2422, x2423), (a2420, c2421)) : ((List Int × Int) × (Option Addr × Nat))) => [Sl (eI .i64) 1 (.slice a2 x1.length c3) x1]) (fun k (s : ((List Int × Int) × (Option Addr × Nat))) => zJ F x1 k s.1) ((([] : List Int), 0), (none, 0)) F ?_ (hR := (.cons 0 rfl .nil)) (hF := (qi 0 rfl qu))
    intro k3021
    rintro ⟨⟨x2422, x2423⟩, ⟨a2420, c2421⟩⟩
    try dsimp only
    refine qZ (m' := qbx F x1 (zJ F x1 k3021) x2422 x2423) rfl ?_
    refine qf ?_
    refine qf ?_
    refine qa ?_
    refine qc rfl rfl rfl ?_
    refine qc rfl rfl rfl ?_
    refine qN rfl Tryz.underlying22 rfl rfl ?_
    refine qP rfl rfl rfl rfl ?_
    refine qe ?_
    refine qd ?_
    refine qy rfl (fun h3618 => ?_) (fun h3618 => ?_)
    · refine ql ?_
      refine qd ?_
      refine qC (fun ((x3321, (a3319, c3320)) : (List Int × (Option Addr × Nat))) => [(0, .slice a2 x1.length c3), (3, .slice a3319 x3321.length c3320), (4, .int .i64 x2423)]) (fun ((x3321, (a3319, c3320)) : (List Int × (Option Addr × Nat))) => []) (fun ((x3321, (a3319, c3320)) : (List Int × (Option Addr × Nat))) => [Ro (eI .i64) 3 1 (.slice a3319 x3321.length c3320) x3321]) (fun ((x3321, (a3319, c3320)) : (List Int × (Option Addr × Nat))) => [Sl (eI .i64) 1 (.slice a2 x1.length c3) x1]) (fun ((x3321, _) : (List Int × (Option Addr × Nat))) => j8 F (zJ F x1 k3021) x2423 x3321) ?_ ?_
      · refine qt ?_
        refine qf ?_
        refine qa ?_
        refine qc rfl rfl rfl ?_
        refine qN rfl Tryz.underlying22 rfl rfl ?_
        refine qb rfl rfl rfl ?_
        refine qe ?_
        refine qd ?_
        refine qC (fun ((x3444, _) : (Int × Unit)) => [(0, .slice a2 x1.length c3), (3, .slice a2420 x2422.length c2421), (4, .int .i64 x2423), (5, .int .i64 x3444)]) (fun ((x3444, _) : (Int × Unit)) => []) (fun ((x3444, _) : (Int × Unit)) => [Ro (eI .i64) 3 1 (.slice a2420 x2422.length c2421) x2422]) (fun ((x3444, _) : (Int × Unit)) => [Sl (eI .i64) 1 (.slice a2 x1.length c3) x1]) (fun ((x3444, _) : (Int × Unit)) => qbA F (zJ F x1 k3021) x1 x2422 x2423 x3444) ?_ ?_
        · refine qt ?_
          refine qM (fun ((x3536, _) : (Int × Unit)) => [(0, .slice a2 x1.length c3), (3, .slice a2420 x2422.length c2421), (4, .int .i64 x2423), (5, .int .i64 x3536)]) (fun ((x3536, _) : (Int × Unit)) => []) (fun ((x3536, _) : (Int × Unit)) => [Ro (eI .i64) 3 1 (.slice a2420 x2422.length c2421) x2422]) (fun ((x3536, _) : (Int × Unit)) => [Sl (eI .i64) 1 (.slice a2 x1.length c3) x1]) (fun k (s : (Int × Unit)) => yY F (zJ F x1 k3021) x1 x2422 x2423 k s.1) ((x2422.length : Int), ()) F ?_ (hR := (.cons 0 rfl .nil)) (hF := (qi 0 rfl qu))
          intro k3577
          rintro ⟨x3536, _⟩
          try dsimp only
          refine qZ (m' := qbK F (zJ F x1 k3021) x1 x2422 x2423 (yY F (zJ F x1 k3021) x1 x2422 x2423 k3577) x3536) rfl ?_
          refine qf ?_
          refine qC (fun ((x3607, _) : (Bool × Unit)) => [(0, .slice a2 x1.length c3), (3, .slice a2420 x2422.length c2421), (4, .int .i64 x2423), (5, .int .i64 x3536), (27, .bool x3607)]) (fun ((x3607, _) : (Bool × Unit)) => []) (fun ((x3607, _) : (Bool × Unit)) => [Ro (eI .i64) 3 1 (.slice a2420 x2422.length c2421) x2422]) (fun ((x3607, _) : (Bool × Unit)) => [Sl (eI .i64) 1 (.slice a2 x1.length c3) x1]) (fun ((x3607, _) : (Bool × Unit)) => qbG F (zJ F x1 k3021) (yY F (zJ F x1 k3021) x1 x2422 x2423 k3577) x1 x2422 x2423 x3536 x3607) ?_ ?_
          · refine qdv (fun h3609 => ?_) (fun h3609 => ?_)
            · refine qdB (j := 0) rfl (fun x3610 e3610 g3611 h3612 => ?_)
              replace h3612 : a2420 = some ⟨g3611, 0, none⟩ := h3612
              have h3613 := qfo (k := x2422.length) (c := c2421) h3612
              refine vm (j := 0) (qL .i64) (by decide) rfl (fun x3614 e3614 b3615 o3616 h3617 => ?_)
              replace h3617 : a2 = some ⟨b3615, o3616, none⟩ := h3617
              refine zP mixed [] [] [zG b3615 (o3616 + x2423.toNat * 1) ((eI .i64) x3614), Sl (eI .i64) 1 (.slice a2 x1.length c3) x1, zG g3611 ((isub .i64 x3536 1).toNat * 1) ((eI .i64) x3610)] .nil (qW 0 rfl (qW 1 rfl (qgc 0 rfl (qbQ (qL .i64) e3610 h3612) qV))) 14 rfl ?_
              refine qg 0 (.int .i64 x3536) rfl rfl rfl (qs rfl) ?_
              refine qg 1 (.bool (decide (0 < x3536))) rfl rfl rfl (qs rfl) ?_
              refine qg 2 (.bool (decide (0 < x3536))) rfl rfl rfl (qs rfl) ?_
              refine qJ (d := 16) (v := .bool true) rfl (by rw [h3609] <;> rfl) ?_
              refine qg 3 (.slice a2420 x2422.length c2421) rfl rfl rfl (qs rfl) ?_
              refine qg 4 (.int .i64 x3536) rfl rfl rfl (qs rfl) ?_
              refine qg 5 (.int .i64 (isub .i64 x3536 1)) rfl rfl rfl (qs rfl) ?_
              refine qJ (d := 17) (v := .slice (some ⟨g3611, 0, none⟩) x2422.length c2421) rfl (by rw [h3612] <;> rfl) ?_
              refine qg 6 (.pointer (some ⟨g3611, (isub .i64 x3536 1).toNat * 1, none⟩)) rfl rfl rfl (qe1 Tryz.underlying22 tf3 rfl rfl (zW e3610).1 (vx e3610)) ?_
              refine qJ (d := 17) (v := .slice a2420 x2422.length c2421) rfl (by rw [h3612] <;> rfl) ?_
              refine z8 7 (.int .i64 x3610) [] rfl rfl rfl (yC (j := 2) rfl tf3 rfl rfl (fun _ => rfl) rfl) ?_
              refine qg 8 (.slice a2 x1.length c3) rfl rfl rfl (qs rfl) ?_
              refine qg 9 (.int .i64 x2423) rfl rfl rfl (qs rfl) ?_
              refine qJ (d := 22) (v := .slice (some ⟨b3615, o3616, none⟩) x1.length c3) rfl (by rw [h3617] <;> rfl) ?_
              refine qg 10 (.pointer (some ⟨b3615, (o3616 + x2423.toNat * 1), none⟩)) rfl rfl rfl (qbj Tryz.underlying22 tf3 rfl rfl (zW e3614).1 (vx e3614)) ?_
              refine qJ (d := 22) (v := .slice a2 x1.length c3) rfl (by rw [h3617] <;> rfl) ?_
              refine z8 11 (.int .i64 x3614) [] rfl rfl rfl (yC (j := 0) rfl tf3 rfl rfl (fun _ => rfl) rfl) ?_
              refine qg 12 (.bool (decide (x3614 < x3610))) rfl rfl rfl (qs rfl) ?_
              refine qg 13 (.bool (decide (x3614 < x3610))) rfl rfl rfl (qs rfl) ?_
              refine zm (by kernel_rfl) ?_
              refine z7 ?_ (by intro c h; cases h)
              exact qj ((decide (x3614 < x3610)), ()) (hR := (.cons 0 rfl .nil)) (hF := (qi 1 rfl qu))
            · refine zP mixed [] [] [Sl (eI .i64) 1 (.slice a2 x1.length c3) x1] .nil (qW 0 rfl qV) 14 rfl ?_
              refine qg 0 (.int .i64 x3536) rfl rfl rfl (qs rfl) ?_
              refine qg 1 (.bool (decide (0 < x3536))) rfl rfl rfl (qs rfl) ?_
              refine qg 2 (.bool (decide (0 < x3536))) rfl rfl rfl (qs rfl) ?_
              refine qJ (d := 16) (v := .bool false) rfl (by rw [h3609] <;> rfl) ?_
              refine qB 3 rfl rfl rfl ?_
              refine qB 4 rfl rfl rfl ?_
              refine qB 5 rfl rfl rfl ?_
              refine qB 6 rfl rfl rfl ?_
              refine qB 7 rfl rfl rfl ?_
              refine qB 8 rfl rfl rfl ?_
              refine qB 9 rfl rfl rfl ?_
              refine qB 10 rfl rfl rfl ?_
              refine qB 11 rfl rfl rfl ?_
              refine qB 12 rfl rfl rfl ?_
              refine qg 13 (.bool false) rfl rfl rfl (qs rfl) ?_
              refine zm (by kernel_rfl) ?_
              refine z7 ?_ (by intro c h; cases h)
              exact qj (false, ()) (hR := (.cons 0 rfl .nil)) (hF := (qi 0 rfl qu))
          · rintro ⟨x3607, _⟩
            try dsimp only
            refine qy rfl (fun h3608 => ?_) (fun h3608 => ?_)
            · refine ql ?_
              refine qd ?_
              refine qt ?_
              refine qa ?_
              refine qc rfl rfl rfl ?_
              refine zd rfl rfl rfl rfl ?_
              refine qb rfl rfl rfl ?_
              refine qe ?_
              refine qH ?_
              exact qG (isub .i64 x3536 1, ()) (hR := (.cons 0 rfl .nil)) (hF := (qi 0 rfl qu))
            · refine qS ?_
              refine qx ?_
              refine qx ?_
              refine qT ?_
              exact qj (x3536, ()) (hR := (.cons 0 rfl .nil)) (hF := (qi 0 rfl qu))
        · rintro ⟨x3444, _⟩
          try dsimp only
          refine ql7 0 rfl ?_
          refine qkE 0 (qL .i64) rfl (fun x3445 e3445 a3446 c3447 h3448 h3449 => ?_)
          refine vm (j := 2) (qL .i64) (by decide) rfl (fun x3450 e3450 b3451 o3452 h3453 => ?_)
          replace h3453 : a2 = some ⟨b3451, o3452, none⟩ := h3453
          refine qkE 2 (qL .i64) rfl (fun x3454 e3454 a3455 c3456 h3457 h3458 => ?_)
          refine zP mixed [] [] [Sl (eI .i64) 1 (.slice a3455 x3454.length c3456) x3454, zG b3451 (o3452 + x2423.toNat * 1) ((eI .i64) x3450), Sl (eI .i64) 1 (.slice a3446 x3445.length c3447) x3445, Sl (eI .i64) 1 (.slice a2420 x2422.length c2421) x2422, Sl (eI .i64) 1 (.slice a2 x1.length c3) x1] .nil (qW 0 rfl (qW 1 rfl (qW 2 rfl (qW 3 rfl (qW 4 rfl qV))))) 16 rfl ?_
          refine qg 1 (.slice a2420 x2422.length c2421) rfl rfl rfl (qs rfl) ?_
          refine qg 2 (.int .i64 x3444) rfl rfl rfl (qs rfl) ?_
          refine qg 3 (.slice a3446 x3445.length c3447) rfl rfl rfl (qol Tryz.underlying22 tf3 rfl rfl rfl e3445 h3449 h3448) ?_
          refine qg 5 (.slice a2 x1.length c3) rfl rfl rfl (qs rfl) ?_
          refine qg 6 (.int .i64 x2423) rfl rfl rfl (qs rfl) ?_
          refine qJ (d := 35) (v := .slice (some ⟨b3451, o3452, none⟩) x1.length c3) rfl (by rw [h3453] <;> rfl) ?_
          refine qg 7 (.pointer (some ⟨b3451, (o3452 + x2423.toNat * 1), none⟩)) rfl rfl rfl (qbj Tryz.underlying22 tf3 rfl rfl (zW e3450).1 (vx e3450)) ?_
          refine qJ (d := 35) (v := .slice a2 x1.length c3) rfl (by rw [h3453] <;> rfl) ?_
          refine z8 8 (.int .i64 x3450) [] rfl rfl rfl (yC (j := 1) rfl tf3 rfl rfl (fun _ => rfl) rfl) ?_
          refine qg 11 (.slice a2420 x2422.length c2421) rfl rfl rfl (qs rfl) ?_
          refine qg 12 (.int .i64 x3444) rfl rfl rfl (qs rfl) ?_
          refine qg 13 (.slice a3455 x3454.length c3456) rfl rfl rfl (qol Tryz.underlying22 tf3 rfl rfl rfl e3454 h3458 h3457) ?_
          refine qhr 0 9 rfl rfl (by kernel_rfl) rfl rfl ?_ ?_
          · refine zE (vs := []) (ys := ([] : List Int)) (qL .i64) (by decide) rfl Tryz.underlying22 tf3 rfl rfl rfl rfl rfl (by decide) (fun a3459 c3460 => ?_)
            refine qe ?_
            refine qY .nil (qW 0 rfl (qW 1 rfl (qW 2 rfl (qW 3 rfl (qW 4 rfl qV))))) ?_
            refine qhr 4 9 rfl rfl (by kernel_rfl) rfl rfl ?_ ?_
            · refine zy 0 (qL .i64) rfl Tryz.underlying22 tf3 rfl rfl rfl rfl rfl (.inr ⟨2, rfl⟩) rfl rfl (fun x3461 e3461 a3462 c3463 => ?_)
              refine qe ?_
              refine qY .nil (qW 0 rfl (qW 1 rfl (qW 2 rfl (qW 3 rfl (qW 4 rfl qV))))) ?_
              refine q6 9 rfl (by kernel_rfl) rfl ?_
              refine zE (vs := [.int .i64 x3450]) (ys := ([x3450] : List Int)) (qL .i64) (by decide) rfl Tryz.underlying22 tf3 rfl rfl rfl rfl rfl (by decide) (fun a3464 c3465 => ?_)
              refine qe ?_
              refine qY .nil (qW 0 rfl (qW 1 rfl (qW 2 rfl (qW 3 rfl (qW 4 rfl qV))))) ?_
              refine q6 10 rfl (by kernel_rfl) rfl ?_
              refine zy 1 (qL .i64) rfl Tryz.underlying22 tf3 rfl rfl rfl rfl rfl (.inl ⟨0, _, rfl⟩) rfl rfl (fun x3466 e3466 a3467 c3468 => ?_)
              refine qe ?_
              refine qY .nil (qW 0 rfl (qW 1 rfl (qW 2 rfl (qW 3 rfl (qW 4 rfl qV))))) ?_
              refine q6 14 rfl (by kernel_rfl) rfl ?_
              refine zy 0 (qL .i64) rfl Tryz.underlying22 tf3 rfl rfl rfl rfl rfl (.inr ⟨0, rfl⟩) rfl rfl (fun x3469 e3469 a3470 c3471 => ?_)
              refine qe ?_
              refine qY .nil (qW 0 rfl (qW 1 rfl (qW 2 rfl (qW 3 rfl (qW 4 rfl qV))))) ?_
              refine qg 15 (.slice a3470 x3469.length c3471) rfl rfl rfl (qs rfl) ?_
              refine zm (by kernel_rfl) ?_
              refine z7 ?_ (by intro c h; cases h)
              refine qH ?_
              exact qj (x3469, (a3470, c3471)) (hR := (.cons 0 rfl .nil)) (hF := (qi 4 rfl qu))
            · refine qhx (m' := ((app 8796093022208 ([] : List Int) x3445).bind fun x3474 => ((app 8796093022208 x3474 ([x3450] : List Int)).bind fun x3477 => ((app 8796093022208 x3477 x3454).bind fun x3480 => j8 F (zJ F x1 k3021) x2423 x3480)))) (rfl) ?_
              refine zE (vs := [.int .i64 x3450]) (ys := ([x3450] : List Int)) (qL .i64) (by decide) rfl Tryz.underlying22 tf3 rfl rfl rfl rfl rfl (by decide) (fun a3472 c3473 => ?_)
              refine qe ?_
              refine qY .nil (qW 0 rfl (qW 1 rfl (qW 2 rfl (qW 3 rfl (qW 4 rfl qV))))) ?_
              refine q6 4 rfl (by kernel_rfl) rfl ?_
              refine zy 1 (qL .i64) rfl Tryz.underlying22 tf3 rfl rfl rfl rfl rfl (.inr ⟨2, rfl⟩) rfl rfl (fun x3474 e3474 a3475 c3476 => ?_)
              refine qe ?_
              refine qY .nil (qW 0 rfl (qW 1 rfl (qW 2 rfl (qW 3 rfl (qW 4 rfl qV))))) ?_
              refine q6 10 rfl (by kernel_rfl) rfl ?_
              refine zy 0 (qL .i64) rfl Tryz.underlying22 tf3 rfl rfl rfl rfl rfl (.inl ⟨1, _, rfl⟩) rfl rfl (fun x3477 e3477 a3478 c3479 => ?_)
              refine qe ?_
              refine qY .nil (qW 0 rfl (qW 1 rfl (qW 2 rfl (qW 3 rfl (qW 4 rfl qV))))) ?_
              refine q6 14 rfl (by kernel_rfl) rfl ?_
              refine zy 0 (qL .i64) rfl Tryz.underlying22 tf3 rfl rfl rfl rfl rfl (.inr ⟨0, rfl⟩) rfl rfl (fun x3480 e3480 a3481 c3482 => ?_)
              refine qe ?_
              refine qY .nil (qW 0 rfl (qW 1 rfl (qW 2 rfl (qW 3 rfl (qW 4 rfl qV))))) ?_
              refine qg 15 (.slice a3481 x3480.length c3482) rfl rfl rfl (qs rfl) ?_
              refine zm (by kernel_rfl) ?_
              refine z7 ?_ (by intro c h; cases h)
              refine qH ?_
              exact qj (x3480, (a3481, c3482)) (hR := (.cons 0 rfl .nil)) (hF := (qi 4 rfl qu))
          · refine qhx (m' := ((app 8796093022208 ([] : List Int) x3445).bind fun x3487 => ((app 8796093022208 x3487 ([x3450] : List Int)).bind fun x3490 => ((app 8796093022208 x3490 x3454).bind fun x3493 => j8 F (zJ F x1 k3021) x2423 x3493)))) (rfl) ?_
            refine zE (vs := [.int .i64 x3450]) (ys := ([x3450] : List Int)) (qL .i64) (by decide) rfl Tryz.underlying22 tf3 rfl rfl rfl rfl rfl (by decide) (fun a3483 c3484 => ?_)
            refine qe ?_
            refine qY .nil (qW 0 rfl (qW 1 rfl (qW 2 rfl (qW 3 rfl (qW 4 rfl qV))))) ?_
            refine q6 0 rfl (by kernel_rfl) rfl ?_
            refine zE (vs := []) (ys := ([] : List Int)) (qL .i64) (by decide) rfl Tryz.underlying22 tf3 rfl rfl rfl rfl rfl (by decide) (fun a3485 c3486 => ?_)
            refine qe ?_
            refine qY .nil (qW 0 rfl (qW 1 rfl (qW 2 rfl (qW 3 rfl (qW 4 rfl qV))))) ?_
            refine q6 4 rfl (by kernel_rfl) rfl ?_
            refine zy 0 (qL .i64) rfl Tryz.underlying22 tf3 rfl rfl rfl rfl rfl (.inr ⟨2, rfl⟩) rfl rfl (fun x3487 e3487 a3488 c3489 => ?_)
            refine qe ?_
            refine qY .nil (qW 0 rfl (qW 1 rfl (qW 2 rfl (qW 3 rfl (qW 4 rfl qV))))) ?_
            refine q6 10 rfl (by kernel_rfl) rfl ?_
            refine zy 0 (qL .i64) rfl Tryz.underlying22 tf3 rfl rfl rfl rfl rfl (.inl ⟨1, _, rfl⟩) rfl rfl (fun x3490 e3490 a3491 c3492 => ?_)
            refine qe ?_
            refine qY .nil (qW 0 rfl (qW 1 rfl (qW 2 rfl (qW 3 rfl (qW 4 rfl qV))))) ?_
            refine q6 14 rfl (by kernel_rfl) rfl ?_
            refine zy 0 (qL .i64) rfl Tryz.underlying22 tf3 rfl rfl rfl rfl rfl (.inr ⟨0, rfl⟩) rfl rfl (fun x3493 e3493 a3494 c3495 => ?_)
            refine qe ?_
            refine qY .nil (qW 0 rfl (qW 1 rfl (qW 2 rfl (qW 3 rfl (qW 4 rfl qV))))) ?_
            refine qg 15 (.slice a3494 x3493.length c3495) rfl rfl rfl (qs rfl) ?_
            refine zm (by kernel_rfl) ?_
            refine z7 ?_ (by intro c h; cases h)
            refine qH ?_
            exact qj (x3493, (a3494, c3495)) (hR := (.cons 0 rfl .nil)) (hF := (qi 4 rfl qu))
      · rintro ⟨x3321, ⟨a3319, c3320⟩⟩
        try dsimp only
        refine qa ?_
        refine qc rfl rfl rfl ?_
        refine qD rfl rfl rfl rfl ?_
        refine qb rfl rfl rfl ?_
        refine qe ?_
        exact qG ((x3321, iadd .i64 x2423 1), (a3319, c3320)) (hR := (.cons 0 rfl .nil)) (hF := (qi 0 rfl qu))
    · refine qS ?_
      refine qx ?_
      refine qx ?_
      refine qT ?_
      exact qj (x2422, (a2420, c2421)) (hR := (.cons 0 rfl .nil))
  · rintro ⟨x1812, ⟨a1810, c1811⟩⟩
    try dsimp only
    refine qf ?_
    refine qa ?_
    refine qc rfl rfl rfl ?_
    refine qb rfl rfl rfl ?_
    refine qe ?_
    refine qd ?_
    refine qr ?_
    exact qm (a1810, c1811) (res1 rfl rfl) (fun h => by subst h; exact (.cons 0 rfl .nil))
set_option maxHeartbeats 4000000 in
theorem qiv (F : Nat) (x1 : List Int) (a2 : Option Addr) (c3 : Nat) (x4 : Int) (x5 : Int) (x6 : List Int) (a7 : Option Addr) (c8 : Nat) (x9 : Int) (x10 : Int) (x11 : Int) (r : (List Int × Bool)) (hm : qcV F x1 x4 x5 x6 x9 x10 x11 = some r) :
    Pure Tryz.prog 25 [.slice a2 x1.length c3, .int .i64 x4, .int .i64 x5, .slice a7 x6.length c8, .agg #[.int .i64 x9, .int .i64 x10, .int .i64 x11]] [Sl (eI .i64) 1 (.slice a2 x1.length c3) x1, Sl (eI .i64) 1 (.slice a7 x6.length c8) x6] (Option Addr × Nat) (fun g => .tuple #[.slice g.1 r.1.length g.2, .bool r.2]) (fun g => [Ro (eI .i64) 3 1 (.slice g.1 r.1.length g.2) r.1]) (fun _ => []) := by
 refine qQ Tryz.func25 rfl Tryz.ntmps25 rfl hm (fun w => qF (l' := [(0, .slice a2 x1.length c3), (1, .int .i64 x4), (2, .int .i64 x5), (3, .slice a7 x6.length c8), (4, .agg #[.int .i64 x9, .int .i64 x10, .int .i64 x11])]) rfl (qf (qa (zp rfl rfl rfl (fun g12 => qb rfl rfl rfl (qb rfl rfl rfl (qe (qd (qf (qa (qc rfl rfl rfl (qc rfl rfl rfl ?_))))))))))))
 refine qv ent45 rfl rfl rfl (fun x13 e13 => qad F x1 a2 c3 x4 x13 e13) (.consF 0 rfl .nil) (fun x13 e13 _ => qc rfl rfl rfl (qq rfl rfl rfl rfl (qq rfl rfl rfl rfl (qq rfl rfl rfl rfl (qb rfl rfl rfl (qb rfl rfl rfl (qb rfl rfl rfl (qe (qd (qf (qf (qa ?_))))))))))))
 refine qc rfl rfl rfl (kD rfl rfl rfl rfl (qc rfl rfl rfl (zH 3 ((x13.2.2 : Int) != 0) [(0, .slice a2 x1.length c3), (1, .int .i64 x13.2.1), (2, .int .i64 x5), (3, .slice a7 x6.length c8), (9, .pointer (some ⟨g12, 0, none⟩)), (12, .int .u64 x13.1), (40, .bool (((x13.2.2 : Int) != 0) || (decide (300 < x13.1))))] (fun h16 => ?_) (fun h16 => ?_) ?_)))
 exact qw (os := _) rfl (zj (k := 37) rfl h16 (qk rfl rfl rfl (qk rfl rfl rfl (qE (b := true) rfl rfl rfl rfl (qA (d := 40) (v := .bool (((x13.2.2 : Int) != 0) || (decide (300 < x13.1)))) rfl (by rw [h16]; simp only [Bool.true_or]) (qe (qO (qh rfl (qh rfl (qh rfl (qh rfl (qh rfl (qh rfl (qh rfl q8))))))))))))))
 exact qw (os := _) rfl (zk (k := 37) rfl h16 (qc rfl rfl rfl (zi rfl rfl rfl rfl (qE (b := false) rfl rfl rfl rfl (qA (d := 40) (v := .bool (((x13.2.2 : Int) != 0) || (decide (300 < x13.1)))) rfl (by rw [h16]; simp only [Bool.false_or]) (qe (qO (qh rfl (qh rfl (qh rfl (qh rfl (qh rfl (qh rfl (qh rfl q8))))))))))))))
 refine qw (os := _) rfl (qe (qd (qy rfl (fun h1789 => ?_) (fun h1789 => ?_))))
 exact qf (qa (qb rfl rfl rfl (qb rfl rfl rfl (qe (qd (qr (qn (qU Int (eI .i64) 3 1 (qm (none, 0) (res2 rfl rfl rfl) (fun h => by subst h; exact (.cons 0 rfl .nil)))))))))))
 refine ql (qd (qf (qf (qa (qc rfl rfl rfl (zu rfl rfl rfl rfl (qe (qd (qy rfl (fun h1788 => ?_) (fun h1788 => ?_))))))))))
 exact qf (qa (qb rfl rfl rfl (qb rfl rfl rfl (qe (qd (qr (qn (qU Int (eI .i64) 3 1 (qm (none, 0) (res2 rfl rfl rfl) (fun h => by subst h; exact (.cons 0 rfl .nil)))))))))))
 refine ql (qd (qf (qa (qb rfl rfl rfl (qe (qd (qC (fun (((x217, x220), (a218, c219)) : ((Int × List Int) × (Option Addr × Nat))) => [(0, .slice a2 x1.length c3), (1, .int .i64 x217), (2, .int .i64 x5), (9, .pointer (some ⟨g12, 0, none⟩)), (12, .int .u64 x13.1), (14, .slice a218 x220.length c219)]) (fun (((x217, x220), (a218, c219)) : ((Int × List Int) × (Option Addr × Nat))) => [⟨g12, 24, [.int .i64 x9, .int .i64 x10, .int .i64 x11]⟩]) (fun (((x217, x220), (a218, c219)) : ((Int × List Int) × (Option Addr × Nat))) => [Ro (eI .i64) 3 1 (.slice a218 x220.length c219) x220]) (fun (((x217, x220), (a218, c219)) : ((Int × List Int) × (Option Addr × Nat))) => [Sl (eI .i64) 1 (.slice a2 x1.length c3) x1]) (fun (((x217, x220), _) : ((Int × List Int) × (Option Addr × Nat))) => vZ F x1 x5 x10 x11 x13 x217 x220) ?_ ?_)))))))
 refine qf (qa (qo rfl rfl qeK rfl (qp (i := 0) rfl rfl tf3 rfl rfl (fun _ => rfl) rfl rfl (zi rfl rfl rfl rfl (qe (qd (qy rfl (fun h1787 => ?_) (fun h1787 => ?_))))))))
 refine qf (qa (qb rfl rfl rfl (qe (qd (qf (qa (qc rfl rfl rfl (qc rfl rfl rfl (qv ent45 rfl rfl rfl (fun x1590 e1590 => qad F x1 a2 c3 x13.2.1 x1590 e1590) (.consF 0 rfl .nil) (fun x1590 e1590 => ?_))))))))))
 intro _
 refine qc rfl rfl rfl (qq rfl rfl rfl rfl (qq rfl rfl rfl rfl (qq rfl rfl rfl rfl (qb rfl rfl rfl (qb rfl rfl rfl (qb rfl rfl rfl (qe (qd (qf (qf (qa (qc rfl rfl rfl ?_))))))))))))
 refine kD rfl rfl rfl rfl (qc rfl rfl rfl (zH 7 ((x1590.2.2 : Int) != 0) [(0, .slice a2 x1.length c3), (1, .int .i64 x1590.2.1), (2, .int .i64 x5), (3, .slice a7 x6.length c8), (9, .pointer (some ⟨g12, 0, none⟩)), (12, .int .u64 x13.1), (15, .int .u64 x1590.1), (62, .bool (((x1590.2.2 : Int) != 0) || (decide ((iconv .u64 (iadd .i64 (x6.length : Int) 1)) < x1590.1))))] (fun h1593 => ?_) (fun h1593 => ?_) ?_))
 exact qw (os := _) rfl (zj (k := 55) rfl h1593 (qk rfl rfl rfl (qk rfl rfl rfl (qk rfl rfl rfl (qk rfl rfl rfl (qk rfl rfl rfl (qk rfl rfl rfl (qE (b := true) rfl rfl rfl rfl (qA (d := 62) (v := .bool (((x1590.2.2 : Int) != 0) || (decide ((iconv .u64 (iadd .i64 (x6.length : Int) 1)) < x1590.1)))) rfl (by rw [h1593]; simp only [Bool.true_or]) (qe (qO (qh rfl (qh rfl (qh rfl (qh rfl (qh rfl (qh rfl (qh rfl (qh rfl q8)))))))))))))))))))
 exact qw (os := _) rfl (zk (k := 55) rfl h1593 (qc rfl rfl rfl (qc rfl rfl rfl (qN rfl Tryz.underlying22 rfl rfl (qD rfl rfl rfl rfl (q9 rfl Tryz.underlying3 Tryz.underlying72 rfl rfl (zi rfl rfl rfl rfl (qE (b := false) rfl rfl rfl rfl (qA (d := 62) (v := .bool (((x1590.2.2 : Int) != 0) || (decide ((iconv .u64 (iadd .i64 (x6.length : Int) 1)) < x1590.1)))) rfl (by rw [h1593]; simp only [Bool.false_or]) (qe (qO (qh rfl (qh rfl (qh rfl (qh rfl (qh rfl (qh rfl (qh rfl (qh rfl q8)))))))))))))))))))
 refine qw (os := _) rfl (qe (qd (qy rfl (fun h1786 => ?_) (fun h1786 => ?_))))
 exact qf (qa (qb rfl rfl rfl (qb rfl rfl rfl (qe (qd (qr (qn (qn (qU Int (eI .i64) 3 1 (qm (none, 0) (res2 rfl rfl rfl) (fun h => by subst h; exact (.cons 0 rfl .nil))))))))))))
 refine ql (qd (qf (qa (qb rfl rfl rfl (qe (qd (qC (fun (((x1686, x1689), (a1687, c1688)) : ((Int × List Int) × (Option Addr × Nat))) => [(0, .slice a2 x1.length c3), (1, .int .i64 x1686), (2, .int .i64 x5), (3, .slice a7 x6.length c8), (9, .pointer (some ⟨g12, 0, none⟩)), (12, .int .u64 x13.1), (16, .slice a1687 x1689.length c1688)]) (fun (((x1686, x1689), (a1687, c1688)) : ((Int × List Int) × (Option Addr × Nat))) => [⟨g12, 24, [.int .i64 x9, .int .i64 x10, .int .i64 x11]⟩]) (fun (((x1686, x1689), (a1687, c1688)) : ((Int × List Int) × (Option Addr × Nat))) => [Ro (eI .i64) 3 1 (.slice a1687 x1689.length c1688) x1689]) (fun (((x1686, x1689), (a1687, c1688)) : ((Int × List Int) × (Option Addr × Nat))) => [Sl (eI .i64) 1 (.slice a2 x1.length c3) x1, Sl (eI .i64) 1 (.slice a7 x6.length c8) x6]) (fun (((x1686, x1689), _) : ((Int × List Int) × (Option Addr × Nat))) => vX F x1 x5 x6 x10 x11 x13 x1686 x1689) ?_ ?_)))))))
 refine qf (qa (qb rfl rfl rfl (qe (qd (qt (zS Int (eI .i64) 3 1 (qM (fun (((x1724, x1727, x1728), (a1725, c1726)) : ((Int × List Int × Int) × (Option Addr × Nat))) => [(0, .slice a2 x1.length c3), (1, .int .i64 x1724), (2, .int .i64 x5), (3, .slice a7 x6.length c8), (9, .pointer (some ⟨g12, 0, none⟩)), (12, .int .u64 x13.1), (15, .int .u64 x1590.1), (16, .slice a1725 x1727.length c1726), (17, .int .u64 x1728)]) (fun (((x1724, x1727, x1728), (a1725, c1726)) : ((Int × List Int × Int) × (Option Addr × Nat))) => [⟨g12, 24, [.int .i64 x9, .int .i64 x10, .int .i64 x11]⟩]) (fun (((x1724, x1727, x1728), (a1725, c1726)) : ((Int × List Int × Int) × (Option Addr × Nat))) => [Ro (eI .i64) 3 1 (.slice a1725 x1727.length c1726) x1727]) (fun (((x1724, x1727, x1728), (a1725, c1726)) : ((Int × List Int × Int) × (Option Addr × Nat))) => [Sl (eI .i64) 1 (.slice a2 x1.length c3) x1, Sl (eI .i64) 1 (.slice a7 x6.length c8) x6]) (fun k (s : ((Int × List Int × Int) × (Option Addr × Nat))) => kP F x1 x5 x6 x10 x11 x13 x1590 k s.1) ((x1590.2.1, ([] : List Int), 0), (none, 0)) F ?_ (hB := (.cons 0 rfl .nil)) (hR := (.cons 0 rfl .nil)) (hF := (qi 0 rfl (qi 1 rfl qu))))))))))
 intro k1757
 rintro ⟨⟨x1724, x1727, x1728⟩, ⟨a1725, c1726⟩⟩
 try dsimp only
 refine qZ (m' := qax F x1 x5 x6 x10 x11 x13 x1590 (kP F x1 x5 x6 x10 x11 x13 x1590 k1757) x1724 x1727 x1728) rfl (qf (qf (qa (qc rfl rfl rfl (qc rfl rfl rfl (qP rfl rfl rfl rfl (qe (qd (qy rfl (fun h1785 => ?_) (fun h1785 => ?_))))))))))
 refine ql (qd (qf (qt (qf (qa (qb rfl rfl rfl (qe (qd (qf (qa (qc rfl rfl rfl (qc rfl rfl rfl ?_))))))))))))
 refine qv ent45 rfl rfl rfl (fun x1772 e1772 => qad F x1 a2 c3 x1724 x1772 e1772) (.consF 0 rfl .nil) (fun x1772 e1772 _ => qc rfl rfl rfl (qq rfl rfl rfl rfl (qq rfl rfl rfl rfl (qq rfl rfl rfl rfl (qb rfl rfl rfl (qb rfl rfl rfl (qb rfl rfl rfl (qe (qd (qf (qf (qa ?_))))))))))))
 refine qc rfl rfl rfl (kD rfl rfl rfl rfl (qc rfl rfl rfl (zH 3 ((x1772.2.2 : Int) != 0) [(0, .slice a2 x1.length c3), (1, .int .i64 x1772.2.1), (2, .int .i64 x5), (3, .slice a7 x6.length c8), (9, .pointer (some ⟨g12, 0, none⟩)), (12, .int .u64 x13.1), (15, .int .u64 x1590.1), (16, .slice a1725 x1727.length c1726), (17, .int .u64 x1728), (18, .int .u64 x1772.1), (80, .bool (((x1772.2.2 : Int) != 0) || (decide (1000 < x1772.1))))] (fun h1775 => ?_) (fun h1775 => ?_) ?_)))
 exact qw (os := _) rfl (zj (k := 77) rfl h1775 (qk rfl rfl rfl (qk rfl rfl rfl (qE (b := true) rfl rfl rfl rfl (qA (d := 80) (v := .bool (((x1772.2.2 : Int) != 0) || (decide (1000 < x1772.1)))) rfl (by rw [h1775]; simp only [Bool.true_or]) (qe (qO (qh rfl (qh rfl (qh rfl (qh rfl (qh rfl (qh rfl (qh rfl (qh rfl (qh rfl (qh rfl (qh rfl q8))))))))))))))))))
 exact qw (os := _) rfl (zk (k := 77) rfl h1775 (qc rfl rfl rfl (zi rfl rfl rfl rfl (qE (b := false) rfl rfl rfl rfl (qA (d := 80) (v := .bool (((x1772.2.2 : Int) != 0) || (decide (1000 < x1772.1)))) rfl (by rw [h1775]; simp only [Bool.false_or]) (qe (qO (qh rfl (qh rfl (qh rfl (qh rfl (qh rfl (qh rfl (qh rfl (qh rfl (qh rfl (qh rfl (qh rfl q8))))))))))))))))))
 refine qw (os := _) rfl (qe (qd (qy rfl (fun h1784 => ?_) (fun h1784 => ?_))))
 refine qf (qa (qb rfl rfl rfl (qb rfl rfl rfl (qe (qd (qr (qn (qR (qn (qn (qR (qn ?_))))))))))))
 exact qn (qU Int (eI .i64) 3 1 (qm (none, 0) (res2 rfl rfl rfl) (fun h => by subst h; exact (.cons 0 rfl .nil))))
 refine ql (qd (qC (fun ((x1777, _) : (Int × Unit)) => [(0, .slice a2 x1.length c3), (1, .int .i64 x1772.2.1), (2, .int .i64 x5), (3, .slice a7 x6.length c8), (9, .pointer (some ⟨g12, 0, none⟩)), (12, .int .u64 x13.1), (15, .int .u64 x1590.1), (16, .slice a1725 x1727.length c1726), (17, .int .u64 x1728), (18, .int .u64 x1777)]) (fun ((x1777, _) : (Int × Unit)) => [⟨g12, 24, [.int .i64 x9, .int .i64 x10, .int .i64 x11]⟩]) (fun ((x1777, _) : (Int × Unit)) => [Ro (eI .i64) 3 1 (.slice a1725 x1727.length c1726) x1727]) (fun ((x1777, _) : (Int × Unit)) => [Sl (eI .i64) 1 (.slice a2 x1.length c3) x1, Sl (eI .i64) 1 (.slice a7 x6.length c8) x6]) (fun ((x1777, _) : (Int × Unit)) => vN F (kP F x1 x5 x6 x10 x11 x13 x1590 k1757) x1727 x1728 x1772 x1777) ?_ ?_))
 refine qf (qa (qc rfl rfl rfl (zi rfl rfl rfl rfl (qe (qd (qy rfl (fun h1783 => ?_) (fun h1783 => ?_)))))))
 exact qa (qc rfl rfl rfl (qD rfl rfl rfl rfl (qb rfl rfl rfl (qe (qj (iadd .u64 x1772.1 1, ()) (hB := (.cons 0 rfl .nil)) (hR := (.cons 0 rfl .nil)) (hF := (qi 0 rfl (qi 1 rfl qu))))))))
 exact ql (qj (x1772.1, ()) (hB := (.cons 0 rfl .nil)) (hR := (.cons 0 rfl .nil)) (hF := (qi 0 rfl (qi 1 rfl qu))))
 rintro ⟨x1777, _⟩
 try dsimp only
 refine qa (qc rfl rfl rfl (qc rfl rfl rfl (q9 rfl Tryz.underlying72 Tryz.underlying3 rfl rfl (zE (vs := [.int .i64 (iconv .i64 x1777)]) (ys := ([iconv .i64 x1777] : List Int)) (qL .i64) (by decide) rfl Tryz.underlying22 tf3 rfl rfl rfl rfl rfl (by decide) (fun a1778 c1779 => zy 1 (qL .i64) rfl Tryz.underlying22 tf3 rfl rfl rfl rfl rfl (.inl ⟨0, _, rfl⟩) rfl rfl (fun x1780 e1780 a1781 c1782 => qb rfl rfl rfl (qe (qH (qd (qa (qc rfl rfl rfl (qD rfl rfl rfl rfl ?_))))))))))))
 exact qb rfl rfl rfl (qe (qG ((x1772.2.1, x1780, iadd .u64 x1728 1), (a1781, c1782)) (hB := (.cons 0 rfl .nil)) (hR := (.cons 0 rfl .nil)) (hF := (qi 0 rfl (qi 1 rfl qu)))))
 exact qS (qx (qx (qT (qj ((x1724, x1727), (a1725, c1726)) (hB := (.cons 0 rfl .nil)) (hR := (.cons 0 rfl .nil)) (hF := (qi 0 rfl (qi 1 rfl qu)))))))
 rintro ⟨⟨x1686, x1689⟩, ⟨a1687, c1688⟩⟩
 try dsimp only
 refine qf (qa (qc rfl rfl rfl (qc rfl rfl rfl (qv ent46 rfl rfl rfl (fun x1690 e1690 => qiK F x6 a7 c8 x1689 a1687 c1688 x1690 e1690) (.consF 1 rfl (.consR 0 (Ro (eI .i64) 3 1 (.slice a1687 x1689.length c1688) x1689) rfl .nil)) (fun x1690 e1690 => ?_)))))
 rintro ⟨a1691, c1692⟩
 refine qc rfl rfl rfl (qq rfl rfl rfl rfl (qq rfl rfl rfl rfl (qb rfl rfl rfl (qb rfl rfl rfl (qe (qd (qf (qa (qc rfl rfl rfl (kD rfl rfl rfl rfl (qc rfl rfl rfl (zH 6 ((x1690.2 : Int) != 0) [(0, .slice a2 x1.length c3), (1, .int .i64 x1686), (2, .int .i64 x5), (9, .pointer (some ⟨g12, 0, none⟩)), (12, .int .u64 x13.1), (14, .slice a1691 x1690.1.length c1692), (104, .bool (((x1690.2 : Int) != 0) || (decide ((iconv .i64 x13.1) < (x1690.1.length : Int)))))] (fun h1693 => ?_) (fun h1693 => ?_) ?_))))))))))))
 exact qw (os := _) rfl (zj (k := 98) rfl h1693 (qk rfl rfl rfl (qk rfl rfl rfl (qk rfl rfl rfl (qk rfl rfl rfl (qk rfl rfl rfl (qE (b := true) rfl rfl rfl rfl (qA (d := 104) (v := .bool (((x1690.2 : Int) != 0) || (decide ((iconv .i64 x13.1) < (x1690.1.length : Int))))) rfl (by rw [h1693]; simp only [Bool.true_or]) (qe (qO (qh rfl (qh rfl (qh rfl (qh rfl (qh rfl (qh rfl (qh rfl q8)))))))))))))))))
 exact qw (os := _) rfl (zk (k := 98) rfl h1693 (qc rfl rfl rfl (qN rfl Tryz.underlying22 rfl rfl (qc rfl rfl rfl (q9 rfl Tryz.underlying72 Tryz.underlying3 rfl rfl (zi rfl rfl rfl rfl (qE (b := false) rfl rfl rfl rfl (qA (d := 104) (v := .bool (((x1690.2 : Int) != 0) || (decide ((iconv .i64 x13.1) < (x1690.1.length : Int))))) rfl (by rw [h1693]; simp only [Bool.false_or]) (qe (qO (qh rfl (qh rfl (qh rfl (qh rfl (qh rfl (qh rfl (qh rfl q8)))))))))))))))))
 refine qw (os := _) rfl (qe (qd (qy rfl (fun h1694 => ?_) (fun h1694 => ?_))))
 exact qf (qa (qb rfl rfl rfl (qb rfl rfl rfl (qe (qd (qr (qn (qU Int (eI .i64) 3 1 (qm (none, 0) (res2 rfl rfl rfl) (fun h => by subst h; exact (.cons 0 rfl .nil)))))))))))
 exact ql (qj ((x1686, x1690.1), (a1691, c1692)) (hB := (.cons 0 rfl .nil)) (hR := (.cons 0 rfl .nil)) (hF := (qi 0 rfl qu)))
 exact ql (qU Int (eI .i64) 3 1 (qj ((x13.2.1, ([] : List Int)), (none, 0)) (hB := (.cons 0 rfl .nil)) (hR := (.cons 0 rfl .nil)) (hF := (qi 0 rfl qu))))
 rintro ⟨⟨x217, x220⟩, ⟨a218, c219⟩⟩
 try dsimp only
 refine qf (qf (qa (qc rfl rfl rfl (qN rfl Tryz.underlying22 rfl rfl (qc rfl rfl rfl (q9 rfl Tryz.underlying72 Tryz.underlying3 rfl rfl (zu rfl rfl rfl rfl (qe (qd (qy rfl (fun h1589 => ?_) (fun h1589 => ?_)))))))))))
 exact qf (qa (qc rfl rfl rfl (qb rfl rfl rfl (qb rfl rfl rfl (qe (qd (qr (qn (qm (a218, c219) (res2 rfl rfl rfl) (fun h => by subst h; exact (.cons 0 rfl .nil)))))))))))
 refine ql (qd (qC (fun (((x898, x901), (a899, c900)) : ((Int × List Int) × (Option Addr × Nat))) => [(0, .slice a2 x1.length c3), (1, .int .i64 x898), (2, .int .i64 x5), (9, .pointer (some ⟨g12, 0, none⟩)), (12, .int .u64 x13.1), (14, .slice a899 x901.length c900)]) (fun (((x898, x901), (a899, c900)) : ((Int × List Int) × (Option Addr × Nat))) => [⟨g12, 24, [.int .i64 x9, .int .i64 x10, .int .i64 x11]⟩]) (fun (((x898, x901), (a899, c900)) : ((Int × List Int) × (Option Addr × Nat))) => [Ro (eI .i64) 3 1 (.slice a899 x901.length c900) x901]) (fun (((x898, x901), (a899, c900)) : ((Int × List Int) × (Option Addr × Nat))) => [Sl (eI .i64) 1 (.slice a2 x1.length c3) x1]) (fun (((x898, x901), _) : ((Int × List Int) × (Option Addr × Nat))) => vL F x1 x5 x11 x13 x898 x901) ?_ ?_))
 refine qf (qa (qo rfl rfl qbl rfl (qp (i := 0) rfl rfl tf3 rfl rfl (fun _ => rfl) rfl rfl (zi rfl rfl rfl rfl (qe (qd (qy rfl (fun h1588 => ?_) (fun h1588 => ?_))))))))
 refine qf (qa (qb rfl rfl rfl (qe (qd (qf (qa (qc rfl rfl rfl (qc rfl rfl rfl (qv ent45 rfl rfl rfl (fun x913 e913 => qad F x1 a2 c3 x217 x913 e913) (.consF 0 rfl .nil) (fun x913 e913 => ?_))))))))))
 intro _
 refine qc rfl rfl rfl (qq rfl rfl rfl rfl (qq rfl rfl rfl rfl (qq rfl rfl rfl rfl (qb rfl rfl rfl (qb rfl rfl rfl (qb rfl rfl rfl (qe (qd (qf (qf (qa (qc rfl rfl rfl ?_))))))))))))
 refine kD rfl rfl rfl rfl (qc rfl rfl rfl (zH 3 ((x913.2.2 : Int) != 0) [(0, .slice a2 x1.length c3), (1, .int .i64 x913.2.1), (2, .int .i64 x5), (9, .pointer (some ⟨g12, 0, none⟩)), (12, .int .u64 x13.1), (14, .slice a218 x220.length c219), (19, .int .u64 x913.1), (126, .bool (((x913.2.2 : Int) != 0) || (decide (300 < x913.1))))] (fun h916 => ?_) (fun h916 => ?_) ?_))
 exact qw (os := _) rfl (zj (k := 123) rfl h916 (qk rfl rfl rfl (qk rfl rfl rfl (qE (b := true) rfl rfl rfl rfl (qA (d := 126) (v := .bool (((x913.2.2 : Int) != 0) || (decide (300 < x913.1)))) rfl (by rw [h916]; simp only [Bool.true_or]) (qe (qO (qh rfl (qh rfl (qh rfl (qh rfl (qh rfl (qh rfl (qh rfl (qh rfl q8)))))))))))))))
 exact qw (os := _) rfl (zk (k := 123) rfl h916 (qc rfl rfl rfl (zi rfl rfl rfl rfl (qE (b := false) rfl rfl rfl rfl (qA (d := 126) (v := .bool (((x913.2.2 : Int) != 0) || (decide (300 < x913.1)))) rfl (by rw [h916]; simp only [Bool.false_or]) (qe (qO (qh rfl (qh rfl (qh rfl (qh rfl (qh rfl (qh rfl (qh rfl (qh rfl q8)))))))))))))))
 refine qw (os := _) rfl (qe (qd (qy rfl (fun h1587 => ?_) (fun h1587 => ?_))))
 exact qf (qa (qb rfl rfl rfl (qb rfl rfl rfl (qe (qd (qr (qn (qn (qU Int (eI .i64) 3 1 (qm (none, 0) (res2 rfl rfl rfl) (fun h => by subst h; exact (.cons 0 rfl .nil))))))))))))
 refine ql (qd (qf (qa (qc rfl rfl rfl (qb rfl rfl rfl (qe (qd (qf (qa (qb rfl rfl rfl (qe (qd ?_))))))))))))
 refine qt (qM (fun (((x1138, x1141, x1142, x1143), (a1139, c1140)) : ((Int × List Int × Int × Int) × (Option Addr × Nat))) => [(0, .slice a2 x1.length c3), (1, .int .i64 x1138), (2, .int .i64 x5), (9, .pointer (some ⟨g12, 0, none⟩)), (12, .int .u64 x13.1), (14, .slice a1139 x1141.length c1140), (19, .int .u64 x913.1), (20, .int .i64 x1142), (21, .int .u64 x1143)]) (fun (((x1138, x1141, x1142, x1143), (a1139, c1140)) : ((Int × List Int × Int × Int) × (Option Addr × Nat))) => [⟨g12, 24, [.int .i64 x9, .int .i64 x10, .int .i64 x11]⟩]) (fun (((x1138, x1141, x1142, x1143), (a1139, c1140)) : ((Int × List Int × Int × Int) × (Option Addr × Nat))) => [Ro (eI .i64) 3 1 (.slice a1139 x1141.length c1140) x1141]) (fun (((x1138, x1141, x1142, x1143), (a1139, c1140)) : ((Int × List Int × Int × Int) × (Option Addr × Nat))) => [Sl (eI .i64) 1 (.slice a2 x1.length c3) x1]) (fun k (s : ((Int × List Int × Int × Int) × (Option Addr × Nat))) => zz F x1 x5 x10 x11 x13 x913 k s.1) ((x913.2.1, x220, x5, 0), (a218, c219)) F ?_ (hB := (.cons 0 rfl .nil)) (hR := (.cons 0 rfl .nil)) (hF := (qi 0 rfl qu)))
 intro k1365
 rintro ⟨⟨x1138, x1141, x1142, x1143⟩, ⟨a1139, c1140⟩⟩
 try dsimp only
 refine qZ (m' := qaE F x1 x5 x10 x11 x13 x913 (zz F x1 x5 x10 x11 x13 x913 k1365) x1138 x1141 x1142 x1143) rfl (qf (qf (qa (qc rfl rfl rfl (qc rfl rfl rfl (qP rfl rfl rfl rfl (qe (qd (qy rfl (fun h1586 => ?_) (fun h1586 => ?_))))))))))
 refine ql (qd (qC (fun (((x1474, x1477, x1478), (a1475, c1476)) : ((Int × List Int × Int) × (Option Addr × Nat))) => [(0, .slice a2 x1.length c3), (1, .int .i64 x1474), (2, .int .i64 x5), (9, .pointer (some ⟨g12, 0, none⟩)), (12, .int .u64 x13.1), (14, .slice a1475 x1477.length c1476), (19, .int .u64 x913.1), (20, .int .i64 x1478), (21, .int .u64 x1143)]) (fun (((x1474, x1477, x1478), (a1475, c1476)) : ((Int × List Int × Int) × (Option Addr × Nat))) => [⟨g12, 24, [.int .i64 x9, .int .i64 x10, .int .i64 x11]⟩]) (fun (((x1474, x1477, x1478), (a1475, c1476)) : ((Int × List Int × Int) × (Option Addr × Nat))) => [Ro (eI .i64) 3 1 (.slice a1475 x1477.length c1476) x1477]) (fun (((x1474, x1477, x1478), (a1475, c1476)) : ((Int × List Int × Int) × (Option Addr × Nat))) => [Sl (eI .i64) 1 (.slice a2 x1.length c3) x1]) (fun (((x1474, x1477, x1478), _) : ((Int × List Int × Int) × (Option Addr × Nat))) => qb8 F (zz F x1 x5 x10 x11 x13 x913 k1365) x1143 x1474 x1477 x1478) ?_ ?_))
 refine qt (qf (qa (qb rfl rfl rfl (qb rfl rfl rfl (qe (qd (qf (qa (qc rfl rfl rfl (qc rfl rfl rfl (qv ent45 rfl rfl rfl (fun x1479 e1479 => qad F x1 a2 c3 x1138 x1479 e1479) (.consF 0 rfl .nil) (fun x1479 e1479 => ?_))))))))))))
 intro _
 refine qc rfl rfl rfl (qq rfl rfl rfl rfl (qq rfl rfl rfl rfl (qq rfl rfl rfl rfl (qb rfl rfl rfl (qb rfl rfl rfl (qb rfl rfl rfl (qe (qd (qf (qf (qa (qc rfl rfl rfl ?_))))))))))))
 refine kD rfl rfl rfl rfl (qc rfl rfl rfl (zH 3 ((x1479.2.2 : Int) != 0) [(0, .slice a2 x1.length c3), (1, .int .i64 x1479.2.1), (2, .int .i64 x5), (9, .pointer (some ⟨g12, 0, none⟩)), (12, .int .u64 x13.1), (14, .slice a1139 x1141.length c1140), (19, .int .u64 x913.1), (20, .int .i64 x1142), (21, .int .u64 x1143), (22, .int .u64 x1479.1), (145, .bool (((x1479.2.2 : Int) != 0) || (decide (4194304 < x1479.1))))] (fun h1482 => ?_) (fun h1482 => ?_) ?_))
 exact qw (os := _) rfl (zj (k := 142) rfl h1482 (qk rfl rfl rfl (qk rfl rfl rfl (qE (b := true) rfl rfl rfl rfl (qA (d := 145) (v := .bool (((x1479.2.2 : Int) != 0) || (decide (4194304 < x1479.1)))) rfl (by rw [h1482]; simp only [Bool.true_or]) (qe (qO (qh rfl (qh rfl (qh rfl (qh rfl (qh rfl (qh rfl (qh rfl (qh rfl (qh rfl (qh rfl (qh rfl q8))))))))))))))))))
 exact qw (os := _) rfl (zk (k := 142) rfl h1482 (qc rfl rfl rfl (zi rfl rfl rfl rfl (qE (b := false) rfl rfl rfl rfl (qA (d := 145) (v := .bool (((x1479.2.2 : Int) != 0) || (decide (4194304 < x1479.1)))) rfl (by rw [h1482]; simp only [Bool.false_or]) (qe (qO (qh rfl (qh rfl (qh rfl (qh rfl (qh rfl (qh rfl (qh rfl (qh rfl (qh rfl (qh rfl (qh rfl q8))))))))))))))))))
 refine qw (os := _) rfl (qe (qd (qy rfl (fun h1585 => ?_) (fun h1585 => ?_))))
 refine qf (qa (qb rfl rfl rfl (qb rfl rfl rfl (qe (qd (qr (qn (qR (qn (qn (qR (qn ?_))))))))))))
 exact qU Int (eI .i64) 3 1 (qm (none, 0) (res2 rfl rfl rfl) (fun h => by subst h; exact (.cons 0 rfl .nil)))
 refine ql (qd (qf (qa (qc rfl rfl rfl (qc rfl rfl rfl (qv ent45 rfl rfl rfl (fun x1483 e1483 => qad F x1 a2 c3 x1479.2.1 x1483 e1483) (.consF 0 rfl .nil) (fun x1483 e1483 => ?_)))))))
 intro _
 refine qc rfl rfl rfl (qq rfl rfl rfl rfl (qq rfl rfl rfl rfl (qq rfl rfl rfl rfl (qb rfl rfl rfl (qb rfl rfl rfl (qb rfl rfl rfl (qe (qd (qf (qf (qa (qc rfl rfl rfl ?_))))))))))))
 refine kD rfl rfl rfl rfl (qc rfl rfl rfl (zH 3 ((x1483.2.2 : Int) != 0) [(0, .slice a2 x1.length c3), (1, .int .i64 x1483.2.1), (2, .int .i64 x5), (9, .pointer (some ⟨g12, 0, none⟩)), (12, .int .u64 x13.1), (14, .slice a1139 x1141.length c1140), (19, .int .u64 x913.1), (20, .int .i64 x1142), (21, .int .u64 x1143), (22, .int .u64 x1479.1), (23, .int .u64 x1483.1), (158, .bool (((x1483.2.2 : Int) != 0) || (decide (1000 < x1483.1))))] (fun h1486 => ?_) (fun h1486 => ?_) ?_))
 exact qw (os := _) rfl (zj (k := 155) rfl h1486 (qk rfl rfl rfl (qk rfl rfl rfl (qE (b := true) rfl rfl rfl rfl (qA (d := 158) (v := .bool (((x1483.2.2 : Int) != 0) || (decide (1000 < x1483.1)))) rfl (by rw [h1486]; simp only [Bool.true_or]) (qe (qO (qh rfl (qh rfl (qh rfl (qh rfl (qh rfl (qh rfl (qh rfl (qh rfl (qh rfl (qh rfl (qh rfl (qh rfl q8)))))))))))))))))))
 exact qw (os := _) rfl (zk (k := 155) rfl h1486 (qc rfl rfl rfl (zi rfl rfl rfl rfl (qE (b := false) rfl rfl rfl rfl (qA (d := 158) (v := .bool (((x1483.2.2 : Int) != 0) || (decide (1000 < x1483.1)))) rfl (by rw [h1486]; simp only [Bool.false_or]) (qe (qO (qh rfl (qh rfl (qh rfl (qh rfl (qh rfl (qh rfl (qh rfl (qh rfl (qh rfl (qh rfl (qh rfl (qh rfl q8)))))))))))))))))))
 refine qw (os := _) rfl (qe (qd (qy rfl (fun h1584 => ?_) (fun h1584 => ?_))))
 refine qf (qa (qb rfl rfl rfl (qb rfl rfl rfl (qe (qd (qr (qn (qR (qn (qn (qR (qn ?_))))))))))))
 exact qU Int (eI .i64) 3 1 (qm (none, 0) (res2 rfl rfl rfl) (fun h => by subst h; exact (.cons 0 rfl .nil)))
 refine ql (qd (qf (qa (qc rfl rfl rfl (qc rfl rfl rfl (q9 rfl Tryz.underlying72 Tryz.underlying3 rfl rfl (qD rfl rfl rfl rfl (qD rfl rfl rfl rfl (qb rfl rfl rfl (yf (fun x1487 e1487 => qA (d := 24) (v := .int .i64 x1487) rfl (by rw [e1487] <;> rfl) (qe ?_))))))))))))
 refine qd (qC (fun ((x1490, _) : (Int × Unit)) => [(0, .slice a2 x1.length c3), (1, .int .i64 x1483.2.1), (2, .int .i64 x5), (9, .pointer (some ⟨g12, 0, none⟩)), (12, .int .u64 x13.1), (14, .slice a1139 x1141.length c1140), (19, .int .u64 x913.1), (21, .int .u64 x1143), (23, .int .u64 x1483.1), (24, .int .i64 x1490)]) (fun ((x1490, _) : (Int × Unit)) => [⟨g12, 24, [.int .i64 x9, .int .i64 x10, .int .i64 x11]⟩]) (fun ((x1490, _) : (Int × Unit)) => [Ro (eI .i64) 3 1 (.slice a1139 x1141.length c1140) x1141]) (fun ((x1490, _) : (Int × Unit)) => [Sl (eI .i64) 1 (.slice a2 x1.length c3) x1]) (fun ((x1490, _) : (Int × Unit)) => vR F (zz F x1 x5 x10 x11 x13 x913 k1365) x10 x13 x1141 x1143 x1483 x1490) ?_ ?_)
 refine qf (qa (qc rfl rfl rfl (zu rfl rfl rfl rfl (qe (qd (qy rfl (fun h1583 => ?_) (fun h1583 => ?_)))))))
 refine qa (qc rfl rfl rfl (qc rfl rfl rfl (qv ent47 rfl rfl rfl (fun x1582 e1582 => qhc F x1479.1 x5 true x1582 e1582) .nil (fun x1582 e1582 => ?_))))
 intro _
 exact qb rfl rfl rfl (qe (qj (x1582, ()) (hB := (.cons 0 rfl .nil)) (hR := (.cons 0 rfl .nil)) (hF := (qi 0 rfl qu))))
 exact ql (qj (x1487, ()) (hB := (.cons 0 rfl .nil)) (hR := (.cons 0 rfl .nil)) (hF := (qi 0 rfl qu)))
 rintro ⟨x1490, _⟩
 try dsimp only
 refine qf (qf (qa (qc rfl rfl rfl (qP rfl rfl rfl rfl (qc rfl rfl rfl (zH 3 (decide (x1490 < 0)) [(0, .slice a2 x1.length c3), (1, .int .i64 x1483.2.1), (2, .int .i64 x5), (9, .pointer (some ⟨g12, 0, none⟩)), (12, .int .u64 x13.1), (14, .slice a1139 x1141.length c1140), (19, .int .u64 x913.1), (21, .int .u64 x1143), (23, .int .u64 x1483.1), (24, .int .i64 x1490), (174, .bool ((decide (x1490 < 0)) || (decide (1048576 < x1490))))] (fun h1493 => ?_) (fun h1493 => ?_) ?_))))))
 exact qw (os := _) rfl (zj (k := 171) rfl h1493 (qk rfl rfl rfl (qk rfl rfl rfl (qE (b := true) rfl rfl rfl rfl (qA (d := 174) (v := .bool ((decide (x1490 < 0)) || (decide (1048576 < x1490)))) rfl (by rw [h1493]; simp only [Bool.true_or]) (qe (qO (qh rfl (qh rfl (qh rfl (qh rfl (qh rfl (qh rfl (qh rfl (qh rfl (qh rfl (qh rfl (qh rfl q8))))))))))))))))))
 exact qw (os := _) rfl (zk (k := 171) rfl h1493 (qc rfl rfl rfl (zi rfl rfl rfl rfl (qE (b := false) rfl rfl rfl rfl (qA (d := 174) (v := .bool ((decide (x1490 < 0)) || (decide (1048576 < x1490)))) rfl (by rw [h1493]; simp only [Bool.false_or]) (qe (qO (qh rfl (qh rfl (qh rfl (qh rfl (qh rfl (qh rfl (qh rfl (qh rfl (qh rfl (qh rfl (qh rfl q8))))))))))))))))))
 refine qw (os := _) rfl (qe (qd (qy rfl (fun h1581 => ?_) (fun h1581 => ?_))))
 refine qf (qa (qb rfl rfl rfl (qb rfl rfl rfl (qe (qd (qr (qn (qR (qn (qn (qR (qn ?_))))))))))))
 exact qU Int (eI .i64) 3 1 (qm (none, 0) (res2 rfl rfl rfl) (fun h => by subst h; exact (.cons 0 rfl .nil)))
 refine ql (qd (qC (fun ((x1537, (a1535, c1536)) : (List Int × (Option Addr × Nat))) => [(0, .slice a2 x1.length c3), (1, .int .i64 x1483.2.1), (2, .int .i64 x5), (9, .pointer (some ⟨g12, 0, none⟩)), (12, .int .u64 x13.1), (14, .slice a1535 x1537.length c1536), (19, .int .u64 x913.1), (21, .int .u64 x1143), (23, .int .u64 x1483.1), (24, .int .i64 x1490)]) (fun ((x1537, (a1535, c1536)) : (List Int × (Option Addr × Nat))) => [⟨g12, 24, [.int .i64 x9, .int .i64 x10, .int .i64 x11]⟩]) (fun ((x1537, (a1535, c1536)) : (List Int × (Option Addr × Nat))) => [Ro (eI .i64) 3 1 (.slice a1535 x1537.length c1536) x1537]) (fun ((x1537, (a1535, c1536)) : (List Int × (Option Addr × Nat))) => [Sl (eI .i64) 1 (.slice a2 x1.length c3) x1]) (fun ((x1537, _) : (List Int × (Option Addr × Nat))) => vM F (zz F x1 x5 x10 x11 x13 x913 k1365) x10 x13 x1143 x1483 x1490 x1537) ?_ ?_))
 refine qf (qa (qb rfl rfl rfl (qe (qd (qt (qM (fun (((x1554, x1555), (a1552, c1553)) : ((List Int × Int) × (Option Addr × Nat))) => [(0, .slice a2 x1.length c3), (1, .int .i64 x1483.2.1), (2, .int .i64 x5), (9, .pointer (some ⟨g12, 0, none⟩)), (12, .int .u64 x13.1), (14, .slice a1552 x1554.length c1553), (19, .int .u64 x913.1), (21, .int .u64 x1143), (23, .int .u64 x1483.1), (24, .int .i64 x1490), (25, .int .i64 x1555)]) (fun (((x1554, x1555), (a1552, c1553)) : ((List Int × Int) × (Option Addr × Nat))) => [⟨g12, 24, [.int .i64 x9, .int .i64 x10, .int .i64 x11]⟩]) (fun (((x1554, x1555), (a1552, c1553)) : ((List Int × Int) × (Option Addr × Nat))) => [Ro (eI .i64) 3 1 (.slice a1552 x1554.length c1553) x1554]) (fun (((x1554, x1555), (a1552, c1553)) : ((List Int × Int) × (Option Addr × Nat))) => [Sl (eI .i64) 1 (.slice a2 x1.length c3) x1]) (fun k (s : ((List Int × Int) × (Option Addr × Nat))) => yh F (zz F x1 x5 x10 x11 x13 x913 k1365) x10 x13 x1143 x1483 x1490 k s.1) ((x1141, 0), (a1139, c1140)) F ?_ (hB := (.cons 0 rfl .nil)) (hR := (.cons 0 rfl .nil)) (hF := (qi 0 rfl qu))))))))
 intro k1568
 rintro ⟨⟨x1554, x1555⟩, ⟨a1552, c1553⟩⟩
 try dsimp only
 refine qZ (m' := qaD F (zz F x1 x5 x10 x11 x13 x913 k1365) x10 x13 x1143 x1483 x1490 (yh F (zz F x1 x5 x10 x11 x13 x913 k1365) x10 x13 x1143 x1483 x1490 k1568) x1554 x1555) rfl (qf (qf (qa (qc rfl rfl rfl (qc rfl rfl rfl (q9 rfl Tryz.underlying72 Tryz.underlying3 rfl rfl (qo rfl rfl qbl rfl (qp (i := 0) rfl rfl tf3 rfl rfl (fun _ => rfl) rfl rfl (qD rfl rfl rfl rfl (qP rfl rfl rfl rfl (qe (qd ?_))))))))))))
 refine qy rfl (fun h1580 => ?_) (fun h1580 => ?_)
 refine ql (qd (qf (qt (qa (qc rfl rfl rfl (qc rfl rfl rfl (qc rfl rfl rfl (qD rfl rfl rfl rfl (zE (vs := [.int .i64 (iadd .i64 x1490 x1555)]) (ys := ([iadd .i64 x1490 x1555] : List Int)) (qL .i64) (by decide) rfl Tryz.underlying22 tf3 rfl rfl rfl rfl rfl (by decide) (fun a1575 c1576 => zy 1 (qL .i64) rfl Tryz.underlying22 tf3 rfl rfl rfl rfl rfl (.inl ⟨0, _, rfl⟩) rfl rfl (fun x1577 e1577 a1578 c1579 => qb rfl rfl rfl (qe ?_))))))))))))
 exact qH (qd (qa (qc rfl rfl rfl (qD rfl rfl rfl rfl (qb rfl rfl rfl (qe (qG ((x1577, iadd .i64 x1555 1), (a1578, c1579)) (hB := (.cons 0 rfl .nil)) (hR := (.cons 0 rfl .nil)) (hF := (qi 0 rfl qu)))))))))
 exact qS (qx (qx (qT (qj (x1554, (a1552, c1553)) (hB := (.cons 0 rfl .nil)) (hR := (.cons 0 rfl .nil)) (hF := (qi 0 rfl qu))))))
 rintro ⟨x1537, ⟨a1535, c1536⟩⟩
 try dsimp only
 refine qf (qa (qc rfl rfl rfl (qc rfl rfl rfl (q9 rfl Tryz.underlying72 Tryz.underlying3 rfl rfl (qD rfl rfl rfl rfl (qo rfl rfl qbl rfl (qp (i := 0) rfl rfl tf3 rfl rfl (fun _ => rfl) rfl rfl (qD rfl rfl rfl rfl (zd rfl rfl rfl rfl (qb rfl rfl rfl (yf (fun x1538 e1538 => qA (d := 20) (v := .int .i64 x1538) rfl (by rw [e1538] <;> rfl) ?_))))))))))))
 refine qe (qd (qf (qa (qc rfl rfl rfl (qN rfl Tryz.underlying22 rfl rfl (qc rfl rfl rfl (q9 rfl Tryz.underlying72 Tryz.underlying3 rfl rfl (zi rfl rfl rfl rfl (qe (qd (qy rfl (fun h1539 => ?_) (fun h1539 => ?_))))))))))))
 refine qf (qa (qb rfl rfl rfl (qb rfl rfl rfl (qe (qd (qr (qR (qn (qn (qR (qn (qU Int (eI .i64) 3 1 ?_))))))))))))
 exact qm (none, 0) (res2 rfl rfl rfl) (fun h => by subst h; exact (.cons 0 rfl .nil))
 exact ql (qH (qj ((x1483.2.1, x1537, x1538), (a1535, c1536)) (hB := (.cons 0 rfl .nil)) (hR := (.cons 0 rfl .nil)) (hF := (qi 0 rfl qu))))
 rintro ⟨⟨x1474, x1477, x1478⟩, ⟨a1475, c1476⟩⟩
 try dsimp only
 exact qa (qc rfl rfl rfl (qD rfl rfl rfl rfl (qb rfl rfl rfl (qe (qG ((x1474, x1477, x1478, iadd .u64 x1143 1), (a1475, c1476)) (hB := (.cons 0 rfl .nil)) (hR := (.cons 0 rfl .nil)) (hF := (qi 0 rfl qu)))))))
 exact qS (qx (qx (qT (qj ((x1138, x1141), (a1139, c1140)) (hB := (.cons 0 rfl .nil)) (hR := (.cons 0 rfl .nil)) (hF := (qi 0 rfl qu))))))
 exact ql (qj ((x217, x220), (a218, c219)) (hB := (.cons 0 rfl .nil)) (hR := (.cons 0 rfl .nil)) (hF := (qi 0 rfl qu)))
 rintro ⟨⟨x898, x901⟩, ⟨a899, c900⟩⟩
 try dsimp only
 refine qf (qa (qc rfl rfl rfl (qc rfl rfl rfl (qc rfl rfl rfl (qo rfl rfl qfW rfl (qp (i := 0) rfl rfl tf3 rfl rfl (fun _ => rfl) rfl rfl (qc rfl rfl rfl (q9 rfl Tryz.underlying72 Tryz.underlying3 rfl rfl (qc rfl rfl rfl (qN rfl Tryz.underlying22 rfl rfl (zd rfl rfl rfl rfl (qv ent48 rfl rfl rfl (fun x902 e902 => qjP F x1 a2 c3 x898 x5 x11 (isub .i64 (iconv .i64 x13.1) (x901.length : Int)) x902 e902) (.consF 0 rfl .nil) (fun x902 e902 => ?_)))))))))))))
 rintro ⟨a903, c904⟩
 refine qc rfl rfl rfl (qq rfl rfl rfl rfl (qq rfl rfl rfl rfl (qq rfl rfl rfl rfl (qb rfl rfl rfl (qb rfl rfl rfl (qb rfl rfl rfl (qe (qd (qf (qf (qa (qc rfl rfl rfl ?_))))))))))))
 refine kD rfl rfl rfl rfl (qe (qd (qy rfl (fun h912 => ?_) (fun h912 => ?_))))
 exact qf (qa (qb rfl rfl rfl (qb rfl rfl rfl (qe (qd (qr (qn (qU Int (eI .i64) 3 1 (qm (none, 0) (res2 rfl rfl rfl) (fun h => by subst h; exact (.cons 0 rfl .nil)))))))))))
 refine ql (qd (qf (qa (qc rfl rfl rfl (qc rfl rfl rfl (zy 1 (qL .i64) rfl Tryz.underlying22 tf3 rfl rfl rfl rfl rfl (.inl ⟨0, _, rfl⟩) rfl rfl (fun x906 e906 a907 c908 => qv ent49 rfl rfl rfl (fun x909 e909 => qmq F x906 a907 c908 x909 e909) (.consR 0 (Ro (eI .i64) 3 1 (.slice a907 x906.length c908) x906) rfl .nil) (fun x909 e909 => ?_))))))))
 rintro ⟨a910, c911⟩
 exact qb rfl rfl rfl (qb rfl rfl rfl (qe (qd (qr (qm (a910, c911) (res2 rfl rfl rfl) (fun h => by subst h; exact (.cons 0 rfl .nil)))))))
set_option maxHeartbeats 4000000 in
theorem qjz (F : Nat) (x1 : Int) (x2 : List Int) (a3 : Option Addr) (c4 : Nat) (x5 : Int) (x6 : Int) (x7 : List Int) (a8 : Option Addr) (c9 : Nat) (x10 : Int) (x11 : Int) (x12 : Int) (r : (List Int × Int × Int)) (hm : qdl F x1 x2 x5 x6 x7 x10 x11 x12 = some r) :
    Pure Tryz.prog 7 [.agg #[.int .i64 x1, .slice a3 x2.length c4], .int .i64 x5, .int .i64 x6, .slice a8 x7.length c9, .agg #[.int .i64 x10, .int .i64 x11, .int .i64 x12]] [Sl (eI .u8) 1 (.slice a3 x2.length c4) x2, Sl (eI .i64) 1 (.slice a8 x7.length c9) x7] (Option Addr × Nat) (fun g => .tuple #[.slice g.1 r.1.length g.2, .int .i64 r.2.1, .int .i64 r.2.2]) (fun g => [Ro (eI .i64) 3 1 (.slice g.1 r.1.length g.2) r.1]) (fun _ => []) := by
 refine qQ Tryz.func7 rfl Tryz.ntmps7 rfl hm (fun w => qF (l' := [(0, .agg #[.int .i64 x1, .slice a3 x2.length c4]), (1, .int .i64 x5), (2, .int .i64 x6), (3, .slice a8 x7.length c9), (4, .agg #[.int .i64 x10, .int .i64 x11, .int .i64 x12])]) rfl (qf (qa (zp rfl rfl rfl (fun g13 => zp rfl rfl rfl (fun g14 => qb rfl rfl rfl (qb rfl rfl rfl (qb rfl rfl rfl (qe (qd (qf (qa ?_))))))))))))
 refine qp (i := 0) rfl rfl tf24 rfl rfl (by simp) rfl rfl (qv ent10 rfl rfl rfl (fun x15 e15 => qeP F x10 x11 x12 x15 e15) .nil (fun x15 e15 => ?_))
 intro _
 refine qb rfl rfl rfl (qe (qd (qC (fun ((x18, _) : (Int × Unit)) => [(1, .int .i64 x5), (2, .int .i64 x6), (3, .slice a8 x7.length c9), (5, .pointer (some ⟨g13, 0, none⟩)), (9, .pointer (some ⟨g14, 0, none⟩)), (13, .int .i64 x18)]) (fun ((x18, _) : (Int × Unit)) => [⟨g14, 24, [.int .i64 x10, .int .i64 x11, .int .i64 x12]⟩, ⟨g13, 27, [.int .i64 x1, .slice a3 x2.length c4]⟩]) (fun ((x18, _) : (Int × Unit)) => []) (fun ((x18, _) : (Int × Unit)) => [Sl (eI .i64) 1 (.slice a8 x7.length c9) x7, Sl (eI .u8) 1 (.slice a3 x2.length c4) x2]) (fun ((x18, _) : (Int × Unit)) => j9 F x1 x2 x5 x6 x7 x10 x11 x12 x18) ?_ ?_)))
 refine qf (qa (qc rfl rfl rfl (zu rfl rfl rfl rfl (qe (qd (qy rfl (fun h68 => ?_) (fun h68 => ?_)))))))
 refine qa (qp (i := 1) rfl rfl tf27 rfl rfl (by simp) rfl rfl (qc rfl rfl rfl (qv ent23 rfl rfl rfl (fun x67 e67 => qkO F x1 x2 a3 c4 x5 x67 e67) (.consF 0 rfl .nil) (fun x67 e67 => ?_))))
 intro _
 exact qb rfl rfl rfl (qe (qj (x67, ()) (hB := (.cons 0 rfl (.cons 0 rfl .nil))) (hF := (qi 1 rfl (qi 0 rfl qu)))))
 exact ql (qj (x15, ()) (hB := (.cons 0 rfl (.cons 0 rfl .nil))) (hF := (qi 1 rfl (qi 0 rfl qu))))
 rintro ⟨x18, _⟩
 try dsimp only
 refine qC (fun ((x21, _) : (Int × Unit)) => [(1, .int .i64 x5), (2, .int .i64 x6), (3, .slice a8 x7.length c9), (5, .pointer (some ⟨g13, 0, none⟩)), (9, .pointer (some ⟨g14, 0, none⟩)), (13, .int .i64 x21)]) (fun ((x21, _) : (Int × Unit)) => [⟨g14, 24, [.int .i64 x10, .int .i64 x11, .int .i64 x12]⟩, ⟨g13, 27, [.int .i64 x1, .slice a3 x2.length c4]⟩]) (fun ((x21, _) : (Int × Unit)) => []) (fun ((x21, _) : (Int × Unit)) => [Sl (eI .i64) 1 (.slice a8 x7.length c9) x7, Sl (eI .u8) 1 (.slice a3 x2.length c4) x2]) (fun ((x21, _) : (Int × Unit)) => j7 F x1 x2 x5 x6 x7 x10 x11 x12 x21) ?_ ?_
 refine qf (qa (qc rfl rfl rfl (zu rfl rfl rfl rfl (qe (qd (qy rfl (fun h66 => ?_) (fun h66 => ?_)))))))
 refine qa (qc rfl rfl rfl (qc rfl rfl rfl (qp (i := 0) rfl rfl tf24 rfl rfl (by simp) rfl rfl (qv ent20 rfl rfl rfl (fun x65 e65 => qhd F x6 x7 a8 c9 x10 x11 x12 x65 e65) (.consF 0 rfl .nil) (fun x65 e65 => ?_)))))
 intro _
 exact qb rfl rfl rfl (qe (qj (x65, ()) (hB := (.cons 0 rfl (.cons 0 rfl .nil))) (hF := (qi 0 rfl (qi 1 rfl qu)))))
 exact ql (qj (x18, ()) (hB := (.cons 0 rfl (.cons 0 rfl .nil))) (hF := (qi 0 rfl (qi 1 rfl qu))))
 rintro ⟨x21, _⟩
 try dsimp only
 refine qf (qf (qa (qc rfl rfl rfl (kD rfl rfl rfl rfl (qe (qd (qy rfl (fun h64 => ?_) (fun h64 => ?_))))))))
 exact qf (qa (qc rfl rfl rfl (qb rfl rfl rfl (qb rfl rfl rfl (qb rfl rfl rfl (qe (qd (qr (qn (qU Int (eI .i64) 3 1 (qm (none, 0) (res3 rfl rfl rfl rfl) (fun h => by subst h; exact (.cons 0 rfl .nil)))))))))))))
 refine ql (qd (qf (qa (qp (i := 1) rfl rfl tf27 rfl rfl (by simp) rfl rfl (qv ent24 rfl rfl rfl (fun x23 e23 => qg8 F x1 x2 a3 c4 x23 e23) (.consF 1 rfl .nil) (fun x23 e23 => ?_))))))
 rintro ⟨a24, c25⟩
 refine qb rfl rfl rfl (qe (qd (qf (qa (qc rfl rfl rfl (qc rfl rfl rfl (qc rfl rfl rfl (qc rfl rfl rfl (qp (i := 0) rfl rfl tf24 rfl rfl (by simp) rfl rfl (qv ent25 rfl rfl rfl (fun x26 e26 => qiv F x23 a24 c25 x5 x6 x7 a8 c9 x10 x11 x12 x26 e26) (.consR 0 (Ro (eI .i64) 3 1 (.slice a24 x23.length c25) x23) rfl (.consF 0 rfl .nil)) (fun x26 e26 => ?_)))))))))))
 rintro ⟨a27, c28⟩
 refine qc rfl rfl rfl (qq rfl rfl rfl rfl (qq rfl rfl rfl rfl (qb rfl rfl rfl (qb rfl rfl rfl (qe (qd (qf (qf (qa (qc rfl rfl rfl (ko rfl rfl rfl (qc rfl rfl rfl ?_))))))))))))
 refine kT 4 (fun ((x36, _) : (Bool × Unit)) => [(1, .int .i64 x5), (2, .int .i64 x6), (3, .slice a8 x7.length c9), (9, .pointer (some ⟨g14, 0, none⟩)), (14, .slice a24 x23.length c25), (15, .slice a27 x26.1.length c28), (51, .bool x36)]) (fun ((x36, _) : (Bool × Unit)) => [⟨g14, 24, [.int .i64 x10, .int .i64 x11, .int .i64 x12]⟩]) (fun ((x36, _) : (Bool × Unit)) => [Ro (eI .i64) 3 1 (.slice a24 x23.length c25) x23, Ro (eI .i64) 3 1 (.slice a27 x26.1.length c28) x26.1]) (fun ((x36, _) : (Bool × Unit)) => [Sl (eI .i64) 1 (.slice a8 x7.length c9) x7]) (fun ((x36, _) : (Bool × Unit)) => vD F x5 x6 x7 x10 x11 x12 x23 x26 x36) ?_ ?_
 refine qw (os := _) rfl (jq (fun h34 => ?_) (fun h34 => ?_))
 exact zj (k := 47) rfl h34 (qk rfl rfl rfl (qk rfl rfl rfl (qk rfl rfl rfl (qE (b := true) rfl rfl rfl rfl (qe (qj (true, ()) (hB := (.cons 0 rfl .nil)) (hR := (.cons 1 rfl (.cons 0 rfl .nil))) (hF := (qi 0 rfl qu))))))))
 refine zk (k := 47) rfl h34 (qc rfl rfl rfl (qv ent19 rfl rfl rfl (fun x63 e63 => qby F x26.1 a27 c28 x63 e63) (.consR 0 (Ro (eI .i64) 3 1 (.slice a27 x26.1.length c28) x26.1) rfl .nil) (fun x63 e63 => ?_)))
 intro _
 exact kD rfl rfl rfl rfl (qE (b := false) rfl rfl rfl rfl (qe (qj (((x63 : Int) != 0), ()) (hB := (.cons 0 rfl .nil)) (hR := (.cons 1 rfl (.cons 0 rfl .nil))) (hF := (qi 0 rfl qu)))))
 rintro ⟨x36, _⟩
 try dsimp only
 refine qw (os := _) rfl (qe (qd (qy rfl (fun h62 => ?_) (fun h62 => ?_))))
 exact qf (qa (qb rfl rfl rfl (qb rfl rfl rfl (qb rfl rfl rfl (qe (qd (qr (qn (qU Int (eI .i64) 3 1 (qm (none, 0) (res3 rfl rfl rfl rfl) (fun h => by subst h; exact (.cons 0 rfl .nil))))))))))))
 refine ql (qd (qf (qa (qc rfl rfl rfl (qc rfl rfl rfl (qc rfl rfl rfl (qp (i := 0) rfl rfl tf24 rfl rfl (by simp) rfl rfl (qv ent21 rfl rfl rfl (fun x37 e37 => qgz F x6 x26.1 a27 c28 x7 a8 c9 x10 x11 x12 x37 e37) (.consR 1 (Ro (eI .i64) 3 1 (.slice a27 x26.1.length c28) x26.1) rfl (.consF 0 rfl .nil)) (fun x37 e37 => ?_)))))))))
 rintro ⟨a38, c39⟩
 refine qb rfl rfl rfl (qe (qd (qf (qf (qa (qc rfl rfl rfl (qN rfl Tryz.underlying22 rfl rfl (qc rfl rfl rfl (qN rfl Tryz.underlying22 rfl rfl (qc rfl rfl rfl (zd rfl rfl rfl rfl (zi rfl rfl rfl rfl ?_))))))))))))
 refine qc rfl rfl rfl (kT 11 (fun ((x56, _) : (Bool × Unit)) => [(1, .int .i64 x5), (15, .slice a27 x26.1.length c28), (17, .slice a38 x37.length c39), (75, .bool x56)]) (fun ((x56, _) : (Bool × Unit)) => []) (fun ((x56, _) : (Bool × Unit)) => [Ro (eI .i64) 3 1 (.slice a27 x26.1.length c28) x26.1, Ro (eI .i64) 3 1 (.slice a38 x37.length c39) x37]) (fun ((x56, _) : (Bool × Unit)) => []) (fun ((x56, _) : (Bool × Unit)) => j6 F x5 x26 x37 x56) ?_ ?_)
 refine qw (os := _) rfl (jq (fun h51 => ?_) (fun h51 => ?_))
 refine zj (k := 64) rfl h51 (qk rfl rfl rfl (qk rfl rfl rfl (qk rfl rfl rfl (qk rfl rfl rfl (qk rfl rfl rfl (qk rfl rfl rfl (qk rfl rfl rfl (qk rfl rfl rfl (qk rfl rfl rfl (qk rfl rfl rfl (qE (b := true) rfl rfl rfl rfl (qe ?_))))))))))))
 exact qj (true, ()) (hR := (.cons 2 rfl (.cons 0 rfl .nil)))
 refine zk (k := 64) rfl h51 (qc rfl rfl rfl (qc rfl rfl rfl (qc rfl rfl rfl (qc rfl rfl rfl (qN rfl Tryz.underlying22 rfl rfl (qD rfl rfl rfl rfl (qdF 1 rfl (qhp (j := 0) (qL .i64) rfl Tryz.underlying22 tf3 rfl rfl rfl rfl rfl (fun x58 e58 a59 c60 => qc rfl rfl rfl (qv ent12 rfl rfl rfl (fun x61 e61 => qeT F x58 a59 c60 x37 a38 c39 x61 e61) (.consF 0 rfl (.consR 0 (Ro (eI .i64) 3 1 (.slice a38 x37.length c39) x37) rfl .nil)) (fun x61 e61 => ?_)))))))))))
 intro _
 exact ko rfl rfl rfl (qE (b := false) rfl rfl rfl rfl (qe (qj ((!x61), ()) (hR := (.cons 1 rfl (.cons 0 rfl .nil))))))
 rintro ⟨x56, _⟩
 try dsimp only
 refine qw (os := _) rfl (qe (qd (qy rfl (fun h57 => ?_) (fun h57 => ?_))))
 exact qf (qa (qb rfl rfl rfl (qb rfl rfl rfl (qb rfl rfl rfl (qe (qd (qr (qn (qU Int (eI .i64) 3 1 (qm (none, 0) (res3 rfl rfl rfl rfl) (fun h => by subst h; exact (.cons 0 rfl .nil))))))))))))
 refine ql (qd (qf (qa (qc rfl rfl rfl (qc rfl rfl rfl (qc rfl rfl rfl (qN rfl Tryz.underlying22 rfl rfl (qD rfl rfl rfl rfl (qb rfl rfl rfl (qb rfl rfl rfl (qb rfl rfl rfl (qe ?_))))))))))))
 exact qd (qr (qm (a27, c28) (res3 rfl rfl rfl rfl) (fun h => by subst h; exact (.cons 0 rfl .nil))))
theorem qiA (F : Nat) (x1 : List Int) (a2 : Option Addr) (c3 : Nat) (x4 : List Int) (a5 : Option Addr) (c6 : Nat) (r : Bool) (hm : qai F x1 x4 = some r) :
    Pure Tryz.prog 26 [.slice a2 x1.length c3, .slice a5 x4.length c6] [Sl (eI .u8) 1 (.slice a2 x1.length c3) x1, Sl (eI .u8) 1 (.slice a5 x4.length c6) x4] Unit (fun _ => .bool r) (fun _ => []) (fun _ => []) := by
  refine qQ Tryz.func26 rfl Tryz.ntmps26 rfl hm (fun w => ?_)
  refine qF (l' := [(0, .slice a2 x1.length c3), (1, .slice a5 x4.length c6)]) rfl ?_
  refine qf ?_
  refine qa ?_
  refine qb rfl rfl rfl ?_
  refine qe ?_
  refine qd ?_
  refine qf ?_
  refine qf ?_
  refine qa ?_
  refine qc rfl rfl rfl ?_
  refine qN rfl Tryz.underlying25 rfl rfl ?_
  refine qc rfl rfl rfl ?_
  refine qN rfl Tryz.underlying25 rfl rfl ?_
  refine kD rfl rfl rfl rfl ?_
  refine qe ?_
  refine qd ?_
  refine qy rfl (fun h228 => ?_) (fun h228 => ?_)
  · refine qf ?_
    refine qa ?_
    refine qb rfl rfl rfl ?_
    refine qe ?_
    refine qd ?_
    refine qr ?_
    refine qn ?_
    exact qm () (res1 rfl rfl)
  · refine ql ?_
    refine qd ?_
    refine qC (fun ((_, _) : (Unit × Unit)) => []) (fun ((_, _) : (Unit × Unit)) => []) (fun ((_, _) : (Unit × Unit)) => []) (fun ((_, _) : (Unit × Unit)) => []) (fun ((_, _) : (Unit × Unit)) => qel F) ?_ ?_
    · refine qf ?_
      refine qa ?_
      refine qb rfl rfl rfl ?_
      refine qe ?_
      refine qd ?_
      refine qt ?_
      refine qM (fun ((x154, _) : (Int × Unit)) => [(0, .slice a2 x1.length c3), (1, .slice a5 x4.length c6), (5, .int .i64 x154)]) (fun ((x154, _) : (Int × Unit)) => []) (fun ((x154, _) : (Int × Unit)) => []) (fun ((x154, _) : (Int × Unit)) => [Sl (eI .u8) 1 (.slice a2 x1.length c3) x1, Sl (eI .u8) 1 (.slice a5 x4.length c6) x4]) (fun k (s : (Int × Unit)) => kZ F x1 x4 k s.1) (0, ()) F ?_ (hF := (qi 0 rfl (qi 1 rfl qu)))
      intro k191
      rintro ⟨x154, _⟩
      try dsimp only
      refine qZ (m' := ju F x1 x4 (kZ F x1 x4 k191) x154) rfl ?_
      refine qf ?_
      refine qf ?_
      refine qa ?_
      refine qc rfl rfl rfl ?_
      refine qc rfl rfl rfl ?_
      refine qN rfl Tryz.underlying25 rfl rfl ?_
      refine qP rfl rfl rfl rfl ?_
      refine qe ?_
      refine qd ?_
      refine qy rfl (fun h227 => ?_) (fun h227 => ?_)
      · refine ql ?_
        refine qd ?_
        refine qf ?_
        refine qt ?_
        refine qf ?_
        refine vm (j := 0) (qL .u8) (by decide) rfl (fun x218 e218 b219 o220 h221 => ?_)
        replace h221 : a2 = some ⟨b219, o220, none⟩ := h221
        refine vm (j := 2) (qL .u8) (by decide) rfl (fun x222 e222 b223 o224 h225 => ?_)
        replace h225 : a5 = some ⟨b223, o224, none⟩ := h225
        refine zP mixed [] [] [zG b223 (o224 + x154.toNat * 1) ((eI .u8) x222), zG b219 (o220 + x154.toNat * 1) ((eI .u8) x218), Sl (eI .u8) 1 (.slice a2 x1.length c3) x1, Sl (eI .u8) 1 (.slice a5 x4.length c6) x4] .nil (qW 0 rfl (qW 1 rfl (qW 2 rfl (qW 3 rfl qV)))) 9 rfl ?_
        refine qg 0 (.slice a2 x1.length c3) rfl rfl rfl (qs rfl) ?_
        refine qg 1 (.int .i64 x154) rfl rfl rfl (qs rfl) ?_
        refine qJ (d := 17) (v := .slice (some ⟨b219, o220, none⟩) x1.length c3) rfl (by rw [h221] <;> rfl) ?_
        refine qg 2 (.pointer (some ⟨b219, (o220 + x154.toNat * 1), none⟩)) rfl rfl rfl (qbj Tryz.underlying25 tf5 rfl rfl (zW e218).1 (vx e218)) ?_
        refine qJ (d := 17) (v := .slice a2 x1.length c3) rfl (by rw [h221] <;> rfl) ?_
        refine z8 3 (.int .u8 x218) [] rfl rfl rfl (yC (j := 1) rfl tf5 rfl rfl (fun _ => rfl) rfl) ?_
        refine qg 4 (.slice a5 x4.length c6) rfl rfl rfl (qs rfl) ?_
        refine qg 5 (.int .i64 x154) rfl rfl rfl (qs rfl) ?_
        refine qJ (d := 21) (v := .slice (some ⟨b223, o224, none⟩) x4.length c6) rfl (by rw [h225] <;> rfl) ?_
        refine qg 6 (.pointer (some ⟨b223, (o224 + x154.toNat * 1), none⟩)) rfl rfl rfl (qbj Tryz.underlying25 tf5 rfl rfl (zW e222).1 (vx e222)) ?_
        refine qJ (d := 21) (v := .slice a5 x4.length c6) rfl (by rw [h225] <;> rfl) ?_
        refine z8 7 (.int .u8 x222) [] rfl rfl rfl (yC (j := 0) rfl tf5 rfl rfl (fun _ => rfl) rfl) ?_
        refine qg 8 (.bool ((x218 : Int) != x222)) rfl rfl rfl (qs rfl) ?_
        refine zm (by kernel_rfl) ?_
        refine z7 ?_ (by intro c h; cases h)
        refine qd ?_
        refine qy rfl (fun h226 => ?_) (fun h226 => ?_)
        · refine qf ?_
          refine qa ?_
          refine qb rfl rfl rfl ?_
          refine qe ?_
          refine qd ?_
          refine qr ?_
          refine qR ?_
          refine qn ?_
          refine qn ?_
          refine qR ?_
          refine qn ?_
          exact qm () (res1 rfl rfl)
        · refine ql ?_
          refine qH ?_
          refine qd ?_
          refine qa ?_
          refine qc rfl rfl rfl ?_
          refine qD rfl rfl rfl rfl ?_
          refine qb rfl rfl rfl ?_
          refine qe ?_
          exact qG (iadd .i64 x154 1, ()) (hF := (qi 2 rfl (qi 3 rfl qu)))
      · refine qS ?_
        refine qx ?_
        refine qx ?_
        refine qT ?_
        exact qj ((), ())
    · rintro ⟨_, _⟩
      try dsimp only
      refine qf ?_
      refine qa ?_
      refine qb rfl rfl rfl ?_
      refine qe ?_
      refine qd ?_
      refine qr ?_
      exact qm () (res1 rfl rfl)
theorem qgf (F : Nat) (x1 : Int) (x2 : List Int) (a3 : Option Addr) (c4 : Nat) (x5 : Int) (x6 : List Int) (a7 : Option Addr) (c8 : Nat) (r : Bool) (hm : qaW F x1 x2 x5 x6 = some r) :
    Pure Tryz.prog 11 [.agg #[.int .i64 x1, .slice a3 x2.length c4], .agg #[.int .i64 x5, .slice a7 x6.length c8]] [Sl (eI .u8) 1 (.slice a3 x2.length c4) x2, Sl (eI .u8) 1 (.slice a7 x6.length c8) x6] Unit (fun _ => .bool r) (fun _ => []) (fun _ => []) := by
 refine qQ Tryz.func11 rfl Tryz.ntmps11 rfl hm (fun w => qF (l' := [(0, .agg #[.int .i64 x1, .slice a3 x2.length c4]), (1, .agg #[.int .i64 x5, .slice a7 x6.length c8])]) rfl (qf (qa (zp rfl rfl rfl (fun g9 => zp rfl rfl rfl (fun g10 => qb rfl rfl rfl (qe (qd (qf (qa (qo rfl rfl kW rfl (qp (i := 1) rfl rfl tf3 rfl rfl (fun _ => rfl) rfl rfl ?_))))))))))))
 refine qo rfl rfl kW rfl (qp (i := 0) rfl rfl tf3 rfl rfl (fun _ => rfl) rfl rfl (zu rfl rfl rfl rfl (qc rfl rfl rfl (kT 6 (fun ((x13, _) : (Bool × Unit)) => [(16, .bool x13)]) (fun ((x13, _) : (Bool × Unit)) => []) (fun ((x13, _) : (Bool × Unit)) => []) (fun ((x13, _) : (Bool × Unit)) => []) (fun ((x13, _) : (Bool × Unit)) => j1 F x13) ?_ ?_))))
 refine qw (os := _) rfl (jq (fun h11 => ?_) (fun h11 => ?_))
 refine zj (k := 10) rfl h11 (qo rfl rfl qbT rfl (qp (i := 1) rfl rfl tf25 rfl rfl (fun _ => rfl) rfl rfl (qo rfl rfl qbT rfl (qp (i := 0) rfl rfl tf25 rfl rfl (fun _ => rfl) rfl rfl (qv ent26 rfl rfl rfl (fun x14 e14 => qiA F x2 a3 c4 x6 a7 c8 x14 e14) (.consF 0 rfl (.consF 1 rfl .nil)) (fun x14 e14 => ?_))))))
 intro _
 exact qE (b := true) rfl rfl rfl rfl (qe (qj (x14, ())))
 exact zk (k := 10) rfl h11 (qk rfl rfl rfl (qk rfl rfl rfl (qk rfl rfl rfl (qk rfl rfl rfl (qk rfl rfl rfl (qE (b := false) rfl rfl rfl rfl (qe (qj (false, ())))))))))
 rintro ⟨x13, _⟩
 try dsimp only
 exact qw (os := _) rfl (qb rfl rfl rfl (qe (qd (qr (qm () (res1 rfl rfl))))))
set_option maxHeartbeats 4000000 in
theorem qiE (F : Nat)  (r : Bool) (hm : qcU F  = some r) :
    Pure Tryz.prog 8 [] [] Unit (fun _ => .bool r) (fun _ => []) (fun _ => []) := by
 refine qQ Tryz.func8 rfl Tryz.ntmps8 rfl hm (fun w => qF (l' := []) rfl (qf (qa (qb rfl rfl rfl (qe (qd (qf (qa (zX (cells := [.int .i64 1, .int .i64 3, .int .i64 2]) rfl st24 rfl (by kernel_rfl) rfl (zL rfl tf24 rfl (fun g1 => qI (i := 0) rfl rfl rfl tf24 rfl rfl rfl rfl rfl (qe ?_))))))))))))
 refine qd (qf (qa (zE (vs := [.int .i64 2, .int .i64 3, .int .i64 4, .int .i64 5, .int .i64 9, .int .i64 20]) (ys := ([2, 3, 4, 5, 9, 20] : List Int)) (qL .i64) (by decide) rfl Tryz.underlying22 tf3 rfl rfl rfl rfl rfl (by decide) (fun a2 c3 => qb rfl rfl rfl (qe (qd (qf (qa (qc rfl rfl rfl (zE (vs := [.int .i64 3, .int .i64 9, .int .i64 11]) (ys := ([3, 9, 11] : List Int)) (qL .i64) (by decide) rfl Tryz.underlying22 tf3 rfl rfl rfl rfl rfl (by decide) (fun a4 c5 => qp (i := 0) rfl rfl tf24 rfl rfl (by simp) rfl rfl (qv ent4 rfl rfl rfl (fun x6 e6 => qeM F 7 ([2, 3, 4, 5, 9, 20] : List Int) a2 c3 ([3, 9, 11] : List Int) a4 c5 1 3 2 x6 e6) (.consR 1 (Ro (eI .i64) 3 1 (.slice a2 ([2, 3, 4, 5, 9, 20] : List Int).length c3) ([2, 3, 4, 5, 9, 20] : List Int)) rfl (.consR 0 (Ro (eI .i64) 3 1 (.slice a4 ([3, 9, 11] : List Int).length c5) ([3, 9, 11] : List Int)) rfl .nil)) (fun x6 e6 => ?_)))))))))))))
 rintro ⟨a7, c8⟩
 refine qc rfl rfl rfl (qq rfl rfl rfl rfl (qq rfl rfl rfl rfl (zL rfl tf27 rfl (fun g9 => qI (i := 0) rfl rfl rfl tf27 rfl rfl rfl rfl rfl (qb rfl rfl rfl (qe (qd (qf (qa (qp (i := 0) rfl rfl tf27 rfl rfl (by simp) rfl rfl (zE (vs := [.int .i64 3, .int .i64 9, .int .i64 11]) (ys := ([3, 9, 11] : List Int)) (qL .i64) (by decide) rfl Tryz.underlying22 tf3 rfl rfl rfl rfl rfl (by decide) (fun a10 c11 => qp (i := 1) rfl rfl tf24 rfl rfl (by simp) rfl rfl ?_))))))))))))
 refine qv ent5 rfl rfl rfl (fun x12 e12 => qfg F x6.1 x6.2.1 a7 c8 0 7 ([3, 9, 11] : List Int) a10 c11 1 3 2 x12 e12) (.consR 1 (Ro (eI .u8) 5 1 (.slice a7 x6.2.1.length c8) x6.2.1) rfl (.consR 0 (Ro (eI .i64) 3 1 (.slice a10 ([3, 9, 11] : List Int).length c11) ([3, 9, 11] : List Int)) rfl .nil)) (fun x12 e12 => ?_)
 rintro ⟨a13, c14⟩
 refine qc rfl rfl rfl (qq rfl rfl rfl rfl (qq rfl rfl rfl rfl (qq rfl rfl rfl rfl (qb rfl rfl rfl (qb rfl rfl rfl (qb rfl rfl rfl (qe (qd (qf (qa (zX (cells := [.int .i64 0, .int .i64 0, .int .i64 1]) rfl st24 rfl (by kernel_rfl) rfl (yB Int (eI .i64) 3 1 ?_))))))))))))
 refine yB Int (eI .i64) 3 1 (qv ent4 rfl rfl rfl (fun x15 e15 => qeM F 7 ([] : List Int) none 0 ([] : List Int) none 0 0 0 1 x15 e15) (.consR 0 (Ro (eI .i64) 3 1 (.slice none ([] : List Int).length 0) ([] : List Int)) rfl (.consR 0 (Ro (eI .i64) 3 1 (.slice none ([] : List Int).length 0) ([] : List Int)) rfl .nil)) (fun x15 e15 => ?_))
 rintro ⟨a16, c17⟩
 refine qc rfl rfl rfl (qq rfl rfl rfl rfl (qq rfl rfl rfl rfl (zL rfl tf27 rfl (fun g18 => qI (i := 0) rfl rfl rfl tf27 rfl rfl rfl rfl rfl (qb rfl rfl rfl (qe (qd (qf (qa (zX (cells := [.int .i64 0, .slice none 0 0]) rfl st27 rfl (by kernel_rfl) rfl (zX (cells := [.int .i64 0, .int .i64 0, .int .i64 1]) rfl st24 rfl (by kernel_rfl) rfl (yB Int (eI .u8) 5 1 ?_))))))))))))
 refine yB Int (eI .i64) 3 1 (qv ent5 rfl rfl rfl (fun x19 e19 => qfg F 0 ([] : List Int) none 0 0 7 ([] : List Int) none 0 0 0 1 x19 e19) (.consR 1 (Ro (eI .u8) 5 1 (.slice none ([] : List Int).length 0) ([] : List Int)) rfl (.consR 0 (Ro (eI .i64) 3 1 (.slice none ([] : List Int).length 0) ([] : List Int)) rfl .nil)) (fun x19 e19 => ?_))
 rintro ⟨a20, c21⟩
 refine qc rfl rfl rfl (qq rfl rfl rfl rfl (qq rfl rfl rfl rfl (qq rfl rfl rfl rfl (qb rfl rfl rfl (qb rfl rfl rfl (qb rfl rfl rfl (qe (qd (qf (qa (qc rfl rfl rfl (zu rfl rfl rfl rfl ?_))))))))))))
 refine qc rfl rfl rfl (kT 4 (fun ((x24, _) : (Bool × Unit)) => [(3, .pointer (some ⟨g9, 0, none⟩)), (6, .int .i64 x12.2.1), (7, .int .i64 x12.2.2), (8, .pointer (some ⟨g18, 0, none⟩)), (9, .int .i64 x15.2.2), (12, .int .i64 x19.2.2), (48, .bool x24)]) (fun ((x24, _) : (Bool × Unit)) => [⟨g18, 27, [.int .i64 x15.1, .slice a16 x15.2.1.length c17]⟩, ⟨g9, 27, [.int .i64 x6.1, .slice a7 x6.2.1.length c8]⟩]) (fun ((x24, _) : (Bool × Unit)) => [Ro (eI .u8) 5 1 (.slice a16 x15.2.1.length c17) x15.2.1, Ro (eI .u8) 5 1 (.slice a7 x6.2.1.length c8) x6.2.1]) (fun ((x24, _) : (Bool × Unit)) => []) (fun ((x24, _) : (Bool × Unit)) => qbe F x6 x12 x15 x19 x24) ?_ ?_)
 refine qw (os := _) rfl (jq (fun h22 => ?_) (fun h22 => ?_))
 refine zj (k := 44) rfl h22 (qc rfl rfl rfl (qc rfl rfl rfl (qv ent12 rfl rfl rfl (fun x41 e41 => qeT F x12.1 a13 c14 ([2, 3, 4, 5, 9, 20] : List Int) a2 c3 x41 e41) (.consR 6 (Ro (eI .i64) 3 1 (.slice a13 x12.1.length c14) x12.1) rfl (.consR 10 (Ro (eI .i64) 3 1 (.slice a2 ([2, 3, 4, 5, 9, 20] : List Int).length c3) ([2, 3, 4, 5, 9, 20] : List Int)) rfl .nil)) (fun x41 e41 => ?_))))
 intro _
 exact qE (b := true) rfl rfl rfl rfl (qe (qj (x41, ()) (hB := (.cons 0 rfl (.cons 0 rfl .nil))) (hR := (.cons 3 rfl (.cons 7 rfl .nil)))))
 exact zk (k := 44) rfl h22 (qk rfl rfl rfl (qk rfl rfl rfl (qk rfl rfl rfl (qE (b := false) rfl rfl rfl rfl (qe (qj (false, ()) (hB := (.cons 0 rfl (.cons 0 rfl .nil))) (hR := (.cons 3 rfl (.cons 7 rfl .nil)))))))))
 rintro ⟨x24, _⟩
 try dsimp only
 refine qw (os := _) rfl (qc rfl rfl rfl (zH 5 x24 [(7, .int .i64 x12.2.2), (8, .pointer (some ⟨g18, 0, none⟩)), (9, .int .i64 x15.2.2), (12, .int .i64 x19.2.2), (54, .bool (x24 && ((x12.2.1 : Int) == x6.1)))] (fun h25 => ?_) (fun h25 => ?_) ?_))
 exact qw (os := _) rfl (zj (k := 49) rfl h25 (qc rfl rfl rfl (qo rfl rfl kW rfl (qp (i := 1) rfl rfl tf3 rfl rfl (fun _ => rfl) rfl rfl (zu rfl rfl rfl rfl (qE (b := true) rfl rfl rfl rfl (qA (d := 54) (v := .bool (x24 && ((x12.2.1 : Int) == x6.1))) rfl (by rw [h25]; simp only [Bool.true_and]) (qe (qO (qh rfl (qh rfl (qh rfl (qh rfl (qh rfl q8))))))))))))))
 exact qw (os := _) rfl (zk (k := 49) rfl h25 (qk rfl rfl rfl (qk rfl rfl rfl (qk rfl rfl rfl (qk rfl rfl rfl (qE (b := false) rfl rfl rfl rfl (qA (d := 54) (v := .bool (x24 && ((x12.2.1 : Int) == x6.1))) rfl (by rw [h25]; simp only [Bool.false_and]) (qe (qO (qh rfl (qh rfl (qh rfl (qh rfl (qh rfl q8))))))))))))))
 refine qw (os := _) rfl (qc rfl rfl rfl (zH 3 (x24 && ((x12.2.1 : Int) == x6.1)) [(8, .pointer (some ⟨g18, 0, none⟩)), (9, .int .i64 x15.2.2), (12, .int .i64 x19.2.2), (58, .bool ((x24 && ((x12.2.1 : Int) == x6.1)) && ((x12.2.2 : Int) == 0)))] (fun h26 => ?_) (fun h26 => ?_) ?_))
 exact qw (os := _) rfl (zj (k := 55) rfl h26 (qc rfl rfl rfl (zu rfl rfl rfl rfl (qE (b := true) rfl rfl rfl rfl (qA (d := 58) (v := .bool ((x24 && ((x12.2.1 : Int) == x6.1)) && ((x12.2.2 : Int) == 0))) rfl (by rw [h26]; simp only [Bool.true_and]) (qe (qO (qh rfl (qh rfl (qh rfl (qh rfl q8)))))))))))
 exact qw (os := _) rfl (zk (k := 55) rfl h26 (qk rfl rfl rfl (qk rfl rfl rfl (qE (b := false) rfl rfl rfl rfl (qA (d := 58) (v := .bool ((x24 && ((x12.2.1 : Int) == x6.1)) && ((x12.2.2 : Int) == 0))) rfl (by rw [h26]; simp only [Bool.false_and]) (qe (qO (qh rfl (qh rfl (qh rfl (qh rfl q8)))))))))))
 refine qw (os := _) rfl (qc rfl rfl rfl (kT 5 (fun ((x31, _) : (Bool × Unit)) => [(9, .int .i64 x15.2.2), (12, .int .i64 x19.2.2), (64, .bool x31)]) (fun ((x31, _) : (Bool × Unit)) => []) (fun ((x31, _) : (Bool × Unit)) => []) (fun ((x31, _) : (Bool × Unit)) => []) (fun ((x31, _) : (Bool × Unit)) => qa3 F x15 x19 x31) ?_ ?_))
 refine qw (os := _) rfl (jq (fun h27 => ?_) (fun h27 => ?_))
 refine zj (k := 59) rfl h27 (qp (i := 0) rfl rfl tf27 rfl rfl (by simp) rfl rfl (zE (vs := [.int .u8 128]) (ys := ([128] : List Int)) (qL .u8) (by decide) rfl Tryz.underlying25 tf5 rfl rfl rfl rfl rfl (by decide) (fun a38 c39 => zX (cells := [.int .i64 1, .slice a38 ([128] : List Int).length c39]) rfl st27 rfl (by kernel_rfl) rfl (qv ent11 rfl rfl rfl (fun x40 e40 => qgf F x15.1 x15.2.1 a16 c17 1 ([128] : List Int) a38 c39 x40 e40) (.consR 1 (Ro (eI .u8) 5 1 (.slice a16 x15.2.1.length c17) x15.2.1) rfl (.consR 0 (Ro (eI .u8) 5 1 (.slice a38 ([128] : List Int).length c39) ([128] : List Int)) rfl .nil)) (fun x40 e40 => ?_)))))
 intro _
 exact qE (b := true) rfl rfl rfl rfl (qe (qj (x40, ())))
 exact zk (k := 59) rfl h27 (qk rfl rfl rfl (qk rfl rfl rfl (qk rfl rfl rfl (qk rfl rfl rfl (qE (b := false) rfl rfl rfl rfl (qe (qj (false, ()))))))))
 rintro ⟨x31, _⟩
 try dsimp only
 refine qw (os := _) rfl (qc rfl rfl rfl (zH 3 x31 [(12, .int .i64 x19.2.2), (68, .bool (x31 && ((x15.2.2 : Int) == 0)))] (fun h32 => ?_) (fun h32 => ?_) ?_))
 exact qw (os := _) rfl (zj (k := 65) rfl h32 (qc rfl rfl rfl (zu rfl rfl rfl rfl (qE (b := true) rfl rfl rfl rfl (qA (d := 68) (v := .bool (x31 && ((x15.2.2 : Int) == 0))) rfl (by rw [h32]; simp only [Bool.true_and]) (qe (qO (qh rfl (qh rfl q8)))))))))
 exact qw (os := _) rfl (zk (k := 65) rfl h32 (qk rfl rfl rfl (qk rfl rfl rfl (qE (b := false) rfl rfl rfl rfl (qA (d := 68) (v := .bool (x31 && ((x15.2.2 : Int) == 0))) rfl (by rw [h32]; simp only [Bool.false_and]) (qe (qO (qh rfl (qh rfl q8)))))))))
 refine qw (os := _) rfl (qc rfl rfl rfl (zH 3 (x31 && ((x15.2.2 : Int) == 0)) [(72, .bool ((x31 && ((x15.2.2 : Int) == 0)) && ((x19.2.2 : Int) == 1)))] (fun h33 => ?_) (fun h33 => ?_) ?_))
 exact qw (os := _) rfl (zj (k := 69) rfl h33 (qc rfl rfl rfl (zu rfl rfl rfl rfl (qE (b := true) rfl rfl rfl rfl (qA (d := 72) (v := .bool ((x31 && ((x15.2.2 : Int) == 0)) && ((x19.2.2 : Int) == 1))) rfl (by rw [h33]; simp only [Bool.true_and]) (qe (qO (qh rfl q8))))))))
 exact qw (os := _) rfl (zk (k := 69) rfl h33 (qk rfl rfl rfl (qk rfl rfl rfl (qE (b := false) rfl rfl rfl rfl (qA (d := 72) (v := .bool ((x31 && ((x15.2.2 : Int) == 0)) && ((x19.2.2 : Int) == 1))) rfl (by rw [h33]; simp only [Bool.false_and]) (qe (qO (qh rfl q8))))))))
 refine qw (os := _) rfl (qc rfl rfl rfl (kT 4 (fun ((x36, _) : (Bool × Unit)) => [(77, .bool x36)]) (fun ((x36, _) : (Bool × Unit)) => []) (fun ((x36, _) : (Bool × Unit)) => []) (fun ((x36, _) : (Bool × Unit)) => []) (fun ((x36, _) : (Bool × Unit)) => qcD F x36) ?_ ?_))
 refine qw (os := _) rfl (jq (fun h34 => ?_) (fun h34 => ?_))
 refine zj (k := 73) rfl h34 (zX (cells := [.int .i64 0, .int .i64 1, .int .i64 1]) rfl st24 rfl (by kernel_rfl) rfl (qv ent9 rfl rfl rfl (fun x37 e37 => qdk F 0 1 1 x37 e37) .nil (fun x37 e37 => ?_)))
 intro _
 exact zu rfl rfl rfl rfl (qE (b := true) rfl rfl rfl rfl (qe (qj (((x37 : Int) == 3), ()))))
 exact zk (k := 73) rfl h34 (qk rfl rfl rfl (qk rfl rfl rfl (qk rfl rfl rfl (qE (b := false) rfl rfl rfl rfl (qe (qj (false, ())))))))
 rintro ⟨x36, _⟩
 try dsimp only
 exact qw (os := _) rfl (qb rfl rfl rfl (qe (qd (qr (qm () (res1 rfl rfl))))))
set_option maxHeartbeats 4000000 in
theorem qiP (F : Nat) (x1 : Int) (x2 : List Int) (a3 : Option Addr) (c4 : Nat) (x5 : List Int) (a6 : Option Addr) (c7 : Nat) (x8 : Int) (x9 : Int) (x10 : Int) (x11 : Int) (x12 : List Int) (a13 : Option Addr) (c14 : Nat) (x15 : Int) (r : Bool) (hm : qeh F x1 x2 x5 x8 x9 x10 x11 x12 x15 = some r) :
    Pure Tryz.prog 3 [.int .i64 x1, .slice a3 x2.length c4, .slice a6 x5.length c7, .agg #[.int .i64 x8, .int .i64 x9, .int .i64 x10], .agg #[.int .i64 x11, .slice a13 x12.length c14], .int .i64 x15] [Sl (eI .i64) 1 (.slice a3 x2.length c4) x2, Sl (eI .i64) 1 (.slice a6 x5.length c7) x5, Sl (eI .u8) 1 (.slice a13 x12.length c14) x12] Unit (fun _ => .bool r) (fun _ => []) (fun _ => []) := by
  refine qQ Tryz.func3 rfl Tryz.ntmps3 rfl hm (fun w => ?_)
  refine qF (l' := [(0, .int .i64 x1), (1, .slice a3 x2.length c4), (2, .slice a6 x5.length c7), (3, .agg #[.int .i64 x8, .int .i64 x9, .int .i64 x10]), (4, .agg #[.int .i64 x11, .slice a13 x12.length c14]), (5, .int .i64 x15)]) rfl ?_
  refine qf ?_
  refine qa ?_
  refine zp rfl rfl rfl (fun g16 => ?_)
  refine zp rfl rfl rfl (fun g17 => ?_)
  refine qb rfl rfl rfl ?_
  refine qe ?_
  refine qd ?_
  refine qf ?_
  refine qa ?_
  refine qc rfl rfl rfl ?_
  refine qc rfl rfl rfl ?_
  refine qc rfl rfl rfl ?_
  refine qp (i := 1) rfl rfl tf24 rfl rfl (by simp) rfl rfl ?_
  refine qv ent4 rfl rfl rfl (fun x18 e18 => qeM F x1 x2 a3 c4 x5 a6 c7 x8 x9 x10 x18 e18) (.consF 0 rfl (.consF 1 rfl .nil)) (fun x18 e18 => ?_)
  rintro ⟨a19, c20⟩
  refine qc rfl rfl rfl ?_
  refine qq rfl rfl rfl rfl ?_
  refine qq rfl rfl rfl rfl ?_
  refine zL rfl tf27 rfl (fun g21 => ?_)
  refine qI (i := 0) rfl rfl rfl tf27 rfl rfl rfl rfl rfl ?_
  refine qb rfl rfl rfl ?_
  refine qe ?_
  refine qd ?_
  refine qf ?_
  refine qa ?_
  refine qp (i := 1) rfl rfl tf27 rfl rfl (by simp) rfl rfl ?_
  refine qc rfl rfl rfl ?_
  refine qc rfl rfl rfl ?_
  refine qc rfl rfl rfl ?_
  refine qp (i := 2) rfl rfl tf24 rfl rfl (by simp) rfl rfl ?_
  refine qv ent5 rfl rfl rfl (fun x22 e22 => qfg F x11 x12 a13 c14 x15 x1 x5 a6 c7 x8 x9 x10 x22 e22) (.consF 2 rfl (.consF 1 rfl .nil)) (fun x22 e22 => ?_)
  rintro ⟨a23, c24⟩
  refine qc rfl rfl rfl ?_
  refine qq rfl rfl rfl rfl ?_
  refine qq rfl rfl rfl rfl ?_
  refine qq rfl rfl rfl rfl ?_
  refine qb rfl rfl rfl ?_
  refine qb rfl rfl rfl ?_
  refine qb rfl rfl rfl ?_
  refine qe ?_
  refine qd ?_
  refine qf ?_
  refine qa ?_
  refine qc rfl rfl rfl ?_
  refine qc rfl rfl rfl ?_
  refine qc rfl rfl rfl ?_
  refine qp (i := 2) rfl rfl tf24 rfl rfl (by simp) rfl rfl ?_
  refine qv ent6 rfl rfl rfl (fun x25 e25 => qiR F x1 x2 a3 c4 x5 a6 c7 x8 x9 x10 x25 e25) (.consF 0 rfl (.consF 1 rfl .nil)) (fun x25 e25 => ?_)
  rintro ⟨a26, c27⟩
  refine qc rfl rfl rfl ?_
  refine qq rfl rfl rfl rfl ?_
  refine qq rfl rfl rfl rfl ?_
  refine zL rfl tf27 rfl (fun g28 => ?_)
  refine qI (i := 0) rfl rfl rfl tf27 rfl rfl rfl rfl rfl ?_
  refine qb rfl rfl rfl ?_
  refine qe ?_
  refine qd ?_
  refine qf ?_
  refine qa ?_
  refine qp (i := 2) rfl rfl tf27 rfl rfl (by simp) rfl rfl ?_
  refine qc rfl rfl rfl ?_
  refine qc rfl rfl rfl ?_
  refine qc rfl rfl rfl ?_
  refine qp (i := 3) rfl rfl tf24 rfl rfl (by simp) rfl rfl ?_
  refine qv ent7 rfl rfl rfl (fun x29 e29 => qjz F x11 x12 a13 c14 x15 x1 x5 a6 c7 x8 x9 x10 x29 e29) (.consF 2 rfl (.consF 1 rfl .nil)) (fun x29 e29 => ?_)
  rintro ⟨a30, c31⟩
  refine qc rfl rfl rfl ?_
  refine qq rfl rfl rfl rfl ?_
  refine qq rfl rfl rfl rfl ?_
  refine qq rfl rfl rfl rfl ?_
  refine qb rfl rfl rfl ?_
  refine qb rfl rfl rfl ?_
  refine qb rfl rfl rfl ?_
  refine qe ?_
  refine qd ?_
  refine qC (fun ((x43, _) : (Bool × Unit)) => [(12, .bool x43)]) (fun ((x43, _) : (Bool × Unit)) => []) (fun ((x43, _) : (Bool × Unit)) => []) (fun ((x43, _) : (Bool × Unit)) => []) (fun ((x43, _) : (Bool × Unit)) => kM F x43) ?_ ?_
  · refine zP mixed [] [⟨g28, 27, [.int .i64 x25.1, .slice a26 x25.2.1.length c27]⟩, ⟨g21, 27, [.int .i64 x18.1, .slice a19 x18.2.1.length c20]⟩, ⟨g17, 27, [.int .i64 x11, .slice a13 x12.length c14]⟩, ⟨g16, 24, [.int .i64 x8, .int .i64 x9, .int .i64 x10]⟩] [Sl (eI .i64) 1 (.slice a3 x2.length c4) x2, Sl (eI .i64) 1 (.slice a6 x5.length c7) x5, Sl (eI .u8) 1 (.slice a13 x12.length c14) x12] (.cons 0 rfl (.cons 0 rfl (.cons 0 rfl (.cons 0 rfl .nil)))) (qW 0 rfl (qW 1 rfl (qW 2 rfl qV))) 34 rfl ?_
    refine q6 0 rfl (by kernel_rfl) rfl ?_
    refine qv ent8 rfl rfl rfl (fun x44 e44 => qiE F  x44 e44) .nil (fun x44 e44 => ?_)
    intro _
    refine qe ?_
    refine qY (.cons 0 rfl (.cons 0 rfl (.cons 0 rfl (.cons 0 rfl .nil)))) (qW 0 rfl (qW 1 rfl (qW 2 rfl qV))) ?_
    refine qg 1 (.bool x44) rfl rfl rfl (qs rfl) ?_
    refine qgP (fun h45 => ?_) (fun h45 => ?_)
    · refine qJ (d := 60) (v := .bool true) rfl (by rw [h45] <;> rfl) ?_
      refine zF 2 (.agg #[.int .i64 x8, .int .i64 x9, .int .i64 x10]) rfl rfl rfl (zB (i := 3) rfl tf24 rfl rfl (by simp) rfl) ?_
      refine zF 4 (.agg #[.int .i64 x8, .int .i64 x9, .int .i64 x10]) rfl rfl rfl (zB (i := 3) rfl tf24 rfl rfl (by simp) rfl) ?_
      refine q6 3 rfl (by kernel_rfl) rfl ?_
      refine qv ent9 rfl rfl rfl (fun x46 e46 => qdk F x8 x9 x10 x46 e46) .nil (fun x46 e46 => ?_)
      intro _
      refine qe ?_
      refine qY (.cons 0 rfl (.cons 0 rfl (.cons 0 rfl (.cons 0 rfl .nil)))) (qW 0 rfl (qW 1 rfl (qW 2 rfl qV))) ?_
      refine q6 5 rfl (by kernel_rfl) rfl ?_
      refine qv ent10 rfl rfl rfl (fun x47 e47 => qeP F x8 x9 x10 x47 e47) .nil (fun x47 e47 => ?_)
      intro _
      refine qe ?_
      refine qY (.cons 0 rfl (.cons 0 rfl (.cons 0 rfl (.cons 0 rfl .nil)))) (qW 0 rfl (qW 1 rfl (qW 2 rfl qV))) ?_
      refine qg 6 (.bool ((x46 : Int) == x47)) rfl rfl rfl (qs rfl) ?_
      refine qg 7 (.bool ((x46 : Int) == x47)) rfl rfl rfl (qs rfl) ?_
      refine qg 8 (.bool ((x46 : Int) == x47)) rfl rfl rfl (qs rfl) ?_
      refine qgP (fun h48 => ?_) (fun h48 => ?_)
      · refine qJ (d := 67) (v := .bool true) rfl (by rw [h48] <;> rfl) ?_
        refine zF 9 (.agg #[.int .i64 x18.1, .slice a19 x18.2.1.length c20]) rfl rfl rfl (zB (i := 1) rfl tf27 rfl rfl (by simp) rfl) ?_
        refine zF 10 (.agg #[.int .i64 x25.1, .slice a26 x25.2.1.length c27]) rfl rfl rfl (zB (i := 0) rfl tf27 rfl rfl (by simp) rfl) ?_
        refine q6 11 rfl (by kernel_rfl) rfl ?_
        refine qv ent11 rfl rfl rfl (fun x49 e49 => qgf F x18.1 x18.2.1 a19 c20 x25.1 x25.2.1 a26 c27 x49 e49) (.consR 3 (Ro (eI .u8) 5 1 (.slice a19 x18.2.1.length c20) x18.2.1) rfl (.consR 1 (Ro (eI .u8) 5 1 (.slice a26 x25.2.1.length c27) x25.2.1) rfl .nil)) (fun x49 e49 => ?_)
        intro _
        refine qe ?_
        refine qY (.cons 0 rfl (.cons 0 rfl (.cons 0 rfl (.cons 0 rfl .nil)))) (qW 0 rfl (qW 1 rfl (qW 2 rfl qV))) ?_
        refine qg 12 (.bool x49) rfl rfl rfl (qs rfl) ?_
        refine qg 13 (.bool x49) rfl rfl rfl (qs rfl) ?_
        refine qgP (fun h50 => ?_) (fun h50 => ?_)
        · refine qJ (d := 72) (v := .bool true) rfl (by rw [h50] <;> rfl) ?_
          refine qg 14 (.int .i64 x18.2.2) rfl rfl rfl (qs rfl) ?_
          refine qg 15 (.int .i64 x25.2.2) rfl rfl rfl (qs rfl) ?_
          refine qg 16 (.bool ((x18.2.2 : Int) == x25.2.2)) rfl rfl rfl (qs rfl) ?_
          refine qg 17 (.bool ((x18.2.2 : Int) == x25.2.2)) rfl rfl rfl (qs rfl) ?_
          refine qg 18 (.bool ((x18.2.2 : Int) == x25.2.2)) rfl rfl rfl (qs rfl) ?_
          refine qgP (fun h51 => ?_) (fun h51 => ?_)
          · refine qJ (d := 77) (v := .bool true) rfl (by rw [h51] <;> rfl) ?_
            refine qg 19 (.slice a23 x22.1.length c24) rfl rfl rfl (qs rfl) ?_
            refine qg 20 (.slice a30 x29.1.length c31) rfl rfl rfl (qs rfl) ?_
            refine q6 21 rfl (by kernel_rfl) rfl ?_
            refine qv ent12 rfl rfl rfl (fun x52 e52 => qeT F x22.1 a23 c24 x29.1 a30 c31 x52 e52) (.consR 2 (Ro (eI .i64) 3 1 (.slice a23 x22.1.length c24) x22.1) rfl (.consR 0 (Ro (eI .i64) 3 1 (.slice a30 x29.1.length c31) x29.1) rfl .nil)) (fun x52 e52 => ?_)
            intro _
            refine qe ?_
            refine qY (.cons 0 rfl (.cons 0 rfl (.cons 0 rfl (.cons 0 rfl .nil)))) (qW 0 rfl (qW 1 rfl (qW 2 rfl qV))) ?_
            refine qg 22 (.bool x52) rfl rfl rfl (qs rfl) ?_
            refine qg 23 (.bool x52) rfl rfl rfl (qs rfl) ?_
            refine qgP (fun h53 => ?_) (fun h53 => ?_)
            · refine qJ (d := 82) (v := .bool true) rfl (by rw [h53] <;> rfl) ?_
              refine qg 24 (.int .i64 x22.2.1) rfl rfl rfl (qs rfl) ?_
              refine qg 25 (.int .i64 x29.2.1) rfl rfl rfl (qs rfl) ?_
              refine qg 26 (.bool ((x22.2.1 : Int) == x29.2.1)) rfl rfl rfl (qs rfl) ?_
              refine qg 27 (.bool ((x22.2.1 : Int) == x29.2.1)) rfl rfl rfl (qs rfl) ?_
              refine qg 28 (.bool ((x22.2.1 : Int) == x29.2.1)) rfl rfl rfl (qs rfl) ?_
              refine qgP (fun h54 => ?_) (fun h54 => ?_)
              · refine qJ (d := 87) (v := .bool true) rfl (by rw [h54] <;> rfl) ?_
                refine qg 29 (.int .i64 x22.2.2) rfl rfl rfl (qs rfl) ?_
                refine qg 30 (.int .i64 x29.2.2) rfl rfl rfl (qs rfl) ?_
                refine qg 31 (.bool ((x22.2.2 : Int) == x29.2.2)) rfl rfl rfl (qs rfl) ?_
                refine qg 32 (.bool ((x22.2.2 : Int) == x29.2.2)) rfl rfl rfl (qs rfl) ?_
                refine qg 33 (.bool ((x22.2.2 : Int) == x29.2.2)) rfl rfl rfl (qs rfl) ?_
                refine zm (by kernel_rfl) ?_
                refine z7 ?_ (by intro c h; cases h)
                exact qj (((x22.2.2 : Int) == x29.2.2), ())
              · refine qJ (d := 87) (v := .bool false) rfl (by rw [h54] <;> rfl) ?_
                refine qB 29 rfl rfl rfl ?_
                refine qB 30 rfl rfl rfl ?_
                refine qB 31 rfl rfl rfl ?_
                refine qg 32 (.bool false) rfl rfl rfl (qs rfl) ?_
                refine qg 33 (.bool false) rfl rfl rfl (qs rfl) ?_
                refine zm (by kernel_rfl) ?_
                refine z7 ?_ (by intro c h; cases h)
                exact qj (false, ())
            · refine qJ (d := 82) (v := .bool false) rfl (by rw [h53] <;> rfl) ?_
              refine qB 24 rfl rfl rfl ?_
              refine qB 25 rfl rfl rfl ?_
              refine qB 26 rfl rfl rfl ?_
              refine qg 27 (.bool false) rfl rfl rfl (qs rfl) ?_
              refine qg 28 (.bool false) rfl rfl rfl (qs rfl) ?_
              refine qB 29 rfl rfl rfl ?_
              refine qB 30 rfl rfl rfl ?_
              refine qB 31 rfl rfl rfl ?_
              refine qg 32 (.bool false) rfl rfl rfl (qs rfl) ?_
              refine qg 33 (.bool false) rfl rfl rfl (qs rfl) ?_
              refine zm (by kernel_rfl) ?_
              refine z7 ?_ (by intro c h; cases h)
              exact qj (false, ())
          · refine qJ (d := 77) (v := .bool false) rfl (by rw [h51] <;> rfl) ?_
            refine qB 19 rfl rfl rfl ?_
            refine qB 20 rfl rfl rfl ?_
            refine qB 21 rfl rfl rfl ?_
            refine qg 22 (.bool false) rfl rfl rfl (qs rfl) ?_
            refine qg 23 (.bool false) rfl rfl rfl (qs rfl) ?_
            refine qB 24 rfl rfl rfl ?_
            refine qB 25 rfl rfl rfl ?_
            refine qB 26 rfl rfl rfl ?_
            refine qg 27 (.bool false) rfl rfl rfl (qs rfl) ?_
            refine qg 28 (.bool false) rfl rfl rfl (qs rfl) ?_
            refine qB 29 rfl rfl rfl ?_
            refine qB 30 rfl rfl rfl ?_
            refine qB 31 rfl rfl rfl ?_
            refine qg 32 (.bool false) rfl rfl rfl (qs rfl) ?_
            refine qg 33 (.bool false) rfl rfl rfl (qs rfl) ?_
            refine zm (by kernel_rfl) ?_
            refine z7 ?_ (by intro c h; cases h)
            exact qj (false, ())
        · refine qJ (d := 72) (v := .bool false) rfl (by rw [h50] <;> rfl) ?_
          refine qB 14 rfl rfl rfl ?_
          refine qB 15 rfl rfl rfl ?_
          refine qB 16 rfl rfl rfl ?_
          refine qg 17 (.bool false) rfl rfl rfl (qs rfl) ?_
          refine qg 18 (.bool false) rfl rfl rfl (qs rfl) ?_
          refine qB 19 rfl rfl rfl ?_
          refine qB 20 rfl rfl rfl ?_
          refine qB 21 rfl rfl rfl ?_
          refine qg 22 (.bool false) rfl rfl rfl (qs rfl) ?_
          refine qg 23 (.bool false) rfl rfl rfl (qs rfl) ?_
          refine qB 24 rfl rfl rfl ?_
          refine qB 25 rfl rfl rfl ?_
          refine qB 26 rfl rfl rfl ?_
          refine qg 27 (.bool false) rfl rfl rfl (qs rfl) ?_
          refine qg 28 (.bool false) rfl rfl rfl (qs rfl) ?_
          refine qB 29 rfl rfl rfl ?_
          refine qB 30 rfl rfl rfl ?_
          refine qB 31 rfl rfl rfl ?_
          refine qg 32 (.bool false) rfl rfl rfl (qs rfl) ?_
          refine qg 33 (.bool false) rfl rfl rfl (qs rfl) ?_
          refine zm (by kernel_rfl) ?_
          refine z7 ?_ (by intro c h; cases h)
          exact qj (false, ())
      · refine qJ (d := 67) (v := .bool false) rfl (by rw [h48] <;> rfl) ?_
        refine qB 9 rfl rfl rfl ?_
        refine qB 10 rfl rfl rfl ?_
        refine qB 11 rfl rfl rfl ?_
        refine qg 12 (.bool false) rfl rfl rfl (qs rfl) ?_
        refine qg 13 (.bool false) rfl rfl rfl (qs rfl) ?_
        refine qB 14 rfl rfl rfl ?_
        refine qB 15 rfl rfl rfl ?_
        refine qB 16 rfl rfl rfl ?_
        refine qg 17 (.bool false) rfl rfl rfl (qs rfl) ?_
        refine qg 18 (.bool false) rfl rfl rfl (qs rfl) ?_
        refine qB 19 rfl rfl rfl ?_
        refine qB 20 rfl rfl rfl ?_
        refine qB 21 rfl rfl rfl ?_
        refine qg 22 (.bool false) rfl rfl rfl (qs rfl) ?_
        refine qg 23 (.bool false) rfl rfl rfl (qs rfl) ?_
        refine qB 24 rfl rfl rfl ?_
        refine qB 25 rfl rfl rfl ?_
        refine qB 26 rfl rfl rfl ?_
        refine qg 27 (.bool false) rfl rfl rfl (qs rfl) ?_
        refine qg 28 (.bool false) rfl rfl rfl (qs rfl) ?_
        refine qB 29 rfl rfl rfl ?_
        refine qB 30 rfl rfl rfl ?_
        refine qB 31 rfl rfl rfl ?_
        refine qg 32 (.bool false) rfl rfl rfl (qs rfl) ?_
        refine qg 33 (.bool false) rfl rfl rfl (qs rfl) ?_
        refine zm (by kernel_rfl) ?_
        refine z7 ?_ (by intro c h; cases h)
        exact qj (false, ())
    · refine qJ (d := 60) (v := .bool false) rfl (by rw [h45] <;> rfl) ?_
      refine qB 2 rfl rfl rfl ?_
      refine qB 3 rfl rfl rfl ?_
      refine qB 4 rfl rfl rfl ?_
      refine qB 5 rfl rfl rfl ?_
      refine qB 6 rfl rfl rfl ?_
      refine qg 7 (.bool false) rfl rfl rfl (qs rfl) ?_
      refine qg 8 (.bool false) rfl rfl rfl (qs rfl) ?_
      refine qB 9 rfl rfl rfl ?_
      refine qB 10 rfl rfl rfl ?_
      refine qB 11 rfl rfl rfl ?_
      refine qg 12 (.bool false) rfl rfl rfl (qs rfl) ?_
      refine qg 13 (.bool false) rfl rfl rfl (qs rfl) ?_
      refine qB 14 rfl rfl rfl ?_
      refine qB 15 rfl rfl rfl ?_
      refine qB 16 rfl rfl rfl ?_
      refine qg 17 (.bool false) rfl rfl rfl (qs rfl) ?_
      refine qg 18 (.bool false) rfl rfl rfl (qs rfl) ?_
      refine qB 19 rfl rfl rfl ?_
      refine qB 20 rfl rfl rfl ?_
      refine qB 21 rfl rfl rfl ?_
      refine qg 22 (.bool false) rfl rfl rfl (qs rfl) ?_
      refine qg 23 (.bool false) rfl rfl rfl (qs rfl) ?_
      refine qB 24 rfl rfl rfl ?_
      refine qB 25 rfl rfl rfl ?_
      refine qB 26 rfl rfl rfl ?_
      refine qg 27 (.bool false) rfl rfl rfl (qs rfl) ?_
      refine qg 28 (.bool false) rfl rfl rfl (qs rfl) ?_
      refine qB 29 rfl rfl rfl ?_
      refine qB 30 rfl rfl rfl ?_
      refine qB 31 rfl rfl rfl ?_
      refine qg 32 (.bool false) rfl rfl rfl (qs rfl) ?_
      refine qg 33 (.bool false) rfl rfl rfl (qs rfl) ?_
      refine zm (by kernel_rfl) ?_
      refine z7 ?_ (by intro c h; cases h)
      exact qj (false, ())
  · rintro ⟨x43, _⟩
    try dsimp only
    refine qr ?_
    exact qm () (res1 rfl rfl)
end Go.Proofs.YtidnfcdnhdbolaaGreat
