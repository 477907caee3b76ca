/- Each Go function of this seat computes what its model says, part 3. -/
import Derived.Test.YtpnfijegoepiaaaGreatWalks2
namespace Go.Proofs.YtpnfijegoepiaaaGreat
open Go SX
theorem qhh (F : Nat) (x1 : List (List Int)) (a2 : Option Addr) (c3 : (Nat × List (Option Addr × Nat))) (x4 : Int) (x5 : Int) (x6 : Int) (r : (List Int × List Int × Int)) (hm : qbS F x1 x4 x5 x6 = some r) :
    Pure Tryz.prog 11 [.agg #[.slice a2 x1.length c3.1], .agg #[.int .i64 x4, .int .i64 x5, .int .i64 x6]] [SlN eN37 iN37 1 (.slice a2 x1.length c3.1) x1 c3.2] ((Option Addr × Nat) × (Option Addr × Nat)) (fun g => .tuple #[.slice g.1.1 r.1.length g.1.2, .slice g.2.1 r.2.1.length g.2.2, .int .i64 r.2.2]) (fun g => [Ro (eI .i64) 3 1 (.slice g.1.1 r.1.length g.1.2) r.1, Ro (eI .i64) 3 1 (.slice g.2.1 r.2.1.length g.2.2) r.2.1]) (fun _ => []) := by
 refine qS Tryz.func11 rfl Tryz.ntmps11 rfl hm (fun w => qH (l' := [(0, .agg #[.slice a2 x1.length c3.1]), (1, .agg #[.int .i64 x4, .int .i64 x5, .int .i64 x6])]) rfl (qg (qa (qV rfl rfl rfl (fun g7 => qV rfl rfl rfl (fun g8 => qb rfl rfl rfl (qb rfl rfl rfl (qb rfl rfl rfl (qd (qc (qg (qa ?_))))))))))))
 refine ql (i := 1) rfl rfl tf24 rfl rfl (by simp) rfl rfl (ql (i := 0) rfl rfl tf26 rfl rfl (by simp) rfl rfl (qY ent28 rfl rfl rfl (fun x9 e9 => qdb F x1 a2 c3 x4 x5 x6 x9 e9) .nil .nil (.consF 0 rfl .nil) (fun x9 e9 => ?_)))
 rintro ⟨⟨a10, c11⟩, ⟨a12, c13⟩, ⟨a14, c15⟩, g16⟩
 refine qe rfl rfl rfl (qv rfl rfl rfl rfl (qv rfl rfl rfl rfl (qb rfl rfl rfl (qb rfl rfl rfl (qd (qc (qg (qg (qa (qe rfl rfl rfl (kQ rfl rfl rfl rfl (qd ?_))))))))))))
 refine qc (qz rfl (fun h18 => ?_) (fun h18 => ?_))
 exact qg (qa (qe rfl rfl rfl (qb rfl rfl rfl (qb rfl rfl rfl (qb rfl rfl rfl (qd (qc (qs (qp (q3 Int (eI .i64) 3 1 (q3 Int (eI .i64) 3 1 (qq ((none, 0), (none, 0)) (res3 rfl rfl rfl rfl) (fun h => by subst h; exact (.cons 0 rfl (.cons 0 rfl .nil)))))))))))))))
 refine qr (qc (qg (zg mixed [] [⟨g16, 66, [.int .i64 x9.1, .int .i64 x9.2.1, .int .i64 x9.2.2.1, .int .i64 x9.2.2.2.1, .int .i64 x9.2.2.2.2.1, .slice a10 x9.2.2.2.2.2.1.length c11, .slice a12 x9.2.2.2.2.2.2.1.length c13, .slice a14 x9.2.2.2.2.2.2.2.1.length c15]⟩, ⟨g8, 26, [.int .i64 x4, .int .i64 x5, .int .i64 x6]⟩, ⟨g7, 24, [.slice a2 x1.length c3.1]⟩] [SlN eN37 iN37 1 (.slice a2 x1.length c3.1) x1 c3.2] (.cons 0 rfl (.cons 0 rfl (.cons 0 rfl .nil))) (q8 0 rfl qE) 11 rfl (qf 0 (.pointer (some ⟨g16, 0, none⟩)) rfl rfl rfl (qj rfl) (qf 1 (.pointer (some ⟨g16, 0, none⟩)) rfl rfl rfl (qj rfl) (qf 2 (.pointer (some ⟨g16, 6, none⟩)) rfl rfl rfl (qt rfl qe1) (qP 3 (.slice a12 x9.2.2.2.2.2.2.1.length c13) rfl rfl rfl (qQ (i := 0) rfl tf37 rfl rfl (fun _ => rfl) rfl) (qf 4 (.pointer (some ⟨g16, 0, none⟩)) rfl rfl rfl (qj rfl) (qf 5 (.pointer (some ⟨g16, 0, none⟩)) rfl rfl rfl (qj rfl) (qf 6 (.pointer (some ⟨g16, 7, none⟩)) rfl rfl rfl (qt rfl qe2) (qP 7 (.slice a14 x9.2.2.2.2.2.2.2.1.length c15) rfl rfl rfl (qQ (i := 0) rfl tf37 rfl rfl (fun _ => rfl) rfl) (qf 8 (.slice a12 x9.2.2.2.2.2.2.1.length c13) rfl rfl rfl (qj rfl) ?_))))))))))))
 exact qf 9 (.slice a14 x9.2.2.2.2.2.2.2.1.length c15) rfl rfl rfl (qj rfl) (qf 10 (.int .i64 0) rfl rfl rfl (qj rfl) (qO (by kernel_rfl) (zm (qc (qs (qq ((a12, c13), (a14, c15)) (res3 rfl rfl rfl rfl) (fun h => by subst h; exact (.cons 1 rfl (.cons 1 rfl .nil)))))) (by intro c h; cases h))))
theorem qgk (F : Nat) (x1 : List Int) (a2 : Option Addr) (c3 : Nat) (x4 : List Int) (a5 : Option Addr) (c6 : Nat) (r : Bool) (hm : qbc F x1 x4 = some r) :
    Pure Tryz.prog 18 [.slice a2 x1.length c3, .slice a5 x4.length c6] [Sl (eI .i64) 1 (.slice a2 x1.length c3) x1, Sl (eI .i64) 1 (.slice a5 x4.length c6) x4] Unit (fun _ => .bool r) (fun _ => []) (fun _ => []) := by
  refine qS Tryz.func18 rfl Tryz.ntmps18 rfl hm (fun w => ?_)
  refine qH (l' := [(0, .slice a2 x1.length c3), (1, .slice a5 x4.length c6)]) rfl ?_
  refine qg ?_
  refine qa ?_
  refine qb rfl rfl rfl ?_
  refine qd ?_
  refine qc ?_
  refine qg ?_
  refine qg ?_
  refine qa ?_
  refine qe rfl rfl rfl ?_
  refine qX rfl Tryz.underlying37 rfl rfl ?_
  refine qe rfl rfl rfl ?_
  refine qX rfl Tryz.underlying37 rfl rfl ?_
  refine kQ rfl rfl rfl rfl ?_
  refine qd ?_
  refine qc ?_
  refine qz rfl (fun h228 => ?_) (fun h228 => ?_)
  · refine qg ?_
    refine qa ?_
    refine qb rfl rfl rfl ?_
    refine qd ?_
    refine qc ?_
    refine qs ?_
    refine qp ?_
    exact qq () (res1 rfl rfl)
  · refine qr ?_
    refine qc ?_
    refine qK (fun ((_, _) : (Unit × Unit)) => []) (fun ((_, _) : (Unit × Unit)) => []) (fun ((_, _) : (Unit × Unit)) => []) (fun ((_, _) : (Unit × Unit)) => []) (fun ((_, _) : (Unit × Unit)) => qcH F) ?_ ?_
    · refine qg ?_
      refine qa ?_
      refine qb rfl rfl rfl ?_
      refine qd ?_
      refine qc ?_
      refine qB ?_
      refine q7 (fun ((x154, _) : (Int × Unit)) => [(0, .slice a2 x1.length c3), (1, .slice a5 x4.length c6), (5, .int .i64 x154)]) (fun ((x154, _) : (Int × Unit)) => []) (fun ((x154, _) : (Int × Unit)) => []) (fun ((x154, _) : (Int × Unit)) => [Sl (eI .i64) 1 (.slice a2 x1.length c3) x1, Sl (eI .i64) 1 (.slice a5 x4.length c6) x4]) (fun k (s : (Int × Unit)) => yQ F x1 x4 k s.1) (0, ()) F ?_ (hF := (qo 0 rfl (qo 1 rfl qA)))
      intro k191
      rintro ⟨x154, _⟩
      try dsimp only
      refine zB (m' := jU F x1 x4 (yQ F x1 x4 k191) x154) rfl ?_
      refine qg ?_
      refine qg ?_
      refine qa ?_
      refine qe rfl rfl rfl ?_
      refine qe rfl rfl rfl ?_
      refine qX rfl Tryz.underlying37 rfl rfl ?_
      refine qZ rfl rfl rfl rfl ?_
      refine qd ?_
      refine qc ?_
      refine qz rfl (fun h227 => ?_) (fun h227 => ?_)
      · refine qr ?_
        refine qc ?_
        refine qg ?_
        refine qB ?_
        refine qg ?_
        refine jS (j := 0) (zb .i64) (by decide) rfl (fun x218 e218 b219 o220 h221 => ?_)
        replace h221 : a2 = some ⟨b219, o220, none⟩ := h221
        refine jS (j := 2) (zb .i64) (by decide) rfl (fun x222 e222 b223 o224 h225 => ?_)
        replace h225 : a5 = some ⟨b223, o224, none⟩ := h225
        refine zg mixed [] [] [zC b223 (o224 + x154.toNat * 1) ((eI .i64) x222), zC b219 (o220 + x154.toNat * 1) ((eI .i64) x218), Sl (eI .i64) 1 (.slice a2 x1.length c3) x1, Sl (eI .i64) 1 (.slice a5 x4.length c6) x4] .nil (q8 0 rfl (q8 1 rfl (q8 2 rfl (q8 3 rfl qE)))) 9 rfl ?_
        refine qf 0 (.slice a2 x1.length c3) rfl rfl rfl (qj rfl) ?_
        refine qf 1 (.int .i64 x154) rfl rfl rfl (qj rfl) ?_
        refine qJ (d := 17) (v := .slice (some ⟨b219, o220, none⟩) x1.length c3) rfl (by rw [h221] <;> rfl) ?_
        refine qf 2 (.pointer (some ⟨b219, (o220 + x154.toNat * 1), none⟩)) rfl rfl rfl (qbb Tryz.underlying37 tf3 rfl rfl (kj e218).1 (qaE e218)) ?_
        refine qJ (d := 17) (v := .slice a2 x1.length c3) rfl (by rw [h221] <;> rfl) ?_
        refine ko 3 (.int .i64 x218) [] rfl rfl rfl (vW (j := 1) rfl tf3 rfl rfl (fun _ => rfl) rfl) ?_
        refine qf 4 (.slice a5 x4.length c6) rfl rfl rfl (qj rfl) ?_
        refine qf 5 (.int .i64 x154) rfl rfl rfl (qj rfl) ?_
        refine qJ (d := 21) (v := .slice (some ⟨b223, o224, none⟩) x4.length c6) rfl (by rw [h225] <;> rfl) ?_
        refine qf 6 (.pointer (some ⟨b223, (o224 + x154.toNat * 1), none⟩)) rfl rfl rfl (qbb Tryz.underlying37 tf3 rfl rfl (kj e222).1 (qaE e222)) ?_
        refine qJ (d := 21) (v := .slice a5 x4.length c6) rfl (by rw [h225] <;> rfl) ?_
        refine ko 7 (.int .i64 x222) [] rfl rfl rfl (vW (j := 0) rfl tf3 rfl rfl (fun _ => rfl) rfl) ?_
        refine qf 8 (.bool ((x218 : Int) != x222)) rfl rfl rfl (qj rfl) ?_
        refine qO (by kernel_rfl) ?_
        refine zm ?_ (by intro c h; cases h)
        refine qc ?_
        refine qz rfl (fun h226 => ?_) (fun h226 => ?_)
        · refine qg ?_
          refine qa ?_
          refine qb rfl rfl rfl ?_
          refine qd ?_
          refine qc ?_
          refine qs ?_
          refine qM ?_
          refine qp ?_
          refine qp ?_
          refine qM ?_
          refine qp ?_
          exact qq () (res1 rfl rfl)
        · refine qr ?_
          refine qU ?_
          refine qc ?_
          refine qa ?_
          refine qe rfl rfl rfl ?_
          refine qL rfl rfl rfl rfl ?_
          refine qb rfl rfl rfl ?_
          refine qd ?_
          exact qW (iadd .i64 x154 1, ()) (hF := (qo 2 rfl (qo 3 rfl qA)))
      · refine zj ?_
        refine qD ?_
        refine qD ?_
        refine zk ?_
        exact qm ((), ())
    · rintro ⟨_, _⟩
      try dsimp only
      refine qg ?_
      refine qa ?_
      refine qb rfl rfl rfl ?_
      refine qd ?_
      refine qc ?_
      refine qs ?_
      exact qq () (res1 rfl rfl)
theorem qfz (F : Nat) (x1 : List (List Int)) (a2 : Option Addr) (c3 : (Nat × List (Option Addr × Nat))) (x4 : List (List Int)) (a5 : Option Addr) (c6 : (Nat × List (Option Addr × Nat))) (r : Bool) (hm : qaM F x1 x4 = some r) :
    Pure Tryz.prog 39 [.slice a2 x1.length c3.1, .slice a5 x4.length c6.1] [SlN eN37 iN37 1 (.slice a2 x1.length c3.1) x1 c3.2, SlN eN37 iN37 1 (.slice a5 x4.length c6.1) x4 c6.2] Unit (fun _ => .bool r) (fun _ => []) (fun _ => []) := by
  refine qS Tryz.func39 rfl Tryz.ntmps39 rfl hm (fun w => ?_)
  refine qH (l' := [(0, .slice a2 x1.length c3.1), (1, .slice a5 x4.length c6.1)]) rfl ?_
  refine qg ?_
  refine qa ?_
  refine qb rfl rfl rfl ?_
  refine qd ?_
  refine qc ?_
  refine qg ?_
  refine qg ?_
  refine qa ?_
  refine qe rfl rfl rfl ?_
  refine qX rfl Tryz.underlying22 rfl rfl ?_
  refine qe rfl rfl rfl ?_
  refine qX rfl Tryz.underlying22 rfl rfl ?_
  refine kQ rfl rfl rfl rfl ?_
  refine qd ?_
  refine qc ?_
  refine qz rfl (fun h300 => ?_) (fun h300 => ?_)
  · refine qg ?_
    refine qa ?_
    refine qb rfl rfl rfl ?_
    refine qd ?_
    refine qc ?_
    refine qs ?_
    refine qp ?_
    exact qq () (res1 rfl rfl)
  · refine qr ?_
    refine qc ?_
    refine qK (fun ((_, _) : (Unit × Unit)) => []) (fun ((_, _) : (Unit × Unit)) => []) (fun ((_, _) : (Unit × Unit)) => []) (fun ((_, _) : (Unit × Unit)) => []) (fun ((_, _) : (Unit × Unit)) => qcf F) ?_ ?_
    · refine qg ?_
      refine qa ?_
      refine qb rfl rfl rfl ?_
      refine qd ?_
      refine qc ?_
      refine qB ?_
      refine q7 (fun ((x202, _) : (Int × Unit)) => [(0, .slice a2 x1.length c3.1), (1, .slice a5 x4.length c6.1), (5, .int .i64 x202)]) (fun ((x202, _) : (Int × Unit)) => []) (fun ((x202, _) : (Int × Unit)) => []) (fun ((x202, _) : (Int × Unit)) => [SlN eN37 iN37 1 (.slice a2 x1.length c3.1) x1 c3.2, SlN eN37 iN37 1 (.slice a5 x4.length c6.1) x4 c6.2]) (fun k (s : (Int × Unit)) => yB F x1 x4 k s.1) (0, ()) F ?_ (hF := (qo 0 rfl (qo 1 rfl qA)))
      intro k251
      rintro ⟨x202, _⟩
      try dsimp only
      refine zB (m' := jG F x1 x4 (yB F x1 x4 k251) x202) rfl ?_
      refine qg ?_
      refine qg ?_
      refine qa ?_
      refine qe rfl rfl rfl ?_
      refine qe rfl rfl rfl ?_
      refine qX rfl Tryz.underlying22 rfl rfl ?_
      refine qZ rfl rfl rfl rfl ?_
      refine qd ?_
      refine qc ?_
      refine qz rfl (fun h299 => ?_) (fun h299 => ?_)
      · refine qr ?_
        refine qc ?_
        refine qg ?_
        refine qB ?_
        refine qg ?_
        refine qhZ (j := 0) yP (by decide) rfl (fun x287 e287 g291 b288 o289 h290 => ?_)
        replace h290 : a2 = some ⟨b288, o289, none⟩ := h290
        refine qhZ (j := 3) yP (by decide) rfl (fun x292 e292 g296 b293 o294 h295 => ?_)
        replace h295 : a5 = some ⟨b293, o294, none⟩ := h295
        refine zg mixed [] [] [zC b293 (o294 + x202.toNat * 1) (eN37 (x292, g296)), Sl (eI .i64) 1 (.slice g296.1 x292.length g296.2) x292, zC b288 (o289 + x202.toNat * 1) (eN37 (x287, g291)), Sl (eI .i64) 1 (.slice g291.1 x287.length g291.2) x287, SlN eN37 iN37 1 (.slice a2 x1.length c3.1) x1 c3.2, SlN eN37 iN37 1 (.slice a5 x4.length c6.1) x4 c6.2] .nil (q8 0 rfl (q8 1 rfl (q8 2 rfl (q8 3 rfl (q8 4 rfl (q8 5 rfl qE)))))) 10 rfl ?_
        refine qf 0 (.slice a2 x1.length c3.1) rfl rfl rfl (qj rfl) ?_
        refine qf 1 (.int .i64 x202) rfl rfl rfl (qj rfl) ?_
        refine qJ (d := 17) (v := .slice (some ⟨b288, o289, none⟩) x1.length c3.1) rfl (by rw [h290] <;> rfl) ?_
        refine qf 2 (.pointer (some ⟨b288, (o289 + x202.toNat * 1), none⟩)) rfl rfl rfl (qbb Tryz.underlying22 tf37 rfl rfl (kj e287).1 (qaE e287)) ?_
        refine qJ (d := 17) (v := .slice a2 x1.length c3.1) rfl (by rw [h290] <;> rfl) ?_
        refine ko 3 (.slice g291.1 x287.length g291.2) [] rfl rfl rfl (vW (j := 2) rfl tf37 rfl rfl (fun _ => rfl) rfl) ?_
        refine qf 4 (.slice a5 x4.length c6.1) rfl rfl rfl (qj rfl) ?_
        refine qf 5 (.int .i64 x202) rfl rfl rfl (qj rfl) ?_
        refine qJ (d := 21) (v := .slice (some ⟨b293, o294, none⟩) x4.length c6.1) rfl (by rw [h295] <;> rfl) ?_
        refine qf 6 (.pointer (some ⟨b293, (o294 + x202.toNat * 1), none⟩)) rfl rfl rfl (qbb Tryz.underlying22 tf37 rfl rfl (kj e292).1 (qaE e292)) ?_
        refine qJ (d := 21) (v := .slice a5 x4.length c6.1) rfl (by rw [h295] <;> rfl) ?_
        refine ko 7 (.slice g296.1 x292.length g296.2) [] rfl rfl rfl (vW (j := 0) rfl tf37 rfl rfl (fun _ => rfl) rfl) ?_
        refine qI 8 rfl (by kernel_rfl) rfl ?_
        refine qx ent18 rfl rfl rfl (fun x297 e297 => qgk F x287 g291.1 g291.2 x292 g296.1 g296.2 x297 e297) (.consF 3 rfl (.consF 1 rfl .nil)) (fun x297 e297 => ?_)
        intro _
        refine qd ?_
        refine qF .nil (q8 0 rfl (q8 1 rfl (q8 2 rfl (q8 3 rfl (q8 4 rfl (q8 5 rfl qE)))))) ?_
        refine qf 9 (.bool (!x297)) rfl rfl rfl (qj rfl) ?_
        refine qO (by kernel_rfl) ?_
        refine zm ?_ (by intro c h; cases h)
        refine qc ?_
        refine qz rfl (fun h298 => ?_) (fun h298 => ?_)
        · refine qg ?_
          refine qa ?_
          refine qb rfl rfl rfl ?_
          refine qd ?_
          refine qc ?_
          refine qs ?_
          refine qM ?_
          refine qp ?_
          refine qp ?_
          refine qM ?_
          refine qp ?_
          exact qq () (res1 rfl rfl)
        · refine qr ?_
          refine qU ?_
          refine qc ?_
          refine qa ?_
          refine qe rfl rfl rfl ?_
          refine qL rfl rfl rfl rfl ?_
          refine qb rfl rfl rfl ?_
          refine qd ?_
          exact qW (iadd .i64 x202 1, ()) (hF := (qo 4 rfl (qo 5 rfl qA)))
      · refine zj ?_
        refine qD ?_
        refine qD ?_
        refine zk ?_
        exact qm ((), ())
    · rintro ⟨_, _⟩
      try dsimp only
      refine qg ?_
      refine qa ?_
      refine qb rfl rfl rfl ?_
      refine qd ?_
      refine qc ?_
      refine qs ?_
      exact qq () (res1 rfl rfl)
theorem qfy (F : Nat) (x1 : List (List Int)) (a2 : Option Addr) (c3 : (Nat × List (Option Addr × Nat))) (x4 : List (List Int)) (a5 : Option Addr) (c6 : (Nat × List (Option Addr × Nat))) (r : Bool) (hm : qaL F x1 x4 = some r) :
    Pure Tryz.prog 17 [.agg #[.slice a2 x1.length c3.1], .agg #[.slice a5 x4.length c6.1]] [SlN eN37 iN37 1 (.slice a2 x1.length c3.1) x1 c3.2, SlN eN37 iN37 1 (.slice a5 x4.length c6.1) x4 c6.2] Unit (fun _ => .bool r) (fun _ => []) (fun _ => []) := by
 refine qS Tryz.func17 rfl Tryz.ntmps17 rfl hm (fun w => qH (l' := [(0, .agg #[.slice a2 x1.length c3.1]), (1, .agg #[.slice a5 x4.length c6.1])]) rfl (qg (qa (qV rfl rfl rfl (fun g7 => qV rfl rfl rfl (fun g8 => qb rfl rfl rfl (qd (qc (qg (qa (qi rfl rfl qdx rfl (ql (i := 1) rfl rfl tf22 rfl rfl (fun _ => rfl) rfl rfl ?_))))))))))))
 refine qi rfl rfl qdx rfl (ql (i := 0) rfl rfl tf22 rfl rfl (fun _ => rfl) rfl rfl (qx ent39 rfl rfl rfl (fun x9 e9 => qfz F x1 a2 c3 x4 a5 c6 x9 e9) (.consF 0 rfl (.consF 1 rfl .nil)) (fun x9 e9 => ?_)))
 intro _
 exact qb rfl rfl rfl (qd (qc (qs (qq () (res1 rfl rfl)))))
theorem qaI (F : Nat)  (r : List (List Int)) (hm : vX F  = some r) :
    Pure Tryz.prog 38 [] [] (Option Addr × (Nat × List (Option Addr × Nat))) (fun g => .agg #[.slice g.1 r.length g.2.1]) (fun g => [RoN eN37 rN37 37 1 (.slice g.1 r.length g.2.1) r g.2.2 []]) (fun _ => []) := by
 refine qS Tryz.func38 rfl Tryz.ntmps38 rfl hm (fun w => qH (l' := []) rfl (qg (qa (qR rfl tf24 rfl (fun g1 => qd (qc (qg (qa (zW (vs := [.int .i64 1, .int .i64 2, .int .i64 3, .int .i64 5]) (ys := ([1, 2, 3, 5] : List Int)) (zb .i64) (by decide) rfl Tryz.underlying37 tf3 rfl rfl rfl rfl rfl (by decide) (fun a2 c3 => zW (vs := [.int .i64 1, .int .i64 2, .int .i64 3, .int .i64 5]) (ys := ([1, 2, 3, 5] : List Int)) (zb .i64) (by decide) rfl Tryz.underlying37 tf3 rfl rfl rfl rfl rfl (by decide) (fun a4 c5 => zW (vs := [.int .i64 0, .int .i64 1, .int .i64 2, .int .i64 3, .int .i64 5]) (ys := ([0, 1, 2, 3, 5] : List Int)) (zb .i64) (by decide) rfl Tryz.underlying37 tf3 rfl rfl rfl rfl rfl (by decide) (fun a6 c7 => zW (vs := [.int .i64 4]) (ys := ([4] : List Int)) (zb .i64) (by decide) rfl Tryz.underlying37 tf3 rfl rfl rfl rfl rfl (by decide) (fun a8 c9 => ?_)))))))))))))
 exact zW (vs := [.int .i64 1, .int .i64 2, .int .i64 3]) (ys := ([1, 2, 3] : List Int)) (zb .i64) (by decide) rfl Tryz.underlying37 tf3 rfl rfl rfl rfl rfl (by decide) (fun a10 c11 => kv Int (eI .i64) 3 1 (zW (vs := [.slice a2 ([1, 2, 3, 5] : List Int).length c3, .slice a4 ([1, 2, 3, 5] : List Int).length c5, .slice a6 ([0, 1, 2, 3, 5] : List Int).length c7, .slice none ([] : List Int).length 0, .slice a8 ([4] : List Int).length c9, .slice a10 ([1, 2, 3] : List Int).length c11]) (ys := ([(([1, 2, 3, 5] : List Int), (a2, c3)), (([1, 2, 3, 5] : List Int), (a4, c5)), (([0, 1, 2, 3, 5] : List Int), (a6, c7)), (([] : List Int), (none, 0)), (([4] : List Int), (a8, c9)), (([1, 2, 3] : List Int), (a10, c11))] : List (List Int × (Option Addr × Nat)))) yP (by decide) rfl Tryz.underlying22 tf37 rfl rfl rfl rfl rfl (by decide) (fun a12 c13 => qdB (rin := rN37) (i := 0) ([([1, 2, 3, 5] : List Int), ([1, 2, 3, 5] : List Int), ([0, 1, 2, 3, 5] : List Int), ([] : List Int), ([4] : List Int), ([1, 2, 3] : List Int)] : List (List Int)) ([(a2, c3), (a4, c5), (a6, c7), (none, 0), (a8, c9), (a10, c11)] : List (Option Addr × Nat)) rfl rfl (.cons 5 rfl (.cons 4 rfl (.cons 3 rfl (.cons 0 rfl (.cons 1 rfl (.cons 0 rfl .nil)))))) (zv (cells := [.slice a12 ([([1, 2, 3, 5] : List Int), ([1, 2, 3, 5] : List Int), ([0, 1, 2, 3, 5] : List Int), ([] : List Int), ([4] : List Int), ([1, 2, 3] : List Int)] : List (List Int)).length c13]) rfl st24 rfl (by kernel_rfl) rfl (qu (i := 0) rfl rfl rfl tf24 rfl rfl rfl rfl rfl (qd (qc (qs (qq (a12, (c13, ([(a2, c3), (a4, c5), (a6, c7), (none, 0), (a8, c9), (a10, c11)] : List (Option Addr × Nat)))) (resL (rs := [.cell 0 24]) rfl (.cell (i := 0) rfl tf24 rfl rfl (by simp) rfl ResOk.nil) rfl) (fun h => by subst h; exact (.cons 0 rfl .nil)))))))))))
set_option maxHeartbeats 4000000 in
theorem qfw (F : Nat)  (r : Bool) (hm : qaJ F  = some r) :
    Pure Tryz.prog 15 [] [] Unit (fun _ => .bool r) (fun _ => []) (fun _ => []) := by
 refine qS Tryz.func15 rfl Tryz.ntmps15 rfl hm (fun w => qH (l' := []) rfl (qg (qa (qb rfl rfl rfl (qd (qc (qg (qa (zv (cells := [.int .i64 3, .int .i64 3, .int .i64 2]) rfl st26 rfl (by kernel_rfl) rfl (qR rfl tf26 rfl (fun g1 => qu (i := 0) rfl rfl rfl tf26 rfl rfl rfl rfl rfl (qd ?_))))))))))))
 refine qc (qK (fun (((x21, x22, x23, x24, x25, x26, x29), (g20, a27, c28)) : ((Int × Int × Int × Int × Int × Int × List Int) × (Nat × Option Addr × Nat))) => [(1, .pointer (some ⟨g1, 0, none⟩)), (2, .pointer (some ⟨g20, 0, none⟩)), (3, .int .i64 x21)]) (fun (((x21, x22, x23, x24, x25, x26, x29), (g20, a27, c28)) : ((Int × Int × Int × Int × Int × Int × List Int) × (Nat × Option Addr × Nat))) => [⟨g1, 26, [.int .i64 3, .int .i64 3, .int .i64 2]⟩, ⟨g20, 31, [.int .i64 x22, .int .i64 x23, .int .i64 x24, .int .i64 x25, .int .i64 x26, .slice a27 x29.length c28]⟩]) (fun (((x21, x22, x23, x24, x25, x26, x29), (g20, a27, c28)) : ((Int × Int × Int × Int × Int × Int × List Int) × (Nat × Option Addr × Nat))) => [Ro (eI .u8) 5 1 (.slice a27 x29.length c28) x29]) (fun (((x21, x22, x23, x24, x25, x26, x29), (g20, a27, c28)) : ((Int × Int × Int × Int × Int × Int × List Int) × (Nat × Option Addr × Nat))) => []) (fun (((x21, x22, x23, x24, x25, x26, x29), _) : ((Int × Int × Int × Int × Int × Int × List Int) × (Nat × Option Addr × Nat))) => vj F x21 x22 x23 x24 x25 x26 x29) ?_ ?_)
 refine zg mixed [] [⟨g1, 26, [.int .i64 3, .int .i64 3, .int .i64 2]⟩] [] (.cons 0 rfl .nil) qE 9 rfl (qP 1 (.agg #[.int .i64 3, .int .i64 3, .int .i64 2]) rfl rfl rfl (qQ (i := 0) rfl tf26 rfl rfl (by simp) rfl) (qbq 0 6 rfl rfl (by kernel_rfl) rfl rfl ?_ ?_))
 refine qx ent38 rfl rfl rfl (fun x103 e103 => qaI F  x103 e103) .nil (fun x103 e103 => ?_)
 rintro ⟨a104, c105⟩
 refine qd (qF (.cons 0 rfl .nil) qE (qbq 2 6 rfl rfl (by kernel_rfl) rfl rfl ?_ ?_))
 refine qx ent9 rfl rfl rfl (fun x106 e106 => vB F x103 a104 c105 3 3 2 x106 e106) (.consG 0 rfl (qaW qaX) .nil) (fun x106 e106 => ?_)
 rintro ⟨a107, c108⟩
 refine qd (qF (.cons 0 rfl .nil) qE (qf 3 (.tuple #[.agg #[.int .i64 x106.1, .int .i64 x106.2.1, .int .i64 x106.2.2.1, .int .i64 x106.2.2.2.1, .int .i64 x106.2.2.2.2.1, .slice a107 x106.2.2.2.2.2.1.length c108], .int .i64 x106.2.2.2.2.2.2]) rfl rfl rfl (qj rfl) (qf 4 (.agg #[.int .i64 x106.1, .int .i64 x106.2.1, .int .i64 x106.2.2.1, .int .i64 x106.2.2.2.1, .int .i64 x106.2.2.2.2.1, .slice a107 x106.2.2.2.2.2.1.length c108]) rfl rfl rfl (qj rfl) (qf 5 (.int .i64 x106.2.2.2.2.2.2) rfl rfl rfl (qj rfl) (qI 6 rfl (by kernel_rfl) rfl (qR rfl tf31 rfl (fun g109 => qd (qF (.cons 1 rfl .nil) qE (qI 7 rfl (by kernel_rfl) rfl (qu (i := 0) rfl rfl rfl tf31 rfl rfl rfl rfl rfl (qd (qF (.cons 1 rfl .nil) qE ?_))))))))))))
 exact qf 8 (.int .i64 x106.2.2.2.2.2.2) rfl rfl rfl (qj rfl) (qO (by kernel_rfl) (zm (qm ((x106.2.2.2.2.2.2, x106.1, x106.2.1, x106.2.2.1, x106.2.2.2.1, x106.2.2.2.2.1, x106.2.2.2.2.2.1), (g109, a107, c108)) (hB := (.cons 1 rfl (.cons 0 rfl .nil))) (hR := (.cons 0 rfl .nil))) (by intro c h; cases h)))
 refine qbs (m' := ((k9 F x103 3 3 2).bind fun x111 => vj F x111.2.2.2.2.2.2 x111.1 x111.2.1 x111.2.2.1 x111.2.2.2.1 x111.2.2.2.2.1 x111.2.2.2.2.2.1)) (rfl) (qR rfl tf31 rfl (fun g110 => qd (qF (.cons 1 rfl .nil) qE (qI 2 rfl (by kernel_rfl) rfl (qx ent9 rfl rfl rfl (fun x111 e111 => vB F x103 a104 c105 3 3 2 x111 e111) (.consG 0 rfl (qaW qaX) .nil) (fun x111 e111 => ?_))))))
 rintro ⟨a112, c113⟩
 exact qd (qF (.cons 1 rfl .nil) qE (qf 3 (.tuple #[.agg #[.int .i64 x111.1, .int .i64 x111.2.1, .int .i64 x111.2.2.1, .int .i64 x111.2.2.2.1, .int .i64 x111.2.2.2.2.1, .slice a112 x111.2.2.2.2.2.1.length c113], .int .i64 x111.2.2.2.2.2.2]) rfl rfl rfl (qj rfl) (qf 4 (.agg #[.int .i64 x111.1, .int .i64 x111.2.1, .int .i64 x111.2.2.1, .int .i64 x111.2.2.2.1, .int .i64 x111.2.2.2.2.1, .slice a112 x111.2.2.2.2.2.1.length c113]) rfl rfl rfl (qj rfl) (qf 5 (.int .i64 x111.2.2.2.2.2.2) rfl rfl rfl (qj rfl) (qI 7 rfl (by kernel_rfl) rfl (qu (i := 0) rfl rfl rfl tf31 rfl rfl rfl rfl rfl (qd (qF (.cons 1 rfl .nil) qE (qf 8 (.int .i64 x111.2.2.2.2.2.2) rfl rfl rfl (qj rfl) (qO (by kernel_rfl) (zm (qm ((x111.2.2.2.2.2.2, x111.1, x111.2.1, x111.2.2.1, x111.2.2.2.1, x111.2.2.2.2.1, x111.2.2.2.2.2.1), (g110, a112, c113)) (hB := (.cons 1 rfl (.cons 0 rfl .nil))) (hR := (.cons 0 rfl .nil))) (by intro c h; cases h))))))))))))
 refine qbs (m' := ((vX F).bind fun x115 => ((k9 F x115 3 3 2).bind fun x118 => vj F x118.2.2.2.2.2.2 x118.1 x118.2.1 x118.2.2.1 x118.2.2.2.1 x118.2.2.2.2.1 x118.2.2.2.2.2.1))) (rfl) (qR rfl tf31 rfl (fun g114 => qd (qF (.cons 1 rfl .nil) qE (qI 0 rfl (by kernel_rfl) rfl (qx ent38 rfl rfl rfl (fun x115 e115 => qaI F  x115 e115) .nil (fun x115 e115 => ?_))))))
 rintro ⟨a116, c117⟩
 refine qd (qF (.cons 1 rfl .nil) qE (qI 2 rfl (by kernel_rfl) rfl (qx ent9 rfl rfl rfl (fun x118 e118 => vB F x115 a116 c117 3 3 2 x118 e118) (.consG 0 rfl (qaW qaX) .nil) (fun x118 e118 => ?_))))
 rintro ⟨a119, c120⟩
 exact qd (qF (.cons 1 rfl .nil) qE (qf 3 (.tuple #[.agg #[.int .i64 x118.1, .int .i64 x118.2.1, .int .i64 x118.2.2.1, .int .i64 x118.2.2.2.1, .int .i64 x118.2.2.2.2.1, .slice a119 x118.2.2.2.2.2.1.length c120], .int .i64 x118.2.2.2.2.2.2]) rfl rfl rfl (qj rfl) (qf 4 (.agg #[.int .i64 x118.1, .int .i64 x118.2.1, .int .i64 x118.2.2.1, .int .i64 x118.2.2.2.1, .int .i64 x118.2.2.2.2.1, .slice a119 x118.2.2.2.2.2.1.length c120]) rfl rfl rfl (qj rfl) (qf 5 (.int .i64 x118.2.2.2.2.2.2) rfl rfl rfl (qj rfl) (qI 7 rfl (by kernel_rfl) rfl (qu (i := 0) rfl rfl rfl tf31 rfl rfl rfl rfl rfl (qd (qF (.cons 1 rfl .nil) qE (qf 8 (.int .i64 x118.2.2.2.2.2.2) rfl rfl rfl (qj rfl) (qO (by kernel_rfl) (zm (qm ((x118.2.2.2.2.2.2, x118.1, x118.2.1, x118.2.2.1, x118.2.2.2.1, x118.2.2.2.2.1, x118.2.2.2.2.2.1), (g114, a119, c120)) (hB := (.cons 1 rfl (.cons 0 rfl .nil))) (hR := (.cons 0 rfl .nil))) (by intro c h; cases h))))))))))))
 rintro ⟨⟨x21, x22, x23, x24, x25, x26, x29⟩, ⟨g20, a27, c28⟩⟩
 try dsimp only
 refine qg (qa (ql (i := 1) rfl rfl tf31 rfl rfl (by simp) rfl rfl (qx ent10 rfl rfl rfl (fun x30 e30 => qex F x22 x23 x24 x25 x26 x29 a27 c28 x30 e30) (.consR 0 (Ro (eI .u8) 5 1 (.slice a27 x29.length c28) x29) rfl .nil) (fun x30 e30 => ?_))))
 rintro ⟨a31, c32⟩
 refine qe rfl rfl rfl (qv rfl rfl rfl rfl (qv rfl rfl rfl rfl (qR rfl tf24 rfl (fun g33 => qu (i := 0) rfl rfl rfl tf24 rfl rfl rfl rfl rfl (qb rfl rfl rfl (qd (qc (qg (zg mixed [] [⟨g33, 24, [.slice a31 x30.1.length c32.1]⟩, ⟨g1, 26, [.int .i64 3, .int .i64 3, .int .i64 2]⟩, ⟨g20, 31, [.int .i64 x22, .int .i64 x23, .int .i64 x24, .int .i64 x25, .int .i64 x26, .slice a27 x29.length c28]⟩] [] (.cons 0 rfl (.cons 0 rfl (.cons 0 rfl .nil))) qE 10 rfl (qP 1 (.agg #[.int .i64 3, .int .i64 3, .int .i64 2]) rfl rfl rfl (qQ (i := 1) rfl tf26 rfl rfl (by simp) rfl) (qI 0 rfl (by kernel_rfl) rfl (qx ent38 rfl rfl rfl (fun x42 e42 => qaI F  x42 e42) .nil (fun x42 e42 => ?_)))))))))))))
 rintro ⟨a43, c44⟩
 refine qd (qF (.cons 0 rfl (.cons 0 rfl (.cons 0 rfl .nil))) qE (qI 2 rfl (by kernel_rfl) rfl (qx ent11 rfl rfl rfl (fun x45 e45 => qhh F x42 a43 c44 3 3 2 x45 e45) (.consG 0 rfl (qaW qaX) .nil) (fun x45 e45 => ?_))))
 rintro ⟨⟨a46, c47⟩, ⟨a48, c49⟩⟩
 refine qd (qF (.cons 0 rfl (.cons 0 rfl (.cons 0 rfl .nil))) qE (qf 3 (.tuple #[.slice a46 x45.1.length c47, .slice a48 x45.2.1.length c49, .int .i64 x45.2.2]) rfl rfl rfl (qj rfl) (qf 4 (.slice a46 x45.1.length c47) rfl rfl rfl (qj rfl) (qf 5 (.slice a48 x45.2.1.length c49) rfl rfl rfl (qj rfl) (qf 6 (.int .i64 x45.2.2) rfl rfl rfl (qj rfl) (qf 7 (.slice a46 x45.1.length c47) rfl rfl rfl (qj rfl) (qf 8 (.slice a48 x45.2.1.length c49) rfl rfl rfl (qj rfl) (qf 9 (.int .i64 x45.2.2) rfl rfl rfl (qj rfl) (qO (by kernel_rfl) (zm (qc (qg ?_)) (by intro c h; cases h)))))))))))
 refine qa (ql (i := 1) rfl rfl tf26 rfl rfl (by simp) rfl rfl (zv (cells := [.int .i64 1, .int .i64 3, .int .i64 3, .int .i64 2, .int .i64 0, .slice none 0 0]) rfl st31 rfl (by kernel_rfl) rfl (kv Int (eI .u8) 5 1 (qx ent10 rfl rfl rfl (fun x50 e50 => qex F 1 3 3 2 0 ([] : List Int) none 0 x50 e50) (.consR 0 (Ro (eI .u8) 5 1 (.slice none ([] : List Int).length 0) ([] : List Int)) rfl .nil) (fun x50 e50 => ?_)))))
 rintro ⟨a51, c52⟩
 refine qe rfl rfl rfl (qv rfl rfl rfl rfl (qv rfl rfl rfl rfl (qR rfl tf24 rfl (fun g53 => qu (i := 0) rfl rfl rfl tf24 rfl rfl rfl rfl rfl (qb rfl rfl rfl (qd (qc (qK (fun ((x78, _) : (Bool × Unit)) => [(0, .bool x78)]) (fun ((x78, _) : (Bool × Unit)) => []) (fun ((x78, _) : (Bool × Unit)) => []) (fun ((x78, _) : (Bool × Unit)) => []) (fun ((x78, _) : (Bool × Unit)) => zw F x78) ?_ ?_))))))))
 refine qad (fun h79 => ?_) (fun h79 => ?_)
 refine qad (fun h80 => ?_) (fun h80 => ?_)
 refine qad (fun h81 => ?_) (fun h81 => ?_)
 refine zg mixed [] [⟨g53, 24, [.slice a51 x50.1.length c52.1]⟩, ⟨g33, 24, [.slice a31 x30.1.length c32.1]⟩, ⟨g1, 26, [.int .i64 3, .int .i64 3, .int .i64 2]⟩, ⟨g20, 31, [.int .i64 x22, .int .i64 x23, .int .i64 x24, .int .i64 x25, .int .i64 x26, .slice a27 x29.length c28]⟩] [] (.cons 0 rfl (.cons 0 rfl (.cons 0 rfl (.cons 0 rfl .nil)))) qE 59 rfl (qf 0 (.int .i64 x21) rfl rfl rfl (qj rfl) (qf 1 (.bool ((x21 : Int) == 0)) rfl rfl rfl (qj rfl) (qf 2 (.bool ((x21 : Int) == 0)) rfl rfl rfl (qj rfl) (qJ (d := 38) (v := .bool true) rfl (by rw [h79] <;> rfl) (qf 3 (.pointer (some ⟨g20, 0, none⟩)) rfl rfl rfl (qt rfl qcS) (qP 4 (.int .i64 x22) rfl rfl rfl (qQ (i := 3) rfl tf3 rfl rfl (fun _ => rfl) rfl) (qf 5 (.bool ((x22 : Int) == 6)) rfl rfl rfl (qj rfl) (qf 6 (.bool ((x22 : Int) == 6)) rfl rfl rfl (qj rfl) (qf 7 (.bool ((x22 : Int) == 6)) rfl rfl rfl (qj rfl) (qJ (d := 43) (v := .bool true) rfl (by rw [h80] <;> rfl) (qf 8 (.pointer (some ⟨g20, 1, none⟩)) rfl rfl rfl (qt rfl qbF) (qP 9 (.agg #[.int .i64 x23, .int .i64 x24, .int .i64 x25]) rfl rfl rfl (qQ (i := 3) rfl tf26 rfl rfl (by simp) rfl) ?_))))))))))))
 refine qP 10 (.agg #[.int .i64 3, .int .i64 3, .int .i64 2]) rfl rfl rfl (qQ (i := 2) rfl tf26 rfl rfl (by simp) rfl) (qf 11 (.bool (((x23 : Int) == 3) && (((x24 : Int) == 3) && ((x25 : Int) == 2)))) rfl rfl rfl (qjK rfl rfl se26) (qf 12 (.bool (((x23 : Int) == 3) && (((x24 : Int) == 3) && ((x25 : Int) == 2)))) rfl rfl rfl (qj rfl) (qf 13 (.bool (((x23 : Int) == 3) && (((x24 : Int) == 3) && ((x25 : Int) == 2)))) rfl rfl rfl (qj rfl) (qJ (d := 49) (v := .bool true) rfl (by rw [h81] <;> rfl) (qP 14 (.agg #[.slice a31 x30.1.length c32.1]) rfl rfl rfl (qQ (i := 1) rfl tf24 rfl rfl (by simp) rfl) (qI 15 rfl (by kernel_rfl) rfl (qx ent38 rfl rfl rfl (fun x82 e82 => qaI F  x82 e82) .nil (fun x82 e82 => ?_))))))))
 rintro ⟨a83, c84⟩
 refine qd (qF (.cons 0 rfl (.cons 0 rfl (.cons 0 rfl (.cons 0 rfl .nil)))) qE (qI 16 rfl (by kernel_rfl) rfl (qx ent17 rfl rfl rfl (fun x85 e85 => qfy F x30.1 a31 c32 x82 a83 c84 x85 e85) (.consG 6 rfl (qaW qaX) (.consG 0 rfl (qaW qaX) .nil)) (fun x85 e85 => ?_))))
 intro _
 refine qd (qF (.cons 0 rfl (.cons 0 rfl (.cons 0 rfl (.cons 0 rfl .nil)))) qE (qf 17 (.bool x85) rfl rfl rfl (qj rfl) (qf 18 (.bool x85) rfl rfl rfl (qj rfl) (qc0 (fun h86 => ?_) (fun h86 => ?_)))))
 refine qJ (d := 54) (v := .bool true) rfl (by rw [h86] <;> rfl) (qf 19 (.int .i64 x30.2) rfl rfl rfl (qj rfl) (qf 20 (.bool ((x30.2 : Int) == 0)) rfl rfl rfl (qj rfl) (qf 21 (.bool ((x30.2 : Int) == 0)) rfl rfl rfl (qj rfl) (qf 22 (.bool ((x30.2 : Int) == 0)) rfl rfl rfl (qj rfl) (qc0 (fun h87 => ?_) (fun h87 => ?_))))))
 refine qJ (d := 58) (v := .bool true) rfl (by rw [h87] <;> rfl) (qf 23 (.slice a46 x45.1.length c47) rfl rfl rfl (qj rfl) (qf 24 (.int .i64 (x45.1.length : Int)) rfl rfl rfl (qeu Tryz.underlying37 rfl) (qf 25 (.bool (((x45.1.length : Int) : Int) == 6)) rfl rfl rfl (qj rfl) (qf 26 (.bool (((x45.1.length : Int) : Int) == 6)) rfl rfl rfl (qj rfl) (qf 27 (.bool (((x45.1.length : Int) : Int) == 6)) rfl rfl rfl (qj rfl) (qc0 (fun h88 => ?_) (fun h88 => ?_)))))))
 refine qJ (d := 63) (v := .bool true) rfl (by rw [h88] <;> rfl) (qf 28 (.slice a46 x45.1.length c47) rfl rfl rfl (qj rfl) (qI 29 rfl (by kernel_rfl) rfl (j8 (j := 3) rfl Tryz.underlying37 tf3 rfl rfl rfl rfl (fun x89 e89 g90 h91 => qd (qF (.cons 0 rfl (.cons 0 rfl (.cons 0 rfl (.cons 0 rfl .nil)))) qE (qI 30 rfl (by kernel_rfl) rfl (qer (j := 3) (y := x89) (zb .i64) rfl rfl tf3 rfl h91 (kj e89).2.2 (fun _ => rfl) rfl rfl (qd (qF (.cons 0 rfl (.cons 0 rfl (.cons 0 rfl (.cons 0 rfl .nil)))) qE (qf 31 (.bool ((x89 : Int) == 0)) rfl rfl rfl (qj rfl) (qf 32 (.bool ((x89 : Int) == 0)) rfl rfl rfl (qj rfl) (qf 33 (.bool ((x89 : Int) == 0)) rfl rfl rfl (qj rfl) ?_))))))))))))
 refine qc0 (fun h92 => ?_) (fun h92 => ?_)
 refine qJ (d := 69) (v := .bool true) rfl (by rw [h92] <;> rfl) (qf 34 (.slice a46 x45.1.length c47) rfl rfl rfl (qj rfl) (qI 35 rfl (by kernel_rfl) rfl (j8 (j := 3) rfl Tryz.underlying37 tf3 rfl rfl rfl rfl (fun x93 e93 g94 h95 => qd (qF (.cons 0 rfl (.cons 0 rfl (.cons 0 rfl (.cons 0 rfl .nil)))) qE (qI 36 rfl (by kernel_rfl) rfl (qer (j := 3) (y := x93) (zb .i64) rfl rfl tf3 rfl h95 (kj e93).2.2 (fun _ => rfl) rfl rfl (qd (qF (.cons 0 rfl (.cons 0 rfl (.cons 0 rfl (.cons 0 rfl .nil)))) qE (qf 37 (.bool ((x93 : Int) == 1)) rfl rfl rfl (qj rfl) (qf 38 (.bool ((x93 : Int) == 1)) rfl rfl rfl (qj rfl) (qf 39 (.bool ((x93 : Int) == 1)) rfl rfl rfl (qj rfl) ?_))))))))))))
 refine qc0 (fun h96 => ?_) (fun h96 => ?_)
 refine qJ (d := 75) (v := .bool true) rfl (by rw [h96] <;> rfl) (qf 40 (.slice a48 x45.2.1.length c49) rfl rfl rfl (qj rfl) (qf 41 (.int .i64 (x45.2.1.length : Int)) rfl rfl rfl (qeu Tryz.underlying37 rfl) (qf 42 (.bool (((x45.2.1.length : Int) : Int) == 6)) rfl rfl rfl (qj rfl) (qf 43 (.bool (((x45.2.1.length : Int) : Int) == 6)) rfl rfl rfl (qj rfl) (qf 44 (.bool (((x45.2.1.length : Int) : Int) == 6)) rfl rfl rfl (qj rfl) (qc0 (fun h97 => ?_) (fun h97 => ?_)))))))
 refine qJ (d := 80) (v := .bool true) rfl (by rw [h97] <;> rfl) (qf 45 (.slice a48 x45.2.1.length c49) rfl rfl rfl (qj rfl) (qI 46 rfl (by kernel_rfl) rfl (j8 (j := 4) rfl Tryz.underlying37 tf3 rfl rfl rfl rfl (fun x98 e98 g99 h100 => qd (qF (.cons 0 rfl (.cons 0 rfl (.cons 0 rfl (.cons 0 rfl .nil)))) qE (qI 47 rfl (by kernel_rfl) rfl (qer (j := 4) (y := x98) (zb .i64) rfl rfl tf3 rfl h100 (kj e98).2.2 (fun _ => rfl) rfl rfl (qd (qF (.cons 0 rfl (.cons 0 rfl (.cons 0 rfl (.cons 0 rfl .nil)))) qE (qf 48 (.bool ((x98 : Int) == 0)) rfl rfl rfl (qj rfl) (qf 49 (.bool ((x98 : Int) == 0)) rfl rfl rfl (qj rfl) (qf 50 (.bool ((x98 : Int) == 0)) rfl rfl rfl (qj rfl) ?_))))))))))))
 refine qc0 (fun h101 => ?_) (fun h101 => ?_)
 refine qJ (d := 86) (v := .bool true) rfl (by rw [h101] <;> rfl) (qf 51 (.int .i64 x45.2.2) rfl rfl rfl (qj rfl) (qf 52 (.bool ((x45.2.2 : Int) == 0)) rfl rfl rfl (qj rfl) (qf 53 (.bool ((x45.2.2 : Int) == 0)) rfl rfl rfl (qj rfl) (qf 54 (.bool ((x45.2.2 : Int) == 0)) rfl rfl rfl (qj rfl) (qc0 (fun h102 => ?_) (fun h102 => ?_))))))
 exact qJ (d := 90) (v := .bool true) rfl (by rw [h102] <;> rfl) (qf 55 (.int .i64 x50.2) rfl rfl rfl (qj rfl) (qf 56 (.bool ((x50.2 : Int) == 1)) rfl rfl rfl (qj rfl) (qf 57 (.bool ((x50.2 : Int) == 1)) rfl rfl rfl (qj rfl) (qf 58 (.bool ((x50.2 : Int) == 1)) rfl rfl rfl (qj rfl) (qO (by kernel_rfl) (zm (qm (((x50.2 : Int) == 1), ())) (by intro c h; cases h)))))))
 exact qJ (d := 90) (v := .bool false) rfl (by rw [h102] <;> rfl) (qh 55 rfl rfl rfl (qh 56 rfl rfl rfl (qf 57 (.bool false) rfl rfl rfl (qj rfl) (qf 58 (.bool false) rfl rfl rfl (qj rfl) (qO (by kernel_rfl) (zm (qm (false, ())) (by intro c h; cases h)))))))
 exact qJ (d := 86) (v := .bool false) rfl (by rw [h101] <;> rfl) (qh 51 rfl rfl rfl (qh 52 rfl rfl rfl (qf 53 (.bool false) rfl rfl rfl (qj rfl) (qf 54 (.bool false) rfl rfl rfl (qj rfl) (qh 55 rfl rfl rfl (qh 56 rfl rfl rfl (qf 57 (.bool false) rfl rfl rfl (qj rfl) (qf 58 (.bool false) rfl rfl rfl (qj rfl) (qO (by kernel_rfl) (zm (qm (false, ())) (by intro c h; cases h)))))))))))
 refine qJ (d := 80) (v := .bool false) rfl (by rw [h97] <;> rfl) (qh 45 rfl rfl rfl (qh 46 rfl rfl rfl (qh 47 rfl rfl rfl (qh 48 rfl rfl rfl (qf 49 (.bool false) rfl rfl rfl (qj rfl) (qf 50 (.bool false) rfl rfl rfl (qj rfl) (qh 51 rfl rfl rfl (qh 52 rfl rfl rfl (qf 53 (.bool false) rfl rfl rfl (qj rfl) (qf 54 (.bool false) rfl rfl rfl (qj rfl) (qh 55 rfl rfl rfl (qh 56 rfl rfl rfl ?_))))))))))))
 exact qf 57 (.bool false) rfl rfl rfl (qj rfl) (qf 58 (.bool false) rfl rfl rfl (qj rfl) (qO (by kernel_rfl) (zm (qm (false, ())) (by intro c h; cases h))))
 refine qJ (d := 75) (v := .bool false) rfl (by rw [h96] <;> rfl) (qh 40 rfl rfl rfl (qh 41 rfl rfl rfl (qh 42 rfl rfl rfl (qf 43 (.bool false) rfl rfl rfl (qj rfl) (qf 44 (.bool false) rfl rfl rfl (qj rfl) (qh 45 rfl rfl rfl (qh 46 rfl rfl rfl (qh 47 rfl rfl rfl (qh 48 rfl rfl rfl (qf 49 (.bool false) rfl rfl rfl (qj rfl) (qf 50 (.bool false) rfl rfl rfl (qj rfl) (qh 51 rfl rfl rfl ?_))))))))))))
 exact qh 52 rfl rfl rfl (qf 53 (.bool false) rfl rfl rfl (qj rfl) (qf 54 (.bool false) rfl rfl rfl (qj rfl) (qh 55 rfl rfl rfl (qh 56 rfl rfl rfl (qf 57 (.bool false) rfl rfl rfl (qj rfl) (qf 58 (.bool false) rfl rfl rfl (qj rfl) (qO (by kernel_rfl) (zm (qm (false, ())) (by intro c h; cases h)))))))))
 refine qJ (d := 69) (v := .bool false) rfl (by rw [h92] <;> rfl) (qh 34 rfl rfl rfl (qh 35 rfl rfl rfl (qh 36 rfl rfl rfl (qh 37 rfl rfl rfl (qf 38 (.bool false) rfl rfl rfl (qj rfl) (qf 39 (.bool false) rfl rfl rfl (qj rfl) (qh 40 rfl rfl rfl (qh 41 rfl rfl rfl (qh 42 rfl rfl rfl (qf 43 (.bool false) rfl rfl rfl (qj rfl) (qf 44 (.bool false) rfl rfl rfl (qj rfl) (qh 45 rfl rfl rfl ?_))))))))))))
 refine qh 46 rfl rfl rfl (qh 47 rfl rfl rfl (qh 48 rfl rfl rfl (qf 49 (.bool false) rfl rfl rfl (qj rfl) (qf 50 (.bool false) rfl rfl rfl (qj rfl) (qh 51 rfl rfl rfl (qh 52 rfl rfl rfl (qf 53 (.bool false) rfl rfl rfl (qj rfl) (qf 54 (.bool false) rfl rfl rfl (qj rfl) (qh 55 rfl rfl rfl (qh 56 rfl rfl rfl (qf 57 (.bool false) rfl rfl rfl (qj rfl) (qf 58 (.bool false) rfl rfl rfl (qj rfl) ?_))))))))))))
 exact qO (by kernel_rfl) (zm (qm (false, ())) (by intro c h; cases h))
 refine qJ (d := 63) (v := .bool false) rfl (by rw [h88] <;> rfl) (qh 28 rfl rfl rfl (qh 29 rfl rfl rfl (qh 30 rfl rfl rfl (qh 31 rfl rfl rfl (qf 32 (.bool false) rfl rfl rfl (qj rfl) (qf 33 (.bool false) rfl rfl rfl (qj rfl) (qh 34 rfl rfl rfl (qh 35 rfl rfl rfl (qh 36 rfl rfl rfl (qh 37 rfl rfl rfl (qf 38 (.bool false) rfl rfl rfl (qj rfl) (qf 39 (.bool false) rfl rfl rfl (qj rfl) ?_))))))))))))
 refine qh 40 rfl rfl rfl (qh 41 rfl rfl rfl (qh 42 rfl rfl rfl (qf 43 (.bool false) rfl rfl rfl (qj rfl) (qf 44 (.bool false) rfl rfl rfl (qj rfl) (qh 45 rfl rfl rfl (qh 46 rfl rfl rfl (qh 47 rfl rfl rfl (qh 48 rfl rfl rfl (qf 49 (.bool false) rfl rfl rfl (qj rfl) (qf 50 (.bool false) rfl rfl rfl (qj rfl) (qh 51 rfl rfl rfl (qh 52 rfl rfl rfl ?_))))))))))))
 exact qf 53 (.bool false) rfl rfl rfl (qj rfl) (qf 54 (.bool false) rfl rfl rfl (qj rfl) (qh 55 rfl rfl rfl (qh 56 rfl rfl rfl (qf 57 (.bool false) rfl rfl rfl (qj rfl) (qf 58 (.bool false) rfl rfl rfl (qj rfl) (qO (by kernel_rfl) (zm (qm (false, ())) (by intro c h; cases h))))))))
 refine qJ (d := 58) (v := .bool false) rfl (by rw [h87] <;> rfl) (qh 23 rfl rfl rfl (qh 24 rfl rfl rfl (qh 25 rfl rfl rfl (qf 26 (.bool false) rfl rfl rfl (qj rfl) (qf 27 (.bool false) rfl rfl rfl (qj rfl) (qh 28 rfl rfl rfl (qh 29 rfl rfl rfl (qh 30 rfl rfl rfl (qh 31 rfl rfl rfl (qf 32 (.bool false) rfl rfl rfl (qj rfl) (qf 33 (.bool false) rfl rfl rfl (qj rfl) (qh 34 rfl rfl rfl ?_))))))))))))
 refine qh 35 rfl rfl rfl (qh 36 rfl rfl rfl (qh 37 rfl rfl rfl (qf 38 (.bool false) rfl rfl rfl (qj rfl) (qf 39 (.bool false) rfl rfl rfl (qj rfl) (qh 40 rfl rfl rfl (qh 41 rfl rfl rfl (qh 42 rfl rfl rfl (qf 43 (.bool false) rfl rfl rfl (qj rfl) (qf 44 (.bool false) rfl rfl rfl (qj rfl) (qh 45 rfl rfl rfl (qh 46 rfl rfl rfl (qh 47 rfl rfl rfl ?_))))))))))))
 refine qh 48 rfl rfl rfl (qf 49 (.bool false) rfl rfl rfl (qj rfl) (qf 50 (.bool false) rfl rfl rfl (qj rfl) (qh 51 rfl rfl rfl (qh 52 rfl rfl rfl (qf 53 (.bool false) rfl rfl rfl (qj rfl) (qf 54 (.bool false) rfl rfl rfl (qj rfl) (qh 55 rfl rfl rfl (qh 56 rfl rfl rfl (qf 57 (.bool false) rfl rfl rfl (qj rfl) (qf 58 (.bool false) rfl rfl rfl (qj rfl) (qO (by kernel_rfl) (zm ?_ (by intro c h; cases h)))))))))))))
 exact qm (false, ())
 refine qJ (d := 54) (v := .bool false) rfl (by rw [h86] <;> rfl) (qh 19 rfl rfl rfl (qh 20 rfl rfl rfl (qf 21 (.bool false) rfl rfl rfl (qj rfl) (qf 22 (.bool false) rfl rfl rfl (qj rfl) (qh 23 rfl rfl rfl (qh 24 rfl rfl rfl (qh 25 rfl rfl rfl (qf 26 (.bool false) rfl rfl rfl (qj rfl) (qf 27 (.bool false) rfl rfl rfl (qj rfl) (qh 28 rfl rfl rfl (qh 29 rfl rfl rfl (qh 30 rfl rfl rfl ?_))))))))))))
 refine qh 31 rfl rfl rfl (qf 32 (.bool false) rfl rfl rfl (qj rfl) (qf 33 (.bool false) rfl rfl rfl (qj rfl) (qh 34 rfl rfl rfl (qh 35 rfl rfl rfl (qh 36 rfl rfl rfl (qh 37 rfl rfl rfl (qf 38 (.bool false) rfl rfl rfl (qj rfl) (qf 39 (.bool false) rfl rfl rfl (qj rfl) (qh 40 rfl rfl rfl (qh 41 rfl rfl rfl (qh 42 rfl rfl rfl (qf 43 (.bool false) rfl rfl rfl (qj rfl) ?_))))))))))))
 refine qf 44 (.bool false) rfl rfl rfl (qj rfl) (qh 45 rfl rfl rfl (qh 46 rfl rfl rfl (qh 47 rfl rfl rfl (qh 48 rfl rfl rfl (qf 49 (.bool false) rfl rfl rfl (qj rfl) (qf 50 (.bool false) rfl rfl rfl (qj rfl) (qh 51 rfl rfl rfl (qh 52 rfl rfl rfl (qf 53 (.bool false) rfl rfl rfl (qj rfl) (qf 54 (.bool false) rfl rfl rfl (qj rfl) (qh 55 rfl rfl rfl (qh 56 rfl rfl rfl ?_))))))))))))
 exact qf 57 (.bool false) rfl rfl rfl (qj rfl) (qf 58 (.bool false) rfl rfl rfl (qj rfl) (qO (by kernel_rfl) (zm (qm (false, ())) (by intro c h; cases h))))
 refine zg mixed [] [⟨g53, 24, [.slice a51 x50.1.length c52.1]⟩, ⟨g33, 24, [.slice a31 x30.1.length c32.1]⟩, ⟨g1, 26, [.int .i64 3, .int .i64 3, .int .i64 2]⟩, ⟨g20, 31, [.int .i64 x22, .int .i64 x23, .int .i64 x24, .int .i64 x25, .int .i64 x26, .slice a27 x29.length c28]⟩] [] (.cons 0 rfl (.cons 0 rfl (.cons 0 rfl (.cons 0 rfl .nil)))) qE 59 rfl (qf 0 (.int .i64 x21) rfl rfl rfl (qj rfl) (qf 1 (.bool ((x21 : Int) == 0)) rfl rfl rfl (qj rfl) (qf 2 (.bool ((x21 : Int) == 0)) rfl rfl rfl (qj rfl) (qJ (d := 38) (v := .bool true) rfl (by rw [h79] <;> rfl) (qf 3 (.pointer (some ⟨g20, 0, none⟩)) rfl rfl rfl (qt rfl qcS) (qP 4 (.int .i64 x22) rfl rfl rfl (qQ (i := 3) rfl tf3 rfl rfl (fun _ => rfl) rfl) (qf 5 (.bool ((x22 : Int) == 6)) rfl rfl rfl (qj rfl) (qf 6 (.bool ((x22 : Int) == 6)) rfl rfl rfl (qj rfl) (qf 7 (.bool ((x22 : Int) == 6)) rfl rfl rfl (qj rfl) (qJ (d := 43) (v := .bool true) rfl (by rw [h80] <;> rfl) (qf 8 (.pointer (some ⟨g20, 1, none⟩)) rfl rfl rfl (qt rfl qbF) (qP 9 (.agg #[.int .i64 x23, .int .i64 x24, .int .i64 x25]) rfl rfl rfl (qQ (i := 3) rfl tf26 rfl rfl (by simp) rfl) ?_))))))))))))
 refine qP 10 (.agg #[.int .i64 3, .int .i64 3, .int .i64 2]) rfl rfl rfl (qQ (i := 2) rfl tf26 rfl rfl (by simp) rfl) (qf 11 (.bool (((x23 : Int) == 3) && (((x24 : Int) == 3) && ((x25 : Int) == 2)))) rfl rfl rfl (qjK rfl rfl se26) (qf 12 (.bool (((x23 : Int) == 3) && (((x24 : Int) == 3) && ((x25 : Int) == 2)))) rfl rfl rfl (qj rfl) (qf 13 (.bool (((x23 : Int) == 3) && (((x24 : Int) == 3) && ((x25 : Int) == 2)))) rfl rfl rfl (qj rfl) (qJ (d := 49) (v := .bool false) rfl (by rw [h81] <;> rfl) (qh 14 rfl rfl rfl (qh 15 rfl rfl rfl (qh 16 rfl rfl rfl (qf 17 (.bool false) rfl rfl rfl (qj rfl) (qf 18 (.bool false) rfl rfl rfl (qj rfl) (qh 19 rfl rfl rfl (qh 20 rfl rfl rfl (qf 21 (.bool false) rfl rfl rfl (qj rfl) ?_))))))))))))
 refine qf 22 (.bool false) rfl rfl rfl (qj rfl) (qh 23 rfl rfl rfl (qh 24 rfl rfl rfl (qh 25 rfl rfl rfl (qf 26 (.bool false) rfl rfl rfl (qj rfl) (qf 27 (.bool false) rfl rfl rfl (qj rfl) (qh 28 rfl rfl rfl (qh 29 rfl rfl rfl (qh 30 rfl rfl rfl (qh 31 rfl rfl rfl (qf 32 (.bool false) rfl rfl rfl (qj rfl) (qf 33 (.bool false) rfl rfl rfl (qj rfl) (qh 34 rfl rfl rfl ?_))))))))))))
 refine qh 35 rfl rfl rfl (qh 36 rfl rfl rfl (qh 37 rfl rfl rfl (qf 38 (.bool false) rfl rfl rfl (qj rfl) (qf 39 (.bool false) rfl rfl rfl (qj rfl) (qh 40 rfl rfl rfl (qh 41 rfl rfl rfl (qh 42 rfl rfl rfl (qf 43 (.bool false) rfl rfl rfl (qj rfl) (qf 44 (.bool false) rfl rfl rfl (qj rfl) (qh 45 rfl rfl rfl (qh 46 rfl rfl rfl (qh 47 rfl rfl rfl ?_))))))))))))
 refine qh 48 rfl rfl rfl (qf 49 (.bool false) rfl rfl rfl (qj rfl) (qf 50 (.bool false) rfl rfl rfl (qj rfl) (qh 51 rfl rfl rfl (qh 52 rfl rfl rfl (qf 53 (.bool false) rfl rfl rfl (qj rfl) (qf 54 (.bool false) rfl rfl rfl (qj rfl) (qh 55 rfl rfl rfl (qh 56 rfl rfl rfl (qf 57 (.bool false) rfl rfl rfl (qj rfl) (qf 58 (.bool false) rfl rfl rfl (qj rfl) (qO (by kernel_rfl) (zm ?_ (by intro c h; cases h)))))))))))))
 exact qm (false, ())
 refine zg mixed [] [⟨g53, 24, [.slice a51 x50.1.length c52.1]⟩, ⟨g33, 24, [.slice a31 x30.1.length c32.1]⟩, ⟨g1, 26, [.int .i64 3, .int .i64 3, .int .i64 2]⟩, ⟨g20, 31, [.int .i64 x22, .int .i64 x23, .int .i64 x24, .int .i64 x25, .int .i64 x26, .slice a27 x29.length c28]⟩] [] (.cons 0 rfl (.cons 0 rfl (.cons 0 rfl (.cons 0 rfl .nil)))) qE 59 rfl (qf 0 (.int .i64 x21) rfl rfl rfl (qj rfl) (qf 1 (.bool ((x21 : Int) == 0)) rfl rfl rfl (qj rfl) (qf 2 (.bool ((x21 : Int) == 0)) rfl rfl rfl (qj rfl) (qJ (d := 38) (v := .bool true) rfl (by rw [h79] <;> rfl) (qf 3 (.pointer (some ⟨g20, 0, none⟩)) rfl rfl rfl (qt rfl qcS) (qP 4 (.int .i64 x22) rfl rfl rfl (qQ (i := 3) rfl tf3 rfl rfl (fun _ => rfl) rfl) (qf 5 (.bool ((x22 : Int) == 6)) rfl rfl rfl (qj rfl) (qf 6 (.bool ((x22 : Int) == 6)) rfl rfl rfl (qj rfl) (qf 7 (.bool ((x22 : Int) == 6)) rfl rfl rfl (qj rfl) (qJ (d := 43) (v := .bool false) rfl (by rw [h80] <;> rfl) (qh 8 rfl rfl rfl (qh 9 rfl rfl rfl ?_))))))))))))
 refine qh 10 rfl rfl rfl (qh 11 rfl rfl rfl (qf 12 (.bool false) rfl rfl rfl (qj rfl) (qf 13 (.bool false) rfl rfl rfl (qj rfl) (qh 14 rfl rfl rfl (qh 15 rfl rfl rfl (qh 16 rfl rfl rfl (qf 17 (.bool false) rfl rfl rfl (qj rfl) (qf 18 (.bool false) rfl rfl rfl (qj rfl) (qh 19 rfl rfl rfl (qh 20 rfl rfl rfl (qf 21 (.bool false) rfl rfl rfl (qj rfl) (qf 22 (.bool false) rfl rfl rfl (qj rfl) ?_))))))))))))
 refine qh 23 rfl rfl rfl (qh 24 rfl rfl rfl (qh 25 rfl rfl rfl (qf 26 (.bool false) rfl rfl rfl (qj rfl) (qf 27 (.bool false) rfl rfl rfl (qj rfl) (qh 28 rfl rfl rfl (qh 29 rfl rfl rfl (qh 30 rfl rfl rfl (qh 31 rfl rfl rfl (qf 32 (.bool false) rfl rfl rfl (qj rfl) (qf 33 (.bool false) rfl rfl rfl (qj rfl) (qh 34 rfl rfl rfl (qh 35 rfl rfl rfl ?_))))))))))))
 refine qh 36 rfl rfl rfl (qh 37 rfl rfl rfl (qf 38 (.bool false) rfl rfl rfl (qj rfl) (qf 39 (.bool false) rfl rfl rfl (qj rfl) (qh 40 rfl rfl rfl (qh 41 rfl rfl rfl (qh 42 rfl rfl rfl (qf 43 (.bool false) rfl rfl rfl (qj rfl) (qf 44 (.bool false) rfl rfl rfl (qj rfl) (qh 45 rfl rfl rfl (qh 46 rfl rfl rfl (qh 47 rfl rfl rfl (qh 48 rfl rfl rfl ?_))))))))))))
 exact qf 49 (.bool false) rfl rfl rfl (qj rfl) (qf 50 (.bool false) rfl rfl rfl (qj rfl) (qh 51 rfl rfl rfl (qh 52 rfl rfl rfl (qf 53 (.bool false) rfl rfl rfl (qj rfl) (qf 54 (.bool false) rfl rfl rfl (qj rfl) (qh 55 rfl rfl rfl (qh 56 rfl rfl rfl (qf 57 (.bool false) rfl rfl rfl (qj rfl) (qf 58 (.bool false) rfl rfl rfl (qj rfl) (qO (by kernel_rfl) (zm (qm (false, ())) (by intro c h; cases h))))))))))))
 refine zg mixed [] [⟨g53, 24, [.slice a51 x50.1.length c52.1]⟩, ⟨g33, 24, [.slice a31 x30.1.length c32.1]⟩, ⟨g1, 26, [.int .i64 3, .int .i64 3, .int .i64 2]⟩, ⟨g20, 31, [.int .i64 x22, .int .i64 x23, .int .i64 x24, .int .i64 x25, .int .i64 x26, .slice a27 x29.length c28]⟩] [] (.cons 0 rfl (.cons 0 rfl (.cons 0 rfl (.cons 0 rfl .nil)))) qE 59 rfl (qf 0 (.int .i64 x21) rfl rfl rfl (qj rfl) (qf 1 (.bool ((x21 : Int) == 0)) rfl rfl rfl (qj rfl) (qf 2 (.bool ((x21 : Int) == 0)) rfl rfl rfl (qj rfl) (qJ (d := 38) (v := .bool false) rfl (by rw [h79] <;> rfl) (qh 3 rfl rfl rfl (qh 4 rfl rfl rfl (qh 5 rfl rfl rfl (qf 6 (.bool false) rfl rfl rfl (qj rfl) (qf 7 (.bool false) rfl rfl rfl (qj rfl) (qh 8 rfl rfl rfl (qh 9 rfl rfl rfl (qh 10 rfl rfl rfl ?_))))))))))))
 refine qh 11 rfl rfl rfl (qf 12 (.bool false) rfl rfl rfl (qj rfl) (qf 13 (.bool false) rfl rfl rfl (qj rfl) (qh 14 rfl rfl rfl (qh 15 rfl rfl rfl (qh 16 rfl rfl rfl (qf 17 (.bool false) rfl rfl rfl (qj rfl) (qf 18 (.bool false) rfl rfl rfl (qj rfl) (qh 19 rfl rfl rfl (qh 20 rfl rfl rfl (qf 21 (.bool false) rfl rfl rfl (qj rfl) (qf 22 (.bool false) rfl rfl rfl (qj rfl) (qh 23 rfl rfl rfl ?_))))))))))))
 refine qh 24 rfl rfl rfl (qh 25 rfl rfl rfl (qf 26 (.bool false) rfl rfl rfl (qj rfl) (qf 27 (.bool false) rfl rfl rfl (qj rfl) (qh 28 rfl rfl rfl (qh 29 rfl rfl rfl (qh 30 rfl rfl rfl (qh 31 rfl rfl rfl (qf 32 (.bool false) rfl rfl rfl (qj rfl) (qf 33 (.bool false) rfl rfl rfl (qj rfl) (qh 34 rfl rfl rfl (qh 35 rfl rfl rfl (qh 36 rfl rfl rfl ?_))))))))))))
 refine qh 37 rfl rfl rfl (qf 38 (.bool false) rfl rfl rfl (qj rfl) (qf 39 (.bool false) rfl rfl rfl (qj rfl) (qh 40 rfl rfl rfl (qh 41 rfl rfl rfl (qh 42 rfl rfl rfl (qf 43 (.bool false) rfl rfl rfl (qj rfl) (qf 44 (.bool false) rfl rfl rfl (qj rfl) (qh 45 rfl rfl rfl (qh 46 rfl rfl rfl (qh 47 rfl rfl rfl (qh 48 rfl rfl rfl (qf 49 (.bool false) rfl rfl rfl (qj rfl) ?_))))))))))))
 exact qf 50 (.bool false) rfl rfl rfl (qj rfl) (qh 51 rfl rfl rfl (qh 52 rfl rfl rfl (qf 53 (.bool false) rfl rfl rfl (qj rfl) (qf 54 (.bool false) rfl rfl rfl (qj rfl) (qh 55 rfl rfl rfl (qh 56 rfl rfl rfl (qf 57 (.bool false) rfl rfl rfl (qj rfl) (qf 58 (.bool false) rfl rfl rfl (qj rfl) (qO (by kernel_rfl) (zm (qm (false, ())) (by intro c h; cases h)))))))))))
 rintro ⟨x78, _⟩
 try dsimp only
 exact qs (qq () (res1 rfl rfl))
theorem qfx (F : Nat) (x1 : List Int) (a2 : Option Addr) (c3 : Nat) (x4 : List Int) (a5 : Option Addr) (c6 : Nat) (r : Bool) (hm : qaK F x1 x4 = some r) :
    Pure Tryz.prog 52 [.slice a2 x1.length c3, .slice a5 x4.length c6] [Sl (eI .u8) 1 (.slice a2 x1.length c3) x1, Sl (eI .u8) 1 (.slice a5 x4.length c6) x4] Unit (fun _ => .bool r) (fun _ => []) (fun _ => []) := by
  refine qS Tryz.func52 rfl Tryz.ntmps52 rfl hm (fun w => ?_)
  refine qH (l' := [(0, .slice a2 x1.length c3), (1, .slice a5 x4.length c6)]) rfl ?_
  refine qg ?_
  refine qa ?_
  refine qb rfl rfl rfl ?_
  refine qd ?_
  refine qc ?_
  refine qg ?_
  refine qg ?_
  refine qa ?_
  refine qe rfl rfl rfl ?_
  refine qX rfl Tryz.underlying27 rfl rfl ?_
  refine qe rfl rfl rfl ?_
  refine qX rfl Tryz.underlying27 rfl rfl ?_
  refine kQ rfl rfl rfl rfl ?_
  refine qd ?_
  refine qc ?_
  refine qz rfl (fun h228 => ?_) (fun h228 => ?_)
  · refine qg ?_
    refine qa ?_
    refine qb rfl rfl rfl ?_
    refine qd ?_
    refine qc ?_
    refine qs ?_
    refine qp ?_
    exact qq () (res1 rfl rfl)
  · refine qr ?_
    refine qc ?_
    refine qK (fun ((_, _) : (Unit × Unit)) => []) (fun ((_, _) : (Unit × Unit)) => []) (fun ((_, _) : (Unit × Unit)) => []) (fun ((_, _) : (Unit × Unit)) => []) (fun ((_, _) : (Unit × Unit)) => qce F) ?_ ?_
    · refine qg ?_
      refine qa ?_
      refine qb rfl rfl rfl ?_
      refine qd ?_
      refine qc ?_
      refine qB ?_
      refine q7 (fun ((x154, _) : (Int × Unit)) => [(0, .slice a2 x1.length c3), (1, .slice a5 x4.length c6), (5, .int .i64 x154)]) (fun ((x154, _) : (Int × Unit)) => []) (fun ((x154, _) : (Int × Unit)) => []) (fun ((x154, _) : (Int × Unit)) => [Sl (eI .u8) 1 (.slice a2 x1.length c3) x1, Sl (eI .u8) 1 (.slice a5 x4.length c6) x4]) (fun k (s : (Int × Unit)) => yA F x1 x4 k s.1) (0, ()) F ?_ (hF := (qo 0 rfl (qo 1 rfl qA)))
      intro k191
      rintro ⟨x154, _⟩
      try dsimp only
      refine zB (m' := jF F x1 x4 (yA F x1 x4 k191) x154) rfl ?_
      refine qg ?_
      refine qg ?_
      refine qa ?_
      refine qe rfl rfl rfl ?_
      refine qe rfl rfl rfl ?_
      refine qX rfl Tryz.underlying27 rfl rfl ?_
      refine qZ rfl rfl rfl rfl ?_
      refine qd ?_
      refine qc ?_
      refine qz rfl (fun h227 => ?_) (fun h227 => ?_)
      · refine qr ?_
        refine qc ?_
        refine qg ?_
        refine qB ?_
        refine qg ?_
        refine jS (j := 0) (zb .u8) (by decide) rfl (fun x218 e218 b219 o220 h221 => ?_)
        replace h221 : a2 = some ⟨b219, o220, none⟩ := h221
        refine jS (j := 2) (zb .u8) (by decide) rfl (fun x222 e222 b223 o224 h225 => ?_)
        replace h225 : a5 = some ⟨b223, o224, none⟩ := h225
        refine zg mixed [] [] [zC b223 (o224 + x154.toNat * 1) ((eI .u8) x222), zC b219 (o220 + x154.toNat * 1) ((eI .u8) x218), Sl (eI .u8) 1 (.slice a2 x1.length c3) x1, Sl (eI .u8) 1 (.slice a5 x4.length c6) x4] .nil (q8 0 rfl (q8 1 rfl (q8 2 rfl (q8 3 rfl qE)))) 9 rfl ?_
        refine qf 0 (.slice a2 x1.length c3) rfl rfl rfl (qj rfl) ?_
        refine qf 1 (.int .i64 x154) rfl rfl rfl (qj rfl) ?_
        refine qJ (d := 17) (v := .slice (some ⟨b219, o220, none⟩) x1.length c3) rfl (by rw [h221] <;> rfl) ?_
        refine qf 2 (.pointer (some ⟨b219, (o220 + x154.toNat * 1), none⟩)) rfl rfl rfl (qbb Tryz.underlying27 tf5 rfl rfl (kj e218).1 (qaE e218)) ?_
        refine qJ (d := 17) (v := .slice a2 x1.length c3) rfl (by rw [h221] <;> rfl) ?_
        refine ko 3 (.int .u8 x218) [] rfl rfl rfl (vW (j := 1) rfl tf5 rfl rfl (fun _ => rfl) rfl) ?_
        refine qf 4 (.slice a5 x4.length c6) rfl rfl rfl (qj rfl) ?_
        refine qf 5 (.int .i64 x154) rfl rfl rfl (qj rfl) ?_
        refine qJ (d := 21) (v := .slice (some ⟨b223, o224, none⟩) x4.length c6) rfl (by rw [h225] <;> rfl) ?_
        refine qf 6 (.pointer (some ⟨b223, (o224 + x154.toNat * 1), none⟩)) rfl rfl rfl (qbb Tryz.underlying27 tf5 rfl rfl (kj e222).1 (qaE e222)) ?_
        refine qJ (d := 21) (v := .slice a5 x4.length c6) rfl (by rw [h225] <;> rfl) ?_
        refine ko 7 (.int .u8 x222) [] rfl rfl rfl (vW (j := 0) rfl tf5 rfl rfl (fun _ => rfl) rfl) ?_
        refine qf 8 (.bool ((x218 : Int) != x222)) rfl rfl rfl (qj rfl) ?_
        refine qO (by kernel_rfl) ?_
        refine zm ?_ (by intro c h; cases h)
        refine qc ?_
        refine qz rfl (fun h226 => ?_) (fun h226 => ?_)
        · refine qg ?_
          refine qa ?_
          refine qb rfl rfl rfl ?_
          refine qd ?_
          refine qc ?_
          refine qs ?_
          refine qM ?_
          refine qp ?_
          refine qp ?_
          refine qM ?_
          refine qp ?_
          exact qq () (res1 rfl rfl)
        · refine qr ?_
          refine qU ?_
          refine qc ?_
          refine qa ?_
          refine qe rfl rfl rfl ?_
          refine qL rfl rfl rfl rfl ?_
          refine qb rfl rfl rfl ?_
          refine qd ?_
          exact qW (iadd .i64 x154 1, ()) (hF := (qo 2 rfl (qo 3 rfl qA)))
      · refine zj ?_
        refine qD ?_
        refine qD ?_
        refine zk ?_
        exact qm ((), ())
    · rintro ⟨_, _⟩
      try dsimp only
      refine qg ?_
      refine qa ?_
      refine qb rfl rfl rfl ?_
      refine qd ?_
      refine qc ?_
      refine qs ?_
      exact qq () (res1 rfl rfl)
theorem qgj (F : Nat) (x1 : Int) (x2 : List Int) (a3 : Option Addr) (c4 : Nat) (x5 : Int) (x6 : List Int) (a7 : Option Addr) (c8 : Nat) (r : Bool) (hm : qag F x1 x2 x5 x6 = some r) :
    Pure Tryz.prog 26 [.agg #[.int .i64 x1, .slice a3 x2.length c4], .agg #[.int .i64 x5, .slice a7 x6.length c8]] [Sl (eI .u8) 1 (.slice a3 x2.length c4) x2, Sl (eI .u8) 1 (.slice a7 x6.length c8) x6] Unit (fun _ => .bool r) (fun _ => []) (fun _ => []) := by
 refine qS Tryz.func26 rfl Tryz.ntmps26 rfl hm (fun w => qH (l' := [(0, .agg #[.int .i64 x1, .slice a3 x2.length c4]), (1, .agg #[.int .i64 x5, .slice a7 x6.length c8])]) rfl (qg (qa (qV rfl rfl rfl (fun g9 => qV rfl rfl rfl (fun g10 => qb rfl rfl rfl (qd (qc (qg (qa (qi rfl rfl ky rfl (ql (i := 1) rfl rfl tf3 rfl rfl (fun _ => rfl) rfl rfl ?_))))))))))))
 refine qi rfl rfl ky rfl (ql (i := 0) rfl rfl tf3 rfl rfl (fun _ => rfl) rfl rfl (ku rfl rfl rfl rfl (qe rfl rfl rfl (vt 6 (fun ((x13, _) : (Bool × Unit)) => [(16, .bool x13)]) (fun ((x13, _) : (Bool × Unit)) => []) (fun ((x13, _) : (Bool × Unit)) => []) (fun ((x13, _) : (Bool × Unit)) => []) (fun ((x13, _) : (Bool × Unit)) => vO F x13) ?_ ?_))))
 refine qy (os := _) rfl (qba (fun h11 => ?_) (fun h11 => ?_))
 refine zA (k := 10) rfl h11 (qi rfl rfl qa9 rfl (ql (i := 1) rfl rfl tf27 rfl rfl (fun _ => rfl) rfl rfl (qi rfl rfl qa9 rfl (ql (i := 0) rfl rfl tf27 rfl rfl (fun _ => rfl) rfl rfl (qx ent52 rfl rfl rfl (fun x14 e14 => qfx F x2 a3 c4 x6 a7 c8 x14 e14) (.consF 0 rfl (.consF 1 rfl .nil)) (fun x14 e14 => ?_))))))
 intro _
 exact qG (b := true) rfl rfl rfl rfl (qd (qm (x14, ())))
 exact zz (k := 10) rfl h11 (qn rfl rfl rfl (qn rfl rfl rfl (qn rfl rfl rfl (qn rfl rfl rfl (qn rfl rfl rfl (qG (b := false) rfl rfl rfl rfl (qd (qm (false, ())))))))))
 rintro ⟨x13, _⟩
 try dsimp only
 exact qy (os := _) rfl (qb rfl rfl rfl (qd (qc (qs (qq () (res1 rfl rfl))))))
theorem qeR (F : Nat) (x1 : Int) (x2 : Int) (x3 : Int) (x4 : Int) (x5 : Int) (x6 : List Int) (a7 : Option Addr) (c8 : Nat) (x9 : Int) (x10 : Int) (x11 : Int) (x12 : Int) (x13 : Int) (x14 : List Int) (a15 : Option Addr) (c16 : Nat) (r : Bool) (hm : qbv F x1 x2 x3 x4 x5 x6 x9 x10 x11 x12 x13 x14 = some r) :
    Pure Tryz.prog 16 [.agg #[.int .i64 x1, .int .i64 x2, .int .i64 x3, .int .i64 x4, .int .i64 x5, .slice a7 x6.length c8], .agg #[.int .i64 x9, .int .i64 x10, .int .i64 x11, .int .i64 x12, .int .i64 x13, .slice a15 x14.length c16]] [Sl (eI .u8) 1 (.slice a7 x6.length c8) x6, Sl (eI .u8) 1 (.slice a15 x14.length c16) x14] Unit (fun _ => .bool r) (fun _ => []) (fun _ => []) := by
 refine qS Tryz.func16 rfl Tryz.ntmps16 rfl hm (fun w => qH (l' := [(0, .agg #[.int .i64 x1, .int .i64 x2, .int .i64 x3, .int .i64 x4, .int .i64 x5, .slice a7 x6.length c8]), (1, .agg #[.int .i64 x9, .int .i64 x10, .int .i64 x11, .int .i64 x12, .int .i64 x13, .slice a15 x14.length c16])]) rfl (qg (qa (qV rfl rfl rfl (fun g17 => qV rfl rfl rfl (fun g18 => qb rfl rfl rfl (qd (qc (qg (qa (qi rfl rfl qcS rfl (ql (i := 1) rfl rfl tf3 rfl rfl (fun _ => rfl) rfl rfl ?_))))))))))))
 refine qi rfl rfl qcS rfl (ql (i := 0) rfl rfl tf3 rfl rfl (fun _ => rfl) rfl rfl (ku rfl rfl rfl rfl (qe rfl rfl rfl (zS 6 ((x1 : Int) == x9) [(2, .pointer (some ⟨g17, 0, none⟩)), (3, .pointer (some ⟨g18, 0, none⟩)), (16, .bool (((x1 : Int) == x9) && (((x2 : Int) == x10) && (((x3 : Int) == x11) && ((x4 : Int) == x12)))))] (fun h19 => ?_) (fun h19 => ?_) ?_))))
 exact qy (os := _) rfl (zA (k := 10) rfl h19 (qi rfl rfl qbF rfl (ql (i := 1) rfl rfl tf26 rfl rfl (by simp) rfl rfl (qi rfl rfl qbF rfl (ql (i := 0) rfl rfl tf26 rfl rfl (by simp) rfl rfl (qlB rfl rfl rfl se26 rfl (qG (b := true) rfl rfl rfl rfl (qC (d := 16) (v := .bool (((x1 : Int) == x9) && (((x2 : Int) == x10) && (((x3 : Int) == x11) && ((x4 : Int) == x12))))) rfl (by rw [h19]; simp only [Bool.true_and]) (qd (qT (qk rfl (qk rfl (qk rfl zd)))))))))))))
 exact qy (os := _) rfl (zz (k := 10) rfl h19 (qn rfl rfl rfl (qn rfl rfl rfl (qn rfl rfl rfl (qn rfl rfl rfl (qn rfl rfl rfl (qG (b := false) rfl rfl rfl rfl (qC (d := 16) (v := .bool (((x1 : Int) == x9) && (((x2 : Int) == x10) && (((x3 : Int) == x11) && ((x4 : Int) == x12))))) rfl (by rw [h19]; simp only [Bool.false_and]) (qd (qT (qk rfl (qk rfl (qk rfl zd)))))))))))))
 refine qy (os := _) rfl (qe rfl rfl rfl (vt 6 (fun ((x22, _) : (Bool × Unit)) => [(23, .bool x22)]) (fun ((x22, _) : (Bool × Unit)) => []) (fun ((x22, _) : (Bool × Unit)) => []) (fun ((x22, _) : (Bool × Unit)) => []) (fun ((x22, _) : (Bool × Unit)) => ja F x22) ?_ ?_))
 refine qy (os := _) rfl (qba (fun h20 => ?_) (fun h20 => ?_))
 refine zA (k := 17) rfl h20 (qi rfl rfl qas rfl (ql (i := 1) rfl rfl tf29 rfl rfl (by simp) rfl rfl (qi rfl rfl qas rfl (ql (i := 0) rfl rfl tf29 rfl rfl (by simp) rfl rfl (qx ent26 rfl rfl rfl (fun x23 e23 => qgj F x5 x6 a7 c8 x13 x14 a15 c16 x23 e23) (.consF 0 rfl (.consF 1 rfl .nil)) (fun x23 e23 => ?_))))))
 intro _
 exact qG (b := true) rfl rfl rfl rfl (qd (qm (x23, ())))
 exact zz (k := 17) rfl h20 (qn rfl rfl rfl (qn rfl rfl rfl (qn rfl rfl rfl (qn rfl rfl rfl (qn rfl rfl rfl (qG (b := false) rfl rfl rfl rfl (qd (qm (false, ())))))))))
 rintro ⟨x22, _⟩
 try dsimp only
 exact qy (os := _) rfl (qb rfl rfl rfl (qd (qc (qs (qq () (res1 rfl rfl))))))
theorem qfv (F : Nat) (x1 : Int) (x2 : Int) (x3 : Int) (x4 : Int) (r : Bool) (hm : qb3 F x1 x2 x3 x4 = some r) :
    Pure Tryz.prog 6 [.int .i64 x1, .agg #[.int .i64 x2, .int .i64 x3, .int .i64 x4]] [] Unit (fun _ => .bool r) (fun _ => []) (fun _ => []) := by
  refine qS Tryz.func6 rfl Tryz.ntmps6 rfl hm (fun w => ?_)
  refine qH (l' := [(0, .int .i64 x1), (1, .agg #[.int .i64 x2, .int .i64 x3, .int .i64 x4])]) rfl ?_
  refine qg ?_
  refine qa ?_
  refine qV rfl rfl rfl (fun g5 => ?_)
  refine qb rfl rfl rfl ?_
  refine qd ?_
  refine qc ?_
  refine qg ?_
  refine qg ?_
  refine qa ?_
  refine qx ent15 rfl rfl rfl (fun x8 e8 => qfw F  x8 e8) .nil (fun x8 e8 => ?_)
  intro _
  refine kw rfl rfl rfl ?_
  refine qd ?_
  refine qc ?_
  refine qz rfl (fun h63 => ?_) (fun h63 => ?_)
  · refine qg ?_
    refine qa ?_
    refine qb rfl rfl rfl ?_
    refine qd ?_
    refine qc ?_
    refine qs ?_
    refine qp ?_
    exact qq () (res1 rfl rfl)
  · refine qr ?_
    refine qc ?_
    refine qg ?_
    refine qg ?_
    refine qa ?_
    refine qe rfl rfl rfl ?_
    refine qZ rfl rfl rfl rfl ?_
    refine qe rfl rfl rfl ?_
    refine zS 3 (decide (x1 < 0)) [(0, .int .i64 x1), (3, .pointer (some ⟨g5, 0, none⟩)), (14, .bool ((decide (x1 < 0)) || (decide (100 < x1))))] (fun h11 => ?_) (fun h11 => ?_) ?_
    · refine qy (os := _) rfl ?_
      refine zA (k := 11) rfl h11 ?_
      refine qn rfl rfl rfl ?_
      refine qn rfl rfl rfl ?_
      refine qG (b := true) rfl rfl rfl rfl ?_
      refine qC (d := 14) (v := .bool ((decide (x1 < 0)) || (decide (100 < x1)))) rfl (by rw [h11]; simp only [Bool.true_or]) ?_
      refine qd ?_
      exact qT (qk rfl (qk rfl (qk rfl zd)))
    · refine qy (os := _) rfl ?_
      refine zz (k := 11) rfl h11 ?_
      refine qe rfl rfl rfl ?_
      refine zG rfl rfl rfl rfl ?_
      refine qG (b := false) rfl rfl rfl rfl ?_
      refine qC (d := 14) (v := .bool ((decide (x1 < 0)) || (decide (100 < x1)))) rfl (by rw [h11]; simp only [Bool.false_or]) ?_
      refine qd ?_
      exact qT (qk rfl (qk rfl (qk rfl zd)))
    refine qy (os := _) rfl ?_
    refine qd ?_
    refine qc ?_
    refine qz rfl (fun h62 => ?_) (fun h62 => ?_)
    · refine qg ?_
      refine qa ?_
      refine qb rfl rfl rfl ?_
      refine qd ?_
      refine qc ?_
      refine qs ?_
      refine qp ?_
      exact qq () (res1 rfl rfl)
    · refine qr ?_
      refine qc ?_
      refine qK (fun (((x31, x32, x33, x34, x35, x36, x39), (g30, a37, c38)) : ((Int × Int × Int × Int × Int × Int × List Int) × (Nat × Option Addr × Nat))) => [(0, .int .i64 x1), (3, .pointer (some ⟨g5, 0, none⟩)), (5, .pointer (some ⟨g30, 0, none⟩)), (6, .int .i64 x31)]) (fun (((x31, x32, x33, x34, x35, x36, x39), (g30, a37, c38)) : ((Int × Int × Int × Int × Int × Int × List Int) × (Nat × Option Addr × Nat))) => [⟨g5, 26, [.int .i64 x2, .int .i64 x3, .int .i64 x4]⟩, ⟨g30, 31, [.int .i64 x32, .int .i64 x33, .int .i64 x34, .int .i64 x35, .int .i64 x36, .slice a37 x39.length c38]⟩]) (fun (((x31, x32, x33, x34, x35, x36, x39), (g30, a37, c38)) : ((Int × Int × Int × Int × Int × Int × List Int) × (Nat × Option Addr × Nat))) => [Ro (eI .u8) 5 1 (.slice a37 x39.length c38) x39]) (fun (((x31, x32, x33, x34, x35, x36, x39), (g30, a37, c38)) : ((Int × Int × Int × Int × Int × Int × List Int) × (Nat × Option Addr × Nat))) => []) (fun (((x31, x32, x33, x34, x35, x36, x39), _) : ((Int × Int × Int × Int × Int × Int × List Int) × (Nat × Option Addr × Nat))) => vi F x1 x2 x31 x32 x33 x34 x35 x36 x39) ?_ ?_
      · refine zg mixed [] [⟨g5, 26, [.int .i64 x2, .int .i64 x3, .int .i64 x4]⟩] [] (.cons 0 rfl .nil) qE 11 rfl ?_
        refine qf 0 (.int .i64 x1) rfl rfl rfl (qj rfl) ?_
        refine qP 3 (.agg #[.int .i64 x2, .int .i64 x3, .int .i64 x4]) rfl rfl rfl (qQ (i := 0) rfl tf26 rfl rfl (by simp) rfl) ?_
        refine qbq 1 8 rfl rfl (by kernel_rfl) rfl rfl ?_ ?_
        · refine qjF (rin := rN37) (y := ([] : List Int)) (q := ((none, 0) : Option Addr × Nat)) yP (by decide) qhQ rfl Tryz.underlying22 tf37 rfl rfl rfl rfl rfl rfl (fun x44 e44 a45 c46 => ?_)
          refine qd ?_
          refine qF (.cons 0 rfl .nil) qE ?_
          refine qf 2 (.agg #[.slice a45 x44.length c46]) rfl rfl rfl (qc1 (cells := [.slice a45 x44.length c46]) st24 rfl (by kernel_rfl)) ?_
          refine qbq 4 8 rfl rfl (by kernel_rfl) rfl rfl ?_ ?_
          · refine qx ent9 rfl rfl rfl (fun x47 e47 => vB F x44 a45 (c46, (List.replicate x44.length ((none, 0) : Option Addr × Nat))) x2 x3 x4 x47 e47) (.consG 0 rfl (qaW qaX) .nil) (fun x47 e47 => ?_)
            rintro ⟨a48, c49⟩
            refine qd ?_
            refine qF (.cons 0 rfl .nil) qE ?_
            refine qf 5 (.tuple #[.agg #[.int .i64 x47.1, .int .i64 x47.2.1, .int .i64 x47.2.2.1, .int .i64 x47.2.2.2.1, .int .i64 x47.2.2.2.2.1, .slice a48 x47.2.2.2.2.2.1.length c49], .int .i64 x47.2.2.2.2.2.2]) rfl rfl rfl (qj rfl) ?_
            refine qf 6 (.agg #[.int .i64 x47.1, .int .i64 x47.2.1, .int .i64 x47.2.2.1, .int .i64 x47.2.2.2.1, .int .i64 x47.2.2.2.2.1, .slice a48 x47.2.2.2.2.2.1.length c49]) rfl rfl rfl (qj rfl) ?_
            refine qf 7 (.int .i64 x47.2.2.2.2.2.2) rfl rfl rfl (qj rfl) ?_
            refine qI 8 rfl (by kernel_rfl) rfl ?_
            refine qR rfl tf31 rfl (fun g50 => ?_)
            refine qd ?_
            refine qF (.cons 1 rfl .nil) qE ?_
            refine qI 9 rfl (by kernel_rfl) rfl ?_
            refine qu (i := 0) rfl rfl rfl tf31 rfl rfl rfl rfl rfl ?_
            refine qd ?_
            refine qF (.cons 1 rfl .nil) qE ?_
            refine qf 10 (.int .i64 x47.2.2.2.2.2.2) rfl rfl rfl (qj rfl) ?_
            refine qO (by kernel_rfl) ?_
            refine zm ?_ (by intro c h; cases h)
            exact qm ((x47.2.2.2.2.2.2, x47.1, x47.2.1, x47.2.2.1, x47.2.2.2.1, x47.2.2.2.2.1, x47.2.2.2.2.2.1), (g50, a48, c49)) (hB := (.cons 1 rfl (.cons 0 rfl .nil))) (hR := (.cons 0 rfl .nil))
          · refine qbs (m' := ((k9 F x44 x2 x3 x4).bind fun x52 => vi F x1 x2 x52.2.2.2.2.2.2 x52.1 x52.2.1 x52.2.2.1 x52.2.2.2.1 x52.2.2.2.2.1 x52.2.2.2.2.2.1)) (rfl) ?_
            refine qR rfl tf31 rfl (fun g51 => ?_)
            refine qd ?_
            refine qF (.cons 1 rfl .nil) qE ?_
            refine qI 4 rfl (by kernel_rfl) rfl ?_
            refine qx ent9 rfl rfl rfl (fun x52 e52 => vB F x44 a45 (c46, (List.replicate x44.length ((none, 0) : Option Addr × Nat))) x2 x3 x4 x52 e52) (.consG 0 rfl (qaW qaX) .nil) (fun x52 e52 => ?_)
            rintro ⟨a53, c54⟩
            refine qd ?_
            refine qF (.cons 1 rfl .nil) qE ?_
            refine qf 5 (.tuple #[.agg #[.int .i64 x52.1, .int .i64 x52.2.1, .int .i64 x52.2.2.1, .int .i64 x52.2.2.2.1, .int .i64 x52.2.2.2.2.1, .slice a53 x52.2.2.2.2.2.1.length c54], .int .i64 x52.2.2.2.2.2.2]) rfl rfl rfl (qj rfl) ?_
            refine qf 6 (.agg #[.int .i64 x52.1, .int .i64 x52.2.1, .int .i64 x52.2.2.1, .int .i64 x52.2.2.2.1, .int .i64 x52.2.2.2.2.1, .slice a53 x52.2.2.2.2.2.1.length c54]) rfl rfl rfl (qj rfl) ?_
            refine qf 7 (.int .i64 x52.2.2.2.2.2.2) rfl rfl rfl (qj rfl) ?_
            refine qI 9 rfl (by kernel_rfl) rfl ?_
            refine qu (i := 0) rfl rfl rfl tf31 rfl rfl rfl rfl rfl ?_
            refine qd ?_
            refine qF (.cons 1 rfl .nil) qE ?_
            refine qf 10 (.int .i64 x52.2.2.2.2.2.2) rfl rfl rfl (qj rfl) ?_
            refine qO (by kernel_rfl) ?_
            refine zm ?_ (by intro c h; cases h)
            exact qm ((x52.2.2.2.2.2.2, x52.1, x52.2.1, x52.2.2.1, x52.2.2.2.1, x52.2.2.2.2.1, x52.2.2.2.2.2.1), (g51, a53, c54)) (hB := (.cons 1 rfl (.cons 0 rfl .nil))) (hR := (.cons 0 rfl .nil))
        · refine qbs (m' := ((mk 4398046511104 (([] : List Int) : List Int) x1).bind fun x56 => ((k9 F x56 x2 x3 x4).bind fun x59 => vi F x1 x2 x59.2.2.2.2.2.2 x59.1 x59.2.1 x59.2.2.1 x59.2.2.2.1 x59.2.2.2.2.1 x59.2.2.2.2.2.1))) (rfl) ?_
          refine qR rfl tf31 rfl (fun g55 => ?_)
          refine qd ?_
          refine qF (.cons 1 rfl .nil) qE ?_
          refine qI 1 rfl (by kernel_rfl) rfl ?_
          refine qjF (rin := rN37) (y := ([] : List Int)) (q := ((none, 0) : Option Addr × Nat)) yP (by decide) qhQ rfl Tryz.underlying22 tf37 rfl rfl rfl rfl rfl rfl (fun x56 e56 a57 c58 => ?_)
          refine qd ?_
          refine qF (.cons 1 rfl .nil) qE ?_
          refine qf 2 (.agg #[.slice a57 x56.length c58]) rfl rfl rfl (qc1 (cells := [.slice a57 x56.length c58]) st24 rfl (by kernel_rfl)) ?_
          refine qI 4 rfl (by kernel_rfl) rfl ?_
          refine qx ent9 rfl rfl rfl (fun x59 e59 => vB F x56 a57 (c58, (List.replicate x56.length ((none, 0) : Option Addr × Nat))) x2 x3 x4 x59 e59) (.consG 0 rfl (qaW qaX) .nil) (fun x59 e59 => ?_)
          rintro ⟨a60, c61⟩
          refine qd ?_
          refine qF (.cons 1 rfl .nil) qE ?_
          refine qf 5 (.tuple #[.agg #[.int .i64 x59.1, .int .i64 x59.2.1, .int .i64 x59.2.2.1, .int .i64 x59.2.2.2.1, .int .i64 x59.2.2.2.2.1, .slice a60 x59.2.2.2.2.2.1.length c61], .int .i64 x59.2.2.2.2.2.2]) rfl rfl rfl (qj rfl) ?_
          refine qf 6 (.agg #[.int .i64 x59.1, .int .i64 x59.2.1, .int .i64 x59.2.2.1, .int .i64 x59.2.2.2.1, .int .i64 x59.2.2.2.2.1, .slice a60 x59.2.2.2.2.2.1.length c61]) rfl rfl rfl (qj rfl) ?_
          refine qf 7 (.int .i64 x59.2.2.2.2.2.2) rfl rfl rfl (qj rfl) ?_
          refine qI 9 rfl (by kernel_rfl) rfl ?_
          refine qu (i := 0) rfl rfl rfl tf31 rfl rfl rfl rfl rfl ?_
          refine qd ?_
          refine qF (.cons 1 rfl .nil) qE ?_
          refine qf 10 (.int .i64 x59.2.2.2.2.2.2) rfl rfl rfl (qj rfl) ?_
          refine qO (by kernel_rfl) ?_
          refine zm ?_ (by intro c h; cases h)
          exact qm ((x59.2.2.2.2.2.2, x59.1, x59.2.1, x59.2.2.1, x59.2.2.2.1, x59.2.2.2.2.1, x59.2.2.2.2.2.1), (g55, a60, c61)) (hB := (.cons 1 rfl (.cons 0 rfl .nil))) (hR := (.cons 0 rfl .nil))
      · rintro ⟨⟨x31, x32, x33, x34, x35, x36, x39⟩, ⟨g30, a37, c38⟩⟩
        try dsimp only
        refine qg ?_
        refine qg ?_
        refine qa ?_
        refine qe rfl rfl rfl ?_
        refine kQ rfl rfl rfl rfl ?_
        refine qd ?_
        refine qc ?_
        refine qz rfl (fun h43 => ?_) (fun h43 => ?_)
        · refine qg ?_
          refine qa ?_
          refine ql (i := 1) rfl rfl tf31 rfl rfl (by simp) rfl rfl ?_
          refine zv (cells := [.int .i64 0, .int .i64 0, .int .i64 0, .int .i64 0, .int .i64 0, .slice none 0 0]) rfl st31 rfl (by kernel_rfl) rfl ?_
          refine kv Int (eI .u8) 5 1 ?_
          refine qx ent16 rfl rfl rfl (fun x42 e42 => qeR F x32 x33 x34 x35 x36 x39 a37 c38 0 0 0 0 0 ([] : List Int) none 0 x42 e42) (.consR 1 (Ro (eI .u8) 5 1 (.slice a37 x39.length c38) x39) rfl (.consR 0 (Ro (eI .u8) 5 1 (.slice none ([] : List Int).length 0) ([] : List Int)) rfl .nil)) (fun x42 e42 => ?_)
          intro _
          refine qb rfl rfl rfl ?_
          refine qd ?_
          refine qc ?_
          refine qs ?_
          refine qp ?_
          exact qq () (res1 rfl rfl)
        · refine qr ?_
          refine qc ?_
          refine qg ?_
          refine qa ?_
          refine qi rfl rfl qas rfl ?_
          refine qi rfl rfl ky rfl ?_
          refine ql (i := 1) rfl rfl tf3 rfl rfl (fun _ => rfl) rfl rfl ?_
          refine qe rfl rfl rfl ?_
          refine qi rfl rfl qaC rfl ?_
          refine ql (i := 0) rfl rfl tf3 rfl rfl (fun _ => rfl) rfl rfl ?_
          refine qcE rfl rfl rfl rfl ?_
          refine qL rfl rfl rfl rfl ?_
          refine qg4 rfl rfl rfl rfl ?_
          refine ku rfl rfl rfl rfl ?_
          refine qb rfl rfl rfl ?_
          refine qd ?_
          refine qc ?_
          refine qs ?_
          exact qq () (res1 rfl rfl)
end Go.Proofs.YtpnfijegoepiaaaGreat
