/- Each Go function of this seat computes what its model says, part 3. -/
import Derived.Test.YtpnfijegoepiaaaGreatWalks2
namespace Go.Proofs.YtpnfijegoepiaaaGreat
open Go SX
theorem qhn (F : Nat) (x1 : List (List Int)) (a2 : Option Addr) (c3 : (Nat × List (Option Addr × Nat))) (x4 : Int) (x5 : Int) (x6 : Int) (r : (List Int × List Int × Int)) (hm : qbW F x1 x4 x5 x6 = some r) :
    Pure Tryz.prog 11 [.agg #[.slice a2 x1.length c3.1], .agg #[.int .i64 x4, .int .i64 x5, .int .i64 x6]] [SlN eN37 iN37 1 (.slice a2 x1.length c3.1) x1 c3.2] ((Option Addr × Nat) × (Option Addr × Nat)) (fun g => .tuple #[.slice g.1.1 r.1.length g.1.2, .slice g.2.1 r.2.1.length g.2.2, .int .i64 r.2.2]) (fun g => [Ro (eI .i64) 3 1 (.slice g.1.1 r.1.length g.1.2) r.1, Ro (eI .i64) 3 1 (.slice g.2.1 r.2.1.length g.2.2) r.2.1]) (fun _ => []) := by
 refine qR Tryz.func11 rfl Tryz.ntmps11 rfl hm (fun w => qF (l' := [(0, .agg #[.slice a2 x1.length c3.1]), (1, .agg #[.int .i64 x4, .int .i64 x5, .int .i64 x6])]) rfl (qg (qa (qT rfl rfl rfl (fun g7 => qT rfl rfl rfl (fun g8 => qb rfl rfl rfl (qb rfl rfl rfl (qb rfl rfl rfl (qe (qc (qg (qa ?_))))))))))))
 refine qk (i := 1) rfl rfl tf24 rfl rfl (by simp) rfl rfl (qk (i := 0) rfl rfl tf26 rfl rfl (by simp) rfl rfl (qY ent28 rfl rfl rfl (fun x9 e9 => qdo F x1 a2 c3 x4 x5 x6 x9 e9) .nil .nil (.consF 0 rfl .nil) (fun x9 e9 => ?_)))
 rintro ⟨⟨a10, c11⟩, ⟨a12, c13⟩, ⟨a14, c15⟩, g16⟩
 refine qd rfl rfl rfl (qs rfl rfl rfl rfl (qs rfl rfl rfl rfl (qb rfl rfl rfl (qb rfl rfl rfl (qe (qc (qg (qg (qa (qd rfl rfl rfl (kH rfl rfl rfl rfl (qe ?_))))))))))))
 refine qc (qA rfl (fun h18 => ?_) (fun h18 => ?_))
 exact qg (qa (qd rfl rfl rfl (qb rfl rfl rfl (qb rfl rfl rfl (qb rfl rfl rfl (qe (qc (qt (qp (q4 Int (eI .i64) 3 1 (q4 Int (eI .i64) 3 1 (qq ((none, 0), (none, 0)) (res3 rfl rfl rfl rfl) (fun h => by subst h; exact (.cons 0 rfl (.cons 0 rfl .nil)))))))))))))))
 refine qr (qc (qg (zj mixed [] [⟨g16, 66, [.int .i64 x9.1, .int .i64 x9.2.1, .int .i64 x9.2.2.1, .int .i64 x9.2.2.2.1, .int .i64 x9.2.2.2.2.1, .slice a10 x9.2.2.2.2.2.1.length c11, .slice a12 x9.2.2.2.2.2.2.1.length c13, .slice a14 x9.2.2.2.2.2.2.2.1.length c15]⟩, ⟨g8, 26, [.int .i64 x4, .int .i64 x5, .int .i64 x6]⟩, ⟨g7, 24, [.slice a2 x1.length c3.1]⟩] [SlN eN37 iN37 1 (.slice a2 x1.length c3.1) x1 c3.2] (.cons 0 rfl (.cons 0 rfl (.cons 0 rfl .nil))) (q9 0 rfl qI) 11 rfl (qf 0 (.pointer (some ⟨g16, 0, none⟩)) rfl rfl rfl (qj rfl) (qf 1 (.pointer (some ⟨g16, 0, none⟩)) rfl rfl rfl (qj rfl) (qf 2 (.pointer (some ⟨g16, 6, none⟩)) rfl rfl rfl (qu rfl qfb) (qQ 3 (.slice a12 x9.2.2.2.2.2.2.1.length c13) rfl rfl rfl (qS (i := 0) rfl tf37 rfl rfl (fun _ => rfl) rfl) (qf 4 (.pointer (some ⟨g16, 0, none⟩)) rfl rfl rfl (qj rfl) (qf 5 (.pointer (some ⟨g16, 0, none⟩)) rfl rfl rfl (qj rfl) (qf 6 (.pointer (some ⟨g16, 7, none⟩)) rfl rfl rfl (qu rfl qfc) (qQ 7 (.slice a14 x9.2.2.2.2.2.2.2.1.length c15) rfl rfl rfl (qS (i := 0) rfl tf37 rfl rfl (fun _ => rfl) rfl) (qf 8 (.slice a12 x9.2.2.2.2.2.2.1.length c13) rfl rfl rfl (qj rfl) ?_))))))))))))
 exact qf 9 (.slice a14 x9.2.2.2.2.2.2.2.1.length c15) rfl rfl rfl (qj rfl) (qf 10 (.int .i64 0) rfl rfl rfl (qj rfl) (qO (by kernel_rfl) (zr (qc (qt (qq ((a12, c13), (a14, c15)) (res3 rfl rfl rfl rfl) (fun h => by subst h; exact (.cons 1 rfl (.cons 1 rfl .nil)))))) (by intro c h; cases h))))
theorem qgr (F : Nat) (x1 : List Int) (a2 : Option Addr) (c3 : Nat) (x4 : List Int) (a5 : Option Addr) (c6 : Nat) (r : Bool) (hm : qbi F x1 x4 = some r) :
    Pure Tryz.prog 18 [.slice a2 x1.length c3, .slice a5 x4.length c6] [Sl (eI .i64) 1 (.slice a2 x1.length c3) x1, Sl (eI .i64) 1 (.slice a5 x4.length c6) x4] Unit (fun _ => .bool r) (fun _ => []) (fun _ => []) := by
  refine qR Tryz.func18 rfl Tryz.ntmps18 rfl hm (fun w => ?_)
  refine qF (l' := [(0, .slice a2 x1.length c3), (1, .slice a5 x4.length c6)]) rfl ?_
  refine qg ?_
  refine qa ?_
  refine qb rfl rfl rfl ?_
  refine qe ?_
  refine qc ?_
  refine qg ?_
  refine qg ?_
  refine qa ?_
  refine qd rfl rfl rfl ?_
  refine qX rfl Tryz.underlying37 rfl rfl ?_
  refine qd rfl rfl rfl ?_
  refine qX rfl Tryz.underlying37 rfl rfl ?_
  refine kH rfl rfl rfl rfl ?_
  refine qe ?_
  refine qc ?_
  refine qA rfl (fun h228 => ?_) (fun h228 => ?_)
  · refine qg ?_
    refine qa ?_
    refine qb rfl rfl rfl ?_
    refine qe ?_
    refine qc ?_
    refine qt ?_
    refine qp ?_
    exact qq () (res1 rfl rfl)
  · refine qr ?_
    refine qc ?_
    refine qH (fun ((_, _) : (Unit × Unit)) => []) (fun ((_, _) : (Unit × Unit)) => []) (fun ((_, _) : (Unit × Unit)) => []) (fun ((_, _) : (Unit × Unit)) => []) (fun ((_, _) : (Unit × Unit)) => qcP F) ?_ ?_
    · refine qg ?_
      refine qa ?_
      refine qb rfl rfl rfl ?_
      refine qe ?_
      refine qc ?_
      refine qB ?_
      refine q8 (fun ((x154, _) : (Int × Unit)) => [(0, .slice a2 x1.length c3), (1, .slice a5 x4.length c6), (5, .int .i64 x154)]) (fun ((x154, _) : (Int × Unit)) => []) (fun ((x154, _) : (Int × Unit)) => []) (fun ((x154, _) : (Int × Unit)) => [Sl (eI .i64) 1 (.slice a2 x1.length c3) x1, Sl (eI .i64) 1 (.slice a5 x4.length c6) x4]) (fun k (s : (Int × Unit)) => yS F x1 x4 k s.1) (0, ()) F ?_ (hF := (qo 0 rfl (qo 1 rfl qz)))
      intro k191
      rintro ⟨x154, _⟩
      try dsimp only
      refine zC (m' := j2 F x1 x4 (yS F x1 x4 k191) x154) rfl ?_
      refine qg ?_
      refine qg ?_
      refine qa ?_
      refine qd rfl rfl rfl ?_
      refine qd rfl rfl rfl ?_
      refine qX rfl Tryz.underlying37 rfl rfl ?_
      refine qZ rfl rfl rfl rfl ?_
      refine qe ?_
      refine qc ?_
      refine qA rfl (fun h227 => ?_) (fun h227 => ?_)
      · refine qr ?_
        refine qc ?_
        refine qg ?_
        refine qB ?_
        refine qg ?_
        refine jX (j := 0) (zd .i64) (by decide) rfl (fun x218 e218 b219 o220 h221 => ?_)
        replace h221 : a2 = some ⟨b219, o220, none⟩ := h221
        refine jX (j := 2) (zd .i64) (by decide) rfl (fun x222 e222 b223 o224 h225 => ?_)
        replace h225 : a5 = some ⟨b223, o224, none⟩ := h225
        refine zj mixed [] [] [zD b223 (o224 + x154.toNat * 1) ((eI .i64) x222), zD b219 (o220 + x154.toNat * 1) ((eI .i64) x218), Sl (eI .i64) 1 (.slice a2 x1.length c3) x1, Sl (eI .i64) 1 (.slice a5 x4.length c6) x4] .nil (q9 0 rfl (q9 1 rfl (q9 2 rfl (q9 3 rfl qI)))) 9 rfl ?_
        refine qf 0 (.slice a2 x1.length c3) rfl rfl rfl (qj rfl) ?_
        refine qf 1 (.int .i64 x154) rfl rfl rfl (qj rfl) ?_
        refine qG (d := 17) (v := .slice (some ⟨b219, o220, none⟩) x1.length c3) rfl (by rw [h221] <;> rfl) ?_
        refine qf 2 (.pointer (some ⟨b219, (o220 + x154.toNat * 1), none⟩)) rfl rfl rfl (qbh Tryz.underlying37 tf3 rfl rfl (km e218).1 (qaM e218)) ?_
        refine qG (d := 17) (v := .slice a2 x1.length c3) rfl (by rw [h221] <;> rfl) ?_
        refine kp 3 (.int .i64 x218) [] rfl rfl rfl (vX (j := 1) rfl tf3 rfl rfl (fun _ => rfl) rfl) ?_
        refine qf 4 (.slice a5 x4.length c6) rfl rfl rfl (qj rfl) ?_
        refine qf 5 (.int .i64 x154) rfl rfl rfl (qj rfl) ?_
        refine qG (d := 21) (v := .slice (some ⟨b223, o224, none⟩) x4.length c6) rfl (by rw [h225] <;> rfl) ?_
        refine qf 6 (.pointer (some ⟨b223, (o224 + x154.toNat * 1), none⟩)) rfl rfl rfl (qbh Tryz.underlying37 tf3 rfl rfl (km e222).1 (qaM e222)) ?_
        refine qG (d := 21) (v := .slice a5 x4.length c6) rfl (by rw [h225] <;> rfl) ?_
        refine kp 7 (.int .i64 x222) [] rfl rfl rfl (vX (j := 0) rfl tf3 rfl rfl (fun _ => rfl) rfl) ?_
        refine qf 8 (.bool ((x218 : Int) != x222)) rfl rfl rfl (qj rfl) ?_
        refine qO (by kernel_rfl) ?_
        refine zr ?_ (by intro c h; cases h)
        refine qc ?_
        refine qA rfl (fun h226 => ?_) (fun h226 => ?_)
        · refine qg ?_
          refine qa ?_
          refine qb rfl rfl rfl ?_
          refine qe ?_
          refine qc ?_
          refine qt ?_
          refine qM ?_
          refine qp ?_
          refine qp ?_
          refine qM ?_
          refine qp ?_
          exact qq () (res1 rfl rfl)
        · refine qr ?_
          refine qU ?_
          refine qc ?_
          refine qa ?_
          refine qd rfl rfl rfl ?_
          refine qL rfl rfl rfl rfl ?_
          refine qb rfl rfl rfl ?_
          refine qe ?_
          exact qW (iadd .i64 x154 1, ()) (hF := (qo 2 rfl (qo 3 rfl qz)))
      · refine zk ?_
        refine qD ?_
        refine qD ?_
        refine zl ?_
        exact qm ((), ())
    · rintro ⟨_, _⟩
      try dsimp only
      refine qg ?_
      refine qa ?_
      refine qb rfl rfl rfl ?_
      refine qe ?_
      refine qc ?_
      refine qt ?_
      exact qq () (res1 rfl rfl)
theorem qfF (F : Nat) (x1 : List (List Int)) (a2 : Option Addr) (c3 : (Nat × List (Option Addr × Nat))) (x4 : List (List Int)) (a5 : Option Addr) (c6 : (Nat × List (Option Addr × Nat))) (r : Bool) (hm : qaT F x1 x4 = some r) :
    Pure Tryz.prog 39 [.slice a2 x1.length c3.1, .slice a5 x4.length c6.1] [SlN eN37 iN37 1 (.slice a2 x1.length c3.1) x1 c3.2, SlN eN37 iN37 1 (.slice a5 x4.length c6.1) x4 c6.2] Unit (fun _ => .bool r) (fun _ => []) (fun _ => []) := by
  refine qR Tryz.func39 rfl Tryz.ntmps39 rfl hm (fun w => ?_)
  refine qF (l' := [(0, .slice a2 x1.length c3.1), (1, .slice a5 x4.length c6.1)]) rfl ?_
  refine qg ?_
  refine qa ?_
  refine qb rfl rfl rfl ?_
  refine qe ?_
  refine qc ?_
  refine qg ?_
  refine qg ?_
  refine qa ?_
  refine qd rfl rfl rfl ?_
  refine qX rfl Tryz.underlying22 rfl rfl ?_
  refine qd rfl rfl rfl ?_
  refine qX rfl Tryz.underlying22 rfl rfl ?_
  refine kH rfl rfl rfl rfl ?_
  refine qe ?_
  refine qc ?_
  refine qA rfl (fun h300 => ?_) (fun h300 => ?_)
  · refine qg ?_
    refine qa ?_
    refine qb rfl rfl rfl ?_
    refine qe ?_
    refine qc ?_
    refine qt ?_
    refine qp ?_
    exact qq () (res1 rfl rfl)
  · refine qr ?_
    refine qc ?_
    refine qH (fun ((_, _) : (Unit × Unit)) => []) (fun ((_, _) : (Unit × Unit)) => []) (fun ((_, _) : (Unit × Unit)) => []) (fun ((_, _) : (Unit × Unit)) => []) (fun ((_, _) : (Unit × Unit)) => qck F) ?_ ?_
    · refine qg ?_
      refine qa ?_
      refine qb rfl rfl rfl ?_
      refine qe ?_
      refine qc ?_
      refine qB ?_
      refine q8 (fun ((x202, _) : (Int × Unit)) => [(0, .slice a2 x1.length c3.1), (1, .slice a5 x4.length c6.1), (5, .int .i64 x202)]) (fun ((x202, _) : (Int × Unit)) => []) (fun ((x202, _) : (Int × Unit)) => []) (fun ((x202, _) : (Int × Unit)) => [SlN eN37 iN37 1 (.slice a2 x1.length c3.1) x1 c3.2, SlN eN37 iN37 1 (.slice a5 x4.length c6.1) x4 c6.2]) (fun k (s : (Int × Unit)) => yD F x1 x4 k s.1) (0, ()) F ?_ (hF := (qo 0 rfl (qo 1 rfl qz)))
      intro k251
      rintro ⟨x202, _⟩
      try dsimp only
      refine zC (m' := jK F x1 x4 (yD F x1 x4 k251) x202) rfl ?_
      refine qg ?_
      refine qg ?_
      refine qa ?_
      refine qd rfl rfl rfl ?_
      refine qd rfl rfl rfl ?_
      refine qX rfl Tryz.underlying22 rfl rfl ?_
      refine qZ rfl rfl rfl rfl ?_
      refine qe ?_
      refine qc ?_
      refine qA rfl (fun h299 => ?_) (fun h299 => ?_)
      · refine qr ?_
        refine qc ?_
        refine qg ?_
        refine qB ?_
        refine qg ?_
        refine qh5 (j := 0) vi (by decide) rfl (fun x287 e287 g291 b288 o289 h290 => ?_)
        replace h290 : a2 = some ⟨b288, o289, none⟩ := h290
        refine qh5 (j := 3) vi (by decide) rfl (fun x292 e292 g296 b293 o294 h295 => ?_)
        replace h295 : a5 = some ⟨b293, o294, none⟩ := h295
        refine zj mixed [] [] [zD b293 (o294 + x202.toNat * 1) (eN37 (x292, g296)), Sl (eI .i64) 1 (.slice g296.1 x292.length g296.2) x292, zD b288 (o289 + x202.toNat * 1) (eN37 (x287, g291)), Sl (eI .i64) 1 (.slice g291.1 x287.length g291.2) x287, SlN eN37 iN37 1 (.slice a2 x1.length c3.1) x1 c3.2, SlN eN37 iN37 1 (.slice a5 x4.length c6.1) x4 c6.2] .nil (q9 0 rfl (q9 1 rfl (q9 2 rfl (q9 3 rfl (q9 4 rfl (q9 5 rfl qI)))))) 10 rfl ?_
        refine qf 0 (.slice a2 x1.length c3.1) rfl rfl rfl (qj rfl) ?_
        refine qf 1 (.int .i64 x202) rfl rfl rfl (qj rfl) ?_
        refine qG (d := 17) (v := .slice (some ⟨b288, o289, none⟩) x1.length c3.1) rfl (by rw [h290] <;> rfl) ?_
        refine qf 2 (.pointer (some ⟨b288, (o289 + x202.toNat * 1), none⟩)) rfl rfl rfl (qbh Tryz.underlying22 tf37 rfl rfl (km e287).1 (qaM e287)) ?_
        refine qG (d := 17) (v := .slice a2 x1.length c3.1) rfl (by rw [h290] <;> rfl) ?_
        refine kp 3 (.slice g291.1 x287.length g291.2) [] rfl rfl rfl (vX (j := 2) rfl tf37 rfl rfl (fun _ => rfl) rfl) ?_
        refine qf 4 (.slice a5 x4.length c6.1) rfl rfl rfl (qj rfl) ?_
        refine qf 5 (.int .i64 x202) rfl rfl rfl (qj rfl) ?_
        refine qG (d := 21) (v := .slice (some ⟨b293, o294, none⟩) x4.length c6.1) rfl (by rw [h295] <;> rfl) ?_
        refine qf 6 (.pointer (some ⟨b293, (o294 + x202.toNat * 1), none⟩)) rfl rfl rfl (qbh Tryz.underlying22 tf37 rfl rfl (km e292).1 (qaM e292)) ?_
        refine qG (d := 21) (v := .slice a5 x4.length c6.1) rfl (by rw [h295] <;> rfl) ?_
        refine kp 7 (.slice g296.1 x292.length g296.2) [] rfl rfl rfl (vX (j := 0) rfl tf37 rfl rfl (fun _ => rfl) rfl) ?_
        refine qK 8 rfl (by kernel_rfl) rfl ?_
        refine qx ent18 rfl rfl rfl (fun x297 e297 => qgr F x287 g291.1 g291.2 x292 g296.1 g296.2 x297 e297) (.consF 3 rfl (.consF 1 rfl .nil)) (fun x297 e297 => ?_)
        intro _
        refine qe ?_
        refine qJ .nil (q9 0 rfl (q9 1 rfl (q9 2 rfl (q9 3 rfl (q9 4 rfl (q9 5 rfl qI)))))) ?_
        refine qf 9 (.bool (!x297)) rfl rfl rfl (qj rfl) ?_
        refine qO (by kernel_rfl) ?_
        refine zr ?_ (by intro c h; cases h)
        refine qc ?_
        refine qA rfl (fun h298 => ?_) (fun h298 => ?_)
        · refine qg ?_
          refine qa ?_
          refine qb rfl rfl rfl ?_
          refine qe ?_
          refine qc ?_
          refine qt ?_
          refine qM ?_
          refine qp ?_
          refine qp ?_
          refine qM ?_
          refine qp ?_
          exact qq () (res1 rfl rfl)
        · refine qr ?_
          refine qU ?_
          refine qc ?_
          refine qa ?_
          refine qd rfl rfl rfl ?_
          refine qL rfl rfl rfl rfl ?_
          refine qb rfl rfl rfl ?_
          refine qe ?_
          exact qW (iadd .i64 x202 1, ()) (hF := (qo 4 rfl (qo 5 rfl qz)))
      · refine zk ?_
        refine qD ?_
        refine qD ?_
        refine zl ?_
        exact qm ((), ())
    · rintro ⟨_, _⟩
      try dsimp only
      refine qg ?_
      refine qa ?_
      refine qb rfl rfl rfl ?_
      refine qe ?_
      refine qc ?_
      refine qt ?_
      exact qq () (res1 rfl rfl)
theorem qb5 (F : Nat) (x1 : List (List Int)) (a2 : Option Addr) (c3 : (Nat × List (Option Addr × Nat))) (x4 : List (List Int)) (a5 : Option Addr) (c6 : (Nat × List (Option Addr × Nat))) (r : Bool) (hm : vZ F x1 x4 = some r) :
    Pure Tryz.prog 17 [.agg #[.slice a2 x1.length c3.1], .agg #[.slice a5 x4.length c6.1]] [SlN eN37 iN37 1 (.slice a2 x1.length c3.1) x1 c3.2, SlN eN37 iN37 1 (.slice a5 x4.length c6.1) x4 c6.2] Unit (fun _ => .bool r) (fun _ => []) (fun _ => []) := by
 refine qR Tryz.func17 rfl Tryz.ntmps17 rfl hm (fun w => qF (l' := [(0, .agg #[.slice a2 x1.length c3.1]), (1, .agg #[.slice a5 x4.length c6.1])]) rfl (qg (qa (qT rfl rfl rfl (fun g7 => qT rfl rfl rfl (fun g8 => qb rfl rfl rfl (qe (qc (qg (qa (qi rfl rfl qdI rfl (qk (i := 1) rfl rfl tf22 rfl rfl (fun _ => rfl) rfl rfl ?_))))))))))))
 refine qi rfl rfl qdI rfl (qk (i := 0) rfl rfl tf22 rfl rfl (fun _ => rfl) rfl rfl (qx ent39 rfl rfl rfl (fun x9 e9 => qfF F x1 a2 c3 x4 a5 c6 x9 e9) (.consF 0 rfl (.consF 1 rfl .nil)) (fun x9 e9 => ?_)))
 intro _
 exact qb rfl rfl rfl (qe (qc (qt (qq () (res1 rfl rfl)))))
theorem qaQ (F : Nat)  (r : List (List Int)) (hm : vY F  = some r) :
    Pure Tryz.prog 38 [] [] (Option Addr × (Nat × List (Option Addr × Nat))) (fun g => .agg #[.slice g.1 r.length g.2.1]) (fun g => [RoN eN37 rN37 37 1 (.slice g.1 r.length g.2.1) r g.2.2 []]) (fun _ => []) := by
 refine qR Tryz.func38 rfl Tryz.ntmps38 rfl hm (fun w => qF (l' := []) rfl (qg (qa (qP rfl tf24 rfl (fun g1 => qe (qc (qg (qa (zX (vs := [.int .i64 1, .int .i64 2, .int .i64 3, .int .i64 5]) (ys := ([1, 2, 3, 5] : List Int)) (zd .i64) (by decide) rfl Tryz.underlying37 tf3 rfl rfl rfl rfl rfl (by decide) (fun a2 c3 => zX (vs := [.int .i64 1, .int .i64 2, .int .i64 3, .int .i64 5]) (ys := ([1, 2, 3, 5] : List Int)) (zd .i64) (by decide) rfl Tryz.underlying37 tf3 rfl rfl rfl rfl rfl (by decide) (fun a4 c5 => zX (vs := [.int .i64 0, .int .i64 1, .int .i64 2, .int .i64 3, .int .i64 5]) (ys := ([0, 1, 2, 3, 5] : List Int)) (zd .i64) (by decide) rfl Tryz.underlying37 tf3 rfl rfl rfl rfl rfl (by decide) (fun a6 c7 => zX (vs := [.int .i64 4]) (ys := ([4] : List Int)) (zd .i64) (by decide) rfl Tryz.underlying37 tf3 rfl rfl rfl rfl rfl (by decide) (fun a8 c9 => ?_)))))))))))))
 exact zX (vs := [.int .i64 1, .int .i64 2, .int .i64 3]) (ys := ([1, 2, 3] : List Int)) (zd .i64) (by decide) rfl Tryz.underlying37 tf3 rfl rfl rfl rfl rfl (by decide) (fun a10 c11 => ky Int (eI .i64) 3 1 (zX (vs := [.slice a2 ([1, 2, 3, 5] : List Int).length c3, .slice a4 ([1, 2, 3, 5] : List Int).length c5, .slice a6 ([0, 1, 2, 3, 5] : List Int).length c7, .slice none ([] : List Int).length 0, .slice a8 ([4] : List Int).length c9, .slice a10 ([1, 2, 3] : List Int).length c11]) (ys := ([(([1, 2, 3, 5] : List Int), (a2, c3)), (([1, 2, 3, 5] : List Int), (a4, c5)), (([0, 1, 2, 3, 5] : List Int), (a6, c7)), (([] : List Int), (none, 0)), (([4] : List Int), (a8, c9)), (([1, 2, 3] : List Int), (a10, c11))] : List (List Int × (Option Addr × Nat)))) vi (by decide) rfl Tryz.underlying22 tf37 rfl rfl rfl rfl rfl (by decide) (fun a12 c13 => qdN (rin := rN37) (i := 0) ([([1, 2, 3, 5] : List Int), ([1, 2, 3, 5] : List Int), ([0, 1, 2, 3, 5] : List Int), ([] : List Int), ([4] : List Int), ([1, 2, 3] : List Int)] : List (List Int)) ([(a2, c3), (a4, c5), (a6, c7), (none, 0), (a8, c9), (a10, c11)] : List (Option Addr × Nat)) rfl rfl (.cons 5 rfl (.cons 4 rfl (.cons 3 rfl (.cons 0 rfl (.cons 1 rfl (.cons 0 rfl .nil)))))) (zw (cells := [.slice a12 ([([1, 2, 3, 5] : List Int), ([1, 2, 3, 5] : List Int), ([0, 1, 2, 3, 5] : List Int), ([] : List Int), ([4] : List Int), ([1, 2, 3] : List Int)] : List (List Int)).length c13]) rfl st24 rfl (by kernel_rfl) rfl (qv (i := 0) rfl rfl rfl tf24 rfl rfl rfl rfl rfl (qe (qc (qt (qq (a12, (c13, ([(a2, c3), (a4, c5), (a6, c7), (none, 0), (a8, c9), (a10, c11)] : List (Option Addr × Nat)))) (resL (rs := [.cell 0 24]) rfl (.cell (i := 0) rfl tf24 rfl rfl (by simp) rfl ResOk.nil) rfl) (fun h => by subst h; exact (.cons 0 rfl .nil)))))))))))
set_option maxHeartbeats 4000000 in
theorem qfD (F : Nat)  (r : Bool) (hm : qaR F  = some r) :
    Pure Tryz.prog 15 [] [] Unit (fun _ => .bool r) (fun _ => []) (fun _ => []) := by
 refine qR Tryz.func15 rfl Tryz.ntmps15 rfl hm (fun w => qF (l' := []) rfl (qg (qa (qb rfl rfl rfl (qe (qc (qg (qa (zw (cells := [.int .i64 3, .int .i64 3, .int .i64 2]) rfl st26 rfl (by kernel_rfl) rfl (qP rfl tf26 rfl (fun g1 => qv (i := 0) rfl rfl rfl tf26 rfl rfl rfl rfl rfl (qe ?_))))))))))))
 refine qc (qH (fun (((x21, x22, x23, x24, x25, x26, x29), (g20, a27, c28)) : ((Int × Int × Int × Int × Int × Int × List Int) × (Nat × Option Addr × Nat))) => [(1, .pointer (some ⟨g1, 0, none⟩)), (2, .pointer (some ⟨g20, 0, none⟩)), (3, .int .i64 x21)]) (fun (((x21, x22, x23, x24, x25, x26, x29), (g20, a27, c28)) : ((Int × Int × Int × Int × Int × Int × List Int) × (Nat × Option Addr × Nat))) => [⟨g1, 26, [.int .i64 3, .int .i64 3, .int .i64 2]⟩, ⟨g20, 31, [.int .i64 x22, .int .i64 x23, .int .i64 x24, .int .i64 x25, .int .i64 x26, .slice a27 x29.length c28]⟩]) (fun (((x21, x22, x23, x24, x25, x26, x29), (g20, a27, c28)) : ((Int × Int × Int × Int × Int × Int × List Int) × (Nat × Option Addr × Nat))) => [Ro (eI .u8) 5 1 (.slice a27 x29.length c28) x29]) (fun (((x21, x22, x23, x24, x25, x26, x29), (g20, a27, c28)) : ((Int × Int × Int × Int × Int × Int × List Int) × (Nat × Option Addr × Nat))) => []) (fun (((x21, x22, x23, x24, x25, x26, x29), _) : ((Int × Int × Int × Int × Int × Int × List Int) × (Nat × Option Addr × Nat))) => vl F x21 x22 x23 x24 x25 x26 x29) ?_ ?_)
 refine zj mixed [] [⟨g1, 26, [.int .i64 3, .int .i64 3, .int .i64 2]⟩] [] (.cons 0 rfl .nil) qI 9 rfl (qQ 1 (.agg #[.int .i64 3, .int .i64 3, .int .i64 2]) rfl rfl rfl (qS (i := 0) rfl tf26 rfl rfl (by simp) rfl) (qcI 0 6 rfl rfl (by kernel_rfl) rfl rfl ?_ ?_))
 refine qx ent38 rfl rfl rfl (fun x103 e103 => qaQ F  x103 e103) .nil (fun x103 e103 => ?_)
 rintro ⟨a104, c105⟩
 refine qe (qJ (.cons 0 rfl .nil) qI (qcI 2 6 rfl rfl (by kernel_rfl) rfl rfl ?_ ?_))
 refine qx ent9 rfl rfl rfl (fun x106 e106 => jI F x103 a104 c105 3 3 2 x106 e106) (.consG 0 rfl (qaz qaB) .nil) (fun x106 e106 => ?_)
 rintro ⟨a107, c108⟩
 refine qe (qJ (.cons 0 rfl .nil) qI (qf 3 (.tuple #[.agg #[.int .i64 x106.1, .int .i64 x106.2.1, .int .i64 x106.2.2.1, .int .i64 x106.2.2.2.1, .int .i64 x106.2.2.2.2.1, .slice a107 x106.2.2.2.2.2.1.length c108], .int .i64 x106.2.2.2.2.2.2]) rfl rfl rfl (qj rfl) (qf 4 (.agg #[.int .i64 x106.1, .int .i64 x106.2.1, .int .i64 x106.2.2.1, .int .i64 x106.2.2.2.1, .int .i64 x106.2.2.2.2.1, .slice a107 x106.2.2.2.2.2.1.length c108]) rfl rfl rfl (qj rfl) (qf 5 (.int .i64 x106.2.2.2.2.2.2) rfl rfl rfl (qj rfl) (qK 6 rfl (by kernel_rfl) rfl (qP rfl tf31 rfl (fun g109 => qe (qJ (.cons 1 rfl .nil) qI (qK 7 rfl (by kernel_rfl) rfl (qv (i := 0) rfl rfl rfl tf31 rfl rfl rfl rfl rfl (qe (qJ (.cons 1 rfl .nil) qI ?_))))))))))))
 exact qf 8 (.int .i64 x106.2.2.2.2.2.2) rfl rfl rfl (qj rfl) (qO (by kernel_rfl) (zr (qm ((x106.2.2.2.2.2.2, x106.1, x106.2.1, x106.2.2.1, x106.2.2.2.1, x106.2.2.2.2.1, x106.2.2.2.2.2.1), (g109, a107, c108)) (hB := (.cons 1 rfl (.cons 0 rfl .nil))) (hR := (.cons 0 rfl .nil))) (by intro c h; cases h)))
 refine qcM (m' := ((yw F x103 3 3 2).bind fun x111 => vl F x111.2.2.2.2.2.2 x111.1 x111.2.1 x111.2.2.1 x111.2.2.2.1 x111.2.2.2.2.1 x111.2.2.2.2.2.1)) (rfl) (qP rfl tf31 rfl (fun g110 => qe (qJ (.cons 1 rfl .nil) qI (qK 2 rfl (by kernel_rfl) rfl (qx ent9 rfl rfl rfl (fun x111 e111 => jI F x103 a104 c105 3 3 2 x111 e111) (.consG 0 rfl (qaz qaB) .nil) (fun x111 e111 => ?_))))))
 rintro ⟨a112, c113⟩
 exact qe (qJ (.cons 1 rfl .nil) qI (qf 3 (.tuple #[.agg #[.int .i64 x111.1, .int .i64 x111.2.1, .int .i64 x111.2.2.1, .int .i64 x111.2.2.2.1, .int .i64 x111.2.2.2.2.1, .slice a112 x111.2.2.2.2.2.1.length c113], .int .i64 x111.2.2.2.2.2.2]) rfl rfl rfl (qj rfl) (qf 4 (.agg #[.int .i64 x111.1, .int .i64 x111.2.1, .int .i64 x111.2.2.1, .int .i64 x111.2.2.2.1, .int .i64 x111.2.2.2.2.1, .slice a112 x111.2.2.2.2.2.1.length c113]) rfl rfl rfl (qj rfl) (qf 5 (.int .i64 x111.2.2.2.2.2.2) rfl rfl rfl (qj rfl) (qK 7 rfl (by kernel_rfl) rfl (qv (i := 0) rfl rfl rfl tf31 rfl rfl rfl rfl rfl (qe (qJ (.cons 1 rfl .nil) qI (qf 8 (.int .i64 x111.2.2.2.2.2.2) rfl rfl rfl (qj rfl) (qO (by kernel_rfl) (zr (qm ((x111.2.2.2.2.2.2, x111.1, x111.2.1, x111.2.2.1, x111.2.2.2.1, x111.2.2.2.2.1, x111.2.2.2.2.2.1), (g110, a112, c113)) (hB := (.cons 1 rfl (.cons 0 rfl .nil))) (hR := (.cons 0 rfl .nil))) (by intro c h; cases h))))))))))))
 refine qcM (m' := ((vY F).bind fun x115 => ((yw F x115 3 3 2).bind fun x118 => vl F x118.2.2.2.2.2.2 x118.1 x118.2.1 x118.2.2.1 x118.2.2.2.1 x118.2.2.2.2.1 x118.2.2.2.2.2.1))) (rfl) (qP rfl tf31 rfl (fun g114 => qe (qJ (.cons 1 rfl .nil) qI (qK 0 rfl (by kernel_rfl) rfl (qx ent38 rfl rfl rfl (fun x115 e115 => qaQ F  x115 e115) .nil (fun x115 e115 => ?_))))))
 rintro ⟨a116, c117⟩
 refine qe (qJ (.cons 1 rfl .nil) qI (qK 2 rfl (by kernel_rfl) rfl (qx ent9 rfl rfl rfl (fun x118 e118 => jI F x115 a116 c117 3 3 2 x118 e118) (.consG 0 rfl (qaz qaB) .nil) (fun x118 e118 => ?_))))
 rintro ⟨a119, c120⟩
 exact qe (qJ (.cons 1 rfl .nil) qI (qf 3 (.tuple #[.agg #[.int .i64 x118.1, .int .i64 x118.2.1, .int .i64 x118.2.2.1, .int .i64 x118.2.2.2.1, .int .i64 x118.2.2.2.2.1, .slice a119 x118.2.2.2.2.2.1.length c120], .int .i64 x118.2.2.2.2.2.2]) rfl rfl rfl (qj rfl) (qf 4 (.agg #[.int .i64 x118.1, .int .i64 x118.2.1, .int .i64 x118.2.2.1, .int .i64 x118.2.2.2.1, .int .i64 x118.2.2.2.2.1, .slice a119 x118.2.2.2.2.2.1.length c120]) rfl rfl rfl (qj rfl) (qf 5 (.int .i64 x118.2.2.2.2.2.2) rfl rfl rfl (qj rfl) (qK 7 rfl (by kernel_rfl) rfl (qv (i := 0) rfl rfl rfl tf31 rfl rfl rfl rfl rfl (qe (qJ (.cons 1 rfl .nil) qI (qf 8 (.int .i64 x118.2.2.2.2.2.2) rfl rfl rfl (qj rfl) (qO (by kernel_rfl) (zr (qm ((x118.2.2.2.2.2.2, x118.1, x118.2.1, x118.2.2.1, x118.2.2.2.1, x118.2.2.2.2.1, x118.2.2.2.2.2.1), (g114, a119, c120)) (hB := (.cons 1 rfl (.cons 0 rfl .nil))) (hR := (.cons 0 rfl .nil))) (by intro c h; cases h))))))))))))
 rintro ⟨⟨x21, x22, x23, x24, x25, x26, x29⟩, ⟨g20, a27, c28⟩⟩
 try dsimp only
 refine qg (qa (qk (i := 1) rfl rfl tf31 rfl rfl (by simp) rfl rfl (qx ent10 rfl rfl rfl (fun x30 e30 => qbS F x22 x23 x24 x25 x26 x29 a27 c28 x30 e30) (.consR 0 (Ro (eI .u8) 5 1 (.slice a27 x29.length c28) x29) rfl .nil) (fun x30 e30 => ?_))))
 rintro ⟨a31, c32⟩
 refine qd rfl rfl rfl (qs rfl rfl rfl rfl (qs rfl rfl rfl rfl (qP rfl tf24 rfl (fun g33 => qv (i := 0) rfl rfl rfl tf24 rfl rfl rfl rfl rfl (qb rfl rfl rfl (qe (qc (qg (zj mixed [] [⟨g33, 24, [.slice a31 x30.1.length c32.1]⟩, ⟨g1, 26, [.int .i64 3, .int .i64 3, .int .i64 2]⟩, ⟨g20, 31, [.int .i64 x22, .int .i64 x23, .int .i64 x24, .int .i64 x25, .int .i64 x26, .slice a27 x29.length c28]⟩] [] (.cons 0 rfl (.cons 0 rfl (.cons 0 rfl .nil))) qI 10 rfl (qQ 1 (.agg #[.int .i64 3, .int .i64 3, .int .i64 2]) rfl rfl rfl (qS (i := 1) rfl tf26 rfl rfl (by simp) rfl) (qK 0 rfl (by kernel_rfl) rfl (qx ent38 rfl rfl rfl (fun x42 e42 => qaQ F  x42 e42) .nil (fun x42 e42 => ?_)))))))))))))
 rintro ⟨a43, c44⟩
 refine qe (qJ (.cons 0 rfl (.cons 0 rfl (.cons 0 rfl .nil))) qI (qK 2 rfl (by kernel_rfl) rfl (qx ent11 rfl rfl rfl (fun x45 e45 => qhn F x42 a43 c44 3 3 2 x45 e45) (.consG 0 rfl (qaz qaB) .nil) (fun x45 e45 => ?_))))
 rintro ⟨⟨a46, c47⟩, ⟨a48, c49⟩⟩
 refine qe (qJ (.cons 0 rfl (.cons 0 rfl (.cons 0 rfl .nil))) qI (qf 3 (.tuple #[.slice a46 x45.1.length c47, .slice a48 x45.2.1.length c49, .int .i64 x45.2.2]) rfl rfl rfl (qj rfl) (qf 4 (.slice a46 x45.1.length c47) rfl rfl rfl (qj rfl) (qf 5 (.slice a48 x45.2.1.length c49) rfl rfl rfl (qj rfl) (qf 6 (.int .i64 x45.2.2) rfl rfl rfl (qj rfl) (qf 7 (.slice a46 x45.1.length c47) rfl rfl rfl (qj rfl) (qf 8 (.slice a48 x45.2.1.length c49) rfl rfl rfl (qj rfl) (qf 9 (.int .i64 x45.2.2) rfl rfl rfl (qj rfl) (qO (by kernel_rfl) (zr (qc (qg ?_)) (by intro c h; cases h)))))))))))
 refine qa (qk (i := 1) rfl rfl tf26 rfl rfl (by simp) rfl rfl (zw (cells := [.int .i64 1, .int .i64 3, .int .i64 3, .int .i64 2, .int .i64 0, .slice none 0 0]) rfl st31 rfl (by kernel_rfl) rfl (ky Int (eI .u8) 5 1 (qx ent10 rfl rfl rfl (fun x50 e50 => qbS F 1 3 3 2 0 ([] : List Int) none 0 x50 e50) (.consR 0 (Ro (eI .u8) 5 1 (.slice none ([] : List Int).length 0) ([] : List Int)) rfl .nil) (fun x50 e50 => ?_)))))
 rintro ⟨a51, c52⟩
 refine qd rfl rfl rfl (qs rfl rfl rfl rfl (qs rfl rfl rfl rfl (qP rfl tf24 rfl (fun g53 => qv (i := 0) rfl rfl rfl tf24 rfl rfl rfl rfl rfl (qb rfl rfl rfl (qe (qc (qH (fun ((x78, _) : (Bool × Unit)) => [(0, .bool x78)]) (fun ((x78, _) : (Bool × Unit)) => []) (fun ((x78, _) : (Bool × Unit)) => []) (fun ((x78, _) : (Bool × Unit)) => []) (fun ((x78, _) : (Bool × Unit)) => zz F x78) ?_ ?_))))))))
 refine qaj (fun h79 => ?_) (fun h79 => ?_)
 refine qaj (fun h80 => ?_) (fun h80 => ?_)
 refine qaj (fun h81 => ?_) (fun h81 => ?_)
 refine zj mixed [] [⟨g53, 24, [.slice a51 x50.1.length c52.1]⟩, ⟨g33, 24, [.slice a31 x30.1.length c32.1]⟩, ⟨g1, 26, [.int .i64 3, .int .i64 3, .int .i64 2]⟩, ⟨g20, 31, [.int .i64 x22, .int .i64 x23, .int .i64 x24, .int .i64 x25, .int .i64 x26, .slice a27 x29.length c28]⟩] [] (.cons 0 rfl (.cons 0 rfl (.cons 0 rfl (.cons 0 rfl .nil)))) qI 59 rfl (qf 0 (.int .i64 x21) rfl rfl rfl (qj rfl) (qf 1 (.bool ((x21 : Int) == 0)) rfl rfl rfl (qj rfl) (qf 2 (.bool ((x21 : Int) == 0)) rfl rfl rfl (qj rfl) (qG (d := 38) (v := .bool true) rfl (by rw [h79] <;> rfl) (qf 3 (.pointer (some ⟨g20, 0, none⟩)) rfl rfl rfl (qu rfl qc1) (qQ 4 (.int .i64 x22) rfl rfl rfl (qS (i := 3) rfl tf3 rfl rfl (fun _ => rfl) rfl) (qf 5 (.bool ((x22 : Int) == 6)) rfl rfl rfl (qj rfl) (qf 6 (.bool ((x22 : Int) == 6)) rfl rfl rfl (qj rfl) (qf 7 (.bool ((x22 : Int) == 6)) rfl rfl rfl (qj rfl) (qG (d := 43) (v := .bool true) rfl (by rw [h80] <;> rfl) (qf 8 (.pointer (some ⟨g20, 1, none⟩)) rfl rfl rfl (qu rfl qbg) (qQ 9 (.agg #[.int .i64 x23, .int .i64 x24, .int .i64 x25]) rfl rfl rfl (qS (i := 3) rfl tf26 rfl rfl (by simp) rfl) ?_))))))))))))
 refine qQ 10 (.agg #[.int .i64 3, .int .i64 3, .int .i64 2]) rfl rfl rfl (qS (i := 2) rfl tf26 rfl rfl (by simp) rfl) (qf 11 (.bool (((x23 : Int) == 3) && (((x24 : Int) == 3) && ((x25 : Int) == 2)))) rfl rfl rfl (qjU rfl rfl se26) (qf 12 (.bool (((x23 : Int) == 3) && (((x24 : Int) == 3) && ((x25 : Int) == 2)))) rfl rfl rfl (qj rfl) (qf 13 (.bool (((x23 : Int) == 3) && (((x24 : Int) == 3) && ((x25 : Int) == 2)))) rfl rfl rfl (qj rfl) (qG (d := 49) (v := .bool true) rfl (by rw [h81] <;> rfl) (qQ 14 (.agg #[.slice a31 x30.1.length c32.1]) rfl rfl rfl (qS (i := 1) rfl tf24 rfl rfl (by simp) rfl) (qK 15 rfl (by kernel_rfl) rfl (qx ent38 rfl rfl rfl (fun x82 e82 => qaQ F  x82 e82) .nil (fun x82 e82 => ?_))))))))
 rintro ⟨a83, c84⟩
 refine qe (qJ (.cons 0 rfl (.cons 0 rfl (.cons 0 rfl (.cons 0 rfl .nil)))) qI (qK 16 rfl (by kernel_rfl) rfl (qx ent17 rfl rfl rfl (fun x85 e85 => qb5 F x30.1 a31 c32 x82 a83 c84 x85 e85) (.consG 6 rfl (qaz qaB) (.consG 0 rfl (qaz qaB) .nil)) (fun x85 e85 => ?_))))
 intro _
 refine qe (qJ (.cons 0 rfl (.cons 0 rfl (.cons 0 rfl (.cons 0 rfl .nil)))) qI (qf 17 (.bool x85) rfl rfl rfl (qj rfl) (qf 18 (.bool x85) rfl rfl rfl (qj rfl) (qdc (fun h86 => ?_) (fun h86 => ?_)))))
 refine qG (d := 54) (v := .bool true) rfl (by rw [h86] <;> rfl) (qf 19 (.int .i64 x30.2) rfl rfl rfl (qj rfl) (qf 20 (.bool ((x30.2 : Int) == 0)) rfl rfl rfl (qj rfl) (qf 21 (.bool ((x30.2 : Int) == 0)) rfl rfl rfl (qj rfl) (qf 22 (.bool ((x30.2 : Int) == 0)) rfl rfl rfl (qj rfl) (qdc (fun h87 => ?_) (fun h87 => ?_))))))
 refine qG (d := 58) (v := .bool true) rfl (by rw [h87] <;> rfl) (qf 23 (.slice a46 x45.1.length c47) rfl rfl rfl (qj rfl) (qf 24 (.int .i64 (x45.1.length : Int)) rfl rfl rfl (qeG Tryz.underlying37 rfl) (qf 25 (.bool (((x45.1.length : Int) : Int) == 6)) rfl rfl rfl (qj rfl) (qf 26 (.bool (((x45.1.length : Int) : Int) == 6)) rfl rfl rfl (qj rfl) (qf 27 (.bool (((x45.1.length : Int) : Int) == 6)) rfl rfl rfl (qj rfl) (qdc (fun h88 => ?_) (fun h88 => ?_)))))))
 refine qG (d := 63) (v := .bool true) rfl (by rw [h88] <;> rfl) (qf 28 (.slice a46 x45.1.length c47) rfl rfl rfl (qj rfl) (qK 29 rfl (by kernel_rfl) rfl (qaf (j := 3) rfl Tryz.underlying37 tf3 rfl rfl rfl rfl (fun x89 e89 g90 h91 => qe (qJ (.cons 0 rfl (.cons 0 rfl (.cons 0 rfl (.cons 0 rfl .nil)))) qI (qK 30 rfl (by kernel_rfl) rfl (qeD (j := 3) (y := x89) (zd .i64) rfl rfl tf3 rfl h91 (km e89).2.2 (fun _ => rfl) rfl rfl (qe (qJ (.cons 0 rfl (.cons 0 rfl (.cons 0 rfl (.cons 0 rfl .nil)))) qI (qf 31 (.bool ((x89 : Int) == 0)) rfl rfl rfl (qj rfl) (qf 32 (.bool ((x89 : Int) == 0)) rfl rfl rfl (qj rfl) (qf 33 (.bool ((x89 : Int) == 0)) rfl rfl rfl (qj rfl) ?_))))))))))))
 refine qdc (fun h92 => ?_) (fun h92 => ?_)
 refine qG (d := 69) (v := .bool true) rfl (by rw [h92] <;> rfl) (qf 34 (.slice a46 x45.1.length c47) rfl rfl rfl (qj rfl) (qK 35 rfl (by kernel_rfl) rfl (qaf (j := 3) rfl Tryz.underlying37 tf3 rfl rfl rfl rfl (fun x93 e93 g94 h95 => qe (qJ (.cons 0 rfl (.cons 0 rfl (.cons 0 rfl (.cons 0 rfl .nil)))) qI (qK 36 rfl (by kernel_rfl) rfl (qeD (j := 3) (y := x93) (zd .i64) rfl rfl tf3 rfl h95 (km e93).2.2 (fun _ => rfl) rfl rfl (qe (qJ (.cons 0 rfl (.cons 0 rfl (.cons 0 rfl (.cons 0 rfl .nil)))) qI (qf 37 (.bool ((x93 : Int) == 1)) rfl rfl rfl (qj rfl) (qf 38 (.bool ((x93 : Int) == 1)) rfl rfl rfl (qj rfl) (qf 39 (.bool ((x93 : Int) == 1)) rfl rfl rfl (qj rfl) ?_))))))))))))
 refine qdc (fun h96 => ?_) (fun h96 => ?_)
 refine qG (d := 75) (v := .bool true) rfl (by rw [h96] <;> rfl) (qf 40 (.slice a48 x45.2.1.length c49) rfl rfl rfl (qj rfl) (qf 41 (.int .i64 (x45.2.1.length : Int)) rfl rfl rfl (qeG Tryz.underlying37 rfl) (qf 42 (.bool (((x45.2.1.length : Int) : Int) == 6)) rfl rfl rfl (qj rfl) (qf 43 (.bool (((x45.2.1.length : Int) : Int) == 6)) rfl rfl rfl (qj rfl) (qf 44 (.bool (((x45.2.1.length : Int) : Int) == 6)) rfl rfl rfl (qj rfl) (qdc (fun h97 => ?_) (fun h97 => ?_)))))))
 refine qG (d := 80) (v := .bool true) rfl (by rw [h97] <;> rfl) (qf 45 (.slice a48 x45.2.1.length c49) rfl rfl rfl (qj rfl) (qK 46 rfl (by kernel_rfl) rfl (qaf (j := 4) rfl Tryz.underlying37 tf3 rfl rfl rfl rfl (fun x98 e98 g99 h100 => qe (qJ (.cons 0 rfl (.cons 0 rfl (.cons 0 rfl (.cons 0 rfl .nil)))) qI (qK 47 rfl (by kernel_rfl) rfl (qeD (j := 4) (y := x98) (zd .i64) rfl rfl tf3 rfl h100 (km e98).2.2 (fun _ => rfl) rfl rfl (qe (qJ (.cons 0 rfl (.cons 0 rfl (.cons 0 rfl (.cons 0 rfl .nil)))) qI (qf 48 (.bool ((x98 : Int) == 0)) rfl rfl rfl (qj rfl) (qf 49 (.bool ((x98 : Int) == 0)) rfl rfl rfl (qj rfl) (qf 50 (.bool ((x98 : Int) == 0)) rfl rfl rfl (qj rfl) ?_))))))))))))
 refine qdc (fun h101 => ?_) (fun h101 => ?_)
 refine qG (d := 86) (v := .bool true) rfl (by rw [h101] <;> rfl) (qf 51 (.int .i64 x45.2.2) rfl rfl rfl (qj rfl) (qf 52 (.bool ((x45.2.2 : Int) == 0)) rfl rfl rfl (qj rfl) (qf 53 (.bool ((x45.2.2 : Int) == 0)) rfl rfl rfl (qj rfl) (qf 54 (.bool ((x45.2.2 : Int) == 0)) rfl rfl rfl (qj rfl) (qdc (fun h102 => ?_) (fun h102 => ?_))))))
 exact qG (d := 90) (v := .bool true) rfl (by rw [h102] <;> rfl) (qf 55 (.int .i64 x50.2) rfl rfl rfl (qj rfl) (qf 56 (.bool ((x50.2 : Int) == 1)) rfl rfl rfl (qj rfl) (qf 57 (.bool ((x50.2 : Int) == 1)) rfl rfl rfl (qj rfl) (qf 58 (.bool ((x50.2 : Int) == 1)) rfl rfl rfl (qj rfl) (qO (by kernel_rfl) (zr (qm (((x50.2 : Int) == 1), ())) (by intro c h; cases h)))))))
 exact qG (d := 90) (v := .bool false) rfl (by rw [h102] <;> rfl) (qh 55 rfl rfl rfl (qh 56 rfl rfl rfl (qf 57 (.bool false) rfl rfl rfl (qj rfl) (qf 58 (.bool false) rfl rfl rfl (qj rfl) (qO (by kernel_rfl) (zr (qm (false, ())) (by intro c h; cases h)))))))
 exact qG (d := 86) (v := .bool false) rfl (by rw [h101] <;> rfl) (qh 51 rfl rfl rfl (qh 52 rfl rfl rfl (qf 53 (.bool false) rfl rfl rfl (qj rfl) (qf 54 (.bool false) rfl rfl rfl (qj rfl) (qh 55 rfl rfl rfl (qh 56 rfl rfl rfl (qf 57 (.bool false) rfl rfl rfl (qj rfl) (qf 58 (.bool false) rfl rfl rfl (qj rfl) (qO (by kernel_rfl) (zr (qm (false, ())) (by intro c h; cases h)))))))))))
 refine qG (d := 80) (v := .bool false) rfl (by rw [h97] <;> rfl) (qh 45 rfl rfl rfl (qh 46 rfl rfl rfl (qh 47 rfl rfl rfl (qh 48 rfl rfl rfl (qf 49 (.bool false) rfl rfl rfl (qj rfl) (qf 50 (.bool false) rfl rfl rfl (qj rfl) (qh 51 rfl rfl rfl (qh 52 rfl rfl rfl (qf 53 (.bool false) rfl rfl rfl (qj rfl) (qf 54 (.bool false) rfl rfl rfl (qj rfl) (qh 55 rfl rfl rfl (qh 56 rfl rfl rfl ?_))))))))))))
 exact qf 57 (.bool false) rfl rfl rfl (qj rfl) (qf 58 (.bool false) rfl rfl rfl (qj rfl) (qO (by kernel_rfl) (zr (qm (false, ())) (by intro c h; cases h))))
 refine qG (d := 75) (v := .bool false) rfl (by rw [h96] <;> rfl) (qh 40 rfl rfl rfl (qh 41 rfl rfl rfl (qh 42 rfl rfl rfl (qf 43 (.bool false) rfl rfl rfl (qj rfl) (qf 44 (.bool false) rfl rfl rfl (qj rfl) (qh 45 rfl rfl rfl (qh 46 rfl rfl rfl (qh 47 rfl rfl rfl (qh 48 rfl rfl rfl (qf 49 (.bool false) rfl rfl rfl (qj rfl) (qf 50 (.bool false) rfl rfl rfl (qj rfl) (qh 51 rfl rfl rfl ?_))))))))))))
 exact qh 52 rfl rfl rfl (qf 53 (.bool false) rfl rfl rfl (qj rfl) (qf 54 (.bool false) rfl rfl rfl (qj rfl) (qh 55 rfl rfl rfl (qh 56 rfl rfl rfl (qf 57 (.bool false) rfl rfl rfl (qj rfl) (qf 58 (.bool false) rfl rfl rfl (qj rfl) (qO (by kernel_rfl) (zr (qm (false, ())) (by intro c h; cases h)))))))))
 refine qG (d := 69) (v := .bool false) rfl (by rw [h92] <;> rfl) (qh 34 rfl rfl rfl (qh 35 rfl rfl rfl (qh 36 rfl rfl rfl (qh 37 rfl rfl rfl (qf 38 (.bool false) rfl rfl rfl (qj rfl) (qf 39 (.bool false) rfl rfl rfl (qj rfl) (qh 40 rfl rfl rfl (qh 41 rfl rfl rfl (qh 42 rfl rfl rfl (qf 43 (.bool false) rfl rfl rfl (qj rfl) (qf 44 (.bool false) rfl rfl rfl (qj rfl) (qh 45 rfl rfl rfl ?_))))))))))))
 refine qh 46 rfl rfl rfl (qh 47 rfl rfl rfl (qh 48 rfl rfl rfl (qf 49 (.bool false) rfl rfl rfl (qj rfl) (qf 50 (.bool false) rfl rfl rfl (qj rfl) (qh 51 rfl rfl rfl (qh 52 rfl rfl rfl (qf 53 (.bool false) rfl rfl rfl (qj rfl) (qf 54 (.bool false) rfl rfl rfl (qj rfl) (qh 55 rfl rfl rfl (qh 56 rfl rfl rfl (qf 57 (.bool false) rfl rfl rfl (qj rfl) (qf 58 (.bool false) rfl rfl rfl (qj rfl) ?_))))))))))))
 exact qO (by kernel_rfl) (zr (qm (false, ())) (by intro c h; cases h))
 refine qG (d := 63) (v := .bool false) rfl (by rw [h88] <;> rfl) (qh 28 rfl rfl rfl (qh 29 rfl rfl rfl (qh 30 rfl rfl rfl (qh 31 rfl rfl rfl (qf 32 (.bool false) rfl rfl rfl (qj rfl) (qf 33 (.bool false) rfl rfl rfl (qj rfl) (qh 34 rfl rfl rfl (qh 35 rfl rfl rfl (qh 36 rfl rfl rfl (qh 37 rfl rfl rfl (qf 38 (.bool false) rfl rfl rfl (qj rfl) (qf 39 (.bool false) rfl rfl rfl (qj rfl) ?_))))))))))))
 refine qh 40 rfl rfl rfl (qh 41 rfl rfl rfl (qh 42 rfl rfl rfl (qf 43 (.bool false) rfl rfl rfl (qj rfl) (qf 44 (.bool false) rfl rfl rfl (qj rfl) (qh 45 rfl rfl rfl (qh 46 rfl rfl rfl (qh 47 rfl rfl rfl (qh 48 rfl rfl rfl (qf 49 (.bool false) rfl rfl rfl (qj rfl) (qf 50 (.bool false) rfl rfl rfl (qj rfl) (qh 51 rfl rfl rfl (qh 52 rfl rfl rfl ?_))))))))))))
 exact qf 53 (.bool false) rfl rfl rfl (qj rfl) (qf 54 (.bool false) rfl rfl rfl (qj rfl) (qh 55 rfl rfl rfl (qh 56 rfl rfl rfl (qf 57 (.bool false) rfl rfl rfl (qj rfl) (qf 58 (.bool false) rfl rfl rfl (qj rfl) (qO (by kernel_rfl) (zr (qm (false, ())) (by intro c h; cases h))))))))
 refine qG (d := 58) (v := .bool false) rfl (by rw [h87] <;> rfl) (qh 23 rfl rfl rfl (qh 24 rfl rfl rfl (qh 25 rfl rfl rfl (qf 26 (.bool false) rfl rfl rfl (qj rfl) (qf 27 (.bool false) rfl rfl rfl (qj rfl) (qh 28 rfl rfl rfl (qh 29 rfl rfl rfl (qh 30 rfl rfl rfl (qh 31 rfl rfl rfl (qf 32 (.bool false) rfl rfl rfl (qj rfl) (qf 33 (.bool false) rfl rfl rfl (qj rfl) (qh 34 rfl rfl rfl ?_))))))))))))
 refine qh 35 rfl rfl rfl (qh 36 rfl rfl rfl (qh 37 rfl rfl rfl (qf 38 (.bool false) rfl rfl rfl (qj rfl) (qf 39 (.bool false) rfl rfl rfl (qj rfl) (qh 40 rfl rfl rfl (qh 41 rfl rfl rfl (qh 42 rfl rfl rfl (qf 43 (.bool false) rfl rfl rfl (qj rfl) (qf 44 (.bool false) rfl rfl rfl (qj rfl) (qh 45 rfl rfl rfl (qh 46 rfl rfl rfl (qh 47 rfl rfl rfl ?_))))))))))))
 refine qh 48 rfl rfl rfl (qf 49 (.bool false) rfl rfl rfl (qj rfl) (qf 50 (.bool false) rfl rfl rfl (qj rfl) (qh 51 rfl rfl rfl (qh 52 rfl rfl rfl (qf 53 (.bool false) rfl rfl rfl (qj rfl) (qf 54 (.bool false) rfl rfl rfl (qj rfl) (qh 55 rfl rfl rfl (qh 56 rfl rfl rfl (qf 57 (.bool false) rfl rfl rfl (qj rfl) (qf 58 (.bool false) rfl rfl rfl (qj rfl) (qO (by kernel_rfl) (zr ?_ (by intro c h; cases h)))))))))))))
 exact qm (false, ())
 refine qG (d := 54) (v := .bool false) rfl (by rw [h86] <;> rfl) (qh 19 rfl rfl rfl (qh 20 rfl rfl rfl (qf 21 (.bool false) rfl rfl rfl (qj rfl) (qf 22 (.bool false) rfl rfl rfl (qj rfl) (qh 23 rfl rfl rfl (qh 24 rfl rfl rfl (qh 25 rfl rfl rfl (qf 26 (.bool false) rfl rfl rfl (qj rfl) (qf 27 (.bool false) rfl rfl rfl (qj rfl) (qh 28 rfl rfl rfl (qh 29 rfl rfl rfl (qh 30 rfl rfl rfl ?_))))))))))))
 refine qh 31 rfl rfl rfl (qf 32 (.bool false) rfl rfl rfl (qj rfl) (qf 33 (.bool false) rfl rfl rfl (qj rfl) (qh 34 rfl rfl rfl (qh 35 rfl rfl rfl (qh 36 rfl rfl rfl (qh 37 rfl rfl rfl (qf 38 (.bool false) rfl rfl rfl (qj rfl) (qf 39 (.bool false) rfl rfl rfl (qj rfl) (qh 40 rfl rfl rfl (qh 41 rfl rfl rfl (qh 42 rfl rfl rfl (qf 43 (.bool false) rfl rfl rfl (qj rfl) ?_))))))))))))
 refine qf 44 (.bool false) rfl rfl rfl (qj rfl) (qh 45 rfl rfl rfl (qh 46 rfl rfl rfl (qh 47 rfl rfl rfl (qh 48 rfl rfl rfl (qf 49 (.bool false) rfl rfl rfl (qj rfl) (qf 50 (.bool false) rfl rfl rfl (qj rfl) (qh 51 rfl rfl rfl (qh 52 rfl rfl rfl (qf 53 (.bool false) rfl rfl rfl (qj rfl) (qf 54 (.bool false) rfl rfl rfl (qj rfl) (qh 55 rfl rfl rfl (qh 56 rfl rfl rfl ?_))))))))))))
 exact qf 57 (.bool false) rfl rfl rfl (qj rfl) (qf 58 (.bool false) rfl rfl rfl (qj rfl) (qO (by kernel_rfl) (zr (qm (false, ())) (by intro c h; cases h))))
 refine zj mixed [] [⟨g53, 24, [.slice a51 x50.1.length c52.1]⟩, ⟨g33, 24, [.slice a31 x30.1.length c32.1]⟩, ⟨g1, 26, [.int .i64 3, .int .i64 3, .int .i64 2]⟩, ⟨g20, 31, [.int .i64 x22, .int .i64 x23, .int .i64 x24, .int .i64 x25, .int .i64 x26, .slice a27 x29.length c28]⟩] [] (.cons 0 rfl (.cons 0 rfl (.cons 0 rfl (.cons 0 rfl .nil)))) qI 59 rfl (qf 0 (.int .i64 x21) rfl rfl rfl (qj rfl) (qf 1 (.bool ((x21 : Int) == 0)) rfl rfl rfl (qj rfl) (qf 2 (.bool ((x21 : Int) == 0)) rfl rfl rfl (qj rfl) (qG (d := 38) (v := .bool true) rfl (by rw [h79] <;> rfl) (qf 3 (.pointer (some ⟨g20, 0, none⟩)) rfl rfl rfl (qu rfl qc1) (qQ 4 (.int .i64 x22) rfl rfl rfl (qS (i := 3) rfl tf3 rfl rfl (fun _ => rfl) rfl) (qf 5 (.bool ((x22 : Int) == 6)) rfl rfl rfl (qj rfl) (qf 6 (.bool ((x22 : Int) == 6)) rfl rfl rfl (qj rfl) (qf 7 (.bool ((x22 : Int) == 6)) rfl rfl rfl (qj rfl) (qG (d := 43) (v := .bool true) rfl (by rw [h80] <;> rfl) (qf 8 (.pointer (some ⟨g20, 1, none⟩)) rfl rfl rfl (qu rfl qbg) (qQ 9 (.agg #[.int .i64 x23, .int .i64 x24, .int .i64 x25]) rfl rfl rfl (qS (i := 3) rfl tf26 rfl rfl (by simp) rfl) ?_))))))))))))
 refine qQ 10 (.agg #[.int .i64 3, .int .i64 3, .int .i64 2]) rfl rfl rfl (qS (i := 2) rfl tf26 rfl rfl (by simp) rfl) (qf 11 (.bool (((x23 : Int) == 3) && (((x24 : Int) == 3) && ((x25 : Int) == 2)))) rfl rfl rfl (qjU rfl rfl se26) (qf 12 (.bool (((x23 : Int) == 3) && (((x24 : Int) == 3) && ((x25 : Int) == 2)))) rfl rfl rfl (qj rfl) (qf 13 (.bool (((x23 : Int) == 3) && (((x24 : Int) == 3) && ((x25 : Int) == 2)))) rfl rfl rfl (qj rfl) (qG (d := 49) (v := .bool false) rfl (by rw [h81] <;> rfl) (qh 14 rfl rfl rfl (qh 15 rfl rfl rfl (qh 16 rfl rfl rfl (qf 17 (.bool false) rfl rfl rfl (qj rfl) (qf 18 (.bool false) rfl rfl rfl (qj rfl) (qh 19 rfl rfl rfl (qh 20 rfl rfl rfl (qf 21 (.bool false) rfl rfl rfl (qj rfl) ?_))))))))))))
 refine qf 22 (.bool false) rfl rfl rfl (qj rfl) (qh 23 rfl rfl rfl (qh 24 rfl rfl rfl (qh 25 rfl rfl rfl (qf 26 (.bool false) rfl rfl rfl (qj rfl) (qf 27 (.bool false) rfl rfl rfl (qj rfl) (qh 28 rfl rfl rfl (qh 29 rfl rfl rfl (qh 30 rfl rfl rfl (qh 31 rfl rfl rfl (qf 32 (.bool false) rfl rfl rfl (qj rfl) (qf 33 (.bool false) rfl rfl rfl (qj rfl) (qh 34 rfl rfl rfl ?_))))))))))))
 refine qh 35 rfl rfl rfl (qh 36 rfl rfl rfl (qh 37 rfl rfl rfl (qf 38 (.bool false) rfl rfl rfl (qj rfl) (qf 39 (.bool false) rfl rfl rfl (qj rfl) (qh 40 rfl rfl rfl (qh 41 rfl rfl rfl (qh 42 rfl rfl rfl (qf 43 (.bool false) rfl rfl rfl (qj rfl) (qf 44 (.bool false) rfl rfl rfl (qj rfl) (qh 45 rfl rfl rfl (qh 46 rfl rfl rfl (qh 47 rfl rfl rfl ?_))))))))))))
 refine qh 48 rfl rfl rfl (qf 49 (.bool false) rfl rfl rfl (qj rfl) (qf 50 (.bool false) rfl rfl rfl (qj rfl) (qh 51 rfl rfl rfl (qh 52 rfl rfl rfl (qf 53 (.bool false) rfl rfl rfl (qj rfl) (qf 54 (.bool false) rfl rfl rfl (qj rfl) (qh 55 rfl rfl rfl (qh 56 rfl rfl rfl (qf 57 (.bool false) rfl rfl rfl (qj rfl) (qf 58 (.bool false) rfl rfl rfl (qj rfl) (qO (by kernel_rfl) (zr ?_ (by intro c h; cases h)))))))))))))
 exact qm (false, ())
 refine zj mixed [] [⟨g53, 24, [.slice a51 x50.1.length c52.1]⟩, ⟨g33, 24, [.slice a31 x30.1.length c32.1]⟩, ⟨g1, 26, [.int .i64 3, .int .i64 3, .int .i64 2]⟩, ⟨g20, 31, [.int .i64 x22, .int .i64 x23, .int .i64 x24, .int .i64 x25, .int .i64 x26, .slice a27 x29.length c28]⟩] [] (.cons 0 rfl (.cons 0 rfl (.cons 0 rfl (.cons 0 rfl .nil)))) qI 59 rfl (qf 0 (.int .i64 x21) rfl rfl rfl (qj rfl) (qf 1 (.bool ((x21 : Int) == 0)) rfl rfl rfl (qj rfl) (qf 2 (.bool ((x21 : Int) == 0)) rfl rfl rfl (qj rfl) (qG (d := 38) (v := .bool true) rfl (by rw [h79] <;> rfl) (qf 3 (.pointer (some ⟨g20, 0, none⟩)) rfl rfl rfl (qu rfl qc1) (qQ 4 (.int .i64 x22) rfl rfl rfl (qS (i := 3) rfl tf3 rfl rfl (fun _ => rfl) rfl) (qf 5 (.bool ((x22 : Int) == 6)) rfl rfl rfl (qj rfl) (qf 6 (.bool ((x22 : Int) == 6)) rfl rfl rfl (qj rfl) (qf 7 (.bool ((x22 : Int) == 6)) rfl rfl rfl (qj rfl) (qG (d := 43) (v := .bool false) rfl (by rw [h80] <;> rfl) (qh 8 rfl rfl rfl (qh 9 rfl rfl rfl ?_))))))))))))
 refine qh 10 rfl rfl rfl (qh 11 rfl rfl rfl (qf 12 (.bool false) rfl rfl rfl (qj rfl) (qf 13 (.bool false) rfl rfl rfl (qj rfl) (qh 14 rfl rfl rfl (qh 15 rfl rfl rfl (qh 16 rfl rfl rfl (qf 17 (.bool false) rfl rfl rfl (qj rfl) (qf 18 (.bool false) rfl rfl rfl (qj rfl) (qh 19 rfl rfl rfl (qh 20 rfl rfl rfl (qf 21 (.bool false) rfl rfl rfl (qj rfl) (qf 22 (.bool false) rfl rfl rfl (qj rfl) ?_))))))))))))
 refine qh 23 rfl rfl rfl (qh 24 rfl rfl rfl (qh 25 rfl rfl rfl (qf 26 (.bool false) rfl rfl rfl (qj rfl) (qf 27 (.bool false) rfl rfl rfl (qj rfl) (qh 28 rfl rfl rfl (qh 29 rfl rfl rfl (qh 30 rfl rfl rfl (qh 31 rfl rfl rfl (qf 32 (.bool false) rfl rfl rfl (qj rfl) (qf 33 (.bool false) rfl rfl rfl (qj rfl) (qh 34 rfl rfl rfl (qh 35 rfl rfl rfl ?_))))))))))))
 refine qh 36 rfl rfl rfl (qh 37 rfl rfl rfl (qf 38 (.bool false) rfl rfl rfl (qj rfl) (qf 39 (.bool false) rfl rfl rfl (qj rfl) (qh 40 rfl rfl rfl (qh 41 rfl rfl rfl (qh 42 rfl rfl rfl (qf 43 (.bool false) rfl rfl rfl (qj rfl) (qf 44 (.bool false) rfl rfl rfl (qj rfl) (qh 45 rfl rfl rfl (qh 46 rfl rfl rfl (qh 47 rfl rfl rfl (qh 48 rfl rfl rfl ?_))))))))))))
 exact qf 49 (.bool false) rfl rfl rfl (qj rfl) (qf 50 (.bool false) rfl rfl rfl (qj rfl) (qh 51 rfl rfl rfl (qh 52 rfl rfl rfl (qf 53 (.bool false) rfl rfl rfl (qj rfl) (qf 54 (.bool false) rfl rfl rfl (qj rfl) (qh 55 rfl rfl rfl (qh 56 rfl rfl rfl (qf 57 (.bool false) rfl rfl rfl (qj rfl) (qf 58 (.bool false) rfl rfl rfl (qj rfl) (qO (by kernel_rfl) (zr (qm (false, ())) (by intro c h; cases h))))))))))))
 refine zj mixed [] [⟨g53, 24, [.slice a51 x50.1.length c52.1]⟩, ⟨g33, 24, [.slice a31 x30.1.length c32.1]⟩, ⟨g1, 26, [.int .i64 3, .int .i64 3, .int .i64 2]⟩, ⟨g20, 31, [.int .i64 x22, .int .i64 x23, .int .i64 x24, .int .i64 x25, .int .i64 x26, .slice a27 x29.length c28]⟩] [] (.cons 0 rfl (.cons 0 rfl (.cons 0 rfl (.cons 0 rfl .nil)))) qI 59 rfl (qf 0 (.int .i64 x21) rfl rfl rfl (qj rfl) (qf 1 (.bool ((x21 : Int) == 0)) rfl rfl rfl (qj rfl) (qf 2 (.bool ((x21 : Int) == 0)) rfl rfl rfl (qj rfl) (qG (d := 38) (v := .bool false) rfl (by rw [h79] <;> rfl) (qh 3 rfl rfl rfl (qh 4 rfl rfl rfl (qh 5 rfl rfl rfl (qf 6 (.bool false) rfl rfl rfl (qj rfl) (qf 7 (.bool false) rfl rfl rfl (qj rfl) (qh 8 rfl rfl rfl (qh 9 rfl rfl rfl (qh 10 rfl rfl rfl ?_))))))))))))
 refine qh 11 rfl rfl rfl (qf 12 (.bool false) rfl rfl rfl (qj rfl) (qf 13 (.bool false) rfl rfl rfl (qj rfl) (qh 14 rfl rfl rfl (qh 15 rfl rfl rfl (qh 16 rfl rfl rfl (qf 17 (.bool false) rfl rfl rfl (qj rfl) (qf 18 (.bool false) rfl rfl rfl (qj rfl) (qh 19 rfl rfl rfl (qh 20 rfl rfl rfl (qf 21 (.bool false) rfl rfl rfl (qj rfl) (qf 22 (.bool false) rfl rfl rfl (qj rfl) (qh 23 rfl rfl rfl ?_))))))))))))
 refine qh 24 rfl rfl rfl (qh 25 rfl rfl rfl (qf 26 (.bool false) rfl rfl rfl (qj rfl) (qf 27 (.bool false) rfl rfl rfl (qj rfl) (qh 28 rfl rfl rfl (qh 29 rfl rfl rfl (qh 30 rfl rfl rfl (qh 31 rfl rfl rfl (qf 32 (.bool false) rfl rfl rfl (qj rfl) (qf 33 (.bool false) rfl rfl rfl (qj rfl) (qh 34 rfl rfl rfl (qh 35 rfl rfl rfl (qh 36 rfl rfl rfl ?_))))))))))))
 refine qh 37 rfl rfl rfl (qf 38 (.bool false) rfl rfl rfl (qj rfl) (qf 39 (.bool false) rfl rfl rfl (qj rfl) (qh 40 rfl rfl rfl (qh 41 rfl rfl rfl (qh 42 rfl rfl rfl (qf 43 (.bool false) rfl rfl rfl (qj rfl) (qf 44 (.bool false) rfl rfl rfl (qj rfl) (qh 45 rfl rfl rfl (qh 46 rfl rfl rfl (qh 47 rfl rfl rfl (qh 48 rfl rfl rfl (qf 49 (.bool false) rfl rfl rfl (qj rfl) ?_))))))))))))
 exact qf 50 (.bool false) rfl rfl rfl (qj rfl) (qh 51 rfl rfl rfl (qh 52 rfl rfl rfl (qf 53 (.bool false) rfl rfl rfl (qj rfl) (qf 54 (.bool false) rfl rfl rfl (qj rfl) (qh 55 rfl rfl rfl (qh 56 rfl rfl rfl (qf 57 (.bool false) rfl rfl rfl (qj rfl) (qf 58 (.bool false) rfl rfl rfl (qj rfl) (qO (by kernel_rfl) (zr (qm (false, ())) (by intro c h; cases h)))))))))))
 rintro ⟨x78, _⟩
 try dsimp only
 exact qt (qq () (res1 rfl rfl))
theorem qfE (F : Nat) (x1 : List Int) (a2 : Option Addr) (c3 : Nat) (x4 : List Int) (a5 : Option Addr) (c6 : Nat) (r : Bool) (hm : qaS F x1 x4 = some r) :
    Pure Tryz.prog 52 [.slice a2 x1.length c3, .slice a5 x4.length c6] [Sl (eI .u8) 1 (.slice a2 x1.length c3) x1, Sl (eI .u8) 1 (.slice a5 x4.length c6) x4] Unit (fun _ => .bool r) (fun _ => []) (fun _ => []) := by
  refine qR Tryz.func52 rfl Tryz.ntmps52 rfl hm (fun w => ?_)
  refine qF (l' := [(0, .slice a2 x1.length c3), (1, .slice a5 x4.length c6)]) rfl ?_
  refine qg ?_
  refine qa ?_
  refine qb rfl rfl rfl ?_
  refine qe ?_
  refine qc ?_
  refine qg ?_
  refine qg ?_
  refine qa ?_
  refine qd rfl rfl rfl ?_
  refine qX rfl Tryz.underlying27 rfl rfl ?_
  refine qd rfl rfl rfl ?_
  refine qX rfl Tryz.underlying27 rfl rfl ?_
  refine kH rfl rfl rfl rfl ?_
  refine qe ?_
  refine qc ?_
  refine qA rfl (fun h228 => ?_) (fun h228 => ?_)
  · refine qg ?_
    refine qa ?_
    refine qb rfl rfl rfl ?_
    refine qe ?_
    refine qc ?_
    refine qt ?_
    refine qp ?_
    exact qq () (res1 rfl rfl)
  · refine qr ?_
    refine qc ?_
    refine qH (fun ((_, _) : (Unit × Unit)) => []) (fun ((_, _) : (Unit × Unit)) => []) (fun ((_, _) : (Unit × Unit)) => []) (fun ((_, _) : (Unit × Unit)) => []) (fun ((_, _) : (Unit × Unit)) => qcj F) ?_ ?_
    · refine qg ?_
      refine qa ?_
      refine qb rfl rfl rfl ?_
      refine qe ?_
      refine qc ?_
      refine qB ?_
      refine q8 (fun ((x154, _) : (Int × Unit)) => [(0, .slice a2 x1.length c3), (1, .slice a5 x4.length c6), (5, .int .i64 x154)]) (fun ((x154, _) : (Int × Unit)) => []) (fun ((x154, _) : (Int × Unit)) => []) (fun ((x154, _) : (Int × Unit)) => [Sl (eI .u8) 1 (.slice a2 x1.length c3) x1, Sl (eI .u8) 1 (.slice a5 x4.length c6) x4]) (fun k (s : (Int × Unit)) => yC F x1 x4 k s.1) (0, ()) F ?_ (hF := (qo 0 rfl (qo 1 rfl qz)))
      intro k191
      rintro ⟨x154, _⟩
      try dsimp only
      refine zC (m' := jJ F x1 x4 (yC F x1 x4 k191) x154) rfl ?_
      refine qg ?_
      refine qg ?_
      refine qa ?_
      refine qd rfl rfl rfl ?_
      refine qd rfl rfl rfl ?_
      refine qX rfl Tryz.underlying27 rfl rfl ?_
      refine qZ rfl rfl rfl rfl ?_
      refine qe ?_
      refine qc ?_
      refine qA rfl (fun h227 => ?_) (fun h227 => ?_)
      · refine qr ?_
        refine qc ?_
        refine qg ?_
        refine qB ?_
        refine qg ?_
        refine jX (j := 0) (zd .u8) (by decide) rfl (fun x218 e218 b219 o220 h221 => ?_)
        replace h221 : a2 = some ⟨b219, o220, none⟩ := h221
        refine jX (j := 2) (zd .u8) (by decide) rfl (fun x222 e222 b223 o224 h225 => ?_)
        replace h225 : a5 = some ⟨b223, o224, none⟩ := h225
        refine zj mixed [] [] [zD b223 (o224 + x154.toNat * 1) ((eI .u8) x222), zD b219 (o220 + x154.toNat * 1) ((eI .u8) x218), Sl (eI .u8) 1 (.slice a2 x1.length c3) x1, Sl (eI .u8) 1 (.slice a5 x4.length c6) x4] .nil (q9 0 rfl (q9 1 rfl (q9 2 rfl (q9 3 rfl qI)))) 9 rfl ?_
        refine qf 0 (.slice a2 x1.length c3) rfl rfl rfl (qj rfl) ?_
        refine qf 1 (.int .i64 x154) rfl rfl rfl (qj rfl) ?_
        refine qG (d := 17) (v := .slice (some ⟨b219, o220, none⟩) x1.length c3) rfl (by rw [h221] <;> rfl) ?_
        refine qf 2 (.pointer (some ⟨b219, (o220 + x154.toNat * 1), none⟩)) rfl rfl rfl (qbh Tryz.underlying27 tf5 rfl rfl (km e218).1 (qaM e218)) ?_
        refine qG (d := 17) (v := .slice a2 x1.length c3) rfl (by rw [h221] <;> rfl) ?_
        refine kp 3 (.int .u8 x218) [] rfl rfl rfl (vX (j := 1) rfl tf5 rfl rfl (fun _ => rfl) rfl) ?_
        refine qf 4 (.slice a5 x4.length c6) rfl rfl rfl (qj rfl) ?_
        refine qf 5 (.int .i64 x154) rfl rfl rfl (qj rfl) ?_
        refine qG (d := 21) (v := .slice (some ⟨b223, o224, none⟩) x4.length c6) rfl (by rw [h225] <;> rfl) ?_
        refine qf 6 (.pointer (some ⟨b223, (o224 + x154.toNat * 1), none⟩)) rfl rfl rfl (qbh Tryz.underlying27 tf5 rfl rfl (km e222).1 (qaM e222)) ?_
        refine qG (d := 21) (v := .slice a5 x4.length c6) rfl (by rw [h225] <;> rfl) ?_
        refine kp 7 (.int .u8 x222) [] rfl rfl rfl (vX (j := 0) rfl tf5 rfl rfl (fun _ => rfl) rfl) ?_
        refine qf 8 (.bool ((x218 : Int) != x222)) rfl rfl rfl (qj rfl) ?_
        refine qO (by kernel_rfl) ?_
        refine zr ?_ (by intro c h; cases h)
        refine qc ?_
        refine qA rfl (fun h226 => ?_) (fun h226 => ?_)
        · refine qg ?_
          refine qa ?_
          refine qb rfl rfl rfl ?_
          refine qe ?_
          refine qc ?_
          refine qt ?_
          refine qM ?_
          refine qp ?_
          refine qp ?_
          refine qM ?_
          refine qp ?_
          exact qq () (res1 rfl rfl)
        · refine qr ?_
          refine qU ?_
          refine qc ?_
          refine qa ?_
          refine qd rfl rfl rfl ?_
          refine qL rfl rfl rfl rfl ?_
          refine qb rfl rfl rfl ?_
          refine qe ?_
          exact qW (iadd .i64 x154 1, ()) (hF := (qo 2 rfl (qo 3 rfl qz)))
      · refine zk ?_
        refine qD ?_
        refine qD ?_
        refine zl ?_
        exact qm ((), ())
    · rintro ⟨_, _⟩
      try dsimp only
      refine qg ?_
      refine qa ?_
      refine qb rfl rfl rfl ?_
      refine qe ?_
      refine qc ?_
      refine qt ?_
      exact qq () (res1 rfl rfl)
theorem qgq (F : Nat) (x1 : Int) (x2 : List Int) (a3 : Option Addr) (c4 : Nat) (x5 : Int) (x6 : List Int) (a7 : Option Addr) (c8 : Nat) (r : Bool) (hm : qam F x1 x2 x5 x6 = some r) :
    Pure Tryz.prog 26 [.agg #[.int .i64 x1, .slice a3 x2.length c4], .agg #[.int .i64 x5, .slice a7 x6.length c8]] [Sl (eI .u8) 1 (.slice a3 x2.length c4) x2, Sl (eI .u8) 1 (.slice a7 x6.length c8) x6] Unit (fun _ => .bool r) (fun _ => []) (fun _ => []) := by
 refine qR Tryz.func26 rfl Tryz.ntmps26 rfl hm (fun w => qF (l' := [(0, .agg #[.int .i64 x1, .slice a3 x2.length c4]), (1, .agg #[.int .i64 x5, .slice a7 x6.length c8])]) rfl (qg (qa (qT rfl rfl rfl (fun g9 => qT rfl rfl rfl (fun g10 => qb rfl rfl rfl (qe (qc (qg (qa (qi rfl rfl kD rfl (qk (i := 1) rfl rfl tf3 rfl rfl (fun _ => rfl) rfl rfl ?_))))))))))))
 refine qi rfl rfl kD rfl (qk (i := 0) rfl rfl tf3 rfl rfl (fun _ => rfl) rfl rfl (ku rfl rfl rfl rfl (qd rfl rfl rfl (yL 6 (fun ((x13, _) : (Bool × Unit)) => [(16, .bool x13)]) (fun ((x13, _) : (Bool × Unit)) => []) (fun ((x13, _) : (Bool × Unit)) => []) (fun ((x13, _) : (Bool × Unit)) => []) (fun ((x13, _) : (Bool × Unit)) => vP F x13) ?_ ?_))))
 refine qy (os := _) rfl (qaF (fun h11 => ?_) (fun h11 => ?_))
 refine zy (k := 10) rfl h11 (qi rfl rfl qbf rfl (qk (i := 1) rfl rfl tf27 rfl rfl (fun _ => rfl) rfl rfl (qi rfl rfl qbf rfl (qk (i := 0) rfl rfl tf27 rfl rfl (fun _ => rfl) rfl rfl (qx ent52 rfl rfl rfl (fun x14 e14 => qfE F x2 a3 c4 x6 a7 c8 x14 e14) (.consF 0 rfl (.consF 1 rfl .nil)) (fun x14 e14 => ?_))))))
 intro _
 exact qE (b := true) rfl rfl rfl rfl (qe (qm (x14, ())))
 exact zx (k := 10) rfl h11 (qn rfl rfl rfl (qn rfl rfl rfl (qn rfl rfl rfl (qn rfl rfl rfl (qn rfl rfl rfl (qE (b := false) rfl rfl rfl rfl (qe (qm (false, ())))))))))
 rintro ⟨x13, _⟩
 try dsimp only
 exact qy (os := _) rfl (qb rfl rfl rfl (qe (qc (qt (qq () (res1 rfl rfl))))))
theorem qe2 (F : Nat) (x1 : Int) (x2 : Int) (x3 : Int) (x4 : Int) (x5 : Int) (x6 : List Int) (a7 : Option Addr) (c8 : Nat) (x9 : Int) (x10 : Int) (x11 : Int) (x12 : Int) (x13 : Int) (x14 : List Int) (a15 : Option Addr) (c16 : Nat) (r : Bool) (hm : qbz F x1 x2 x3 x4 x5 x6 x9 x10 x11 x12 x13 x14 = some r) :
    Pure Tryz.prog 16 [.agg #[.int .i64 x1, .int .i64 x2, .int .i64 x3, .int .i64 x4, .int .i64 x5, .slice a7 x6.length c8], .agg #[.int .i64 x9, .int .i64 x10, .int .i64 x11, .int .i64 x12, .int .i64 x13, .slice a15 x14.length c16]] [Sl (eI .u8) 1 (.slice a7 x6.length c8) x6, Sl (eI .u8) 1 (.slice a15 x14.length c16) x14] Unit (fun _ => .bool r) (fun _ => []) (fun _ => []) := by
 refine qR Tryz.func16 rfl Tryz.ntmps16 rfl hm (fun w => qF (l' := [(0, .agg #[.int .i64 x1, .int .i64 x2, .int .i64 x3, .int .i64 x4, .int .i64 x5, .slice a7 x6.length c8]), (1, .agg #[.int .i64 x9, .int .i64 x10, .int .i64 x11, .int .i64 x12, .int .i64 x13, .slice a15 x14.length c16])]) rfl (qg (qa (qT rfl rfl rfl (fun g17 => qT rfl rfl rfl (fun g18 => qb rfl rfl rfl (qe (qc (qg (qa (qi rfl rfl qc1 rfl (qk (i := 1) rfl rfl tf3 rfl rfl (fun _ => rfl) rfl rfl ?_))))))))))))
 refine qi rfl rfl qc1 rfl (qk (i := 0) rfl rfl tf3 rfl rfl (fun _ => rfl) rfl rfl (ku rfl rfl rfl rfl (qd rfl rfl rfl (zW 6 ((x1 : Int) == x9) [(2, .pointer (some ⟨g17, 0, none⟩)), (3, .pointer (some ⟨g18, 0, none⟩)), (16, .bool (((x1 : Int) == x9) && (((x2 : Int) == x10) && (((x3 : Int) == x11) && ((x4 : Int) == x12)))))] (fun h19 => ?_) (fun h19 => ?_) ?_))))
 exact qy (os := _) rfl (zy (k := 10) rfl h19 (qi rfl rfl qbg rfl (qk (i := 1) rfl rfl tf26 rfl rfl (by simp) rfl rfl (qi rfl rfl qbg rfl (qk (i := 0) rfl rfl tf26 rfl rfl (by simp) rfl rfl (qlQ rfl rfl rfl se26 rfl (qE (b := true) rfl rfl rfl rfl (qC (d := 16) (v := .bool (((x1 : Int) == x9) && (((x2 : Int) == x10) && (((x3 : Int) == x11) && ((x4 : Int) == x12))))) rfl (by rw [h19]; simp only [Bool.true_and]) (qe (qV (ql rfl (ql rfl (ql rfl zg)))))))))))))
 exact qy (os := _) rfl (zx (k := 10) rfl h19 (qn rfl rfl rfl (qn rfl rfl rfl (qn rfl rfl rfl (qn rfl rfl rfl (qn rfl rfl rfl (qE (b := false) rfl rfl rfl rfl (qC (d := 16) (v := .bool (((x1 : Int) == x9) && (((x2 : Int) == x10) && (((x3 : Int) == x11) && ((x4 : Int) == x12))))) rfl (by rw [h19]; simp only [Bool.false_and]) (qe (qV (ql rfl (ql rfl (ql rfl zg)))))))))))))
 refine qy (os := _) rfl (qd rfl rfl rfl (yL 6 (fun ((x22, _) : (Bool × Unit)) => [(23, .bool x22)]) (fun ((x22, _) : (Bool × Unit)) => []) (fun ((x22, _) : (Bool × Unit)) => []) (fun ((x22, _) : (Bool × Unit)) => []) (fun ((x22, _) : (Bool × Unit)) => jc F x22) ?_ ?_))
 refine qy (os := _) rfl (qaF (fun h20 => ?_) (fun h20 => ?_))
 refine zy (k := 17) rfl h20 (qi rfl rfl qaK rfl (qk (i := 1) rfl rfl tf29 rfl rfl (by simp) rfl rfl (qi rfl rfl qaK rfl (qk (i := 0) rfl rfl tf29 rfl rfl (by simp) rfl rfl (qx ent26 rfl rfl rfl (fun x23 e23 => qgq F x5 x6 a7 c8 x13 x14 a15 c16 x23 e23) (.consF 0 rfl (.consF 1 rfl .nil)) (fun x23 e23 => ?_))))))
 intro _
 exact qE (b := true) rfl rfl rfl rfl (qe (qm (x23, ())))
 exact zx (k := 17) rfl h20 (qn rfl rfl rfl (qn rfl rfl rfl (qn rfl rfl rfl (qn rfl rfl rfl (qn rfl rfl rfl (qE (b := false) rfl rfl rfl rfl (qe (qm (false, ())))))))))
 rintro ⟨x22, _⟩
 try dsimp only
 exact qy (os := _) rfl (qb rfl rfl rfl (qe (qc (qt (qq () (res1 rfl rfl))))))
theorem qgp (F : Nat) (x1 : List (List Int)) (a2 : Option Addr) (c3 : (Nat × List (Option Addr × Nat))) (x4 : Int) (x5 : Int) (x6 : Int) (x7 : Int) (x8 : Int) (x9 : Int) (x10 : Int) (x11 : Int) (x12 : List Int) (a13 : Option Addr) (c14 : Nat) (r : Bool) (hm : qct F x1 x4 x5 x6 x7 x8 x9 x10 x11 x12 = some r) :
    Pure Tryz.prog 4 [.agg #[.slice a2 x1.length c3.1], .agg #[.int .i64 x4, .int .i64 x5, .int .i64 x6], .agg #[.int .i64 x7, .int .i64 x8, .int .i64 x9, .int .i64 x10, .int .i64 x11, .slice a13 x12.length c14]] [SlN eN37 iN37 1 (.slice a2 x1.length c3.1) x1 c3.2, Sl (eI .u8) 1 (.slice a13 x12.length c14) x12] Unit (fun _ => .bool r) (fun _ => []) (fun _ => []) := by
  refine qR Tryz.func4 rfl Tryz.ntmps4 rfl hm (fun w => ?_)
  refine qF (l' := [(0, .agg #[.slice a2 x1.length c3.1]), (1, .agg #[.int .i64 x4, .int .i64 x5, .int .i64 x6]), (2, .agg #[.int .i64 x7, .int .i64 x8, .int .i64 x9, .int .i64 x10, .int .i64 x11, .slice a13 x12.length c14])]) rfl ?_
  refine qg ?_
  refine qa ?_
  refine qT rfl rfl rfl (fun g15 => ?_)
  refine qT rfl rfl rfl (fun g16 => ?_)
  refine qT rfl rfl rfl (fun g17 => ?_)
  refine qb rfl rfl rfl ?_
  refine qe ?_
  refine qc ?_
  refine qg ?_
  refine qa ?_
  refine qk (i := 2) rfl rfl tf24 rfl rfl (by simp) rfl rfl ?_
  refine qk (i := 1) rfl rfl tf26 rfl rfl (by simp) rfl rfl ?_
  refine qx ent9 rfl rfl rfl (fun x18 e18 => jI F x1 a2 c3 x4 x5 x6 x18 e18) (.consF 0 rfl .nil) (fun x18 e18 => ?_)
  rintro ⟨a19, c20⟩
  refine qd rfl rfl rfl ?_
  refine qs rfl rfl rfl rfl ?_
  refine qs rfl rfl rfl rfl ?_
  refine qP rfl tf31 rfl (fun g21 => ?_)
  refine qv (i := 0) rfl rfl rfl tf31 rfl rfl rfl rfl rfl ?_
  refine qb rfl rfl rfl ?_
  refine qe ?_
  refine qc ?_
  refine qg ?_
  refine qa ?_
  refine qk (i := 1) rfl rfl tf31 rfl rfl (by simp) rfl rfl ?_
  refine qx ent10 rfl rfl rfl (fun x22 e22 => qbS F x7 x8 x9 x10 x11 x12 a13 c14 x22 e22) (.consF 1 rfl .nil) (fun x22 e22 => ?_)
  rintro ⟨a23, c24⟩
  refine qd rfl rfl rfl ?_
  refine qs rfl rfl rfl rfl ?_
  refine qs rfl rfl rfl rfl ?_
  refine qP rfl tf24 rfl (fun g25 => ?_)
  refine qv (i := 0) rfl rfl rfl tf24 rfl rfl rfl rfl rfl ?_
  refine qb rfl rfl rfl ?_
  refine qe ?_
  refine qc ?_
  refine qg ?_
  refine qg ?_
  refine qa ?_
  refine qx ent15 rfl rfl rfl (fun x28 e28 => qfD F  x28 e28) .nil (fun x28 e28 => ?_)
  intro _
  refine kv rfl rfl rfl ?_
  refine qe ?_
  refine qc ?_
  refine qA rfl (fun h61 => ?_) (fun h61 => ?_)
  · refine qg ?_
    refine qa ?_
    refine qb rfl rfl rfl ?_
    refine qe ?_
    refine qc ?_
    refine qt ?_
    refine qp ?_
    exact qq () (res1 rfl rfl)
  · refine qr ?_
    refine qc ?_
    refine qH (fun ((_, _) : (Unit × Unit)) => [(5, .pointer (some ⟨g17, 0, none⟩)), (9, .pointer (some ⟨g25, 0, none⟩)), (10, .int .i64 x22.2)]) (fun ((_, _) : (Unit × Unit)) => [⟨g25, 24, [.slice a23 x22.1.length c24.1]⟩, ⟨g17, 31, [.int .i64 x7, .int .i64 x8, .int .i64 x9, .int .i64 x10, .int .i64 x11, .slice a13 x12.length c14]⟩]) (fun ((_, _) : (Unit × Unit)) => [RoN eN37 rN37 37 1 (.slice a23 x22.1.length c24.1) x22.1 c24.2 []]) (fun ((_, _) : (Unit × Unit)) => [Sl (eI .u8) 1 (.slice a13 x12.length c14) x12]) (fun ((_, _) : (Unit × Unit)) => vO F x7 x8 x9 x10 x11 x12 x22) ?_ ?_
    · refine qg ?_
      refine qa ?_
      refine qd rfl rfl rfl ?_
      refine ku rfl rfl rfl rfl ?_
      refine qe ?_
      refine qc ?_
      refine qA rfl (fun h60 => ?_) (fun h60 => ?_)
      · refine qg ?_
        refine qa ?_
        refine qk (i := 1) rfl rfl tf31 rfl rfl (by simp) rfl rfl ?_
        refine qx ent10 rfl rfl rfl (fun x51 e51 => qbS F x18.1 x18.2.1 x18.2.2.1 x18.2.2.2.1 x18.2.2.2.2.1 x18.2.2.2.2.2.1 a19 c20 x51 e51) (.consR 1 (Ro (eI .u8) 5 1 (.slice a19 x18.2.2.2.2.2.1.length c20) x18.2.2.2.2.2.1) rfl .nil) (fun x51 e51 => ?_)
        rintro ⟨a52, c53⟩
        refine qd rfl rfl rfl ?_
        refine qs rfl rfl rfl rfl ?_
        refine qs rfl rfl rfl rfl ?_
        refine qP rfl tf24 rfl (fun g54 => ?_)
        refine qv (i := 0) rfl rfl rfl tf24 rfl rfl rfl rfl rfl ?_
        refine qb rfl rfl rfl ?_
        refine qe ?_
        refine qc ?_
        refine qg ?_
        refine qa ?_
        refine qd rfl rfl rfl ?_
        refine kH rfl rfl rfl rfl ?_
        refine qd rfl rfl rfl ?_
        refine yL 5 (fun ((x57, _) : (Bool × Unit)) => [(5, .pointer (some ⟨g17, 0, none⟩)), (9, .pointer (some ⟨g25, 0, none⟩)), (10, .int .i64 x22.2), (42, .bool x57)]) (fun ((x57, _) : (Bool × Unit)) => [⟨g25, 24, [.slice a23 x22.1.length c24.1]⟩, ⟨g17, 31, [.int .i64 x7, .int .i64 x8, .int .i64 x9, .int .i64 x10, .int .i64 x11, .slice a13 x12.length c14]⟩]) (fun ((x57, _) : (Bool × Unit)) => [RoN eN37 rN37 37 1 (.slice a23 x22.1.length c24.1) x22.1 c24.2 []]) (fun ((x57, _) : (Bool × Unit)) => [Sl (eI .u8) 1 (.slice a13 x12.length c14) x12]) (fun ((x57, _) : (Bool × Unit)) => j1 F x7 x8 x9 x10 x11 x12 x22 x57) ?_ ?_
        · refine qy (os := _) rfl ?_
          refine qaF (fun h55 => ?_) (fun h55 => ?_)
          · refine zy (k := 37) rfl h55 ?_
            refine qn rfl rfl rfl ?_
            refine qn rfl rfl rfl ?_
            refine qn rfl rfl rfl ?_
            refine qn rfl rfl rfl ?_
            refine qE (b := true) rfl rfl rfl rfl ?_
            refine qe ?_
            exact qm (true, ()) (hB := (.cons 1 rfl (.cons 2 rfl .nil))) (hR := (.cons 1 rfl .nil)) (hF := (qo 1 rfl qz))
          · refine zx (k := 37) rfl h55 ?_
            refine qk (i := 0) rfl rfl tf24 rfl rfl (by simp) rfl rfl ?_
            refine qk (i := 5) rfl rfl tf24 rfl rfl (by simp) rfl rfl ?_
            refine qx ent17 rfl rfl rfl (fun x59 e59 => qb5 F x51.1 a52 c53 x1 a2 c3 x59 e59) (.consG 0 rfl (qaz qaB) (.consF 0 rfl .nil)) (fun x59 e59 => ?_)
            intro _
            refine kv rfl rfl rfl ?_
            refine qE (b := false) rfl rfl rfl rfl ?_
            refine qe ?_
            exact qm ((!x59), ()) (hB := (.cons 1 rfl (.cons 2 rfl .nil))) (hR := (.cons 1 rfl .nil)) (hF := (qo 1 rfl qz))
        · rintro ⟨x57, _⟩
          try dsimp only
          refine qy (os := _) rfl ?_
          refine qe ?_
          refine qc ?_
          refine qA rfl (fun h58 => ?_) (fun h58 => ?_)
          · refine qg ?_
            refine qa ?_
            refine qb rfl rfl rfl ?_
            refine qe ?_
            refine qc ?_
            refine qt ?_
            refine qp ?_
            exact qq () (res1 rfl rfl)
          · refine qr ?_
            exact qm ((), ()) (hB := (.cons 0 rfl (.cons 0 rfl .nil))) (hR := (.cons 0 rfl .nil)) (hF := (qo 0 rfl qz))
      · refine qr ?_
        exact qm ((), ()) (hB := (.cons 0 rfl (.cons 1 rfl .nil))) (hR := (.cons 0 rfl .nil)) (hF := (qo 1 rfl qz))
    · rintro ⟨_, _⟩
      try dsimp only
      refine qg ?_
      refine qg ?_
      refine qa ?_
      refine qd rfl rfl rfl ?_
      refine kH rfl rfl rfl rfl ?_
      refine qe ?_
      refine qc ?_
      refine qA rfl (fun h50 => ?_) (fun h50 => ?_)
      · refine qg ?_
        refine qa ?_
        refine qk (i := 0) rfl rfl tf24 rfl rfl (by simp) rfl rfl ?_
        refine zw (cells := [.slice none 0 0]) rfl st24 rfl (by kernel_rfl) rfl ?_
        refine qlU (List Int) (Option Addr × Nat) eN37 rN37 37 1 ?_
        refine qx ent17 rfl rfl rfl (fun x41 e41 => qb5 F x22.1 a23 c24 ([] : List (List Int)) none (0, ([] : List (Option Addr × Nat))) x41 e41) (.consG 1 rfl (qaz qaB) (.consG 0 rfl (qaz qaB) .nil)) (fun x41 e41 => ?_)
        intro _
        refine qb rfl rfl rfl ?_
        refine qe ?_
        refine qc ?_
        refine qt ?_
        refine qp ?_
        exact qq () (res1 rfl rfl)
      · refine qr ?_
        refine qc ?_
        refine qg ?_
        refine qa ?_
        refine qk (i := 0) rfl rfl tf24 rfl rfl (by simp) rfl rfl ?_
        refine qi rfl rfl qbg rfl ?_
        refine qk (i := 1) rfl rfl tf26 rfl rfl (by simp) rfl rfl ?_
        refine qx ent9 rfl rfl rfl (fun x42 e42 => jI F x22.1 a23 c24 x8 x9 x10 x42 e42) (.consG 0 rfl (qaz qaB) .nil) (fun x42 e42 => ?_)
        rintro ⟨a43, c44⟩
        refine qd rfl rfl rfl ?_
        refine qs rfl rfl rfl rfl ?_
        refine qs rfl rfl rfl rfl ?_
        refine qP rfl tf31 rfl (fun g45 => ?_)
        refine qv (i := 0) rfl rfl rfl tf31 rfl rfl rfl rfl rfl ?_
        refine qb rfl rfl rfl ?_
        refine qe ?_
        refine qc ?_
        refine qg ?_
        refine qa ?_
        refine qd rfl rfl rfl ?_
        refine ku rfl rfl rfl rfl ?_
        refine qd rfl rfl rfl ?_
        refine yL 4 (fun ((x48, _) : (Bool × Unit)) => [(61, .bool x48)]) (fun ((x48, _) : (Bool × Unit)) => []) (fun ((x48, _) : (Bool × Unit)) => []) (fun ((x48, _) : (Bool × Unit)) => []) (fun ((x48, _) : (Bool × Unit)) => jZ F x48) ?_ ?_
        · refine qy (os := _) rfl ?_
          refine qaF (fun h46 => ?_) (fun h46 => ?_)
          · refine zy (k := 57) rfl h46 ?_
            refine qk (i := 0) rfl rfl tf31 rfl rfl (by simp) rfl rfl ?_
            refine qk (i := 2) rfl rfl tf31 rfl rfl (by simp) rfl rfl ?_
            refine qx ent16 rfl rfl rfl (fun x49 e49 => qe2 F x42.1 x42.2.1 x42.2.2.1 x42.2.2.2.1 x42.2.2.2.2.1 x42.2.2.2.2.2.1 a43 c44 x7 x8 x9 x10 x11 x12 a13 c14 x49 e49) (.consR 0 (Ro (eI .u8) 5 1 (.slice a43 x42.2.2.2.2.2.1.length c44) x42.2.2.2.2.2.1) rfl (.consF 0 rfl .nil)) (fun x49 e49 => ?_)
            intro _
            refine qE (b := true) rfl rfl rfl rfl ?_
            refine qe ?_
            exact qm (x49, ())
          · refine zx (k := 57) rfl h46 ?_
            refine qn rfl rfl rfl ?_
            refine qn rfl rfl rfl ?_
            refine qn rfl rfl rfl ?_
            refine qE (b := false) rfl rfl rfl rfl ?_
            refine qe ?_
            exact qm (false, ())
        · rintro ⟨x48, _⟩
          try dsimp only
          refine qy (os := _) rfl ?_
          refine qb rfl rfl rfl ?_
          refine qe ?_
          refine qc ?_
          refine qt ?_
          exact qq () (res1 rfl rfl)
end Go.Proofs.YtpnfijegoepiaaaGreat
