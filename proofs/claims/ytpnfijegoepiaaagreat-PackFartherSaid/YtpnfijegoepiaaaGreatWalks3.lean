/- Each Go function of this seat computes what its model says, part 3. -/
import Derived.Test.YtpnfijegoepiaaaGreatWalks2
namespace Go.Proofs.YtpnfijegoepiaaaGreat
open Go SX
theorem qfm (F : Nat) (x1 : Int) (x2 : Int) (x3 : Int) (x4 : Int) (x5 : Int) (x6 : List Int) (a7 : Option Addr) (c8 : Nat) (r : (List (List Int) × Int)) (hm : qbz F x1 x2 x3 x4 x5 x6 = some r) :
    Pure Tryz.prog 10 [.agg #[.int .i64 x1, .int .i64 x2, .int .i64 x3, .int .i64 x4, .int .i64 x5, .slice a7 x6.length c8]] [Sl (eI .u8) 1 (.slice a7 x6.length c8) x6] (Option Addr × (Nat × List (Option Addr × Nat))) (fun g => .tuple #[.agg #[.slice g.1 r.1.length g.2.1], .int .i64 r.2]) (fun g => [RoN eN37 rN37 37 1 (.slice g.1 r.1.length g.2.1) r.1 g.2.2 []]) (fun _ => []) := by
 refine qT Tryz.func10 rfl Tryz.ntmps10 rfl hm (fun w => qG (l' := [(0, .agg #[.int .i64 x1, .int .i64 x2, .int .i64 x3, .int .i64 x4, .int .i64 x5, .slice a7 x6.length c8])]) rfl (qf (qa (qW rfl rfl rfl (fun g9 => qM rfl tf24 rfl (fun g10 => qb rfl rfl rfl (qc (qe (qf (qf (qa (qk (i := 1) rfl rfl tf31 rfl rfl (by simp) rfl rfl ?_))))))))))))
 refine qy ent29 rfl rfl rfl (fun x13 e13 => qho F x1 x2 x3 x4 x5 x6 a7 c8 x13 e13) (.consF 0 rfl .nil) (fun x13 e13 _ => qb rfl rfl rfl (qc (qe (qf (qa (qd rfl rfl rfl (zN rfl rfl rfl rfl (qc (qe (qC rfl (fun h38 => ?_) (fun h38 => ?_)))))))))))
 exact qf (qa (q6 (cells := [.slice none 0 0]) rfl st24 rfl (by kernel_rfl) rfl (qd rfl rfl rfl (qu (i := 0) rfl rfl rfl tf24 rfl rfl rfl rfl rfl (qb rfl rfl rfl (qc (qe (qv (qq (qcU (List Int) (Option Addr × Nat) eN37 rN37 37 1 (qs (none, (0, ([] : List (Option Addr × Nat)))) (resL (rs := [.cell 2 24, .tmp 3]) rfl (.cell (i := 0) rfl tf24 rfl rfl (by simp) rfl (.tmp rfl ResOk.nil)) rfl) (fun h => by subst h; exact (.cons 0 rfl .nil)))))))))))))
 refine qt (qe (qf (qa (qk (i := 1) rfl rfl tf31 rfl rfl (by simp) rfl rfl (qy ent30 rfl rfl rfl (fun x14 e14 => qhp F x1 x2 x3 x4 x5 x6 a7 c8 x14 e14) (.consF 0 rfl .nil) (fun x14 e14 => ?_))))))
 rintro ⟨a15, c16⟩
 refine qd rfl rfl rfl (qr rfl rfl rfl rfl (qr rfl rfl rfl rfl (qb rfl rfl rfl (qb rfl rfl rfl (qc (qe (qf (qf (qa (qd rfl rfl rfl (kn rfl rfl rfl (qc ?_))))))))))))
 refine qe (qC rfl (fun h37 => ?_) (fun h37 => ?_))
 exact qf (qa (q6 (cells := [.slice none 0 0]) rfl st24 rfl (by kernel_rfl) rfl (qu (i := 0) rfl rfl rfl tf24 rfl rfl rfl rfl rfl (qb rfl rfl rfl (qc (qe (qv (qq (qcU (List Int) (Option Addr × Nat) eN37 rN37 37 1 (qs (none, (0, ([] : List (Option Addr × Nat)))) (resL (rs := [.cell 2 24, .tmp 3]) rfl (.cell (i := 0) rfl tf24 rfl rfl (by simp) rfl (.tmp rfl ResOk.nil)) rfl) (fun h => by subst h; exact (.cons 0 rfl .nil))))))))))))
 refine qt (qe (qf (qa (qd rfl rfl rfl (q6 (cells := [.slice a15 x14.1.length c16.1]) rfl st24 rfl (by kernel_rfl) rfl (qM rfl tf24 rfl (fun g18 => qu (i := 0) rfl rfl rfl tf24 rfl rfl rfl rfl rfl (qc (qe (qf (qf (qa ?_))))))))))))
 refine qk (i := 0) rfl rfl tf24 rfl rfl (by simp) rfl rfl (qj rfl rfl qc1 rfl (qk (i := 2) rfl rfl tf26 rfl rfl (by simp) rfl rfl (qy ent9 rfl rfl rfl (fun x28 e28 => qaE F x14.1 a15 c16 x2 x3 x4 x28 e28) (.consG 0 rfl (qc8 qdc) .nil) (fun x28 e28 => ?_))))
 rintro ⟨a29, c30⟩
 refine qd rfl rfl rfl (qr rfl rfl rfl rfl (qr rfl rfl rfl rfl (qM rfl tf31 rfl (fun g31 => qu (i := 0) rfl rfl rfl tf31 rfl rfl rfl rfl rfl (qb rfl rfl rfl (qc (qe (qf (qa (qd rfl rfl rfl (zN rfl rfl rfl rfl (qd rfl rfl rfl ?_))))))))))))
 refine zZ 9 (fun ((x34, _) : (Bool × Unit)) => [(2, .pointer (some ⟨g10, 0, none⟩)), (7, .pointer (some ⟨g18, 0, none⟩)), (44, .bool x34)]) (fun ((x34, _) : (Bool × Unit)) => [⟨g18, 24, [.slice a15 x14.1.length c16.1]⟩, ⟨g10, 24, [.slice none 0 0]⟩]) (fun ((x34, _) : (Bool × Unit)) => [RoN eN37 rN37 37 1 (.slice a15 x14.1.length c16.1) x14.1 c16.2 []]) (fun ((x34, _) : (Bool × Unit)) => []) (fun ((x34, _) : (Bool × Unit)) => qaN F x14 x34) ?_ ?_
 refine qp (os := _) rfl (yA (fun h32 => ?_) (fun h32 => ?_))
 exact qR (k := 35) rfl h32 (qi rfl rfl rfl (qi rfl rfl rfl (qi rfl rfl rfl (qi rfl rfl rfl (qi rfl rfl rfl (qi rfl rfl rfl (qi rfl rfl rfl (qi rfl rfl rfl (qw (b := true) rfl rfl rfl rfl (qc (qn (true, ()) (hB := (.cons 1 rfl (.cons 1 rfl .nil))) (hR := (.cons 1 rfl .nil)))))))))))))
 refine qQ (k := 35) rfl h32 (qj rfl rfl qbL rfl (qj rfl rfl qbK rfl (qk (i := 0) rfl rfl tf27 rfl rfl (fun _ => rfl) rfl rfl (qj rfl rfl qbL rfl (qj rfl rfl qbK rfl (qk (i := 3) rfl rfl tf27 rfl rfl (fun _ => rfl) rfl rfl (qy ent31 rfl rfl rfl (fun x36 e36 => qcw F x28.2.2.2.2.2.1 a29 c30 x6 a7 c8 x36 e36) (.consR 0 (Ro (eI .u8) 5 1 (.slice a29 x28.2.2.2.2.2.1.length c30) x28.2.2.2.2.2.1) rfl (.consF 0 rfl .nil)) (fun x36 e36 => ?_))))))))
 intro _
 exact kn rfl rfl rfl (qw (b := false) rfl rfl rfl rfl (qc (qn ((!x36), ()) (hB := (.cons 1 rfl (.cons 1 rfl .nil))) (hR := (.cons 1 rfl .nil)))))
 rintro ⟨x34, _⟩
 try dsimp only
 refine qp (os := _) rfl (qc (qe (qC rfl (fun h35 => ?_) (fun h35 => ?_))))
 exact qf (qa (q6 (cells := [.slice none 0 0]) rfl st24 rfl (by kernel_rfl) rfl (qu (i := 1) rfl rfl rfl tf24 rfl rfl rfl rfl rfl (qb rfl rfl rfl (qc (qe (qv (qq (qcU (List Int) (Option Addr × Nat) eN37 rN37 37 1 (qs (none, (0, ([] : List (Option Addr × Nat)))) (resL (rs := [.cell 2 24, .tmp 3]) rfl (.cell (i := 1) rfl tf24 rfl rfl (by simp) rfl (.tmp rfl ResOk.nil)) rfl) (fun h => by subst h; exact (.cons 0 rfl .nil))))))))))))
 exact qt (qe (qf (qa (qk (i := 0) rfl rfl tf24 rfl rfl (by simp) rfl rfl (qu (i := 1) rfl rfl rfl tf24 rfl rfl rfl rfl rfl (qb rfl rfl rfl (qc (qe (qv (qs (a15, c16) (resL (rs := [.cell 2 24, .tmp 3]) rfl (.cell (i := 1) rfl tf24 rfl rfl (by simp) rfl (.tmp rfl ResOk.nil)) rfl) (fun h => by subst h; exact (.cons 0 rfl .nil))))))))))))
theorem qeo (F : Nat) (x1 : List Int) (a2 : Option Addr) (c3 : Nat) (x4 : List Int) (a5 : Option Addr) (c6 : Nat) (r : Bool) (hm : vh F x1 x4 = some r) :
    Pure Tryz.prog 18 [.slice a2 x1.length c3, .slice a5 x4.length c6] [Sl (eI .i64) 1 (.slice a2 x1.length c3) x1, Sl (eI .i64) 1 (.slice a5 x4.length c6) x4] Unit (fun _ => .bool r) (fun _ => []) (fun _ => []) := by
  refine qT Tryz.func18 rfl Tryz.ntmps18 rfl hm (fun w => ?_)
  refine qG (l' := [(0, .slice a2 x1.length c3), (1, .slice a5 x4.length c6)]) rfl ?_
  refine qf ?_
  refine qa ?_
  refine qb rfl rfl rfl ?_
  refine qc ?_
  refine qe ?_
  refine qf ?_
  refine qf ?_
  refine qa ?_
  refine qd rfl rfl rfl ?_
  refine q3 rfl Tryz.underlying37 rfl rfl ?_
  refine qd rfl rfl rfl ?_
  refine q3 rfl Tryz.underlying37 rfl rfl ?_
  refine zN rfl rfl rfl rfl ?_
  refine qc ?_
  refine qe ?_
  refine qC rfl (fun h228 => ?_) (fun h228 => ?_)
  · refine qf ?_
    refine qa ?_
    refine qb rfl rfl rfl ?_
    refine qc ?_
    refine qe ?_
    refine qv ?_
    refine qq ?_
    exact qs () (res1 rfl rfl)
  · refine qt ?_
    refine qe ?_
    refine qH (fun ((_, _) : (Unit × Unit)) => []) (fun ((_, _) : (Unit × Unit)) => []) (fun ((_, _) : (Unit × Unit)) => []) (fun ((_, _) : (Unit × Unit)) => []) (fun ((_, _) : (Unit × Unit)) => qdj F) ?_ ?_
    · refine qf ?_
      refine qa ?_
      refine qb rfl rfl rfl ?_
      refine qc ?_
      refine qe ?_
      refine qD ?_
      refine zi (fun ((x154, _) : (Int × Unit)) => [(0, .slice a2 x1.length c3), (1, .slice a5 x4.length c6), (5, .int .i64 x154)]) (fun ((x154, _) : (Int × Unit)) => []) (fun ((x154, _) : (Int × Unit)) => []) (fun ((x154, _) : (Int × Unit)) => [Sl (eI .i64) 1 (.slice a2 x1.length c3) x1, Sl (eI .i64) 1 (.slice a5 x4.length c6) x4]) (fun k (s : (Int × Unit)) => kX F x1 x4 k s.1) (0, ()) F ?_ (hF := (qo 0 rfl (qo 1 rfl qA)))
      intro k191
      rintro ⟨x154, _⟩
      try dsimp only
      refine zF (m' := jb F x1 x4 (kX F x1 x4 k191) x154) rfl ?_
      refine qf ?_
      refine qf ?_
      refine qa ?_
      refine qd rfl rfl rfl ?_
      refine qd rfl rfl rfl ?_
      refine q3 rfl Tryz.underlying37 rfl rfl ?_
      refine qZ rfl rfl rfl rfl ?_
      refine qc ?_
      refine qe ?_
      refine qC rfl (fun h227 => ?_) (fun h227 => ?_)
      · refine qt ?_
        refine qe ?_
        refine qf ?_
        refine qD ?_
        refine qf ?_
        refine qai (j := 0) (zd .i64) (by decide) rfl (fun x218 e218 b219 o220 h221 => ?_)
        replace h221 : a2 = some ⟨b219, o220, none⟩ := h221
        refine qai (j := 2) (zd .i64) (by decide) rfl (fun x222 e222 b223 o224 h225 => ?_)
        replace h225 : a5 = some ⟨b223, o224, none⟩ := h225
        refine zm mixed [] [] [zH b223 (o224 + x154.toNat * 1) ((eI .i64) x222), zH b219 (o220 + x154.toNat * 1) ((eI .i64) x218), Sl (eI .i64) 1 (.slice a2 x1.length c3) x1, Sl (eI .i64) 1 (.slice a5 x4.length c6) x4] .nil (q7 0 rfl (q7 1 rfl (q7 2 rfl (q7 3 rfl qI)))) 9 rfl ?_
        refine qg 0 (.slice a2 x1.length c3) rfl rfl rfl (qm rfl) ?_
        refine qg 1 (.int .i64 x154) rfl rfl rfl (qm rfl) ?_
        refine qJ (d := 17) (v := .slice (some ⟨b219, o220, none⟩) x1.length c3) rfl (by rw [h221] <;> rfl) ?_
        refine qg 2 (.pointer (some ⟨b219, (o220 + x154.toNat * 1), none⟩)) rfl rfl rfl (qbc Tryz.underlying37 tf3 rfl rfl (ke e218).1 (qaU e218)) ?_
        refine qJ (d := 17) (v := .slice a2 x1.length c3) rfl (by rw [h221] <;> rfl) ?_
        refine km 3 (.int .i64 x218) [] rfl rfl rfl (vK (j := 1) rfl tf3 rfl rfl (fun _ => rfl) rfl) ?_
        refine qg 4 (.slice a5 x4.length c6) rfl rfl rfl (qm rfl) ?_
        refine qg 5 (.int .i64 x154) rfl rfl rfl (qm rfl) ?_
        refine qJ (d := 21) (v := .slice (some ⟨b223, o224, none⟩) x4.length c6) rfl (by rw [h225] <;> rfl) ?_
        refine qg 6 (.pointer (some ⟨b223, (o224 + x154.toNat * 1), none⟩)) rfl rfl rfl (qbc Tryz.underlying37 tf3 rfl rfl (ke e222).1 (qaU e222)) ?_
        refine qJ (d := 21) (v := .slice a5 x4.length c6) rfl (by rw [h225] <;> rfl) ?_
        refine km 7 (.int .i64 x222) [] rfl rfl rfl (vK (j := 0) rfl tf3 rfl rfl (fun _ => rfl) rfl) ?_
        refine qg 8 (.bool ((x218 : Int) != x222)) rfl rfl rfl (qm rfl) ?_
        refine qV (by kernel_rfl) ?_
        refine zw ?_ (by intro c h; cases h)
        refine qe ?_
        refine qC rfl (fun h226 => ?_) (fun h226 => ?_)
        · refine qf ?_
          refine qa ?_
          refine qb rfl rfl rfl ?_
          refine qc ?_
          refine qe ?_
          refine qv ?_
          refine qP ?_
          refine qq ?_
          refine qq ?_
          refine qP ?_
          refine qq ?_
          exact qs () (res1 rfl rfl)
        · refine qt ?_
          refine qU ?_
          refine qe ?_
          refine qa ?_
          refine qd rfl rfl rfl ?_
          refine qN rfl rfl rfl rfl ?_
          refine qb rfl rfl rfl ?_
          refine qc ?_
          exact q4 (iadd .i64 x154 1, ()) (hF := (qo 2 rfl (qo 3 rfl qA)))
      · refine zn ?_
        refine qF ?_
        refine qF ?_
        refine zo ?_
        exact qn ((), ())
    · rintro ⟨_, _⟩
      try dsimp only
      refine qf ?_
      refine qa ?_
      refine qb rfl rfl rfl ?_
      refine qc ?_
      refine qe ?_
      refine qv ?_
      exact qs () (res1 rfl rfl)
theorem qgE (F : Nat) (x1 : List (List Int)) (a2 : Option Addr) (c3 : (Nat × List (Option Addr × Nat))) (x4 : List (List Int)) (a5 : Option Addr) (c6 : (Nat × List (Option Addr × Nat))) (r : Bool) (hm : qbi F x1 x4 = some r) :
    Pure Tryz.prog 39 [.slice a2 x1.length c3.1, .slice a5 x4.length c6.1] [SlN eN37 iN37 1 (.slice a2 x1.length c3.1) x1 c3.2, SlN eN37 iN37 1 (.slice a5 x4.length c6.1) x4 c6.2] Unit (fun _ => .bool r) (fun _ => []) (fun _ => []) := by
  refine qT Tryz.func39 rfl Tryz.ntmps39 rfl hm (fun w => ?_)
  refine qG (l' := [(0, .slice a2 x1.length c3.1), (1, .slice a5 x4.length c6.1)]) rfl ?_
  refine qf ?_
  refine qa ?_
  refine qb rfl rfl rfl ?_
  refine qc ?_
  refine qe ?_
  refine qf ?_
  refine qf ?_
  refine qa ?_
  refine qd rfl rfl rfl ?_
  refine q3 rfl Tryz.underlying22 rfl rfl ?_
  refine qd rfl rfl rfl ?_
  refine q3 rfl Tryz.underlying22 rfl rfl ?_
  refine zN rfl rfl rfl rfl ?_
  refine qc ?_
  refine qe ?_
  refine qC rfl (fun h300 => ?_) (fun h300 => ?_)
  · refine qf ?_
    refine qa ?_
    refine qb rfl rfl rfl ?_
    refine qc ?_
    refine qe ?_
    refine qv ?_
    refine qq ?_
    exact qs () (res1 rfl rfl)
  · refine qt ?_
    refine qe ?_
    refine qH (fun ((_, _) : (Unit × Unit)) => []) (fun ((_, _) : (Unit × Unit)) => []) (fun ((_, _) : (Unit × Unit)) => []) (fun ((_, _) : (Unit × Unit)) => []) (fun ((_, _) : (Unit × Unit)) => qcN F) ?_ ?_
    · refine qf ?_
      refine qa ?_
      refine qb rfl rfl rfl ?_
      refine qc ?_
      refine qe ?_
      refine qD ?_
      refine zi (fun ((x202, _) : (Int × Unit)) => [(0, .slice a2 x1.length c3.1), (1, .slice a5 x4.length c6.1), (5, .int .i64 x202)]) (fun ((x202, _) : (Int × Unit)) => []) (fun ((x202, _) : (Int × Unit)) => []) (fun ((x202, _) : (Int × Unit)) => [SlN eN37 iN37 1 (.slice a2 x1.length c3.1) x1 c3.2, SlN eN37 iN37 1 (.slice a5 x4.length c6.1) x4 c6.2]) (fun k (s : (Int × Unit)) => yH F x1 x4 k s.1) (0, ()) F ?_ (hF := (qo 0 rfl (qo 1 rfl qA)))
      intro k251
      rintro ⟨x202, _⟩
      try dsimp only
      refine zF (m' := j3 F x1 x4 (yH F x1 x4 k251) x202) rfl ?_
      refine qf ?_
      refine qf ?_
      refine qa ?_
      refine qd rfl rfl rfl ?_
      refine qd rfl rfl rfl ?_
      refine q3 rfl Tryz.underlying22 rfl rfl ?_
      refine qZ rfl rfl rfl rfl ?_
      refine qc ?_
      refine qe ?_
      refine qC rfl (fun h299 => ?_) (fun h299 => ?_)
      · refine qt ?_
        refine qe ?_
        refine qf ?_
        refine qD ?_
        refine qf ?_
        refine qgt (j := 0) yY (by decide) rfl (fun x287 e287 g291 b288 o289 h290 => ?_)
        replace h290 : a2 = some ⟨b288, o289, none⟩ := h290
        refine qgt (j := 3) yY (by decide) rfl (fun x292 e292 g296 b293 o294 h295 => ?_)
        replace h295 : a5 = some ⟨b293, o294, none⟩ := h295
        refine zm mixed [] [] [zH b293 (o294 + x202.toNat * 1) (eN37 (x292, g296)), Sl (eI .i64) 1 (.slice g296.1 x292.length g296.2) x292, zH b288 (o289 + x202.toNat * 1) (eN37 (x287, g291)), Sl (eI .i64) 1 (.slice g291.1 x287.length g291.2) x287, SlN eN37 iN37 1 (.slice a2 x1.length c3.1) x1 c3.2, SlN eN37 iN37 1 (.slice a5 x4.length c6.1) x4 c6.2] .nil (q7 0 rfl (q7 1 rfl (q7 2 rfl (q7 3 rfl (q7 4 rfl (q7 5 rfl qI)))))) 10 rfl ?_
        refine qg 0 (.slice a2 x1.length c3.1) rfl rfl rfl (qm rfl) ?_
        refine qg 1 (.int .i64 x202) rfl rfl rfl (qm rfl) ?_
        refine qJ (d := 17) (v := .slice (some ⟨b288, o289, none⟩) x1.length c3.1) rfl (by rw [h290] <;> rfl) ?_
        refine qg 2 (.pointer (some ⟨b288, (o289 + x202.toNat * 1), none⟩)) rfl rfl rfl (qbc Tryz.underlying22 tf37 rfl rfl (ke e287).1 (qaU e287)) ?_
        refine qJ (d := 17) (v := .slice a2 x1.length c3.1) rfl (by rw [h290] <;> rfl) ?_
        refine km 3 (.slice g291.1 x287.length g291.2) [] rfl rfl rfl (vK (j := 2) rfl tf37 rfl rfl (fun _ => rfl) rfl) ?_
        refine qg 4 (.slice a5 x4.length c6.1) rfl rfl rfl (qm rfl) ?_
        refine qg 5 (.int .i64 x202) rfl rfl rfl (qm rfl) ?_
        refine qJ (d := 21) (v := .slice (some ⟨b293, o294, none⟩) x4.length c6.1) rfl (by rw [h295] <;> rfl) ?_
        refine qg 6 (.pointer (some ⟨b293, (o294 + x202.toNat * 1), none⟩)) rfl rfl rfl (qbc Tryz.underlying22 tf37 rfl rfl (ke e292).1 (qaU e292)) ?_
        refine qJ (d := 21) (v := .slice a5 x4.length c6.1) rfl (by rw [h295] <;> rfl) ?_
        refine km 7 (.slice g296.1 x292.length g296.2) [] rfl rfl rfl (vK (j := 0) rfl tf37 rfl rfl (fun _ => rfl) rfl) ?_
        refine qL 8 rfl (by kernel_rfl) rfl ?_
        refine qy ent18 rfl rfl rfl (fun x297 e297 => qeo F x287 g291.1 g291.2 x292 g296.1 g296.2 x297 e297) (.consF 3 rfl (.consF 1 rfl .nil)) (fun x297 e297 => ?_)
        intro _
        refine qc ?_
        refine qK .nil (q7 0 rfl (q7 1 rfl (q7 2 rfl (q7 3 rfl (q7 4 rfl (q7 5 rfl qI)))))) ?_
        refine qg 9 (.bool (!x297)) rfl rfl rfl (qm rfl) ?_
        refine qV (by kernel_rfl) ?_
        refine zw ?_ (by intro c h; cases h)
        refine qe ?_
        refine qC rfl (fun h298 => ?_) (fun h298 => ?_)
        · refine qf ?_
          refine qa ?_
          refine qb rfl rfl rfl ?_
          refine qc ?_
          refine qe ?_
          refine qv ?_
          refine qP ?_
          refine qq ?_
          refine qq ?_
          refine qP ?_
          refine qq ?_
          exact qs () (res1 rfl rfl)
        · refine qt ?_
          refine qU ?_
          refine qe ?_
          refine qa ?_
          refine qd rfl rfl rfl ?_
          refine qN rfl rfl rfl rfl ?_
          refine qb rfl rfl rfl ?_
          refine qc ?_
          exact q4 (iadd .i64 x202 1, ()) (hF := (qo 4 rfl (qo 5 rfl qA)))
      · refine zn ?_
        refine qF ?_
        refine qF ?_
        refine zo ?_
        exact qn ((), ())
    · rintro ⟨_, _⟩
      try dsimp only
      refine qf ?_
      refine qa ?_
      refine qb rfl rfl rfl ?_
      refine qc ?_
      refine qe ?_
      refine qv ?_
      exact qs () (res1 rfl rfl)
theorem qgD (F : Nat) (x1 : List (List Int)) (a2 : Option Addr) (c3 : (Nat × List (Option Addr × Nat))) (x4 : List (List Int)) (a5 : Option Addr) (c6 : (Nat × List (Option Addr × Nat))) (r : Bool) (hm : qbh F x1 x4 = some r) :
    Pure Tryz.prog 17 [.agg #[.slice a2 x1.length c3.1], .agg #[.slice a5 x4.length c6.1]] [SlN eN37 iN37 1 (.slice a2 x1.length c3.1) x1 c3.2, SlN eN37 iN37 1 (.slice a5 x4.length c6.1) x4 c6.2] Unit (fun _ => .bool r) (fun _ => []) (fun _ => []) := by
 refine qT Tryz.func17 rfl Tryz.ntmps17 rfl hm (fun w => qG (l' := [(0, .agg #[.slice a2 x1.length c3.1]), (1, .agg #[.slice a5 x4.length c6.1])]) rfl (qf (qa (qW rfl rfl rfl (fun g7 => qW rfl rfl rfl (fun g8 => qb rfl rfl rfl (qc (qe (qf (qa (qj rfl rfl qc0 rfl (qk (i := 1) rfl rfl tf22 rfl rfl (fun _ => rfl) rfl rfl ?_))))))))))))
 refine qj rfl rfl qc0 rfl (qk (i := 0) rfl rfl tf22 rfl rfl (fun _ => rfl) rfl rfl (qy ent39 rfl rfl rfl (fun x9 e9 => qgE F x1 a2 c3 x4 a5 c6 x9 e9) (.consF 0 rfl (.consF 1 rfl .nil)) (fun x9 e9 => ?_)))
 intro _
 exact qb rfl rfl rfl (qc (qe (qv (qs () (res1 rfl rfl)))))
theorem qbd (F : Nat)  (r : List (List Int)) (hm : jk F  = some r) :
    Pure Tryz.prog 38 [] [] (Option Addr × (Nat × List (Option Addr × Nat))) (fun g => .agg #[.slice g.1 r.length g.2.1]) (fun g => [RoN eN37 rN37 37 1 (.slice g.1 r.length g.2.1) r g.2.2 []]) (fun _ => []) := by
 refine qT Tryz.func38 rfl Tryz.ntmps38 rfl hm (fun w => qG (l' := []) rfl (qf (qa (qM rfl tf24 rfl (fun g1 => qc (qe (qf (qa (zB (vs := [.int .i64 1, .int .i64 2, .int .i64 3, .int .i64 5]) (ys := ([1, 2, 3, 5] : List Int)) (zd .i64) (by decide) rfl Tryz.underlying37 tf3 rfl rfl rfl rfl rfl (by decide) (fun a2 c3 => zB (vs := [.int .i64 1, .int .i64 2, .int .i64 3, .int .i64 5]) (ys := ([1, 2, 3, 5] : List Int)) (zd .i64) (by decide) rfl Tryz.underlying37 tf3 rfl rfl rfl rfl rfl (by decide) (fun a4 c5 => zB (vs := [.int .i64 0, .int .i64 1, .int .i64 2, .int .i64 3, .int .i64 5]) (ys := ([0, 1, 2, 3, 5] : List Int)) (zd .i64) (by decide) rfl Tryz.underlying37 tf3 rfl rfl rfl rfl rfl (by decide) (fun a6 c7 => zB (vs := [.int .i64 4]) (ys := ([4] : List Int)) (zd .i64) (by decide) rfl Tryz.underlying37 tf3 rfl rfl rfl rfl rfl (by decide) (fun a8 c9 => ?_)))))))))))))
 exact zB (vs := [.int .i64 1, .int .i64 2, .int .i64 3]) (ys := ([1, 2, 3] : List Int)) (zd .i64) (by decide) rfl Tryz.underlying37 tf3 rfl rfl rfl rfl rfl (by decide) (fun a10 c11 => zG Int (eI .i64) 3 1 (zB (vs := [.slice a2 ([1, 2, 3, 5] : List Int).length c3, .slice a4 ([1, 2, 3, 5] : List Int).length c5, .slice a6 ([0, 1, 2, 3, 5] : List Int).length c7, .slice none ([] : List Int).length 0, .slice a8 ([4] : List Int).length c9, .slice a10 ([1, 2, 3] : List Int).length c11]) (ys := ([(([1, 2, 3, 5] : List Int), (a2, c3)), (([1, 2, 3, 5] : List Int), (a4, c5)), (([0, 1, 2, 3, 5] : List Int), (a6, c7)), (([] : List Int), (none, 0)), (([4] : List Int), (a8, c9)), (([1, 2, 3] : List Int), (a10, c11))] : List (List Int × (Option Addr × Nat)))) yY (by decide) rfl Tryz.underlying22 tf37 rfl rfl rfl rfl rfl (by decide) (fun a12 c13 => qek (rin := rN37) (i := 0) ([([1, 2, 3, 5] : List Int), ([1, 2, 3, 5] : List Int), ([0, 1, 2, 3, 5] : List Int), ([] : List Int), ([4] : List Int), ([1, 2, 3] : List Int)] : List (List Int)) ([(a2, c3), (a4, c5), (a6, c7), (none, 0), (a8, c9), (a10, c11)] : List (Option Addr × Nat)) rfl rfl (.cons 5 rfl (.cons 4 rfl (.cons 3 rfl (.cons 0 rfl (.cons 1 rfl (.cons 0 rfl .nil)))))) (q6 (cells := [.slice a12 ([([1, 2, 3, 5] : List Int), ([1, 2, 3, 5] : List Int), ([0, 1, 2, 3, 5] : List Int), ([] : List Int), ([4] : List Int), ([1, 2, 3] : List Int)] : List (List Int)).length c13]) rfl st24 rfl (by kernel_rfl) rfl (qu (i := 0) rfl rfl rfl tf24 rfl rfl rfl rfl rfl (qc (qe (qv (qs (a12, (c13, ([(a2, c3), (a4, c5), (a6, c7), (none, 0), (a8, c9), (a10, c11)] : List (Option Addr × Nat)))) (resL (rs := [.cell 0 24]) rfl (.cell (i := 0) rfl tf24 rfl rfl (by simp) rfl ResOk.nil) rfl) (fun h => by subst h; exact (.cons 0 rfl .nil)))))))))))
set_option maxHeartbeats 4000000 in
theorem qgA (F : Nat)  (r : Bool) (hm : qbf F  = some r) :
    Pure Tryz.prog 15 [] [] Unit (fun _ => .bool r) (fun _ => []) (fun _ => []) := by
 refine qT Tryz.func15 rfl Tryz.ntmps15 rfl hm (fun w => qG (l' := []) rfl (qf (qa (qb rfl rfl rfl (qc (qe (qf (qa (q6 (cells := [.int .i64 3, .int .i64 3, .int .i64 2]) rfl st26 rfl (by kernel_rfl) rfl (qM rfl tf26 rfl (fun g1 => qu (i := 0) rfl rfl rfl tf26 rfl rfl rfl rfl rfl (qc ?_))))))))))))
 refine qe (qH (fun (((x21, x22, x23, x24, x25, x26, x29), (g20, a27, c28)) : ((Int × Int × Int × Int × Int × Int × List Int) × (Nat × Option Addr × Nat))) => [(1, .pointer (some ⟨g1, 0, none⟩)), (2, .pointer (some ⟨g20, 0, none⟩)), (3, .int .i64 x21)]) (fun (((x21, x22, x23, x24, x25, x26, x29), (g20, a27, c28)) : ((Int × Int × Int × Int × Int × Int × List Int) × (Nat × Option Addr × Nat))) => [⟨g1, 26, [.int .i64 3, .int .i64 3, .int .i64 2]⟩, ⟨g20, 31, [.int .i64 x22, .int .i64 x23, .int .i64 x24, .int .i64 x25, .int .i64 x26, .slice a27 x29.length c28]⟩]) (fun (((x21, x22, x23, x24, x25, x26, x29), (g20, a27, c28)) : ((Int × Int × Int × Int × Int × Int × List Int) × (Nat × Option Addr × Nat))) => [Ro (eI .u8) 5 1 (.slice a27 x29.length c28) x29]) (fun (((x21, x22, x23, x24, x25, x26, x29), (g20, a27, c28)) : ((Int × Int × Int × Int × Int × Int × List Int) × (Nat × Option Addr × Nat))) => []) (fun (((x21, x22, x23, x24, x25, x26, x29), _) : ((Int × Int × Int × Int × Int × Int × List Int) × (Nat × Option Addr × Nat))) => vz F x21 x22 x23 x24 x25 x26 x29) ?_ ?_)
 refine zm mixed [] [⟨g1, 26, [.int .i64 3, .int .i64 3, .int .i64 2]⟩] [] (.cons 0 rfl .nil) qI 9 rfl (qX 1 (.agg #[.int .i64 3, .int .i64 3, .int .i64 2]) rfl rfl rfl (qY (i := 0) rfl tf26 rfl rfl (by simp) rfl) (qcs 0 6 rfl rfl (by kernel_rfl) rfl rfl ?_ ?_))
 refine qy ent38 rfl rfl rfl (fun x103 e103 => qbd F  x103 e103) .nil (fun x103 e103 => ?_)
 rintro ⟨a104, c105⟩
 refine qc (qK (.cons 0 rfl .nil) qI (qcs 2 6 rfl rfl (by kernel_rfl) rfl rfl ?_ ?_))
 refine qy ent9 rfl rfl rfl (fun x106 e106 => qaE F x103 a104 c105 3 3 2 x106 e106) (.consG 0 rfl (qc8 qdc) .nil) (fun x106 e106 => ?_)
 rintro ⟨a107, c108⟩
 refine qc (qK (.cons 0 rfl .nil) qI (qg 3 (.tuple #[.agg #[.int .i64 x106.1, .int .i64 x106.2.1, .int .i64 x106.2.2.1, .int .i64 x106.2.2.2.1, .int .i64 x106.2.2.2.2.1, .slice a107 x106.2.2.2.2.2.1.length c108], .int .i64 x106.2.2.2.2.2.2]) rfl rfl rfl (qm rfl) (qg 4 (.agg #[.int .i64 x106.1, .int .i64 x106.2.1, .int .i64 x106.2.2.1, .int .i64 x106.2.2.2.1, .int .i64 x106.2.2.2.2.1, .slice a107 x106.2.2.2.2.2.1.length c108]) rfl rfl rfl (qm rfl) (qg 5 (.int .i64 x106.2.2.2.2.2.2) rfl rfl rfl (qm rfl) (qL 6 rfl (by kernel_rfl) rfl (qM rfl tf31 rfl (fun g109 => qc (qK (.cons 1 rfl .nil) qI (qL 7 rfl (by kernel_rfl) rfl (qu (i := 0) rfl rfl rfl tf31 rfl rfl rfl rfl rfl (qc (qK (.cons 1 rfl .nil) qI ?_))))))))))))
 exact qg 8 (.int .i64 x106.2.2.2.2.2.2) rfl rfl rfl (qm rfl) (qV (by kernel_rfl) (zw (qn ((x106.2.2.2.2.2.2, x106.1, x106.2.1, x106.2.2.1, x106.2.2.2.1, x106.2.2.2.2.1, x106.2.2.2.2.2.1), (g109, a107, c108)) (hB := (.cons 1 rfl (.cons 0 rfl .nil))) (hR := (.cons 0 rfl .nil))) (by intro c h; cases h)))
 refine qct (m' := ((vn F x103 3 3 2).bind fun x111 => vz F x111.2.2.2.2.2.2 x111.1 x111.2.1 x111.2.2.1 x111.2.2.2.1 x111.2.2.2.2.1 x111.2.2.2.2.2.1)) (rfl) (qM rfl tf31 rfl (fun g110 => qc (qK (.cons 1 rfl .nil) qI (qL 2 rfl (by kernel_rfl) rfl (qy ent9 rfl rfl rfl (fun x111 e111 => qaE F x103 a104 c105 3 3 2 x111 e111) (.consG 0 rfl (qc8 qdc) .nil) (fun x111 e111 => ?_))))))
 rintro ⟨a112, c113⟩
 exact qc (qK (.cons 1 rfl .nil) qI (qg 3 (.tuple #[.agg #[.int .i64 x111.1, .int .i64 x111.2.1, .int .i64 x111.2.2.1, .int .i64 x111.2.2.2.1, .int .i64 x111.2.2.2.2.1, .slice a112 x111.2.2.2.2.2.1.length c113], .int .i64 x111.2.2.2.2.2.2]) rfl rfl rfl (qm rfl) (qg 4 (.agg #[.int .i64 x111.1, .int .i64 x111.2.1, .int .i64 x111.2.2.1, .int .i64 x111.2.2.2.1, .int .i64 x111.2.2.2.2.1, .slice a112 x111.2.2.2.2.2.1.length c113]) rfl rfl rfl (qm rfl) (qg 5 (.int .i64 x111.2.2.2.2.2.2) rfl rfl rfl (qm rfl) (qL 7 rfl (by kernel_rfl) rfl (qu (i := 0) rfl rfl rfl tf31 rfl rfl rfl rfl rfl (qc (qK (.cons 1 rfl .nil) qI (qg 8 (.int .i64 x111.2.2.2.2.2.2) rfl rfl rfl (qm rfl) (qV (by kernel_rfl) (zw (qn ((x111.2.2.2.2.2.2, x111.1, x111.2.1, x111.2.2.1, x111.2.2.2.1, x111.2.2.2.2.1, x111.2.2.2.2.2.1), (g110, a112, c113)) (hB := (.cons 1 rfl (.cons 0 rfl .nil))) (hR := (.cons 0 rfl .nil))) (by intro c h; cases h))))))))))))
 refine qct (m' := ((jk F).bind fun x115 => ((vn F x115 3 3 2).bind fun x118 => vz F x118.2.2.2.2.2.2 x118.1 x118.2.1 x118.2.2.1 x118.2.2.2.1 x118.2.2.2.2.1 x118.2.2.2.2.2.1))) (rfl) (qM rfl tf31 rfl (fun g114 => qc (qK (.cons 1 rfl .nil) qI (qL 0 rfl (by kernel_rfl) rfl (qy ent38 rfl rfl rfl (fun x115 e115 => qbd F  x115 e115) .nil (fun x115 e115 => ?_))))))
 rintro ⟨a116, c117⟩
 refine qc (qK (.cons 1 rfl .nil) qI (qL 2 rfl (by kernel_rfl) rfl (qy ent9 rfl rfl rfl (fun x118 e118 => qaE F x115 a116 c117 3 3 2 x118 e118) (.consG 0 rfl (qc8 qdc) .nil) (fun x118 e118 => ?_))))
 rintro ⟨a119, c120⟩
 exact qc (qK (.cons 1 rfl .nil) qI (qg 3 (.tuple #[.agg #[.int .i64 x118.1, .int .i64 x118.2.1, .int .i64 x118.2.2.1, .int .i64 x118.2.2.2.1, .int .i64 x118.2.2.2.2.1, .slice a119 x118.2.2.2.2.2.1.length c120], .int .i64 x118.2.2.2.2.2.2]) rfl rfl rfl (qm rfl) (qg 4 (.agg #[.int .i64 x118.1, .int .i64 x118.2.1, .int .i64 x118.2.2.1, .int .i64 x118.2.2.2.1, .int .i64 x118.2.2.2.2.1, .slice a119 x118.2.2.2.2.2.1.length c120]) rfl rfl rfl (qm rfl) (qg 5 (.int .i64 x118.2.2.2.2.2.2) rfl rfl rfl (qm rfl) (qL 7 rfl (by kernel_rfl) rfl (qu (i := 0) rfl rfl rfl tf31 rfl rfl rfl rfl rfl (qc (qK (.cons 1 rfl .nil) qI (qg 8 (.int .i64 x118.2.2.2.2.2.2) rfl rfl rfl (qm rfl) (qV (by kernel_rfl) (zw (qn ((x118.2.2.2.2.2.2, x118.1, x118.2.1, x118.2.2.1, x118.2.2.2.1, x118.2.2.2.2.1, x118.2.2.2.2.2.1), (g114, a119, c120)) (hB := (.cons 1 rfl (.cons 0 rfl .nil))) (hR := (.cons 0 rfl .nil))) (by intro c h; cases h))))))))))))
 rintro ⟨⟨x21, x22, x23, x24, x25, x26, x29⟩, ⟨g20, a27, c28⟩⟩
 try dsimp only
 refine qf (qa (qk (i := 1) rfl rfl tf31 rfl rfl (by simp) rfl rfl (qy ent10 rfl rfl rfl (fun x30 e30 => qfm F x22 x23 x24 x25 x26 x29 a27 c28 x30 e30) (.consR 0 (Ro (eI .u8) 5 1 (.slice a27 x29.length c28) x29) rfl .nil) (fun x30 e30 => ?_))))
 rintro ⟨a31, c32⟩
 refine qd rfl rfl rfl (qr rfl rfl rfl rfl (qr rfl rfl rfl rfl (qM rfl tf24 rfl (fun g33 => qu (i := 0) rfl rfl rfl tf24 rfl rfl rfl rfl rfl (qb rfl rfl rfl (qc (qe (qf (zm mixed [] [⟨g33, 24, [.slice a31 x30.1.length c32.1]⟩, ⟨g1, 26, [.int .i64 3, .int .i64 3, .int .i64 2]⟩, ⟨g20, 31, [.int .i64 x22, .int .i64 x23, .int .i64 x24, .int .i64 x25, .int .i64 x26, .slice a27 x29.length c28]⟩] [] (.cons 0 rfl (.cons 0 rfl (.cons 0 rfl .nil))) qI 10 rfl (qX 1 (.agg #[.int .i64 3, .int .i64 3, .int .i64 2]) rfl rfl rfl (qY (i := 1) rfl tf26 rfl rfl (by simp) rfl) (qL 0 rfl (by kernel_rfl) rfl (qy ent38 rfl rfl rfl (fun x42 e42 => qbd F  x42 e42) .nil (fun x42 e42 => ?_)))))))))))))
 rintro ⟨a43, c44⟩
 refine qc (qK (.cons 0 rfl (.cons 0 rfl (.cons 0 rfl .nil))) qI (qL 2 rfl (by kernel_rfl) rfl (qy ent11 rfl rfl rfl (fun x45 e45 => qfn F x42 a43 c44 3 3 2 x45 e45) (.consG 0 rfl (qc8 qdc) .nil) (fun x45 e45 => ?_))))
 rintro ⟨⟨a46, c47⟩, ⟨a48, c49⟩⟩
 refine qc (qK (.cons 0 rfl (.cons 0 rfl (.cons 0 rfl .nil))) qI (qg 3 (.tuple #[.slice a46 x45.1.length c47, .slice a48 x45.2.1.length c49, .int .i64 x45.2.2]) rfl rfl rfl (qm rfl) (qg 4 (.slice a46 x45.1.length c47) rfl rfl rfl (qm rfl) (qg 5 (.slice a48 x45.2.1.length c49) rfl rfl rfl (qm rfl) (qg 6 (.int .i64 x45.2.2) rfl rfl rfl (qm rfl) (qg 7 (.slice a46 x45.1.length c47) rfl rfl rfl (qm rfl) (qg 8 (.slice a48 x45.2.1.length c49) rfl rfl rfl (qm rfl) (qg 9 (.int .i64 x45.2.2) rfl rfl rfl (qm rfl) (qV (by kernel_rfl) (zw (qe (qf ?_)) (by intro c h; cases h)))))))))))
 refine qa (qk (i := 1) rfl rfl tf26 rfl rfl (by simp) rfl rfl (q6 (cells := [.int .i64 1, .int .i64 3, .int .i64 3, .int .i64 2, .int .i64 0, .slice none 0 0]) rfl st31 rfl (by kernel_rfl) rfl (zG Int (eI .u8) 5 1 (qy ent10 rfl rfl rfl (fun x50 e50 => qfm F 1 3 3 2 0 ([] : List Int) none 0 x50 e50) (.consR 0 (Ro (eI .u8) 5 1 (.slice none ([] : List Int).length 0) ([] : List Int)) rfl .nil) (fun x50 e50 => ?_)))))
 rintro ⟨a51, c52⟩
 refine qd rfl rfl rfl (qr rfl rfl rfl rfl (qr rfl rfl rfl rfl (qM rfl tf24 rfl (fun g53 => qu (i := 0) rfl rfl rfl tf24 rfl rfl rfl rfl rfl (qb rfl rfl rfl (qc (qe (qH (fun ((x78, _) : (Bool × Unit)) => [(0, .bool x78)]) (fun ((x78, _) : (Bool × Unit)) => []) (fun ((x78, _) : (Bool × Unit)) => []) (fun ((x78, _) : (Bool × Unit)) => []) (fun ((x78, _) : (Bool × Unit)) => zC F x78) ?_ ?_))))))))
 refine qaz (fun h79 => ?_) (fun h79 => ?_)
 refine qaz (fun h80 => ?_) (fun h80 => ?_)
 refine qaz (fun h81 => ?_) (fun h81 => ?_)
 refine zm mixed [] [⟨g53, 24, [.slice a51 x50.1.length c52.1]⟩, ⟨g33, 24, [.slice a31 x30.1.length c32.1]⟩, ⟨g1, 26, [.int .i64 3, .int .i64 3, .int .i64 2]⟩, ⟨g20, 31, [.int .i64 x22, .int .i64 x23, .int .i64 x24, .int .i64 x25, .int .i64 x26, .slice a27 x29.length c28]⟩] [] (.cons 0 rfl (.cons 0 rfl (.cons 0 rfl (.cons 0 rfl .nil)))) qI 59 rfl (qg 0 (.int .i64 x21) rfl rfl rfl (qm rfl) (qg 1 (.bool ((x21 : Int) == 0)) rfl rfl rfl (qm rfl) (qg 2 (.bool ((x21 : Int) == 0)) rfl rfl rfl (qm rfl) (qJ (d := 38) (v := .bool true) rfl (by rw [h79] <;> rfl) (qg 3 (.pointer (some ⟨g20, 0, none⟩)) rfl rfl rfl (qz rfl qe1) (qX 4 (.int .i64 x22) rfl rfl rfl (qY (i := 3) rfl tf3 rfl rfl (fun _ => rfl) rfl) (qg 5 (.bool ((x22 : Int) == 6)) rfl rfl rfl (qm rfl) (qg 6 (.bool ((x22 : Int) == 6)) rfl rfl rfl (qm rfl) (qg 7 (.bool ((x22 : Int) == 6)) rfl rfl rfl (qm rfl) (qJ (d := 43) (v := .bool true) rfl (by rw [h80] <;> rfl) (qg 8 (.pointer (some ⟨g20, 1, none⟩)) rfl rfl rfl (qz rfl qc1) (qX 9 (.agg #[.int .i64 x23, .int .i64 x24, .int .i64 x25]) rfl rfl rfl (qY (i := 3) rfl tf26 rfl rfl (by simp) rfl) ?_))))))))))))
 refine qX 10 (.agg #[.int .i64 3, .int .i64 3, .int .i64 2]) rfl rfl rfl (qY (i := 2) rfl tf26 rfl rfl (by simp) rfl) (qg 11 (.bool (((x23 : Int) == 3) && (((x24 : Int) == 3) && ((x25 : Int) == 2)))) rfl rfl rfl (qkC rfl rfl se26) (qg 12 (.bool (((x23 : Int) == 3) && (((x24 : Int) == 3) && ((x25 : Int) == 2)))) rfl rfl rfl (qm rfl) (qg 13 (.bool (((x23 : Int) == 3) && (((x24 : Int) == 3) && ((x25 : Int) == 2)))) rfl rfl rfl (qm rfl) (qJ (d := 49) (v := .bool true) rfl (by rw [h81] <;> rfl) (qX 14 (.agg #[.slice a31 x30.1.length c32.1]) rfl rfl rfl (qY (i := 1) rfl tf24 rfl rfl (by simp) rfl) (qL 15 rfl (by kernel_rfl) rfl (qy ent38 rfl rfl rfl (fun x82 e82 => qbd F  x82 e82) .nil (fun x82 e82 => ?_))))))))
 rintro ⟨a83, c84⟩
 refine qc (qK (.cons 0 rfl (.cons 0 rfl (.cons 0 rfl (.cons 0 rfl .nil)))) qI (qL 16 rfl (by kernel_rfl) rfl (qy ent17 rfl rfl rfl (fun x85 e85 => qgD F x30.1 a31 c32 x82 a83 c84 x85 e85) (.consG 6 rfl (qc8 qdc) (.consG 0 rfl (qc8 qdc) .nil)) (fun x85 e85 => ?_))))
 intro _
 refine qc (qK (.cons 0 rfl (.cons 0 rfl (.cons 0 rfl (.cons 0 rfl .nil)))) qI (qg 17 (.bool x85) rfl rfl rfl (qm rfl) (qg 18 (.bool x85) rfl rfl rfl (qm rfl) (qdB (fun h86 => ?_) (fun h86 => ?_)))))
 refine qJ (d := 54) (v := .bool true) rfl (by rw [h86] <;> rfl) (qg 19 (.int .i64 x30.2) rfl rfl rfl (qm rfl) (qg 20 (.bool ((x30.2 : Int) == 0)) rfl rfl rfl (qm rfl) (qg 21 (.bool ((x30.2 : Int) == 0)) rfl rfl rfl (qm rfl) (qg 22 (.bool ((x30.2 : Int) == 0)) rfl rfl rfl (qm rfl) (qdB (fun h87 => ?_) (fun h87 => ?_))))))
 refine qJ (d := 58) (v := .bool true) rfl (by rw [h87] <;> rfl) (qg 23 (.slice a46 x45.1.length c47) rfl rfl rfl (qm rfl) (qg 24 (.int .i64 (x45.1.length : Int)) rfl rfl rfl (qfi Tryz.underlying37 rfl) (qg 25 (.bool (((x45.1.length : Int) : Int) == 6)) rfl rfl rfl (qm rfl) (qg 26 (.bool (((x45.1.length : Int) : Int) == 6)) rfl rfl rfl (qm rfl) (qg 27 (.bool (((x45.1.length : Int) : Int) == 6)) rfl rfl rfl (qm rfl) (qdB (fun h88 => ?_) (fun h88 => ?_)))))))
 refine qJ (d := 63) (v := .bool true) rfl (by rw [h88] <;> rfl) (qg 28 (.slice a46 x45.1.length c47) rfl rfl rfl (qm rfl) (qL 29 rfl (by kernel_rfl) rfl (jX (j := 3) rfl Tryz.underlying37 tf3 rfl rfl rfl rfl (fun x89 e89 g90 h91 => qc (qK (.cons 0 rfl (.cons 0 rfl (.cons 0 rfl (.cons 0 rfl .nil)))) qI (qL 30 rfl (by kernel_rfl) rfl (qdL (j := 3) (y := x89) (zd .i64) rfl rfl tf3 rfl h91 (ke e89).2.2 (fun _ => rfl) rfl rfl (qc (qK (.cons 0 rfl (.cons 0 rfl (.cons 0 rfl (.cons 0 rfl .nil)))) qI (qg 31 (.bool ((x89 : Int) == 0)) rfl rfl rfl (qm rfl) (qg 32 (.bool ((x89 : Int) == 0)) rfl rfl rfl (qm rfl) (qg 33 (.bool ((x89 : Int) == 0)) rfl rfl rfl (qm rfl) ?_))))))))))))
 refine qdB (fun h92 => ?_) (fun h92 => ?_)
 refine qJ (d := 69) (v := .bool true) rfl (by rw [h92] <;> rfl) (qg 34 (.slice a46 x45.1.length c47) rfl rfl rfl (qm rfl) (qL 35 rfl (by kernel_rfl) rfl (jX (j := 3) rfl Tryz.underlying37 tf3 rfl rfl rfl rfl (fun x93 e93 g94 h95 => qc (qK (.cons 0 rfl (.cons 0 rfl (.cons 0 rfl (.cons 0 rfl .nil)))) qI (qL 36 rfl (by kernel_rfl) rfl (qdL (j := 3) (y := x93) (zd .i64) rfl rfl tf3 rfl h95 (ke e93).2.2 (fun _ => rfl) rfl rfl (qc (qK (.cons 0 rfl (.cons 0 rfl (.cons 0 rfl (.cons 0 rfl .nil)))) qI (qg 37 (.bool ((x93 : Int) == 1)) rfl rfl rfl (qm rfl) (qg 38 (.bool ((x93 : Int) == 1)) rfl rfl rfl (qm rfl) (qg 39 (.bool ((x93 : Int) == 1)) rfl rfl rfl (qm rfl) ?_))))))))))))
 refine qdB (fun h96 => ?_) (fun h96 => ?_)
 refine qJ (d := 75) (v := .bool true) rfl (by rw [h96] <;> rfl) (qg 40 (.slice a48 x45.2.1.length c49) rfl rfl rfl (qm rfl) (qg 41 (.int .i64 (x45.2.1.length : Int)) rfl rfl rfl (qfi Tryz.underlying37 rfl) (qg 42 (.bool (((x45.2.1.length : Int) : Int) == 6)) rfl rfl rfl (qm rfl) (qg 43 (.bool (((x45.2.1.length : Int) : Int) == 6)) rfl rfl rfl (qm rfl) (qg 44 (.bool (((x45.2.1.length : Int) : Int) == 6)) rfl rfl rfl (qm rfl) (qdB (fun h97 => ?_) (fun h97 => ?_)))))))
 refine qJ (d := 80) (v := .bool true) rfl (by rw [h97] <;> rfl) (qg 45 (.slice a48 x45.2.1.length c49) rfl rfl rfl (qm rfl) (qL 46 rfl (by kernel_rfl) rfl (jX (j := 4) rfl Tryz.underlying37 tf3 rfl rfl rfl rfl (fun x98 e98 g99 h100 => qc (qK (.cons 0 rfl (.cons 0 rfl (.cons 0 rfl (.cons 0 rfl .nil)))) qI (qL 47 rfl (by kernel_rfl) rfl (qdL (j := 4) (y := x98) (zd .i64) rfl rfl tf3 rfl h100 (ke e98).2.2 (fun _ => rfl) rfl rfl (qc (qK (.cons 0 rfl (.cons 0 rfl (.cons 0 rfl (.cons 0 rfl .nil)))) qI (qg 48 (.bool ((x98 : Int) == 0)) rfl rfl rfl (qm rfl) (qg 49 (.bool ((x98 : Int) == 0)) rfl rfl rfl (qm rfl) (qg 50 (.bool ((x98 : Int) == 0)) rfl rfl rfl (qm rfl) ?_))))))))))))
 refine qdB (fun h101 => ?_) (fun h101 => ?_)
 refine qJ (d := 86) (v := .bool true) rfl (by rw [h101] <;> rfl) (qg 51 (.int .i64 x45.2.2) rfl rfl rfl (qm rfl) (qg 52 (.bool ((x45.2.2 : Int) == 0)) rfl rfl rfl (qm rfl) (qg 53 (.bool ((x45.2.2 : Int) == 0)) rfl rfl rfl (qm rfl) (qg 54 (.bool ((x45.2.2 : Int) == 0)) rfl rfl rfl (qm rfl) (qdB (fun h102 => ?_) (fun h102 => ?_))))))
 exact qJ (d := 90) (v := .bool true) rfl (by rw [h102] <;> rfl) (qg 55 (.int .i64 x50.2) rfl rfl rfl (qm rfl) (qg 56 (.bool ((x50.2 : Int) == 1)) rfl rfl rfl (qm rfl) (qg 57 (.bool ((x50.2 : Int) == 1)) rfl rfl rfl (qm rfl) (qg 58 (.bool ((x50.2 : Int) == 1)) rfl rfl rfl (qm rfl) (qV (by kernel_rfl) (zw (qn (((x50.2 : Int) == 1), ())) (by intro c h; cases h)))))))
 exact qJ (d := 90) (v := .bool false) rfl (by rw [h102] <;> rfl) (ql 55 rfl rfl rfl (ql 56 rfl rfl rfl (qg 57 (.bool false) rfl rfl rfl (qm rfl) (qg 58 (.bool false) rfl rfl rfl (qm rfl) (qV (by kernel_rfl) (zw (qn (false, ())) (by intro c h; cases h)))))))
 exact qJ (d := 86) (v := .bool false) rfl (by rw [h101] <;> rfl) (ql 51 rfl rfl rfl (ql 52 rfl rfl rfl (qg 53 (.bool false) rfl rfl rfl (qm rfl) (qg 54 (.bool false) rfl rfl rfl (qm rfl) (ql 55 rfl rfl rfl (ql 56 rfl rfl rfl (qg 57 (.bool false) rfl rfl rfl (qm rfl) (qg 58 (.bool false) rfl rfl rfl (qm rfl) (qV (by kernel_rfl) (zw (qn (false, ())) (by intro c h; cases h)))))))))))
 refine qJ (d := 80) (v := .bool false) rfl (by rw [h97] <;> rfl) (ql 45 rfl rfl rfl (ql 46 rfl rfl rfl (ql 47 rfl rfl rfl (ql 48 rfl rfl rfl (qg 49 (.bool false) rfl rfl rfl (qm rfl) (qg 50 (.bool false) rfl rfl rfl (qm rfl) (ql 51 rfl rfl rfl (ql 52 rfl rfl rfl (qg 53 (.bool false) rfl rfl rfl (qm rfl) (qg 54 (.bool false) rfl rfl rfl (qm rfl) (ql 55 rfl rfl rfl (ql 56 rfl rfl rfl ?_))))))))))))
 exact qg 57 (.bool false) rfl rfl rfl (qm rfl) (qg 58 (.bool false) rfl rfl rfl (qm rfl) (qV (by kernel_rfl) (zw (qn (false, ())) (by intro c h; cases h))))
 refine qJ (d := 75) (v := .bool false) rfl (by rw [h96] <;> rfl) (ql 40 rfl rfl rfl (ql 41 rfl rfl rfl (ql 42 rfl rfl rfl (qg 43 (.bool false) rfl rfl rfl (qm rfl) (qg 44 (.bool false) rfl rfl rfl (qm rfl) (ql 45 rfl rfl rfl (ql 46 rfl rfl rfl (ql 47 rfl rfl rfl (ql 48 rfl rfl rfl (qg 49 (.bool false) rfl rfl rfl (qm rfl) (qg 50 (.bool false) rfl rfl rfl (qm rfl) (ql 51 rfl rfl rfl ?_))))))))))))
 exact ql 52 rfl rfl rfl (qg 53 (.bool false) rfl rfl rfl (qm rfl) (qg 54 (.bool false) rfl rfl rfl (qm rfl) (ql 55 rfl rfl rfl (ql 56 rfl rfl rfl (qg 57 (.bool false) rfl rfl rfl (qm rfl) (qg 58 (.bool false) rfl rfl rfl (qm rfl) (qV (by kernel_rfl) (zw (qn (false, ())) (by intro c h; cases h)))))))))
 refine qJ (d := 69) (v := .bool false) rfl (by rw [h92] <;> rfl) (ql 34 rfl rfl rfl (ql 35 rfl rfl rfl (ql 36 rfl rfl rfl (ql 37 rfl rfl rfl (qg 38 (.bool false) rfl rfl rfl (qm rfl) (qg 39 (.bool false) rfl rfl rfl (qm rfl) (ql 40 rfl rfl rfl (ql 41 rfl rfl rfl (ql 42 rfl rfl rfl (qg 43 (.bool false) rfl rfl rfl (qm rfl) (qg 44 (.bool false) rfl rfl rfl (qm rfl) (ql 45 rfl rfl rfl ?_))))))))))))
 refine ql 46 rfl rfl rfl (ql 47 rfl rfl rfl (ql 48 rfl rfl rfl (qg 49 (.bool false) rfl rfl rfl (qm rfl) (qg 50 (.bool false) rfl rfl rfl (qm rfl) (ql 51 rfl rfl rfl (ql 52 rfl rfl rfl (qg 53 (.bool false) rfl rfl rfl (qm rfl) (qg 54 (.bool false) rfl rfl rfl (qm rfl) (ql 55 rfl rfl rfl (ql 56 rfl rfl rfl (qg 57 (.bool false) rfl rfl rfl (qm rfl) (qg 58 (.bool false) rfl rfl rfl (qm rfl) ?_))))))))))))
 exact qV (by kernel_rfl) (zw (qn (false, ())) (by intro c h; cases h))
 refine qJ (d := 63) (v := .bool false) rfl (by rw [h88] <;> rfl) (ql 28 rfl rfl rfl (ql 29 rfl rfl rfl (ql 30 rfl rfl rfl (ql 31 rfl rfl rfl (qg 32 (.bool false) rfl rfl rfl (qm rfl) (qg 33 (.bool false) rfl rfl rfl (qm rfl) (ql 34 rfl rfl rfl (ql 35 rfl rfl rfl (ql 36 rfl rfl rfl (ql 37 rfl rfl rfl (qg 38 (.bool false) rfl rfl rfl (qm rfl) (qg 39 (.bool false) rfl rfl rfl (qm rfl) ?_))))))))))))
 refine ql 40 rfl rfl rfl (ql 41 rfl rfl rfl (ql 42 rfl rfl rfl (qg 43 (.bool false) rfl rfl rfl (qm rfl) (qg 44 (.bool false) rfl rfl rfl (qm rfl) (ql 45 rfl rfl rfl (ql 46 rfl rfl rfl (ql 47 rfl rfl rfl (ql 48 rfl rfl rfl (qg 49 (.bool false) rfl rfl rfl (qm rfl) (qg 50 (.bool false) rfl rfl rfl (qm rfl) (ql 51 rfl rfl rfl (ql 52 rfl rfl rfl ?_))))))))))))
 exact qg 53 (.bool false) rfl rfl rfl (qm rfl) (qg 54 (.bool false) rfl rfl rfl (qm rfl) (ql 55 rfl rfl rfl (ql 56 rfl rfl rfl (qg 57 (.bool false) rfl rfl rfl (qm rfl) (qg 58 (.bool false) rfl rfl rfl (qm rfl) (qV (by kernel_rfl) (zw (qn (false, ())) (by intro c h; cases h))))))))
 refine qJ (d := 58) (v := .bool false) rfl (by rw [h87] <;> rfl) (ql 23 rfl rfl rfl (ql 24 rfl rfl rfl (ql 25 rfl rfl rfl (qg 26 (.bool false) rfl rfl rfl (qm rfl) (qg 27 (.bool false) rfl rfl rfl (qm rfl) (ql 28 rfl rfl rfl (ql 29 rfl rfl rfl (ql 30 rfl rfl rfl (ql 31 rfl rfl rfl (qg 32 (.bool false) rfl rfl rfl (qm rfl) (qg 33 (.bool false) rfl rfl rfl (qm rfl) (ql 34 rfl rfl rfl ?_))))))))))))
 refine ql 35 rfl rfl rfl (ql 36 rfl rfl rfl (ql 37 rfl rfl rfl (qg 38 (.bool false) rfl rfl rfl (qm rfl) (qg 39 (.bool false) rfl rfl rfl (qm rfl) (ql 40 rfl rfl rfl (ql 41 rfl rfl rfl (ql 42 rfl rfl rfl (qg 43 (.bool false) rfl rfl rfl (qm rfl) (qg 44 (.bool false) rfl rfl rfl (qm rfl) (ql 45 rfl rfl rfl (ql 46 rfl rfl rfl (ql 47 rfl rfl rfl ?_))))))))))))
 refine ql 48 rfl rfl rfl (qg 49 (.bool false) rfl rfl rfl (qm rfl) (qg 50 (.bool false) rfl rfl rfl (qm rfl) (ql 51 rfl rfl rfl (ql 52 rfl rfl rfl (qg 53 (.bool false) rfl rfl rfl (qm rfl) (qg 54 (.bool false) rfl rfl rfl (qm rfl) (ql 55 rfl rfl rfl (ql 56 rfl rfl rfl (qg 57 (.bool false) rfl rfl rfl (qm rfl) (qg 58 (.bool false) rfl rfl rfl (qm rfl) (qV (by kernel_rfl) (zw ?_ (by intro c h; cases h)))))))))))))
 exact qn (false, ())
 refine qJ (d := 54) (v := .bool false) rfl (by rw [h86] <;> rfl) (ql 19 rfl rfl rfl (ql 20 rfl rfl rfl (qg 21 (.bool false) rfl rfl rfl (qm rfl) (qg 22 (.bool false) rfl rfl rfl (qm rfl) (ql 23 rfl rfl rfl (ql 24 rfl rfl rfl (ql 25 rfl rfl rfl (qg 26 (.bool false) rfl rfl rfl (qm rfl) (qg 27 (.bool false) rfl rfl rfl (qm rfl) (ql 28 rfl rfl rfl (ql 29 rfl rfl rfl (ql 30 rfl rfl rfl ?_))))))))))))
 refine ql 31 rfl rfl rfl (qg 32 (.bool false) rfl rfl rfl (qm rfl) (qg 33 (.bool false) rfl rfl rfl (qm rfl) (ql 34 rfl rfl rfl (ql 35 rfl rfl rfl (ql 36 rfl rfl rfl (ql 37 rfl rfl rfl (qg 38 (.bool false) rfl rfl rfl (qm rfl) (qg 39 (.bool false) rfl rfl rfl (qm rfl) (ql 40 rfl rfl rfl (ql 41 rfl rfl rfl (ql 42 rfl rfl rfl (qg 43 (.bool false) rfl rfl rfl (qm rfl) ?_))))))))))))
 refine qg 44 (.bool false) rfl rfl rfl (qm rfl) (ql 45 rfl rfl rfl (ql 46 rfl rfl rfl (ql 47 rfl rfl rfl (ql 48 rfl rfl rfl (qg 49 (.bool false) rfl rfl rfl (qm rfl) (qg 50 (.bool false) rfl rfl rfl (qm rfl) (ql 51 rfl rfl rfl (ql 52 rfl rfl rfl (qg 53 (.bool false) rfl rfl rfl (qm rfl) (qg 54 (.bool false) rfl rfl rfl (qm rfl) (ql 55 rfl rfl rfl (ql 56 rfl rfl rfl ?_))))))))))))
 exact qg 57 (.bool false) rfl rfl rfl (qm rfl) (qg 58 (.bool false) rfl rfl rfl (qm rfl) (qV (by kernel_rfl) (zw (qn (false, ())) (by intro c h; cases h))))
 refine zm mixed [] [⟨g53, 24, [.slice a51 x50.1.length c52.1]⟩, ⟨g33, 24, [.slice a31 x30.1.length c32.1]⟩, ⟨g1, 26, [.int .i64 3, .int .i64 3, .int .i64 2]⟩, ⟨g20, 31, [.int .i64 x22, .int .i64 x23, .int .i64 x24, .int .i64 x25, .int .i64 x26, .slice a27 x29.length c28]⟩] [] (.cons 0 rfl (.cons 0 rfl (.cons 0 rfl (.cons 0 rfl .nil)))) qI 59 rfl (qg 0 (.int .i64 x21) rfl rfl rfl (qm rfl) (qg 1 (.bool ((x21 : Int) == 0)) rfl rfl rfl (qm rfl) (qg 2 (.bool ((x21 : Int) == 0)) rfl rfl rfl (qm rfl) (qJ (d := 38) (v := .bool true) rfl (by rw [h79] <;> rfl) (qg 3 (.pointer (some ⟨g20, 0, none⟩)) rfl rfl rfl (qz rfl qe1) (qX 4 (.int .i64 x22) rfl rfl rfl (qY (i := 3) rfl tf3 rfl rfl (fun _ => rfl) rfl) (qg 5 (.bool ((x22 : Int) == 6)) rfl rfl rfl (qm rfl) (qg 6 (.bool ((x22 : Int) == 6)) rfl rfl rfl (qm rfl) (qg 7 (.bool ((x22 : Int) == 6)) rfl rfl rfl (qm rfl) (qJ (d := 43) (v := .bool true) rfl (by rw [h80] <;> rfl) (qg 8 (.pointer (some ⟨g20, 1, none⟩)) rfl rfl rfl (qz rfl qc1) (qX 9 (.agg #[.int .i64 x23, .int .i64 x24, .int .i64 x25]) rfl rfl rfl (qY (i := 3) rfl tf26 rfl rfl (by simp) rfl) ?_))))))))))))
 refine qX 10 (.agg #[.int .i64 3, .int .i64 3, .int .i64 2]) rfl rfl rfl (qY (i := 2) rfl tf26 rfl rfl (by simp) rfl) (qg 11 (.bool (((x23 : Int) == 3) && (((x24 : Int) == 3) && ((x25 : Int) == 2)))) rfl rfl rfl (qkC rfl rfl se26) (qg 12 (.bool (((x23 : Int) == 3) && (((x24 : Int) == 3) && ((x25 : Int) == 2)))) rfl rfl rfl (qm rfl) (qg 13 (.bool (((x23 : Int) == 3) && (((x24 : Int) == 3) && ((x25 : Int) == 2)))) rfl rfl rfl (qm rfl) (qJ (d := 49) (v := .bool false) rfl (by rw [h81] <;> rfl) (ql 14 rfl rfl rfl (ql 15 rfl rfl rfl (ql 16 rfl rfl rfl (qg 17 (.bool false) rfl rfl rfl (qm rfl) (qg 18 (.bool false) rfl rfl rfl (qm rfl) (ql 19 rfl rfl rfl (ql 20 rfl rfl rfl (qg 21 (.bool false) rfl rfl rfl (qm rfl) ?_))))))))))))
 refine qg 22 (.bool false) rfl rfl rfl (qm rfl) (ql 23 rfl rfl rfl (ql 24 rfl rfl rfl (ql 25 rfl rfl rfl (qg 26 (.bool false) rfl rfl rfl (qm rfl) (qg 27 (.bool false) rfl rfl rfl (qm rfl) (ql 28 rfl rfl rfl (ql 29 rfl rfl rfl (ql 30 rfl rfl rfl (ql 31 rfl rfl rfl (qg 32 (.bool false) rfl rfl rfl (qm rfl) (qg 33 (.bool false) rfl rfl rfl (qm rfl) (ql 34 rfl rfl rfl ?_))))))))))))
 refine ql 35 rfl rfl rfl (ql 36 rfl rfl rfl (ql 37 rfl rfl rfl (qg 38 (.bool false) rfl rfl rfl (qm rfl) (qg 39 (.bool false) rfl rfl rfl (qm rfl) (ql 40 rfl rfl rfl (ql 41 rfl rfl rfl (ql 42 rfl rfl rfl (qg 43 (.bool false) rfl rfl rfl (qm rfl) (qg 44 (.bool false) rfl rfl rfl (qm rfl) (ql 45 rfl rfl rfl (ql 46 rfl rfl rfl (ql 47 rfl rfl rfl ?_))))))))))))
 refine ql 48 rfl rfl rfl (qg 49 (.bool false) rfl rfl rfl (qm rfl) (qg 50 (.bool false) rfl rfl rfl (qm rfl) (ql 51 rfl rfl rfl (ql 52 rfl rfl rfl (qg 53 (.bool false) rfl rfl rfl (qm rfl) (qg 54 (.bool false) rfl rfl rfl (qm rfl) (ql 55 rfl rfl rfl (ql 56 rfl rfl rfl (qg 57 (.bool false) rfl rfl rfl (qm rfl) (qg 58 (.bool false) rfl rfl rfl (qm rfl) (qV (by kernel_rfl) (zw ?_ (by intro c h; cases h)))))))))))))
 exact qn (false, ())
 refine zm mixed [] [⟨g53, 24, [.slice a51 x50.1.length c52.1]⟩, ⟨g33, 24, [.slice a31 x30.1.length c32.1]⟩, ⟨g1, 26, [.int .i64 3, .int .i64 3, .int .i64 2]⟩, ⟨g20, 31, [.int .i64 x22, .int .i64 x23, .int .i64 x24, .int .i64 x25, .int .i64 x26, .slice a27 x29.length c28]⟩] [] (.cons 0 rfl (.cons 0 rfl (.cons 0 rfl (.cons 0 rfl .nil)))) qI 59 rfl (qg 0 (.int .i64 x21) rfl rfl rfl (qm rfl) (qg 1 (.bool ((x21 : Int) == 0)) rfl rfl rfl (qm rfl) (qg 2 (.bool ((x21 : Int) == 0)) rfl rfl rfl (qm rfl) (qJ (d := 38) (v := .bool true) rfl (by rw [h79] <;> rfl) (qg 3 (.pointer (some ⟨g20, 0, none⟩)) rfl rfl rfl (qz rfl qe1) (qX 4 (.int .i64 x22) rfl rfl rfl (qY (i := 3) rfl tf3 rfl rfl (fun _ => rfl) rfl) (qg 5 (.bool ((x22 : Int) == 6)) rfl rfl rfl (qm rfl) (qg 6 (.bool ((x22 : Int) == 6)) rfl rfl rfl (qm rfl) (qg 7 (.bool ((x22 : Int) == 6)) rfl rfl rfl (qm rfl) (qJ (d := 43) (v := .bool false) rfl (by rw [h80] <;> rfl) (ql 8 rfl rfl rfl (ql 9 rfl rfl rfl ?_))))))))))))
 refine ql 10 rfl rfl rfl (ql 11 rfl rfl rfl (qg 12 (.bool false) rfl rfl rfl (qm rfl) (qg 13 (.bool false) rfl rfl rfl (qm rfl) (ql 14 rfl rfl rfl (ql 15 rfl rfl rfl (ql 16 rfl rfl rfl (qg 17 (.bool false) rfl rfl rfl (qm rfl) (qg 18 (.bool false) rfl rfl rfl (qm rfl) (ql 19 rfl rfl rfl (ql 20 rfl rfl rfl (qg 21 (.bool false) rfl rfl rfl (qm rfl) (qg 22 (.bool false) rfl rfl rfl (qm rfl) ?_))))))))))))
 refine ql 23 rfl rfl rfl (ql 24 rfl rfl rfl (ql 25 rfl rfl rfl (qg 26 (.bool false) rfl rfl rfl (qm rfl) (qg 27 (.bool false) rfl rfl rfl (qm rfl) (ql 28 rfl rfl rfl (ql 29 rfl rfl rfl (ql 30 rfl rfl rfl (ql 31 rfl rfl rfl (qg 32 (.bool false) rfl rfl rfl (qm rfl) (qg 33 (.bool false) rfl rfl rfl (qm rfl) (ql 34 rfl rfl rfl (ql 35 rfl rfl rfl ?_))))))))))))
 refine ql 36 rfl rfl rfl (ql 37 rfl rfl rfl (qg 38 (.bool false) rfl rfl rfl (qm rfl) (qg 39 (.bool false) rfl rfl rfl (qm rfl) (ql 40 rfl rfl rfl (ql 41 rfl rfl rfl (ql 42 rfl rfl rfl (qg 43 (.bool false) rfl rfl rfl (qm rfl) (qg 44 (.bool false) rfl rfl rfl (qm rfl) (ql 45 rfl rfl rfl (ql 46 rfl rfl rfl (ql 47 rfl rfl rfl (ql 48 rfl rfl rfl ?_))))))))))))
 exact qg 49 (.bool false) rfl rfl rfl (qm rfl) (qg 50 (.bool false) rfl rfl rfl (qm rfl) (ql 51 rfl rfl rfl (ql 52 rfl rfl rfl (qg 53 (.bool false) rfl rfl rfl (qm rfl) (qg 54 (.bool false) rfl rfl rfl (qm rfl) (ql 55 rfl rfl rfl (ql 56 rfl rfl rfl (qg 57 (.bool false) rfl rfl rfl (qm rfl) (qg 58 (.bool false) rfl rfl rfl (qm rfl) (qV (by kernel_rfl) (zw (qn (false, ())) (by intro c h; cases h))))))))))))
 refine zm mixed [] [⟨g53, 24, [.slice a51 x50.1.length c52.1]⟩, ⟨g33, 24, [.slice a31 x30.1.length c32.1]⟩, ⟨g1, 26, [.int .i64 3, .int .i64 3, .int .i64 2]⟩, ⟨g20, 31, [.int .i64 x22, .int .i64 x23, .int .i64 x24, .int .i64 x25, .int .i64 x26, .slice a27 x29.length c28]⟩] [] (.cons 0 rfl (.cons 0 rfl (.cons 0 rfl (.cons 0 rfl .nil)))) qI 59 rfl (qg 0 (.int .i64 x21) rfl rfl rfl (qm rfl) (qg 1 (.bool ((x21 : Int) == 0)) rfl rfl rfl (qm rfl) (qg 2 (.bool ((x21 : Int) == 0)) rfl rfl rfl (qm rfl) (qJ (d := 38) (v := .bool false) rfl (by rw [h79] <;> rfl) (ql 3 rfl rfl rfl (ql 4 rfl rfl rfl (ql 5 rfl rfl rfl (qg 6 (.bool false) rfl rfl rfl (qm rfl) (qg 7 (.bool false) rfl rfl rfl (qm rfl) (ql 8 rfl rfl rfl (ql 9 rfl rfl rfl (ql 10 rfl rfl rfl ?_))))))))))))
 refine ql 11 rfl rfl rfl (qg 12 (.bool false) rfl rfl rfl (qm rfl) (qg 13 (.bool false) rfl rfl rfl (qm rfl) (ql 14 rfl rfl rfl (ql 15 rfl rfl rfl (ql 16 rfl rfl rfl (qg 17 (.bool false) rfl rfl rfl (qm rfl) (qg 18 (.bool false) rfl rfl rfl (qm rfl) (ql 19 rfl rfl rfl (ql 20 rfl rfl rfl (qg 21 (.bool false) rfl rfl rfl (qm rfl) (qg 22 (.bool false) rfl rfl rfl (qm rfl) (ql 23 rfl rfl rfl ?_))))))))))))
 refine ql 24 rfl rfl rfl (ql 25 rfl rfl rfl (qg 26 (.bool false) rfl rfl rfl (qm rfl) (qg 27 (.bool false) rfl rfl rfl (qm rfl) (ql 28 rfl rfl rfl (ql 29 rfl rfl rfl (ql 30 rfl rfl rfl (ql 31 rfl rfl rfl (qg 32 (.bool false) rfl rfl rfl (qm rfl) (qg 33 (.bool false) rfl rfl rfl (qm rfl) (ql 34 rfl rfl rfl (ql 35 rfl rfl rfl (ql 36 rfl rfl rfl ?_))))))))))))
 refine ql 37 rfl rfl rfl (qg 38 (.bool false) rfl rfl rfl (qm rfl) (qg 39 (.bool false) rfl rfl rfl (qm rfl) (ql 40 rfl rfl rfl (ql 41 rfl rfl rfl (ql 42 rfl rfl rfl (qg 43 (.bool false) rfl rfl rfl (qm rfl) (qg 44 (.bool false) rfl rfl rfl (qm rfl) (ql 45 rfl rfl rfl (ql 46 rfl rfl rfl (ql 47 rfl rfl rfl (ql 48 rfl rfl rfl (qg 49 (.bool false) rfl rfl rfl (qm rfl) ?_))))))))))))
 exact qg 50 (.bool false) rfl rfl rfl (qm rfl) (ql 51 rfl rfl rfl (ql 52 rfl rfl rfl (qg 53 (.bool false) rfl rfl rfl (qm rfl) (qg 54 (.bool false) rfl rfl rfl (qm rfl) (ql 55 rfl rfl rfl (ql 56 rfl rfl rfl (qg 57 (.bool false) rfl rfl rfl (qm rfl) (qg 58 (.bool false) rfl rfl rfl (qm rfl) (qV (by kernel_rfl) (zw (qn (false, ())) (by intro c h; cases h)))))))))))
 rintro ⟨x78, _⟩
 try dsimp only
 exact qv (qs () (res1 rfl rfl))
theorem qgC (F : Nat) (x1 : List Int) (a2 : Option Addr) (c3 : Nat) (x4 : List Int) (a5 : Option Addr) (c6 : Nat) (r : Bool) (hm : jl F x1 x4 = some r) :
    Pure Tryz.prog 52 [.slice a2 x1.length c3, .slice a5 x4.length c6] [Sl (eI .u8) 1 (.slice a2 x1.length c3) x1, Sl (eI .u8) 1 (.slice a5 x4.length c6) x4] Unit (fun _ => .bool r) (fun _ => []) (fun _ => []) := by
  refine qT Tryz.func52 rfl Tryz.ntmps52 rfl hm (fun w => ?_)
  refine qG (l' := [(0, .slice a2 x1.length c3), (1, .slice a5 x4.length c6)]) rfl ?_
  refine qf ?_
  refine qa ?_
  refine qb rfl rfl rfl ?_
  refine qc ?_
  refine qe ?_
  refine qf ?_
  refine qf ?_
  refine qa ?_
  refine qd rfl rfl rfl ?_
  refine q3 rfl Tryz.underlying27 rfl rfl ?_
  refine qd rfl rfl rfl ?_
  refine q3 rfl Tryz.underlying27 rfl rfl ?_
  refine zN rfl rfl rfl rfl ?_
  refine qc ?_
  refine qe ?_
  refine qC rfl (fun h228 => ?_) (fun h228 => ?_)
  · refine qf ?_
    refine qa ?_
    refine qb rfl rfl rfl ?_
    refine qc ?_
    refine qe ?_
    refine qv ?_
    refine qq ?_
    exact qs () (res1 rfl rfl)
  · refine qt ?_
    refine qe ?_
    refine qH (fun ((_, _) : (Unit × Unit)) => []) (fun ((_, _) : (Unit × Unit)) => []) (fun ((_, _) : (Unit × Unit)) => []) (fun ((_, _) : (Unit × Unit)) => []) (fun ((_, _) : (Unit × Unit)) => qcM F) ?_ ?_
    · refine qf ?_
      refine qa ?_
      refine qb rfl rfl rfl ?_
      refine qc ?_
      refine qe ?_
      refine qD ?_
      refine zi (fun ((x154, _) : (Int × Unit)) => [(0, .slice a2 x1.length c3), (1, .slice a5 x4.length c6), (5, .int .i64 x154)]) (fun ((x154, _) : (Int × Unit)) => []) (fun ((x154, _) : (Int × Unit)) => []) (fun ((x154, _) : (Int × Unit)) => [Sl (eI .u8) 1 (.slice a2 x1.length c3) x1, Sl (eI .u8) 1 (.slice a5 x4.length c6) x4]) (fun k (s : (Int × Unit)) => kF F x1 x4 k s.1) (0, ()) F ?_ (hF := (qo 0 rfl (qo 1 rfl qA)))
      intro k191
      rintro ⟨x154, _⟩
      try dsimp only
      refine zF (m' := vA F x1 x4 (kF F x1 x4 k191) x154) rfl ?_
      refine qf ?_
      refine qf ?_
      refine qa ?_
      refine qd rfl rfl rfl ?_
      refine qd rfl rfl rfl ?_
      refine q3 rfl Tryz.underlying27 rfl rfl ?_
      refine qZ rfl rfl rfl rfl ?_
      refine qc ?_
      refine qe ?_
      refine qC rfl (fun h227 => ?_) (fun h227 => ?_)
      · refine qt ?_
        refine qe ?_
        refine qf ?_
        refine qD ?_
        refine qf ?_
        refine qai (j := 0) (zd .u8) (by decide) rfl (fun x218 e218 b219 o220 h221 => ?_)
        replace h221 : a2 = some ⟨b219, o220, none⟩ := h221
        refine qai (j := 2) (zd .u8) (by decide) rfl (fun x222 e222 b223 o224 h225 => ?_)
        replace h225 : a5 = some ⟨b223, o224, none⟩ := h225
        refine zm mixed [] [] [zH b223 (o224 + x154.toNat * 1) ((eI .u8) x222), zH b219 (o220 + x154.toNat * 1) ((eI .u8) x218), Sl (eI .u8) 1 (.slice a2 x1.length c3) x1, Sl (eI .u8) 1 (.slice a5 x4.length c6) x4] .nil (q7 0 rfl (q7 1 rfl (q7 2 rfl (q7 3 rfl qI)))) 9 rfl ?_
        refine qg 0 (.slice a2 x1.length c3) rfl rfl rfl (qm rfl) ?_
        refine qg 1 (.int .i64 x154) rfl rfl rfl (qm rfl) ?_
        refine qJ (d := 17) (v := .slice (some ⟨b219, o220, none⟩) x1.length c3) rfl (by rw [h221] <;> rfl) ?_
        refine qg 2 (.pointer (some ⟨b219, (o220 + x154.toNat * 1), none⟩)) rfl rfl rfl (qbc Tryz.underlying27 tf5 rfl rfl (ke e218).1 (qaU e218)) ?_
        refine qJ (d := 17) (v := .slice a2 x1.length c3) rfl (by rw [h221] <;> rfl) ?_
        refine km 3 (.int .u8 x218) [] rfl rfl rfl (vK (j := 1) rfl tf5 rfl rfl (fun _ => rfl) rfl) ?_
        refine qg 4 (.slice a5 x4.length c6) rfl rfl rfl (qm rfl) ?_
        refine qg 5 (.int .i64 x154) rfl rfl rfl (qm rfl) ?_
        refine qJ (d := 21) (v := .slice (some ⟨b223, o224, none⟩) x4.length c6) rfl (by rw [h225] <;> rfl) ?_
        refine qg 6 (.pointer (some ⟨b223, (o224 + x154.toNat * 1), none⟩)) rfl rfl rfl (qbc Tryz.underlying27 tf5 rfl rfl (ke e222).1 (qaU e222)) ?_
        refine qJ (d := 21) (v := .slice a5 x4.length c6) rfl (by rw [h225] <;> rfl) ?_
        refine km 7 (.int .u8 x222) [] rfl rfl rfl (vK (j := 0) rfl tf5 rfl rfl (fun _ => rfl) rfl) ?_
        refine qg 8 (.bool ((x218 : Int) != x222)) rfl rfl rfl (qm rfl) ?_
        refine qV (by kernel_rfl) ?_
        refine zw ?_ (by intro c h; cases h)
        refine qe ?_
        refine qC rfl (fun h226 => ?_) (fun h226 => ?_)
        · refine qf ?_
          refine qa ?_
          refine qb rfl rfl rfl ?_
          refine qc ?_
          refine qe ?_
          refine qv ?_
          refine qP ?_
          refine qq ?_
          refine qq ?_
          refine qP ?_
          refine qq ?_
          exact qs () (res1 rfl rfl)
        · refine qt ?_
          refine qU ?_
          refine qe ?_
          refine qa ?_
          refine qd rfl rfl rfl ?_
          refine qN rfl rfl rfl rfl ?_
          refine qb rfl rfl rfl ?_
          refine qc ?_
          exact q4 (iadd .i64 x154 1, ()) (hF := (qo 2 rfl (qo 3 rfl qA)))
      · refine zn ?_
        refine qF ?_
        refine qF ?_
        refine zo ?_
        exact qn ((), ())
    · rintro ⟨_, _⟩
      try dsimp only
      refine qf ?_
      refine qa ?_
      refine qb rfl rfl rfl ?_
      refine qc ?_
      refine qe ?_
      refine qv ?_
      exact qs () (res1 rfl rfl)
theorem qaA (F : Nat) (x1 : Int) (x2 : List Int) (a3 : Option Addr) (c4 : Nat) (x5 : Int) (x6 : List Int) (a7 : Option Addr) (c8 : Nat) (r : Bool) (hm : yC F x1 x2 x5 x6 = some r) :
    Pure Tryz.prog 26 [.agg #[.int .i64 x1, .slice a3 x2.length c4], .agg #[.int .i64 x5, .slice a7 x6.length c8]] [Sl (eI .u8) 1 (.slice a3 x2.length c4) x2, Sl (eI .u8) 1 (.slice a7 x6.length c8) x6] Unit (fun _ => .bool r) (fun _ => []) (fun _ => []) := by
 refine qT Tryz.func26 rfl Tryz.ntmps26 rfl hm (fun w => qG (l' := [(0, .agg #[.int .i64 x1, .slice a3 x2.length c4]), (1, .agg #[.int .i64 x5, .slice a7 x6.length c8])]) rfl (qf (qa (qW rfl rfl rfl (fun g9 => qW rfl rfl rfl (fun g10 => qb rfl rfl rfl (qc (qe (qf (qa (qj rfl rfl zX rfl (qk (i := 1) rfl rfl tf3 rfl rfl (fun _ => rfl) rfl rfl ?_))))))))))))
 refine qj rfl rfl zX rfl (qk (i := 0) rfl rfl tf3 rfl rfl (fun _ => rfl) rfl rfl (zj rfl rfl rfl rfl (qd rfl rfl rfl (zZ 6 (fun ((x13, _) : (Bool × Unit)) => [(16, .bool x13)]) (fun ((x13, _) : (Bool × Unit)) => []) (fun ((x13, _) : (Bool × Unit)) => []) (fun ((x13, _) : (Bool × Unit)) => []) (fun ((x13, _) : (Bool × Unit)) => ja F x13) ?_ ?_))))
 refine qp (os := _) rfl (yA (fun h11 => ?_) (fun h11 => ?_))
 refine qR (k := 10) rfl h11 (qj rfl rfl qbK rfl (qk (i := 1) rfl rfl tf27 rfl rfl (fun _ => rfl) rfl rfl (qj rfl rfl qbK rfl (qk (i := 0) rfl rfl tf27 rfl rfl (fun _ => rfl) rfl rfl (qy ent52 rfl rfl rfl (fun x14 e14 => qgC F x2 a3 c4 x6 a7 c8 x14 e14) (.consF 0 rfl (.consF 1 rfl .nil)) (fun x14 e14 => ?_))))))
 intro _
 exact qw (b := true) rfl rfl rfl rfl (qc (qn (x14, ())))
 exact qQ (k := 10) rfl h11 (qi rfl rfl rfl (qi rfl rfl rfl (qi rfl rfl rfl (qi rfl rfl rfl (qi rfl rfl rfl (qw (b := false) rfl rfl rfl rfl (qc (qn (false, ())))))))))
 rintro ⟨x13, _⟩
 try dsimp only
 exact qp (os := _) rfl (qb rfl rfl rfl (qc (qe (qv (qs () (res1 rfl rfl))))))
theorem qgF (F : Nat) (x1 : Int) (x2 : List Int) (a3 : Option Addr) (c4 : Nat) (x5 : Int) (r : Int) (hm : qbk F x1 x2 x5 = some r) :
    Pure Tryz.prog 66 [.agg #[.int .i64 x1, .slice a3 x2.length c4], .int .i64 x5] [Sl (eI .u8) 1 (.slice a3 x2.length c4) x2] Unit (fun _ => .int .i64 r) (fun _ => []) (fun _ => []) := by
 refine qT Tryz.func66 rfl Tryz.ntmps66 rfl hm (fun w => qG (l' := [(0, .agg #[.int .i64 x1, .slice a3 x2.length c4]), (1, .int .i64 x5)]) rfl (qf (qa (qW rfl rfl rfl (fun g6 => qb rfl rfl rfl (qc (qe (qf (qa (qk (i := 0) rfl rfl tf29 rfl rfl (by simp) rfl rfl (qy ent46 rfl rfl rfl (fun x7 e7 => vg F x1 x2 a3 c4 x7 e7) (.consF 0 rfl .nil) (fun x7 e7 => ?_))))))))))))
 intro _
 refine qb rfl rfl rfl (qc (qe (qH (fun ((x13, _) : (Int × Unit)) => [(5, .int .i64 x13)]) (fun ((x13, _) : (Int × Unit)) => []) (fun ((x13, _) : (Int × Unit)) => []) (fun ((x13, _) : (Int × Unit)) => []) (fun ((x13, _) : (Int × Unit)) => j5 F x13) ?_ ?_)))
 refine qf (qa (qd rfl rfl rfl (zj rfl rfl rfl rfl (qd rfl rfl rfl (zZ 9 (fun ((x16, _) : (Bool × Unit)) => [(5, .int .i64 x7), (19, .bool x16)]) (fun ((x16, _) : (Bool × Unit)) => []) (fun ((x16, _) : (Bool × Unit)) => []) (fun ((x16, _) : (Bool × Unit)) => []) (fun ((x16, _) : (Bool × Unit)) => j6 F x7 x16) ?_ ?_)))))
 refine qp (os := _) rfl (yA (fun h14 => ?_) (fun h14 => ?_))
 refine qR (k := 10) rfl h14 (qd rfl rfl rfl (qZ rfl rfl rfl rfl (qd rfl rfl rfl (q8 5 (decide (x5 < 0)) [(5, .int .i64 x7), (10, .bool true), (18, .bool ((decide (x5 < 0)) || (decide (x1 < x5))))] (fun h18 => ?_) (fun h18 => ?_) ?_))))
 exact qp (os := _) rfl (qR (k := 13) rfl h18 (qi rfl rfl rfl (qi rfl rfl rfl (qi rfl rfl rfl (qi rfl rfl rfl (qw (b := true) rfl rfl rfl rfl (qx (d := 18) (v := .bool ((decide (x5 < 0)) || (decide (x1 < x5)))) rfl (by rw [h18]; simp only [Bool.true_or]) (qc (qE (qh rfl (qh rfl (qh rfl qO))))))))))))
 exact qp (os := _) rfl (qQ (k := 13) rfl h18 (qd rfl rfl rfl (qj rfl rfl zX rfl (qk (i := 0) rfl rfl tf3 rfl rfl (fun _ => rfl) rfl rfl (zr rfl rfl rfl rfl (qw (b := false) rfl rfl rfl rfl (qx (d := 18) (v := .bool ((decide (x5 < 0)) || (decide (x1 < x5)))) rfl (by rw [h18]; simp only [Bool.false_or]) (qc (qE (qh rfl (qh rfl (qh rfl qO))))))))))))
 exact qp (os := _) rfl (qw (b := true) rfl rfl rfl rfl (qc (qn (((decide (x5 < 0)) || (decide (x1 < x5))), ()))))
 exact qQ (k := 10) rfl h14 (qi rfl rfl rfl (qi rfl rfl rfl (qi rfl rfl rfl (qi rfl rfl rfl (qi rfl rfl rfl (qi rfl rfl rfl (qi rfl rfl rfl (qi rfl rfl rfl (qw (b := false) rfl rfl rfl rfl (qc (qn (false, ()))))))))))))
 rintro ⟨x16, _⟩
 try dsimp only
 refine qp (os := _) rfl (qc (qe (qC rfl (fun h17 => ?_) (fun h17 => ?_))))
 exact qa (qb rfl rfl rfl (qc (qn (3, ()))))
 exact qt (qn (x7, ()))
 rintro ⟨x13, _⟩
 try dsimp only
 exact qf (qa (qd rfl rfl rfl (qb rfl rfl rfl (qc (qe (qv (qs () (res1 rfl rfl))))))))
theorem qfp (F : Nat) (x1 : Int) (x2 : List Int) (a3 : Option Addr) (c4 : Nat) (x5 : Int) (x6 : Int) (x7 : List Int) (a8 : Option Addr) (c9 : Nat) (x10 : Int) (x11 : Int) (x12 : Int) (r : (List Int × Int × Int)) (hm : qbB F x1 x2 x5 x6 x7 x10 x11 x12 = some r) :
    Pure Tryz.prog 42 [.agg #[.int .i64 x1, .slice a3 x2.length c4], .int .i64 x5, .int .i64 x6, .slice a8 x7.length c9, .agg #[.int .i64 x10, .int .i64 x11, .int .i64 x12]] [Sl (eI .u8) 1 (.slice a3 x2.length c4) x2, Sl (eI .i64) 1 (.slice a8 x7.length c9) x7] (Option Addr × Nat) (fun g => .tuple #[.slice g.1 r.1.length g.2, .int .i64 r.2.1, .int .i64 r.2.2]) (fun g => [Ro (eI .i64) 3 1 (.slice g.1 r.1.length g.2) r.1]) (fun _ => []) := by
 refine qT Tryz.func42 rfl Tryz.ntmps42 rfl hm (fun w => qG (l' := [(0, .agg #[.int .i64 x1, .slice a3 x2.length c4]), (1, .int .i64 x5), (2, .int .i64 x6), (3, .slice a8 x7.length c9), (4, .agg #[.int .i64 x10, .int .i64 x11, .int .i64 x12])]) rfl (qf (qa (qW rfl rfl rfl (fun g13 => qW rfl rfl rfl (fun g14 => qb rfl rfl rfl (qb rfl rfl rfl (qb rfl rfl rfl (qc (qe (qf (qa ?_))))))))))))
 refine qk (i := 0) rfl rfl tf26 rfl rfl (by simp) rfl rfl (qy ent43 rfl rfl rfl (fun x15 e15 => qaF F x10 x11 x12 x15 e15) .nil (fun x15 e15 => ?_))
 intro _
 refine qb rfl rfl rfl (qc (qe (qH (fun ((x18, _) : (Int × Unit)) => [(1, .int .i64 x5), (2, .int .i64 x6), (3, .slice a8 x7.length c9), (5, .pointer (some ⟨g13, 0, none⟩)), (9, .pointer (some ⟨g14, 0, none⟩)), (13, .int .i64 x18)]) (fun ((x18, _) : (Int × Unit)) => [⟨g14, 26, [.int .i64 x10, .int .i64 x11, .int .i64 x12]⟩, ⟨g13, 29, [.int .i64 x1, .slice a3 x2.length c4]⟩]) (fun ((x18, _) : (Int × Unit)) => []) (fun ((x18, _) : (Int × Unit)) => [Sl (eI .i64) 1 (.slice a8 x7.length c9) x7, Sl (eI .u8) 1 (.slice a3 x2.length c4) x2]) (fun ((x18, _) : (Int × Unit)) => jV F x1 x2 x5 x6 x7 x10 x11 x12 x18) ?_ ?_)))
 refine qf (qa (qd rfl rfl rfl (zj rfl rfl rfl rfl (qc (qe (qC rfl (fun h30 => ?_) (fun h30 => ?_)))))))
 refine qa (qk (i := 1) rfl rfl tf29 rfl rfl (by simp) rfl rfl (qd rfl rfl rfl (qy ent66 rfl rfl rfl (fun x29 e29 => qgF F x1 x2 a3 c4 x5 x29 e29) (.consF 0 rfl .nil) (fun x29 e29 => ?_))))
 intro _
 exact qb rfl rfl rfl (qc (qn (x29, ()) (hB := (.cons 0 rfl (.cons 0 rfl .nil))) (hF := (qo 1 rfl (qo 0 rfl qA)))))
 exact qt (qn (x15, ()) (hB := (.cons 0 rfl (.cons 0 rfl .nil))) (hF := (qo 1 rfl (qo 0 rfl qA))))
 rintro ⟨x18, _⟩
 try dsimp only
 refine qH (fun ((x21, _) : (Int × Unit)) => [(1, .int .i64 x5), (2, .int .i64 x6), (3, .slice a8 x7.length c9), (5, .pointer (some ⟨g13, 0, none⟩)), (9, .pointer (some ⟨g14, 0, none⟩)), (13, .int .i64 x21)]) (fun ((x21, _) : (Int × Unit)) => [⟨g14, 26, [.int .i64 x10, .int .i64 x11, .int .i64 x12]⟩, ⟨g13, 29, [.int .i64 x1, .slice a3 x2.length c4]⟩]) (fun ((x21, _) : (Int × Unit)) => []) (fun ((x21, _) : (Int × Unit)) => [Sl (eI .i64) 1 (.slice a8 x7.length c9) x7, Sl (eI .u8) 1 (.slice a3 x2.length c4) x2]) (fun ((x21, _) : (Int × Unit)) => jW F x1 x2 x5 x6 x7 x10 x11 x12 x21) ?_ ?_
 refine qf (qa (qd rfl rfl rfl (zj rfl rfl rfl rfl (qc (qe (qC rfl (fun h28 => ?_) (fun h28 => ?_)))))))
 refine qa (qd rfl rfl rfl (qd rfl rfl rfl (qk (i := 0) rfl rfl tf26 rfl rfl (by simp) rfl rfl (qy ent48 rfl rfl rfl (fun x27 e27 => qes F x6 x7 a8 c9 x10 x11 x12 x27 e27) (.consF 0 rfl .nil) (fun x27 e27 => ?_)))))
 intro _
 exact qb rfl rfl rfl (qc (qn (x27, ()) (hB := (.cons 0 rfl (.cons 0 rfl .nil))) (hF := (qo 0 rfl (qo 1 rfl qA)))))
 exact qt (qn (x18, ()) (hB := (.cons 0 rfl (.cons 0 rfl .nil))) (hF := (qo 0 rfl (qo 1 rfl qA))))
 rintro ⟨x21, _⟩
 try dsimp only
 refine qf (qf (qa (qd rfl rfl rfl (zN rfl rfl rfl rfl (qc (qe (qC rfl (fun h26 => ?_) (fun h26 => ?_))))))))
 exact qf (qa (qd rfl rfl rfl (qb rfl rfl rfl (qb rfl rfl rfl (qb rfl rfl rfl (qc (qe (qv (qq (q5 Int (eI .i64) 3 1 (qs (none, 0) (res3 rfl rfl rfl rfl) (fun h => by subst h; exact (.cons 0 rfl .nil)))))))))))))
 refine qt (qe (qf (qa (qk (i := 1) rfl rfl tf29 rfl rfl (by simp) rfl rfl (qd rfl rfl rfl (qd rfl rfl rfl (qd rfl rfl rfl (qk (i := 0) rfl rfl tf26 rfl rfl (by simp) rfl rfl (qy ent57 rfl rfl rfl (fun x23 e23 => qdp F x1 x2 a3 c4 x5 x6 x7 a8 c9 x10 x11 x12 x23 e23) (.consF 1 rfl (.consF 0 rfl .nil)) (fun x23 e23 => ?_))))))))))
 rintro ⟨a24, c25⟩
 exact qr rfl rfl rfl rfl (qr rfl rfl rfl rfl (qr rfl rfl rfl rfl (qb rfl rfl rfl (qb rfl rfl rfl (qb rfl rfl rfl (qc (qe (qv (qs (a24, c25) (res3 rfl rfl rfl rfl) (fun h => by subst h; exact (.cons 0 rfl .nil)))))))))))
set_option maxHeartbeats 4000000 in
theorem qgB (F : Nat)  (r : Bool) (hm : qbg F  = some r) :
    Pure Tryz.prog 21 [] [] Unit (fun _ => .bool r) (fun _ => []) (fun _ => []) := by
 refine qT Tryz.func21 rfl Tryz.ntmps21 rfl hm (fun w => qG (l' := []) rfl (qf (qa (qb rfl rfl rfl (qc (qe (qf (qa (q6 (cells := [.int .i64 1, .int .i64 3, .int .i64 2]) rfl st26 rfl (by kernel_rfl) rfl (qM rfl tf26 rfl (fun g1 => qu (i := 0) rfl rfl rfl tf26 rfl rfl rfl rfl rfl (qc ?_))))))))))))
 refine qe (qf (qa (zB (vs := [.int .i64 2, .int .i64 3, .int .i64 4, .int .i64 5, .int .i64 9, .int .i64 20]) (ys := ([2, 3, 4, 5, 9, 20] : List Int)) (zd .i64) (by decide) rfl Tryz.underlying37 tf3 rfl rfl rfl rfl rfl (by decide) (fun a2 c3 => qb rfl rfl rfl (qc (qe (qf (qa (qd rfl rfl rfl (zB (vs := [.int .i64 3, .int .i64 9, .int .i64 11]) (ys := ([3, 9, 11] : List Int)) (zd .i64) (by decide) rfl Tryz.underlying37 tf3 rfl rfl rfl rfl rfl (by decide) (fun a4 c5 => qk (i := 0) rfl rfl tf26 rfl rfl (by simp) rfl rfl (qy ent24 rfl rfl rfl (fun x6 e6 => qaG F 7 ([2, 3, 4, 5, 9, 20] : List Int) a2 c3 ([3, 9, 11] : List Int) a4 c5 1 3 2 x6 e6) (.consR 1 (Ro (eI .i64) 3 1 (.slice a2 ([2, 3, 4, 5, 9, 20] : List Int).length c3) ([2, 3, 4, 5, 9, 20] : List Int)) rfl (.consR 0 (Ro (eI .i64) 3 1 (.slice a4 ([3, 9, 11] : List Int).length c5) ([3, 9, 11] : List Int)) rfl .nil)) (fun x6 e6 => ?_)))))))))))))
 rintro ⟨a7, c8⟩
 refine qd rfl rfl rfl (qr rfl rfl rfl rfl (qr rfl rfl rfl rfl (qM rfl tf29 rfl (fun g9 => qu (i := 0) rfl rfl rfl tf29 rfl rfl rfl rfl rfl (qb rfl rfl rfl (qc (qe (qf (qa (qk (i := 0) rfl rfl tf29 rfl rfl (by simp) rfl rfl (zB (vs := [.int .i64 3, .int .i64 9, .int .i64 11]) (ys := ([3, 9, 11] : List Int)) (zd .i64) (by decide) rfl Tryz.underlying37 tf3 rfl rfl rfl rfl rfl (by decide) (fun a10 c11 => qk (i := 1) rfl rfl tf26 rfl rfl (by simp) rfl rfl ?_))))))))))))
 refine qy ent42 rfl rfl rfl (fun x12 e12 => qfp F x6.1 x6.2.1 a7 c8 0 7 ([3, 9, 11] : List Int) a10 c11 1 3 2 x12 e12) (.consR 1 (Ro (eI .u8) 5 1 (.slice a7 x6.2.1.length c8) x6.2.1) rfl (.consR 0 (Ro (eI .i64) 3 1 (.slice a10 ([3, 9, 11] : List Int).length c11) ([3, 9, 11] : List Int)) rfl .nil)) (fun x12 e12 => ?_)
 rintro ⟨a13, c14⟩
 refine qd rfl rfl rfl (qr rfl rfl rfl rfl (qr rfl rfl rfl rfl (qr rfl rfl rfl rfl (qb rfl rfl rfl (qb rfl rfl rfl (qb rfl rfl rfl (qc (qe (qf (qa (q6 (cells := [.int .i64 0, .int .i64 0, .int .i64 1]) rfl st26 rfl (by kernel_rfl) rfl (zG Int (eI .i64) 3 1 ?_))))))))))))
 refine zG Int (eI .i64) 3 1 (qy ent24 rfl rfl rfl (fun x15 e15 => qaG F 7 ([] : List Int) none 0 ([] : List Int) none 0 0 0 1 x15 e15) (.consR 0 (Ro (eI .i64) 3 1 (.slice none ([] : List Int).length 0) ([] : List Int)) rfl (.consR 0 (Ro (eI .i64) 3 1 (.slice none ([] : List Int).length 0) ([] : List Int)) rfl .nil)) (fun x15 e15 => ?_))
 rintro ⟨a16, c17⟩
 refine qd rfl rfl rfl (qr rfl rfl rfl rfl (qr rfl rfl rfl rfl (qM rfl tf29 rfl (fun g18 => qu (i := 0) rfl rfl rfl tf29 rfl rfl rfl rfl rfl (qb rfl rfl rfl (qc (qe (qf (qa (q6 (cells := [.int .i64 0, .slice none 0 0]) rfl st29 rfl (by kernel_rfl) rfl (q6 (cells := [.int .i64 0, .int .i64 0, .int .i64 1]) rfl st26 rfl (by kernel_rfl) rfl (zG Int (eI .u8) 5 1 ?_))))))))))))
 refine zG Int (eI .i64) 3 1 (qy ent42 rfl rfl rfl (fun x19 e19 => qfp F 0 ([] : List Int) none 0 0 7 ([] : List Int) none 0 0 0 1 x19 e19) (.consR 1 (Ro (eI .u8) 5 1 (.slice none ([] : List Int).length 0) ([] : List Int)) rfl (.consR 0 (Ro (eI .i64) 3 1 (.slice none ([] : List Int).length 0) ([] : List Int)) rfl .nil)) (fun x19 e19 => ?_))
 rintro ⟨a20, c21⟩
 refine qd rfl rfl rfl (qr rfl rfl rfl rfl (qr rfl rfl rfl rfl (qr rfl rfl rfl rfl (qb rfl rfl rfl (qb rfl rfl rfl (qb rfl rfl rfl (qc (qe (qf (qa (qd rfl rfl rfl (zj rfl rfl rfl rfl ?_))))))))))))
 refine qd rfl rfl rfl (zZ 4 (fun ((x24, _) : (Bool × Unit)) => [(3, .pointer (some ⟨g9, 0, none⟩)), (6, .int .i64 x12.2.1), (7, .int .i64 x12.2.2), (8, .pointer (some ⟨g18, 0, none⟩)), (9, .int .i64 x15.2.2), (12, .int .i64 x19.2.2), (48, .bool x24)]) (fun ((x24, _) : (Bool × Unit)) => [⟨g18, 29, [.int .i64 x15.1, .slice a16 x15.2.1.length c17]⟩, ⟨g9, 29, [.int .i64 x6.1, .slice a7 x6.2.1.length c8]⟩]) (fun ((x24, _) : (Bool × Unit)) => [Ro (eI .u8) 5 1 (.slice a16 x15.2.1.length c17) x15.2.1, Ro (eI .u8) 5 1 (.slice a7 x6.2.1.length c8) x6.2.1]) (fun ((x24, _) : (Bool × Unit)) => []) (fun ((x24, _) : (Bool × Unit)) => j1 F x6 x12 x15 x19 x24) ?_ ?_)
 refine qp (os := _) rfl (yA (fun h22 => ?_) (fun h22 => ?_))
 refine qR (k := 44) rfl h22 (qd rfl rfl rfl (qd rfl rfl rfl (qy ent18 rfl rfl rfl (fun x41 e41 => qeo F x12.1 a13 c14 ([2, 3, 4, 5, 9, 20] : List Int) a2 c3 x41 e41) (.consR 6 (Ro (eI .i64) 3 1 (.slice a13 x12.1.length c14) x12.1) rfl (.consR 10 (Ro (eI .i64) 3 1 (.slice a2 ([2, 3, 4, 5, 9, 20] : List Int).length c3) ([2, 3, 4, 5, 9, 20] : List Int)) rfl .nil)) (fun x41 e41 => ?_))))
 intro _
 exact qw (b := true) rfl rfl rfl rfl (qc (qn (x41, ()) (hB := (.cons 0 rfl (.cons 0 rfl .nil))) (hR := (.cons 3 rfl (.cons 7 rfl .nil)))))
 exact qQ (k := 44) rfl h22 (qi rfl rfl rfl (qi rfl rfl rfl (qi rfl rfl rfl (qw (b := false) rfl rfl rfl rfl (qc (qn (false, ()) (hB := (.cons 0 rfl (.cons 0 rfl .nil))) (hR := (.cons 3 rfl (.cons 7 rfl .nil)))))))))
 rintro ⟨x24, _⟩
 try dsimp only
 refine qp (os := _) rfl (qd rfl rfl rfl (q8 5 x24 [(7, .int .i64 x12.2.2), (8, .pointer (some ⟨g18, 0, none⟩)), (9, .int .i64 x15.2.2), (12, .int .i64 x19.2.2), (54, .bool (x24 && ((x12.2.1 : Int) == x6.1)))] (fun h25 => ?_) (fun h25 => ?_) ?_))
 exact qp (os := _) rfl (qR (k := 49) rfl h25 (qd rfl rfl rfl (qj rfl rfl zX rfl (qk (i := 1) rfl rfl tf3 rfl rfl (fun _ => rfl) rfl rfl (zj rfl rfl rfl rfl (qw (b := true) rfl rfl rfl rfl (qx (d := 54) (v := .bool (x24 && ((x12.2.1 : Int) == x6.1))) rfl (by rw [h25]; simp only [Bool.true_and]) (qc (qE (qh rfl (qh rfl (qh rfl (qh rfl (qh rfl qO))))))))))))))
 exact qp (os := _) rfl (qQ (k := 49) rfl h25 (qi rfl rfl rfl (qi rfl rfl rfl (qi rfl rfl rfl (qi rfl rfl rfl (qw (b := false) rfl rfl rfl rfl (qx (d := 54) (v := .bool (x24 && ((x12.2.1 : Int) == x6.1))) rfl (by rw [h25]; simp only [Bool.false_and]) (qc (qE (qh rfl (qh rfl (qh rfl (qh rfl (qh rfl qO))))))))))))))
 refine qp (os := _) rfl (qd rfl rfl rfl (q8 3 (x24 && ((x12.2.1 : Int) == x6.1)) [(8, .pointer (some ⟨g18, 0, none⟩)), (9, .int .i64 x15.2.2), (12, .int .i64 x19.2.2), (58, .bool ((x24 && ((x12.2.1 : Int) == x6.1)) && ((x12.2.2 : Int) == 0)))] (fun h26 => ?_) (fun h26 => ?_) ?_))
 exact qp (os := _) rfl (qR (k := 55) rfl h26 (qd rfl rfl rfl (zj rfl rfl rfl rfl (qw (b := true) rfl rfl rfl rfl (qx (d := 58) (v := .bool ((x24 && ((x12.2.1 : Int) == x6.1)) && ((x12.2.2 : Int) == 0))) rfl (by rw [h26]; simp only [Bool.true_and]) (qc (qE (qh rfl (qh rfl (qh rfl (qh rfl qO)))))))))))
 exact qp (os := _) rfl (qQ (k := 55) rfl h26 (qi rfl rfl rfl (qi rfl rfl rfl (qw (b := false) rfl rfl rfl rfl (qx (d := 58) (v := .bool ((x24 && ((x12.2.1 : Int) == x6.1)) && ((x12.2.2 : Int) == 0))) rfl (by rw [h26]; simp only [Bool.false_and]) (qc (qE (qh rfl (qh rfl (qh rfl (qh rfl qO)))))))))))
 refine qp (os := _) rfl (qd rfl rfl rfl (zZ 5 (fun ((x31, _) : (Bool × Unit)) => [(9, .int .i64 x15.2.2), (12, .int .i64 x19.2.2), (64, .bool x31)]) (fun ((x31, _) : (Bool × Unit)) => []) (fun ((x31, _) : (Bool × Unit)) => []) (fun ((x31, _) : (Bool × Unit)) => []) (fun ((x31, _) : (Bool × Unit)) => j2 F x15 x19 x31) ?_ ?_))
 refine qp (os := _) rfl (yA (fun h27 => ?_) (fun h27 => ?_))
 refine qR (k := 59) rfl h27 (qk (i := 0) rfl rfl tf29 rfl rfl (by simp) rfl rfl (zB (vs := [.int .u8 128]) (ys := ([128] : List Int)) (zd .u8) (by decide) rfl Tryz.underlying27 tf5 rfl rfl rfl rfl rfl (by decide) (fun a38 c39 => q6 (cells := [.int .i64 1, .slice a38 ([128] : List Int).length c39]) rfl st29 rfl (by kernel_rfl) rfl (qy ent26 rfl rfl rfl (fun x40 e40 => qaA F x15.1 x15.2.1 a16 c17 1 ([128] : List Int) a38 c39 x40 e40) (.consR 1 (Ro (eI .u8) 5 1 (.slice a16 x15.2.1.length c17) x15.2.1) rfl (.consR 0 (Ro (eI .u8) 5 1 (.slice a38 ([128] : List Int).length c39) ([128] : List Int)) rfl .nil)) (fun x40 e40 => ?_)))))
 intro _
 exact qw (b := true) rfl rfl rfl rfl (qc (qn (x40, ())))
 exact qQ (k := 59) rfl h27 (qi rfl rfl rfl (qi rfl rfl rfl (qi rfl rfl rfl (qi rfl rfl rfl (qw (b := false) rfl rfl rfl rfl (qc (qn (false, ()))))))))
 rintro ⟨x31, _⟩
 try dsimp only
 refine qp (os := _) rfl (qd rfl rfl rfl (q8 3 x31 [(12, .int .i64 x19.2.2), (68, .bool (x31 && ((x15.2.2 : Int) == 0)))] (fun h32 => ?_) (fun h32 => ?_) ?_))
 exact qp (os := _) rfl (qR (k := 65) rfl h32 (qd rfl rfl rfl (zj rfl rfl rfl rfl (qw (b := true) rfl rfl rfl rfl (qx (d := 68) (v := .bool (x31 && ((x15.2.2 : Int) == 0))) rfl (by rw [h32]; simp only [Bool.true_and]) (qc (qE (qh rfl (qh rfl qO)))))))))
 exact qp (os := _) rfl (qQ (k := 65) rfl h32 (qi rfl rfl rfl (qi rfl rfl rfl (qw (b := false) rfl rfl rfl rfl (qx (d := 68) (v := .bool (x31 && ((x15.2.2 : Int) == 0))) rfl (by rw [h32]; simp only [Bool.false_and]) (qc (qE (qh rfl (qh rfl qO)))))))))
 refine qp (os := _) rfl (qd rfl rfl rfl (q8 3 (x31 && ((x15.2.2 : Int) == 0)) [(72, .bool ((x31 && ((x15.2.2 : Int) == 0)) && ((x19.2.2 : Int) == 1)))] (fun h33 => ?_) (fun h33 => ?_) ?_))
 exact qp (os := _) rfl (qR (k := 69) rfl h33 (qd rfl rfl rfl (zj rfl rfl rfl rfl (qw (b := true) rfl rfl rfl rfl (qx (d := 72) (v := .bool ((x31 && ((x15.2.2 : Int) == 0)) && ((x19.2.2 : Int) == 1))) rfl (by rw [h33]; simp only [Bool.true_and]) (qc (qE (qh rfl qO))))))))
 exact qp (os := _) rfl (qQ (k := 69) rfl h33 (qi rfl rfl rfl (qi rfl rfl rfl (qw (b := false) rfl rfl rfl rfl (qx (d := 72) (v := .bool ((x31 && ((x15.2.2 : Int) == 0)) && ((x19.2.2 : Int) == 1))) rfl (by rw [h33]; simp only [Bool.false_and]) (qc (qE (qh rfl qO))))))))
 refine qp (os := _) rfl (qd rfl rfl rfl (zZ 4 (fun ((x36, _) : (Bool × Unit)) => [(77, .bool x36)]) (fun ((x36, _) : (Bool × Unit)) => []) (fun ((x36, _) : (Bool × Unit)) => []) (fun ((x36, _) : (Bool × Unit)) => []) (fun ((x36, _) : (Bool × Unit)) => qa4 F x36) ?_ ?_))
 refine qp (os := _) rfl (yA (fun h34 => ?_) (fun h34 => ?_))
 refine qR (k := 73) rfl h34 (q6 (cells := [.int .i64 0, .int .i64 1, .int .i64 1]) rfl st26 rfl (by kernel_rfl) rfl (qy ent43 rfl rfl rfl (fun x37 e37 => qaF F 0 1 1 x37 e37) .nil (fun x37 e37 => ?_)))
 intro _
 exact zj rfl rfl rfl rfl (qw (b := true) rfl rfl rfl rfl (qc (qn (((x37 : Int) == 3), ()))))
 exact qQ (k := 73) rfl h34 (qi rfl rfl rfl (qi rfl rfl rfl (qi rfl rfl rfl (qw (b := false) rfl rfl rfl rfl (qc (qn (false, ())))))))
 rintro ⟨x36, _⟩
 try dsimp only
 exact qp (os := _) rfl (qb rfl rfl rfl (qc (qe (qv (qs () (res1 rfl rfl))))))
set_option maxHeartbeats 4000000 in
theorem qiX (F : Nat) (x1 : Int) (x2 : List Int) (a3 : Option Addr) (c4 : Nat) (x5 : Int) (x6 : Int) (r : (Int × List Int × Int)) (hm : qfS F x1 x2 x5 x6 = some r) :
    PureM Tryz.prog 25 [.agg #[.int .i64 x1, .slice a3 x2.length c4], .int .i64 x5, .int .i64 x6] [] [] [Sl (eI .u8) 1 (.slice a3 x2.length c4) x2] (Option Addr × Nat) (fun g => .tuple #[.agg #[.int .i64 r.1, .slice g.1 r.2.1.length g.2], .int .i64 r.2.2]) (fun _ => []) (fun g => [Ro (eI .u8) 5 1 (.slice g.1 r.2.1.length g.2) r.2.1]) := by
 refine qgi Tryz.func25 rfl Tryz.ntmps25 rfl hm (fun w => qG (l' := [(0, .agg #[.int .i64 x1, .slice a3 x2.length c4]), (1, .int .i64 x5), (2, .int .i64 x6)]) rfl (qf (qa (qW rfl rfl rfl (fun g7 => qM rfl tf29 rfl (fun g8 => qb rfl rfl rfl (qc (qe (qf (qa (qk (i := 1) rfl rfl tf29 rfl rfl (by simp) rfl rfl (qy ent46 rfl rfl rfl (fun x9 e9 => vg F x1 x2 a3 c4 x9 e9) (.consF 0 rfl .nil) (fun x9 e9 => ?_)))))))))))))
 intro _
 refine qb rfl rfl rfl (qc (qe (qH (fun ((x19, _) : (Int × Unit)) => [(1, .int .i64 x5), (2, .int .i64 x6), (3, .pointer (some ⟨g7, 0, none⟩)), (6, .pointer (some ⟨g8, 0, none⟩)), (7, .int .i64 0), (8, .int .i64 x19)]) (fun ((x19, _) : (Int × Unit)) => [⟨g8, 29, [.int .i64 0, .slice none 0 0]⟩, ⟨g7, 29, [.int .i64 x1, .slice a3 x2.length c4]⟩]) (fun ((x19, _) : (Int × Unit)) => []) (fun ((x19, _) : (Int × Unit)) => [Sl (eI .u8) 1 (.slice a3 x2.length c4) x2]) (fun ((x19, _) : (Int × Unit)) => qcx F x1 x2 x5 x6 x19) ?_ ?_)))
 refine qf (qa (qd rfl rfl rfl (zj rfl rfl rfl rfl (qd rfl rfl rfl (zZ 20 (fun ((x68, _) : (Bool × Unit)) => [(1, .int .i64 x5), (2, .int .i64 x6), (3, .pointer (some ⟨g7, 0, none⟩)), (6, .pointer (some ⟨g8, 0, none⟩)), (7, .int .i64 0), (8, .int .i64 x9), (35, .bool x68)]) (fun ((x68, _) : (Bool × Unit)) => [⟨g8, 29, [.int .i64 0, .slice none 0 0]⟩, ⟨g7, 29, [.int .i64 x1, .slice a3 x2.length c4]⟩]) (fun ((x68, _) : (Bool × Unit)) => []) (fun ((x68, _) : (Bool × Unit)) => [Sl (eI .u8) 1 (.slice a3 x2.length c4) x2]) (fun ((x68, _) : (Bool × Unit)) => qcy F x1 x2 x5 x6 x9 x68) ?_ ?_)))))
 refine qp (os := _) rfl (yA (fun h64 => ?_) (fun h64 => ?_))
 refine qR (k := 15) rfl h64 (qd rfl rfl rfl (qZ rfl rfl rfl rfl (qd rfl rfl rfl (q8 5 (decide (x5 < 0)) [(1, .int .i64 x5), (2, .int .i64 x6), (3, .pointer (some ⟨g7, 0, none⟩)), (6, .pointer (some ⟨g8, 0, none⟩)), (7, .int .i64 0), (8, .int .i64 x9), (15, .bool true), (23, .bool ((decide (x5 < 0)) || (decide (x1 < x5))))] (fun h70 => ?_) (fun h70 => ?_) ?_))))
 exact qp (os := _) rfl (qR (k := 18) rfl h70 (qi rfl rfl rfl (qi rfl rfl rfl (qi rfl rfl rfl (qi rfl rfl rfl (qw (b := true) rfl rfl rfl rfl (qx (d := 23) (v := .bool ((decide (x5 < 0)) || (decide (x1 < x5)))) rfl (by rw [h70]; simp only [Bool.true_or]) (qc (qE (qh rfl (qh rfl (qh rfl (qh rfl (qh rfl (qh rfl (qh rfl (qh rfl qO)))))))))))))))))
 exact qp (os := _) rfl (qQ (k := 18) rfl h70 (qd rfl rfl rfl (qj rfl rfl zX rfl (qk (i := 1) rfl rfl tf3 rfl rfl (fun _ => rfl) rfl rfl (zr rfl rfl rfl rfl (qw (b := false) rfl rfl rfl rfl (qx (d := 23) (v := .bool ((decide (x5 < 0)) || (decide (x1 < x5)))) rfl (by rw [h70]; simp only [Bool.false_or]) (qc (qE (qh rfl (qh rfl (qh rfl (qh rfl (qh rfl (qh rfl (qh rfl (qh rfl qO)))))))))))))))))
 refine qp (os := _) rfl (qd rfl rfl rfl (q8 4 ((decide (x5 < 0)) || (decide (x1 < x5))) [(1, .int .i64 x5), (2, .int .i64 x6), (3, .pointer (some ⟨g7, 0, none⟩)), (6, .pointer (some ⟨g8, 0, none⟩)), (7, .int .i64 0), (8, .int .i64 x9), (15, .bool true), (28, .bool (((decide (x5 < 0)) || (decide (x1 < x5))) || (decide (x6 < x5))))] (fun h71 => ?_) (fun h71 => ?_) ?_))
 exact qp (os := _) rfl (qR (k := 24) rfl h71 (qi rfl rfl rfl (qi rfl rfl rfl (qi rfl rfl rfl (qw (b := true) rfl rfl rfl rfl (qx (d := 28) (v := .bool (((decide (x5 < 0)) || (decide (x1 < x5))) || (decide (x6 < x5)))) rfl (by rw [h71]; simp only [Bool.true_or]) (qc (qE (qh rfl (qh rfl (qh rfl (qh rfl (qh rfl (qh rfl (qh rfl (qh rfl qO))))))))))))))))
 exact qp (os := _) rfl (qQ (k := 24) rfl h71 (qd rfl rfl rfl (qd rfl rfl rfl (qZ rfl rfl rfl rfl (qw (b := false) rfl rfl rfl rfl (qx (d := 28) (v := .bool (((decide (x5 < 0)) || (decide (x1 < x5))) || (decide (x6 < x5)))) rfl (by rw [h71]; simp only [Bool.false_or]) (qc (qE (qh rfl (qh rfl (qh rfl (qh rfl (qh rfl (qh rfl (qh rfl (qh rfl qO))))))))))))))))
 refine qp (os := _) rfl (qd rfl rfl rfl (q8 5 (((decide (x5 < 0)) || (decide (x1 < x5))) || (decide (x6 < x5))) [(1, .int .i64 x5), (2, .int .i64 x6), (3, .pointer (some ⟨g7, 0, none⟩)), (6, .pointer (some ⟨g8, 0, none⟩)), (7, .int .i64 0), (8, .int .i64 x9), (15, .bool true), (34, .bool ((((decide (x5 < 0)) || (decide (x1 < x5))) || (decide (x6 < x5))) || (decide (x1 < x6))))] (fun h72 => ?_) (fun h72 => ?_) ?_))
 exact qp (os := _) rfl (qR (k := 29) rfl h72 (qi rfl rfl rfl (qi rfl rfl rfl (qi rfl rfl rfl (qi rfl rfl rfl (qw (b := true) rfl rfl rfl rfl (qx (d := 34) (v := .bool ((((decide (x5 < 0)) || (decide (x1 < x5))) || (decide (x6 < x5))) || (decide (x1 < x6)))) rfl (by rw [h72]; simp only [Bool.true_or]) (qc (qE (qh rfl (qh rfl (qh rfl (qh rfl (qh rfl (qh rfl (qh rfl (qh rfl qO)))))))))))))))))
 exact qp (os := _) rfl (qQ (k := 29) rfl h72 (qd rfl rfl rfl (qj rfl rfl zX rfl (qk (i := 1) rfl rfl tf3 rfl rfl (fun _ => rfl) rfl rfl (zr rfl rfl rfl rfl (qw (b := false) rfl rfl rfl rfl (qx (d := 34) (v := .bool ((((decide (x5 < 0)) || (decide (x1 < x5))) || (decide (x6 < x5))) || (decide (x1 < x6)))) rfl (by rw [h72]; simp only [Bool.false_or]) (qc (qE (qh rfl (qh rfl (qh rfl (qh rfl (qh rfl (qh rfl (qh rfl (qh rfl qO)))))))))))))))))
 exact qp (os := _) rfl (qw (b := true) rfl rfl rfl rfl (qc (qn (((((decide (x5 < 0)) || (decide (x1 < x5))) || (decide (x6 < x5))) || (decide (x1 < x6))), ()) (hB := (.cons 0 rfl (.cons 0 rfl .nil))) (hF := (qo 0 rfl qA)))))
 refine qQ (k := 15) rfl h64 (qi rfl rfl rfl (qi rfl rfl rfl (qi rfl rfl rfl (qi rfl rfl rfl (qi rfl rfl rfl (qi rfl rfl rfl (qi rfl rfl rfl (qi rfl rfl rfl (qi rfl rfl rfl (qi rfl rfl rfl (qi rfl rfl rfl (qi rfl rfl rfl ?_))))))))))))
 exact qi rfl rfl rfl (qi rfl rfl rfl (qi rfl rfl rfl (qi rfl rfl rfl (qi rfl rfl rfl (qi rfl rfl rfl (qi rfl rfl rfl (qw (b := false) rfl rfl rfl rfl (qc (qn (false, ()) (hB := (.cons 0 rfl (.cons 0 rfl .nil))) (hF := (qo 0 rfl qA)))))))))))
 rintro ⟨x68, _⟩
 try dsimp only
 refine qp (os := _) rfl (qc (qe (qC rfl (fun h69 => ?_) (fun h69 => ?_))))
 exact qa (qb rfl rfl rfl (qc (qn (3, ()) (hB := (.cons 0 rfl (.cons 0 rfl .nil))) (hF := (qo 0 rfl qA)))))
 exact qt (qn (x9, ()) (hB := (.cons 0 rfl (.cons 0 rfl .nil))) (hF := (qo 0 rfl qA)))
 rintro ⟨x19, _⟩
 try dsimp only
 refine qf (qf (qa (qd rfl rfl rfl (zN rfl rfl rfl rfl (qc (qe (qC rfl (fun h63 => ?_) (fun h63 => ?_))))))))
 exact qf (qa (q6 (cells := [.int .i64 0, .slice none 0 0]) rfl st29 rfl (by kernel_rfl) rfl (qd rfl rfl rfl (qu (i := 0) rfl rfl rfl tf29 rfl rfl rfl rfl rfl (qb rfl rfl rfl (qc (qe (qv (qq (q5 Int (eI .u8) 5 1 (qdO [] (none, 0) (.inl rfl) rfl .nil (resL (rs := [.cell 6 29, .tmp 7]) rfl (.cell (i := 0) rfl tf29 rfl rfl (by simp) rfl (.tmp rfl ResOk.nil)) rfl) (fun h => by subst h; rfl) (fun h => by subst h; exact .nil) (fun h => by subst h; exact (.cons 0 rfl .nil)))))))))))))
 refine qt (qe (qf (qa (q6 (cells := [.int .i64 0, .slice none 0 0]) rfl st94 rfl (by kernel_rfl) rfl (qW rfl rfl rfl (fun g21 => qM rfl tf92 rfl (fun g22 => qu (i := 0) rfl rfl rfl tf92 rfl rfl rfl rfl rfl (qc (qe (qf (qf (qa ?_))))))))))))
 refine qk (i := 3) rfl rfl tf29 rfl rfl (by simp) rfl rfl (qd rfl rfl rfl (qd rfl rfl rfl (q2 ent50 rfl rfl rfl (fun x43 e43 => qdR F x1 x2 a3 c4 x5 x6 x43 e43) .nil .nil (.consF 0 rfl .nil) (fun x43 e43 => ?_))))
 rintro ⟨g44, g45, g46⟩
 refine qc (qe (qD (yR Int (eI .u8) 5 1 (qff (encs := (fun (p : Int) => [.int .u64 p])) (y := (fun ((x51, x54) : (Int × List Int)) (x59 : Int) => qdV F x51 x54 x59)) (lb := [.pointer (some ⟨g44, 0, none⟩), .pointer (some ⟨g45, 0, none⟩), .pointer (some ⟨g46, 0, none⟩)]) (fun ((x51, x54) : (Int × List Int)) ((a52, c53) : (Option Addr × Nat)) => [⟨g22, 92, [.pointer (some ⟨g21, 0, none⟩)]⟩, ⟨g21, 94, [.int .i64 x51, .slice a52 x54.length c53]⟩, ⟨g8, 29, [.int .i64 0, .slice none 0 0]⟩, ⟨g7, 29, [.int .i64 x1, .slice a3 x2.length c4]⟩]) (fun ((x51, x54) : (Int × List Int)) ((a52, c53) : (Option Addr × Nat)) => [Ro (eI .u8) 5 1 (.slice a52 x54.length c53) x54]) (fun (_ : Empty) (_ : Unit) => []) (fun (_ : Empty) (_ : Unit) => []) (fun _ => .skip) (0, ([] : List Int)) (none, 0) rfl ent78 (fun _ => rfl) rfl (.cons 0 rfl (.cons 0 rfl (.cons 0 rfl .nil))) (.cons 0 rfl (.cons 0 rfl (.cons 0 rfl (.cons 0 rfl .nil)))) (.cons 0 rfl .nil) (.consF 0 rfl .nil) (fun z hz _ _ _ hY => qdg F hY (0, ([] : List Int)) (none, 0) g44 x5 g45 x6 g46 x1 x2 a3 c4 z hz) ?_ ?_ ?_))))
 rintro rc1 L1 D1 ⟨x51, x54⟩ ⟨a52, c53⟩ x59 z w M _
 try dsimp only
 refine qgu [(1, .int .i64 x5), (2, .int .i64 x6), (3, .pointer (some ⟨g7, 0, none⟩)), (6, .pointer (some ⟨g8, 0, none⟩)), (7, .int .i64 0), (8, .int .i64 x19), (9, .pointer (some ⟨g22, 0, none⟩)), (36, .int .i64 x19), (37, .bool ((x19 : Int) != 0)), (40, .agg #[.int .i64 0, .slice none 0 0]), (41, .pointer (some ⟨g21, 0, none⟩)), (42, .agg #[.int .i64 x1, .slice a3 x2.length c4]), (43, .int .i64 x5), (44, .int .i64 x6), (45, .func (.func 78) #[] #[.pointer (some ⟨g44, 0, none⟩), .pointer (some ⟨g45, 0, none⟩), .pointer (some ⟨g46, 0, none⟩)]), (46, .int .u64 x59)] (qh rfl (qh rfl (qh rfl (qh rfl (qh rfl (qh rfl (qh rfl (qh rfl (qh rfl (qh rfl (qh rfl (qh rfl (qh rfl (qh rfl (qh rfl (qh rfl qO)))))))))))))))) (qa (qb rfl rfl rfl (qc (qfg (i := 4) rfl (qD (qa (qk (i := 0) rfl rfl tf92 rfl rfl (fun _ => rfl) rfl rfl (qd rfl rfl rfl (q2 ent51 rfl rfl rfl (fun x60 e60 => qaB F g21 x51 x54 a52 c53 x59 x60 e60) (.cons 1 rfl .nil) (.cons 0 rfl .nil) .nil (fun x60 e60 => ?_))))))))))
 rintro ⟨a61, c62⟩
 exact qc (qU (qdP (rc := rc1) rfl (.cons 4 rfl .nil) rfl (a61, c62) (.cons 2 rfl (.cons 1 rfl (.cons 1 rfl (.cons 1 rfl (.cons 0 rfl (.cons 0 rfl .nil)))))) (.cons 0 rfl .nil)))
 rintro ⟨x51, x54⟩ _ ⟨a52, c53⟩ D1
 try dsimp only
 refine qU (qe (qf (qa (qk (i := 4) rfl rfl tf92 rfl rfl (fun _ => rfl) rfl rfl (qS rfl rfl rfl (qj rfl rfl qb9 rfl (qk (i := 5) rfl rfl tf29 rfl rfl (by simp) rfl rfl (qu (i := 6) rfl rfl rfl tf29 rfl rfl rfl rfl rfl (qb rfl rfl rfl (qc (qe (qv ?_))))))))))))
 exact qdO [D1] (a52, c53) (.inl rfl) rfl (.cons 0 rfl .nil) (resL (rs := [.cell 6 29, .tmp 7]) rfl (.cell (i := 5) rfl tf29 rfl rfl (by simp) rfl (.tmp rfl ResOk.nil)) rfl) (fun h => by subst h; rfl) (fun h => by subst h; exact .nil) (fun h => by subst h; exact (.cons 0 rfl .nil))
 intro t; exact t.elim
theorem qfk (F : Nat) (x1 : Int) (x2 : List Int) (a3 : Option Addr) (c4 : Nat) (x5 : Int) (x6 : List Int) (a7 : Option Addr) (c8 : Nat) (r : (Int × List Int × Int)) (hm : qbx F x1 x2 x5 x6 = some r) :
    Pure Tryz.prog 27 [.agg #[.int .i64 x1, .slice a3 x2.length c4], .agg #[.int .i64 x5, .slice a7 x6.length c8]] [Sl (eI .u8) 1 (.slice a3 x2.length c4) x2, Sl (eI .u8) 1 (.slice a7 x6.length c8) x6] (Option Addr × Nat) (fun g => .tuple #[.agg #[.int .i64 r.1, .slice g.1 r.2.1.length g.2], .int .i64 r.2.2]) (fun g => [Ro (eI .u8) 5 1 (.slice g.1 r.2.1.length g.2) r.2.1]) (fun _ => []) := by
 refine qT Tryz.func27 rfl Tryz.ntmps27 rfl hm (fun w => qG (l' := [(0, .agg #[.int .i64 x1, .slice a3 x2.length c4]), (1, .agg #[.int .i64 x5, .slice a7 x6.length c8])]) rfl (qf (qa (qW rfl rfl rfl (fun g9 => qW rfl rfl rfl (fun g10 => qM rfl tf29 rfl (fun g11 => qb rfl rfl rfl (qc (qe (qf (qa (qk (i := 2) rfl rfl tf29 rfl rfl (by simp) rfl rfl ?_))))))))))))
 refine qy ent46 rfl rfl rfl (fun x12 e12 => vg F x1 x2 a3 c4 x12 e12) (.consF 0 rfl .nil) (fun x12 e12 _ => qb rfl rfl rfl (qc (qe (qH (fun ((x15, _) : (Int × Unit)) => [(2, .pointer (some ⟨g9, 0, none⟩)), (3, .pointer (some ⟨g10, 0, none⟩)), (4, .pointer (some ⟨g11, 0, none⟩)), (6, .int .i64 x15)]) (fun ((x15, _) : (Int × Unit)) => [⟨g11, 29, [.int .i64 0, .slice none 0 0]⟩, ⟨g10, 29, [.int .i64 x5, .slice a7 x6.length c8]⟩, ⟨g9, 29, [.int .i64 x1, .slice a3 x2.length c4]⟩]) (fun ((x15, _) : (Int × Unit)) => []) (fun ((x15, _) : (Int × Unit)) => [Sl (eI .u8) 1 (.slice a7 x6.length c8) x6, Sl (eI .u8) 1 (.slice a3 x2.length c4) x2]) (fun ((x15, _) : (Int × Unit)) => jP F x1 x2 x5 x6 x15) ?_ ?_))))
 refine qf (qa (qd rfl rfl rfl (zj rfl rfl rfl rfl (qc (qe (qC rfl (fun h27 => ?_) (fun h27 => ?_)))))))
 refine qa (qk (i := 1) rfl rfl tf29 rfl rfl (by simp) rfl rfl (qy ent46 rfl rfl rfl (fun x26 e26 => vg F x5 x6 a7 c8 x26 e26) (.consF 1 rfl .nil) (fun x26 e26 => ?_)))
 intro _
 exact qb rfl rfl rfl (qc (qn (x26, ()) (hB := (.cons 0 rfl (.cons 0 rfl (.cons 0 rfl .nil)))) (hF := (qo 1 rfl (qo 0 rfl qA)))))
 exact qt (qn (x12, ()) (hB := (.cons 0 rfl (.cons 0 rfl (.cons 0 rfl .nil)))) (hF := (qo 1 rfl (qo 0 rfl qA))))
 rintro ⟨x15, _⟩
 try dsimp only
 refine qH (fun ((x18, _) : (Int × Unit)) => [(2, .pointer (some ⟨g9, 0, none⟩)), (3, .pointer (some ⟨g10, 0, none⟩)), (4, .pointer (some ⟨g11, 0, none⟩)), (6, .int .i64 x18)]) (fun ((x18, _) : (Int × Unit)) => [⟨g11, 29, [.int .i64 0, .slice none 0 0]⟩, ⟨g10, 29, [.int .i64 x5, .slice a7 x6.length c8]⟩, ⟨g9, 29, [.int .i64 x1, .slice a3 x2.length c4]⟩]) (fun ((x18, _) : (Int × Unit)) => []) (fun ((x18, _) : (Int × Unit)) => [Sl (eI .u8) 1 (.slice a7 x6.length c8) x6, Sl (eI .u8) 1 (.slice a3 x2.length c4) x2]) (fun ((x18, _) : (Int × Unit)) => yM F x1 x2 x5 x6 x18) ?_ ?_
 refine qf (qa (qd rfl rfl rfl (zj rfl rfl rfl rfl (qd rfl rfl rfl (q8 7 ((x15 : Int) == 0) [(2, .pointer (some ⟨g9, 0, none⟩)), (3, .pointer (some ⟨g10, 0, none⟩)), (4, .pointer (some ⟨g11, 0, none⟩)), (6, .int .i64 x15), (22, .bool (((x15 : Int) == 0) && (decide (8192 < (iadd .i64 x1 x5)))))] (fun h24 => ?_) (fun h24 => ?_) ?_)))))
 exact qp (os := _) rfl (qR (k := 15) rfl h24 (qj rfl rfl zX rfl (qk (i := 2) rfl rfl tf3 rfl rfl (fun _ => rfl) rfl rfl (qj rfl rfl zX rfl (qk (i := 1) rfl rfl tf3 rfl rfl (fun _ => rfl) rfl rfl (qN rfl rfl rfl rfl (zr rfl rfl rfl rfl (qw (b := true) rfl rfl rfl rfl (qx (d := 22) (v := .bool (((x15 : Int) == 0) && (decide (8192 < (iadd .i64 x1 x5))))) rfl (by rw [h24]; simp only [Bool.true_and]) (qc (qE (qh rfl (qh rfl (qh rfl (qh rfl (qh rfl qO))))))))))))))))
 exact qp (os := _) rfl (qQ (k := 15) rfl h24 (qi rfl rfl rfl (qi rfl rfl rfl (qi rfl rfl rfl (qi rfl rfl rfl (qi rfl rfl rfl (qi rfl rfl rfl (qw (b := false) rfl rfl rfl rfl (qx (d := 22) (v := .bool (((x15 : Int) == 0) && (decide (8192 < (iadd .i64 x1 x5))))) rfl (by rw [h24]; simp only [Bool.false_and]) (qc (qE (qh rfl (qh rfl (qh rfl (qh rfl (qh rfl qO))))))))))))))))
 refine qp (os := _) rfl (qc (qe (qC rfl (fun h25 => ?_) (fun h25 => ?_))))
 exact qa (qb rfl rfl rfl (qc (qn (8, ()) (hB := (.cons 0 rfl (.cons 0 rfl (.cons 0 rfl .nil)))) (hF := (qo 0 rfl (qo 1 rfl qA))))))
 exact qt (qn (x15, ()) (hB := (.cons 0 rfl (.cons 0 rfl (.cons 0 rfl .nil)))) (hF := (qo 0 rfl (qo 1 rfl qA))))
 rintro ⟨x18, _⟩
 try dsimp only
 refine qf (qf (qa (qd rfl rfl rfl (zN rfl rfl rfl rfl (qc (qe (qC rfl (fun h23 => ?_) (fun h23 => ?_))))))))
 exact qf (qa (q6 (cells := [.int .i64 0, .slice none 0 0]) rfl st29 rfl (by kernel_rfl) rfl (qd rfl rfl rfl (qu (i := 0) rfl rfl rfl tf29 rfl rfl rfl rfl rfl (qb rfl rfl rfl (qc (qe (qv (qq (q5 Int (eI .u8) 5 1 (qs (none, 0) (resL (rs := [.cell 4 29, .tmp 5]) rfl (.cell (i := 0) rfl tf29 rfl rfl (by simp) rfl (.tmp rfl ResOk.nil)) rfl) (fun h => by subst h; exact (.cons 0 rfl .nil)))))))))))))
 refine qt (qe (qf (qa (qk (i := 2) rfl rfl tf29 rfl rfl (by simp) rfl rfl (qk (i := 1) rfl rfl tf29 rfl rfl (by simp) rfl rfl (q2 ent53 rfl rfl rfl (fun x20 e20 => qbw F x1 x2 a3 c4 x5 x6 a7 c8 x20 e20) .nil .nil (.consF 1 rfl (.consF 0 rfl .nil)) (fun x20 e20 => ?_)))))))
 rintro ⟨a21, c22⟩
 exact qu (i := 0) rfl rfl rfl tf29 rfl rfl rfl rfl rfl (qb rfl rfl rfl (qc (qe (qv (qs (a21, c22) (resL (rs := [.cell 4 29, .tmp 5]) rfl (.cell (i := 0) rfl tf29 rfl rfl (by simp) rfl (.tmp rfl ResOk.nil)) rfl) (fun h => by subst h; exact (.cons 0 rfl .nil)))))))
theorem qfM (F : Nat) (x1 : Int) (x2 : List Int) (a3 : Option Addr) (c4 : Nat) (x5 : Int) (x6 : Int) (r : (Int × List Int × Int)) (hm : qec F x1 x2 x5 x6 = some r) :
    Pure Tryz.prog 44 [.agg #[.int .i64 x1, .slice a3 x2.length c4], .int .u64 x5, .int .i64 x6] [Sl (eI .u8) 1 (.slice a3 x2.length c4) x2] (Option Addr × Nat) (fun g => .tuple #[.agg #[.int .i64 r.1, .slice g.1 r.2.1.length g.2], .int .i64 r.2.2]) (fun g => [Ro (eI .u8) 5 1 (.slice g.1 r.2.1.length g.2) r.2.1]) (fun _ => []) := by
 refine qT Tryz.func44 rfl Tryz.ntmps44 rfl hm (fun w => qG (l' := [(0, .agg #[.int .i64 x1, .slice a3 x2.length c4]), (1, .int .u64 x5), (2, .int .i64 x6)]) rfl (qf (qa (qW rfl rfl rfl (fun g7 => qM rfl tf29 rfl (fun g8 => qb rfl rfl rfl (qc (qe (qf (qa (qk (i := 1) rfl rfl tf29 rfl rfl (by simp) rfl rfl (qy ent46 rfl rfl rfl (fun x9 e9 => vg F x1 x2 a3 c4 x9 e9) (.consF 0 rfl .nil) (fun x9 e9 => ?_)))))))))))))
 intro _
 refine qb rfl rfl rfl (qc (qe (qH (fun ((x24, _) : (Int × Unit)) => [(1, .int .u64 x5), (2, .int .i64 x6), (3, .pointer (some ⟨g7, 0, none⟩)), (6, .pointer (some ⟨g8, 0, none⟩)), (8, .int .i64 x24)]) (fun ((x24, _) : (Int × Unit)) => [⟨g8, 29, [.int .i64 0, .slice none 0 0]⟩, ⟨g7, 29, [.int .i64 x1, .slice a3 x2.length c4]⟩]) (fun ((x24, _) : (Int × Unit)) => []) (fun ((x24, _) : (Int × Unit)) => [Sl (eI .u8) 1 (.slice a3 x2.length c4) x2]) (fun ((x24, _) : (Int × Unit)) => qab F x1 x2 x5 x6 x24) ?_ ?_)))
 refine qD (qf (qa (qd rfl rfl rfl (zN rfl rfl rfl rfl (qb rfl rfl rfl (qc (qe (qC rfl (fun h43 => ?_) (fun h43 => ?_)))))))))
 exact qt (qU (qn (x9, ()) (hB := (.cons 0 rfl (.cons 0 rfl .nil))) (hF := (qo 0 rfl qA))))
 refine qf (qa (qd rfl rfl rfl (qZ rfl rfl rfl rfl (qd rfl rfl rfl (q8 3 (decide (x6 < 0)) [(1, .int .u64 x5), (2, .int .i64 x6), (3, .pointer (some ⟨g7, 0, none⟩)), (6, .pointer (some ⟨g8, 0, none⟩)), (8, .int .i64 x9), (20, .bool ((decide (x6 < 0)) || (decide (64 < x6))))] (fun h30 => ?_) (fun h30 => ?_) ?_)))))
 exact qp (os := _) rfl (qR (k := 17) rfl h30 (qi rfl rfl rfl (qi rfl rfl rfl (qw (b := true) rfl rfl rfl rfl (qx (d := 20) (v := .bool ((decide (x6 < 0)) || (decide (64 < x6)))) rfl (by rw [h30]; simp only [Bool.true_or]) (qc (qE (qh rfl (qh rfl (qh rfl (qh rfl (qh rfl (qh rfl qO)))))))))))))
 exact qp (os := _) rfl (qQ (k := 17) rfl h30 (qd rfl rfl rfl (zr rfl rfl rfl rfl (qw (b := false) rfl rfl rfl rfl (qx (d := 20) (v := .bool ((decide (x6 < 0)) || (decide (64 < x6)))) rfl (by rw [h30]; simp only [Bool.false_or]) (qc (qE (qh rfl (qh rfl (qh rfl (qh rfl (qh rfl (qh rfl qO)))))))))))))
 refine qp (os := _) rfl (qd rfl rfl rfl (zZ 9 (fun ((x36, _) : (Bool × Unit)) => [(1, .int .u64 x5), (2, .int .i64 x6), (3, .pointer (some ⟨g7, 0, none⟩)), (6, .pointer (some ⟨g8, 0, none⟩)), (8, .int .i64 x9), (30, .bool x36)]) (fun ((x36, _) : (Bool × Unit)) => [⟨g8, 29, [.int .i64 0, .slice none 0 0]⟩, ⟨g7, 29, [.int .i64 x1, .slice a3 x2.length c4]⟩]) (fun ((x36, _) : (Bool × Unit)) => []) (fun ((x36, _) : (Bool × Unit)) => [Sl (eI .u8) 1 (.slice a3 x2.length c4) x2]) (fun ((x36, _) : (Bool × Unit)) => qcB F x1 x2 x5 x6 x9 x36) ?_ ?_))
 refine qp (os := _) rfl (yA (fun h31 => ?_) (fun h31 => ?_))
 exact qR (k := 21) rfl h31 (qi rfl rfl rfl (qi rfl rfl rfl (qi rfl rfl rfl (qi rfl rfl rfl (qi rfl rfl rfl (qi rfl rfl rfl (qi rfl rfl rfl (qi rfl rfl rfl (qw (b := true) rfl rfl rfl rfl (qc (qn (true, ()) (hB := (.cons 0 rfl (.cons 0 rfl .nil))) (hF := (qo 0 rfl qA)))))))))))))
 refine qQ (k := 21) rfl h31 (qd rfl rfl rfl (qZ rfl rfl rfl rfl (qd rfl rfl rfl (zZ 5 (fun ((x41, _) : (Bool × Unit)) => [(1, .int .u64 x5), (2, .int .i64 x6), (3, .pointer (some ⟨g7, 0, none⟩)), (6, .pointer (some ⟨g8, 0, none⟩)), (8, .int .i64 x9), (21, .bool false), (29, .bool x41)]) (fun ((x41, _) : (Bool × Unit)) => [⟨g8, 29, [.int .i64 0, .slice none 0 0]⟩, ⟨g7, 29, [.int .i64 x1, .slice a3 x2.length c4]⟩]) (fun ((x41, _) : (Bool × Unit)) => []) (fun ((x41, _) : (Bool × Unit)) => [Sl (eI .u8) 1 (.slice a3 x2.length c4) x2]) (fun ((x41, _) : (Bool × Unit)) => qcC F x1 x2 x5 x6 x9 x41) ?_ ?_))))
 refine qp (os := _) rfl (yA (fun h39 => ?_) (fun h39 => ?_))
 exact qR (k := 24) rfl h39 (qd rfl rfl rfl (qd rfl rfl rfl (qbu (fun h42 => qbW rfl rfl rfl rfl h42 (zN rfl rfl rfl rfl (qw (b := true) rfl rfl rfl rfl (qc (qn ((((ishr .u64 x5 x6) : Int) != 0), ()) (hB := (.cons 0 rfl (.cons 0 rfl .nil))) (hF := (qo 0 rfl qA))))))))))
 exact qQ (k := 24) rfl h39 (qi rfl rfl rfl (qi rfl rfl rfl (qi rfl rfl rfl (qi rfl rfl rfl (qw (b := false) rfl rfl rfl rfl (qc (qn (false, ()) (hB := (.cons 0 rfl (.cons 0 rfl .nil))) (hF := (qo 0 rfl qA)))))))))
 rintro ⟨x41, _⟩
 try dsimp only
 exact qp (os := _) rfl (qw (b := false) rfl rfl rfl rfl (qc (qn (x41, ()) (hB := (.cons 0 rfl (.cons 0 rfl .nil))) (hF := (qo 0 rfl qA)))))
 rintro ⟨x36, _⟩
 try dsimp only
 refine qp (os := _) rfl (qb rfl rfl rfl (qc (qe (qC rfl (fun h38 => ?_) (fun h38 => ?_)))))
 exact qa (qb rfl rfl rfl (qc (qU (qn (3, ()) (hB := (.cons 0 rfl (.cons 0 rfl .nil))) (hF := (qo 0 rfl qA))))))
 refine qf (qa (qj rfl rfl zX rfl (qk (i := 1) rfl rfl tf3 rfl rfl (fun _ => rfl) rfl rfl (qd rfl rfl rfl (qN rfl rfl rfl rfl (zr rfl rfl rfl rfl (qb rfl rfl rfl (qc (qe (qC rfl (fun h37 => ?_) (fun h37 => ?_)))))))))))
 exact qa (qb rfl rfl rfl (qc (qU (qn (8, ()) (hB := (.cons 0 rfl (.cons 0 rfl .nil))) (hF := (qo 0 rfl qA))))))
 exact qt (qU (qn (x9, ()) (hB := (.cons 0 rfl (.cons 0 rfl .nil))) (hF := (qo 0 rfl qA))))
 rintro ⟨x24, _⟩
 try dsimp only
 refine qf (qf (qa (qd rfl rfl rfl (zN rfl rfl rfl rfl (qc (qe (qC rfl (fun h29 => ?_) (fun h29 => ?_))))))))
 exact qf (qa (q6 (cells := [.int .i64 0, .slice none 0 0]) rfl st29 rfl (by kernel_rfl) rfl (qd rfl rfl rfl (qu (i := 0) rfl rfl rfl tf29 rfl rfl rfl rfl rfl (qb rfl rfl rfl (qc (qe (qv (qq (q5 Int (eI .u8) 5 1 (qs (none, 0) (resL (rs := [.cell 6 29, .tmp 7]) rfl (.cell (i := 0) rfl tf29 rfl rfl (by simp) rfl (.tmp rfl ResOk.nil)) rfl) (fun h => by subst h; exact (.cons 0 rfl .nil)))))))))))))
 refine qt (qe (qf (qa (qk (i := 1) rfl rfl tf29 rfl rfl (by simp) rfl rfl (qd rfl rfl rfl (qd rfl rfl rfl (qy ent67 rfl rfl rfl (fun x26 e26 => qbX F x1 x2 a3 c4 x5 x6 x26 e26) (.consF 0 rfl .nil) (fun x26 e26 => ?_))))))))
 rintro ⟨a27, c28⟩
 exact qu (i := 0) rfl rfl rfl tf29 rfl rfl rfl rfl rfl (qb rfl rfl rfl (qc (qe (qv (qs (a27, c28) (resL (rs := [.cell 6 29, .tmp 7]) rfl (.cell (i := 0) rfl tf29 rfl rfl (by simp) rfl (.tmp rfl ResOk.nil)) rfl) (fun h => by subst h; exact (.cons 0 rfl .nil)))))))
theorem qfL (F : Nat) (x1 : Int) (x2 : List Int) (a3 : Option Addr) (c4 : Nat) (x5 : Int) (x6 : Int) (r : (Int × Int)) (hm : qeb F x1 x2 x5 x6 = some r) :
    Pure Tryz.prog 45 [.agg #[.int .i64 x1, .slice a3 x2.length c4], .int .i64 x5, .int .i64 x6] [Sl (eI .u8) 1 (.slice a3 x2.length c4) x2] Unit (fun _ => .tuple #[.int .u64 r.1, .int .i64 r.2]) (fun _ => []) (fun _ => []) := by
 refine qT Tryz.func45 rfl Tryz.ntmps45 rfl hm (fun w => qG (l' := [(0, .agg #[.int .i64 x1, .slice a3 x2.length c4]), (1, .int .i64 x5), (2, .int .i64 x6)]) rfl (qf (qa (qW rfl rfl rfl (fun g7 => qb rfl rfl rfl (qb rfl rfl rfl (qc (qe (qf (qa (qk (i := 0) rfl rfl tf29 rfl rfl (by simp) rfl rfl (qy ent46 rfl rfl rfl (fun x8 e8 => vg F x1 x2 a3 c4 x8 e8) (.consF 0 rfl .nil) (fun x8 e8 => ?_)))))))))))))
 intro _
 refine qb rfl rfl rfl (qc (qe (qH (fun ((x18, _) : (Int × Unit)) => [(1, .int .i64 x5), (2, .int .i64 x6), (3, .pointer (some ⟨g7, 0, none⟩)), (8, .int .i64 x18)]) (fun ((x18, _) : (Int × Unit)) => [⟨g7, 29, [.int .i64 x1, .slice a3 x2.length c4]⟩]) (fun ((x18, _) : (Int × Unit)) => []) (fun ((x18, _) : (Int × Unit)) => [Sl (eI .u8) 1 (.slice a3 x2.length c4) x2]) (fun ((x18, _) : (Int × Unit)) => qcz F x1 x2 x5 x6 x18) ?_ ?_)))
 refine qf (qa (qd rfl rfl rfl (zj rfl rfl rfl rfl (qd rfl rfl rfl (zZ 17 (fun ((x28, _) : (Bool × Unit)) => [(1, .int .i64 x5), (2, .int .i64 x6), (3, .pointer (some ⟨g7, 0, none⟩)), (8, .int .i64 x8), (32, .bool x28)]) (fun ((x28, _) : (Bool × Unit)) => [⟨g7, 29, [.int .i64 x1, .slice a3 x2.length c4]⟩]) (fun ((x28, _) : (Bool × Unit)) => []) (fun ((x28, _) : (Bool × Unit)) => [Sl (eI .u8) 1 (.slice a3 x2.length c4) x2]) (fun ((x28, _) : (Bool × Unit)) => qcA F x1 x2 x5 x6 x8 x28) ?_ ?_)))))
 refine qp (os := _) rfl (yA (fun h24 => ?_) (fun h24 => ?_))
 refine qR (k := 15) rfl h24 (qd rfl rfl rfl (qZ rfl rfl rfl rfl (qd rfl rfl rfl (q8 3 (decide (x6 < 0)) [(1, .int .i64 x5), (2, .int .i64 x6), (3, .pointer (some ⟨g7, 0, none⟩)), (8, .int .i64 x8), (15, .bool true), (21, .bool ((decide (x6 < 0)) || (decide (64 < x6))))] (fun h30 => ?_) (fun h30 => ?_) ?_))))
 exact qp (os := _) rfl (qR (k := 18) rfl h30 (qi rfl rfl rfl (qi rfl rfl rfl (qw (b := true) rfl rfl rfl rfl (qx (d := 21) (v := .bool ((decide (x6 < 0)) || (decide (64 < x6)))) rfl (by rw [h30]; simp only [Bool.true_or]) (qc (qE (qh rfl (qh rfl (qh rfl (qh rfl (qh rfl (qh rfl qO)))))))))))))
 exact qp (os := _) rfl (qQ (k := 18) rfl h30 (qd rfl rfl rfl (zr rfl rfl rfl rfl (qw (b := false) rfl rfl rfl rfl (qx (d := 21) (v := .bool ((decide (x6 < 0)) || (decide (64 < x6)))) rfl (by rw [h30]; simp only [Bool.false_or]) (qc (qE (qh rfl (qh rfl (qh rfl (qh rfl (qh rfl (qh rfl qO)))))))))))))
 refine qp (os := _) rfl (qd rfl rfl rfl (q8 3 ((decide (x6 < 0)) || (decide (64 < x6))) [(1, .int .i64 x5), (2, .int .i64 x6), (3, .pointer (some ⟨g7, 0, none⟩)), (8, .int .i64 x8), (15, .bool true), (25, .bool (((decide (x6 < 0)) || (decide (64 < x6))) || (decide (x5 < 0))))] (fun h31 => ?_) (fun h31 => ?_) ?_))
 exact qp (os := _) rfl (qR (k := 22) rfl h31 (qi rfl rfl rfl (qi rfl rfl rfl (qw (b := true) rfl rfl rfl rfl (qx (d := 25) (v := .bool (((decide (x6 < 0)) || (decide (64 < x6))) || (decide (x5 < 0)))) rfl (by rw [h31]; simp only [Bool.true_or]) (qc (qE (qh rfl (qh rfl (qh rfl (qh rfl (qh rfl (qh rfl qO)))))))))))))
 exact qp (os := _) rfl (qQ (k := 22) rfl h31 (qd rfl rfl rfl (qZ rfl rfl rfl rfl (qw (b := false) rfl rfl rfl rfl (qx (d := 25) (v := .bool (((decide (x6 < 0)) || (decide (64 < x6))) || (decide (x5 < 0)))) rfl (by rw [h31]; simp only [Bool.false_or]) (qc (qE (qh rfl (qh rfl (qh rfl (qh rfl (qh rfl (qh rfl qO)))))))))))))
 refine qp (os := _) rfl (qd rfl rfl rfl (q8 5 (((decide (x6 < 0)) || (decide (64 < x6))) || (decide (x5 < 0))) [(1, .int .i64 x5), (2, .int .i64 x6), (3, .pointer (some ⟨g7, 0, none⟩)), (8, .int .i64 x8), (15, .bool true), (31, .bool ((((decide (x6 < 0)) || (decide (64 < x6))) || (decide (x5 < 0))) || (decide (x1 < x5))))] (fun h32 => ?_) (fun h32 => ?_) ?_))
 exact qp (os := _) rfl (qR (k := 26) rfl h32 (qi rfl rfl rfl (qi rfl rfl rfl (qi rfl rfl rfl (qi rfl rfl rfl (qw (b := true) rfl rfl rfl rfl (qx (d := 31) (v := .bool ((((decide (x6 < 0)) || (decide (64 < x6))) || (decide (x5 < 0))) || (decide (x1 < x5)))) rfl (by rw [h32]; simp only [Bool.true_or]) (qc (qE (qh rfl (qh rfl (qh rfl (qh rfl (qh rfl (qh rfl qO)))))))))))))))
 exact qp (os := _) rfl (qQ (k := 26) rfl h32 (qd rfl rfl rfl (qj rfl rfl zX rfl (qk (i := 0) rfl rfl tf3 rfl rfl (fun _ => rfl) rfl rfl (zr rfl rfl rfl rfl (qw (b := false) rfl rfl rfl rfl (qx (d := 31) (v := .bool ((((decide (x6 < 0)) || (decide (64 < x6))) || (decide (x5 < 0))) || (decide (x1 < x5)))) rfl (by rw [h32]; simp only [Bool.false_or]) (qc (qE (qh rfl (qh rfl (qh rfl (qh rfl (qh rfl (qh rfl qO)))))))))))))))
 exact qp (os := _) rfl (qw (b := true) rfl rfl rfl rfl (qc (qn (((((decide (x6 < 0)) || (decide (64 < x6))) || (decide (x5 < 0))) || (decide (x1 < x5))), ()) (hB := (.cons 0 rfl .nil)) (hF := (qo 0 rfl qA)))))
 refine qQ (k := 15) rfl h24 (qi rfl rfl rfl (qi rfl rfl rfl (qi rfl rfl rfl (qi rfl rfl rfl (qi rfl rfl rfl (qi rfl rfl rfl (qi rfl rfl rfl (qi rfl rfl rfl (qi rfl rfl rfl (qi rfl rfl rfl (qi rfl rfl rfl (qi rfl rfl rfl ?_))))))))))))
 exact qi rfl rfl rfl (qi rfl rfl rfl (qi rfl rfl rfl (qi rfl rfl rfl (qw (b := false) rfl rfl rfl rfl (qc (qn (false, ()) (hB := (.cons 0 rfl .nil)) (hF := (qo 0 rfl qA))))))))
 rintro ⟨x28, _⟩
 try dsimp only
 refine qp (os := _) rfl (qc (qe (qC rfl (fun h29 => ?_) (fun h29 => ?_))))
 exact qa (qb rfl rfl rfl (qc (qn (3, ()) (hB := (.cons 0 rfl .nil)) (hF := (qo 0 rfl qA)))))
 exact qt (qn (x8, ()) (hB := (.cons 0 rfl .nil)) (hF := (qo 0 rfl qA)))
 rintro ⟨x18, _⟩
 try dsimp only
 refine qf (qf (qa (qd rfl rfl rfl (zN rfl rfl rfl rfl (qc (qe (qC rfl (fun h23 => ?_) (fun h23 => ?_))))))))
 exact qf (qa (qd rfl rfl rfl (qb rfl rfl rfl (qb rfl rfl rfl (qc (qe (qv (qq (qs () (res2 rfl rfl rfl))))))))))
 refine qt (qe (qf (qa (qk (i := 0) rfl rfl tf29 rfl rfl (by simp) rfl rfl (qd rfl rfl rfl (qd rfl rfl rfl (qy ent68 rfl rfl rfl (fun x20 e20 => qcg F x1 x2 a3 c4 x5 x6 x20 e20) (.consF 0 rfl .nil) (fun x20 e20 => ?_))))))))
 intro _
 refine qd rfl rfl rfl (qr rfl rfl rfl rfl (qr rfl rfl rfl rfl (qb rfl rfl rfl (qb rfl rfl rfl (qc (qe (qf (qf (qa (qd rfl rfl rfl (kn rfl rfl rfl (qc ?_))))))))))))
 refine qe (qC rfl (fun h22 => ?_) (fun h22 => ?_))
 exact qf (qa (qb rfl rfl rfl (qb rfl rfl rfl (qc (qe (qv (qq (qs () (res2 rfl rfl rfl)))))))))
 exact qt (qe (qf (qa (qd rfl rfl rfl (qb rfl rfl rfl (qb rfl rfl rfl (qc (qe (qv (qs () (res2 rfl rfl rfl)))))))))))
set_option maxHeartbeats 4000000 in
theorem qgz (F : Nat)  (r : Bool) (hm : qbe F  = some r) :
    Pure Tryz.prog 22 [] [] Unit (fun _ => .bool r) (fun _ => []) (fun _ => []) := by
 refine qT Tryz.func22 rfl Tryz.ntmps22 rfl hm (fun w => qG (l' := []) rfl (qf (qa (qb rfl rfl rfl (qc (qe (qf (qa (q6 (cells := [.int .i64 0, .slice none 0 0]) rfl st29 rfl (by kernel_rfl) rfl (zG Int (eI .u8) 5 1 (qy ent44 rfl rfl rfl (fun x1 e1 => qfM F 0 ([] : List Int) none 0 5 3 x1 e1) (.consR 0 (Ro (eI .u8) 5 1 (.slice none ([] : List Int).length 0) ([] : List Int)) rfl .nil) (fun x1 e1 => ?_))))))))))))
 rintro ⟨a2, c3⟩
 refine qd rfl rfl rfl (qr rfl rfl rfl rfl (qr rfl rfl rfl rfl (qM rfl tf29 rfl (fun g4 => qu (i := 0) rfl rfl rfl tf29 rfl rfl rfl rfl rfl (qb rfl rfl rfl (qc (qe (qf (qa (qk (i := 0) rfl rfl tf29 rfl rfl (by simp) rfl rfl (qy ent44 rfl rfl rfl (fun x5 e5 => qfM F x1.1 x1.2.1 a2 c3 9 7 x5 e5) (.consR 0 (Ro (eI .u8) 5 1 (.slice a2 x1.2.1.length c3) x1.2.1) rfl .nil) (fun x5 e5 => ?_))))))))))))
 rintro ⟨a6, c7⟩
 refine qd rfl rfl rfl (qr rfl rfl rfl rfl (qr rfl rfl rfl rfl (qM rfl tf29 rfl (fun g8 => qu (i := 0) rfl rfl rfl tf29 rfl rfl rfl rfl rfl (qb rfl rfl rfl (qc (qe (qf (qa (qk (i := 0) rfl rfl tf29 rfl rfl (by simp) rfl rfl (qy ent45 rfl rfl rfl (fun x9 e9 => qfL F x5.1 x5.2.1 a6 c7 3 7 x9 e9) (.consR 0 (Ro (eI .u8) 5 1 (.slice a6 x5.2.1.length c7) x5.2.1) rfl .nil) (fun x9 e9 => ?_))))))))))))
 intro _
 refine qd rfl rfl rfl (qr rfl rfl rfl rfl (qr rfl rfl rfl rfl (qb rfl rfl rfl (qb rfl rfl rfl (qc (qe (qf (qa (qk (i := 1) rfl rfl tf29 rfl rfl (by simp) rfl rfl (qk (i := 0) rfl rfl tf29 rfl rfl (by simp) rfl rfl (qy ent27 rfl rfl rfl (fun x10 e10 => qfk F x1.1 x1.2.1 a2 c3 x5.1 x5.2.1 a6 c7 x10 e10) (.consR 1 (Ro (eI .u8) 5 1 (.slice a2 x1.2.1.length c3) x1.2.1) rfl (.consR 0 (Ro (eI .u8) 5 1 (.slice a6 x5.2.1.length c7) x5.2.1) rfl .nil)) (fun x10 e10 => ?_))))))))))))
 rintro ⟨a11, c12⟩
 refine qd rfl rfl rfl (qr rfl rfl rfl rfl (qr rfl rfl rfl rfl (qM rfl tf29 rfl (fun g13 => qu (i := 0) rfl rfl rfl tf29 rfl rfl rfl rfl rfl (qb rfl rfl rfl (qc (qe (qf (qa (qk (i := 1) rfl rfl tf29 rfl rfl (by simp) rfl rfl (q2 ent25 rfl rfl rfl (fun x14 e14 => qiX F x5.1 x5.2.1 a6 c7 0 3 x14 e14) .nil .nil (.consR 1 (Ro (eI .u8) 5 1 (.slice a6 x5.2.1.length c7) x5.2.1) rfl .nil) (fun x14 e14 => ?_))))))))))))
 rintro ⟨a15, c16⟩
 refine qd rfl rfl rfl (qr rfl rfl rfl rfl (qr rfl rfl rfl rfl (qM rfl tf29 rfl (fun g17 => qu (i := 0) rfl rfl rfl tf29 rfl rfl rfl rfl rfl (qb rfl rfl rfl (qc (qe (qf (qa (qk (i := 2) rfl rfl tf29 rfl rfl (by simp) rfl rfl (qy ent45 rfl rfl rfl (fun x18 e18 => qfL F x5.1 x5.2.1 a6 c7 9 2 x18 e18) (.consR 2 (Ro (eI .u8) 5 1 (.slice a6 x5.2.1.length c7) x5.2.1) rfl .nil) (fun x18 e18 => ?_))))))))))))
 intro _
 refine qd rfl rfl rfl (qr rfl rfl rfl rfl (qr rfl rfl rfl rfl (qb rfl rfl rfl (qb rfl rfl rfl (qc (qe (qf (qa (qk (i := 3) rfl rfl tf29 rfl rfl (by simp) rfl rfl (zB (vs := [.int .u8 160]) (ys := ([160] : List Int)) (zd .u8) (by decide) rfl Tryz.underlying27 tf5 rfl rfl rfl rfl rfl (by decide) (fun a19 c20 => q6 (cells := [.int .i64 3, .slice a19 ([160] : List Int).length c20]) rfl st29 rfl (by kernel_rfl) rfl (qy ent26 rfl rfl rfl (fun x21 e21 => qaA F x1.1 x1.2.1 a2 c3 3 ([160] : List Int) a19 c20 x21 e21) (.consR 4 (Ro (eI .u8) 5 1 (.slice a2 x1.2.1.length c3) x1.2.1) rfl (.consR 0 (Ro (eI .u8) 5 1 (.slice a19 ([160] : List Int).length c20) ([160] : List Int)) rfl .nil)) (fun x21 e21 => ?_)))))))))))))
 intro _
 refine qd rfl rfl rfl (q8 3 x21 [(1, .pointer (some ⟨g4, 0, none⟩)), (3, .pointer (some ⟨g8, 0, none⟩)), (4, .int .i64 x5.2.2), (5, .int .u64 x9.1), (6, .int .i64 x9.2), (7, .pointer (some ⟨g13, 0, none⟩)), (8, .int .i64 x10.2.2), (9, .pointer (some ⟨g17, 0, none⟩)), (10, .int .i64 x14.2.2), (12, .int .i64 x18.2), (51, .bool (x21 && ((x1.2.2 : Int) == 0)))] (fun h22 => ?_) (fun h22 => ?_) ?_)
 exact qp (os := _) rfl (qR (k := 48) rfl h22 (qd rfl rfl rfl (zj rfl rfl rfl rfl (qw (b := true) rfl rfl rfl rfl (qx (d := 51) (v := .bool (x21 && ((x1.2.2 : Int) == 0))) rfl (by rw [h22]; simp only [Bool.true_and]) (qc (qE (qh rfl (qh rfl (qh rfl (qh rfl (qh rfl (qh rfl (qh rfl (qh rfl (qh rfl (qh rfl (qh rfl qO))))))))))))))))))
 exact qp (os := _) rfl (qQ (k := 48) rfl h22 (qi rfl rfl rfl (qi rfl rfl rfl (qw (b := false) rfl rfl rfl rfl (qx (d := 51) (v := .bool (x21 && ((x1.2.2 : Int) == 0))) rfl (by rw [h22]; simp only [Bool.false_and]) (qc (qE (qh rfl (qh rfl (qh rfl (qh rfl (qh rfl (qh rfl (qh rfl (qh rfl (qh rfl (qh rfl (qh rfl qO))))))))))))))))))
 refine qp (os := _) rfl (qd rfl rfl rfl (zZ 5 (fun ((x27, _) : (Bool × Unit)) => [(1, .pointer (some ⟨g4, 0, none⟩)), (4, .int .i64 x5.2.2), (5, .int .u64 x9.1), (6, .int .i64 x9.2), (7, .pointer (some ⟨g13, 0, none⟩)), (8, .int .i64 x10.2.2), (9, .pointer (some ⟨g17, 0, none⟩)), (10, .int .i64 x14.2.2), (12, .int .i64 x18.2), (57, .bool x27)]) (fun ((x27, _) : (Bool × Unit)) => [⟨g17, 29, [.int .i64 x14.1, .slice a15 x14.2.1.length c16]⟩, ⟨g13, 29, [.int .i64 x10.1, .slice a11 x10.2.1.length c12]⟩, ⟨g4, 29, [.int .i64 x1.1, .slice a2 x1.2.1.length c3]⟩]) (fun ((x27, _) : (Bool × Unit)) => [Ro (eI .u8) 5 1 (.slice a15 x14.2.1.length c16) x14.2.1, Ro (eI .u8) 5 1 (.slice a11 x10.2.1.length c12) x10.2.1, Ro (eI .u8) 5 1 (.slice a2 x1.2.1.length c3) x1.2.1]) (fun ((x27, _) : (Bool × Unit)) => []) (fun ((x27, _) : (Bool × Unit)) => qa1 F x1 x5 x9 x10 x14 x18 x27) ?_ ?_))
 refine qp (os := _) rfl (yA (fun h23 => ?_) (fun h23 => ?_))
 refine qR (k := 52) rfl h23 (qk (i := 2) rfl rfl tf29 rfl rfl (by simp) rfl rfl (zB (vs := [.int .u8 162, .int .u8 64]) (ys := ([162, 64] : List Int)) (zd .u8) (by decide) rfl Tryz.underlying27 tf5 rfl rfl rfl rfl rfl (by decide) (fun a47 c48 => q6 (cells := [.int .i64 10, .slice a47 ([162, 64] : List Int).length c48]) rfl st29 rfl (by kernel_rfl) rfl (qy ent26 rfl rfl rfl (fun x49 e49 => qaA F x5.1 x5.2.1 a6 c7 10 ([162, 64] : List Int) a47 c48 x49 e49) (.consR 4 (Ro (eI .u8) 5 1 (.slice a6 x5.2.1.length c7) x5.2.1) rfl (.consR 0 (Ro (eI .u8) 5 1 (.slice a47 ([162, 64] : List Int).length c48) ([162, 64] : List Int)) rfl .nil)) (fun x49 e49 => ?_)))))
 intro _
 exact qw (b := true) rfl rfl rfl rfl (qc (qn (x49, ()) (hB := (.cons 0 rfl (.cons 0 rfl (.cons 1 rfl .nil)))) (hR := (.cons 2 rfl (.cons 2 rfl (.cons 3 rfl .nil))))))
 exact qQ (k := 52) rfl h23 (qi rfl rfl rfl (qi rfl rfl rfl (qi rfl rfl rfl (qi rfl rfl rfl (qw (b := false) rfl rfl rfl rfl (qc (qn (false, ()) (hB := (.cons 0 rfl (.cons 0 rfl (.cons 1 rfl .nil)))) (hR := (.cons 1 rfl (.cons 1 rfl (.cons 2 rfl .nil)))))))))))
 rintro ⟨x27, _⟩
 try dsimp only
 refine qp (os := _) rfl (qd rfl rfl rfl (q8 3 x27 [(1, .pointer (some ⟨g4, 0, none⟩)), (5, .int .u64 x9.1), (6, .int .i64 x9.2), (7, .pointer (some ⟨g13, 0, none⟩)), (8, .int .i64 x10.2.2), (9, .pointer (some ⟨g17, 0, none⟩)), (10, .int .i64 x14.2.2), (12, .int .i64 x18.2), (61, .bool (x27 && ((x5.2.2 : Int) == 0)))] (fun h28 => ?_) (fun h28 => ?_) ?_))
 exact qp (os := _) rfl (qR (k := 58) rfl h28 (qd rfl rfl rfl (zj rfl rfl rfl rfl (qw (b := true) rfl rfl rfl rfl (qx (d := 61) (v := .bool (x27 && ((x5.2.2 : Int) == 0))) rfl (by rw [h28]; simp only [Bool.true_and]) (qc (qE (qh rfl (qh rfl (qh rfl (qh rfl (qh rfl (qh rfl (qh rfl (qh rfl (qh rfl qO))))))))))))))))
 exact qp (os := _) rfl (qQ (k := 58) rfl h28 (qi rfl rfl rfl (qi rfl rfl rfl (qw (b := false) rfl rfl rfl rfl (qx (d := 61) (v := .bool (x27 && ((x5.2.2 : Int) == 0))) rfl (by rw [h28]; simp only [Bool.false_and]) (qc (qE (qh rfl (qh rfl (qh rfl (qh rfl (qh rfl (qh rfl (qh rfl (qh rfl (qh rfl qO))))))))))))))))
 refine qp (os := _) rfl (qd rfl rfl rfl (q8 3 (x27 && ((x5.2.2 : Int) == 0)) [(1, .pointer (some ⟨g4, 0, none⟩)), (6, .int .i64 x9.2), (7, .pointer (some ⟨g13, 0, none⟩)), (8, .int .i64 x10.2.2), (9, .pointer (some ⟨g17, 0, none⟩)), (10, .int .i64 x14.2.2), (12, .int .i64 x18.2), (65, .bool ((x27 && ((x5.2.2 : Int) == 0)) && ((x9.1 : Int) == 9)))] (fun h29 => ?_) (fun h29 => ?_) ?_))
 exact qp (os := _) rfl (qR (k := 62) rfl h29 (qd rfl rfl rfl (zj rfl rfl rfl rfl (qw (b := true) rfl rfl rfl rfl (qx (d := 65) (v := .bool ((x27 && ((x5.2.2 : Int) == 0)) && ((x9.1 : Int) == 9))) rfl (by rw [h29]; simp only [Bool.true_and]) (qc (qE (qh rfl (qh rfl (qh rfl (qh rfl (qh rfl (qh rfl (qh rfl (qh rfl qO)))))))))))))))
 exact qp (os := _) rfl (qQ (k := 62) rfl h29 (qi rfl rfl rfl (qi rfl rfl rfl (qw (b := false) rfl rfl rfl rfl (qx (d := 65) (v := .bool ((x27 && ((x5.2.2 : Int) == 0)) && ((x9.1 : Int) == 9))) rfl (by rw [h29]; simp only [Bool.false_and]) (qc (qE (qh rfl (qh rfl (qh rfl (qh rfl (qh rfl (qh rfl (qh rfl (qh rfl qO)))))))))))))))
 refine qp (os := _) rfl (qd rfl rfl rfl (q8 3 ((x27 && ((x5.2.2 : Int) == 0)) && ((x9.1 : Int) == 9)) [(1, .pointer (some ⟨g4, 0, none⟩)), (7, .pointer (some ⟨g13, 0, none⟩)), (8, .int .i64 x10.2.2), (9, .pointer (some ⟨g17, 0, none⟩)), (10, .int .i64 x14.2.2), (12, .int .i64 x18.2), (69, .bool (((x27 && ((x5.2.2 : Int) == 0)) && ((x9.1 : Int) == 9)) && ((x9.2 : Int) == 0)))] (fun h30 => ?_) (fun h30 => ?_) ?_))
 exact qp (os := _) rfl (qR (k := 66) rfl h30 (qd rfl rfl rfl (zj rfl rfl rfl rfl (qw (b := true) rfl rfl rfl rfl (qx (d := 69) (v := .bool (((x27 && ((x5.2.2 : Int) == 0)) && ((x9.1 : Int) == 9)) && ((x9.2 : Int) == 0))) rfl (by rw [h30]; simp only [Bool.true_and]) (qc (qE (qh rfl (qh rfl (qh rfl (qh rfl (qh rfl (qh rfl (qh rfl qO))))))))))))))
 exact qp (os := _) rfl (qQ (k := 66) rfl h30 (qi rfl rfl rfl (qi rfl rfl rfl (qw (b := false) rfl rfl rfl rfl (qx (d := 69) (v := .bool (((x27 && ((x5.2.2 : Int) == 0)) && ((x9.1 : Int) == 9)) && ((x9.2 : Int) == 0))) rfl (by rw [h30]; simp only [Bool.false_and]) (qc (qE (qh rfl (qh rfl (qh rfl (qh rfl (qh rfl (qh rfl (qh rfl qO))))))))))))))
 refine qp (os := _) rfl (qd rfl rfl rfl (q8 4 (((x27 && ((x5.2.2 : Int) == 0)) && ((x9.1 : Int) == 9)) && ((x9.2 : Int) == 0)) [(1, .pointer (some ⟨g4, 0, none⟩)), (8, .int .i64 x10.2.2), (9, .pointer (some ⟨g17, 0, none⟩)), (10, .int .i64 x14.2.2), (12, .int .i64 x18.2), (74, .bool ((((x27 && ((x5.2.2 : Int) == 0)) && ((x9.1 : Int) == 9)) && ((x9.2 : Int) == 0)) && ((x10.1 : Int) == 13)))] (fun h31 => ?_) (fun h31 => ?_) ?_))
 exact qp (os := _) rfl (qR (k := 70) rfl h31 (qj rfl rfl zX rfl (qk (i := 1) rfl rfl tf3 rfl rfl (fun _ => rfl) rfl rfl (zj rfl rfl rfl rfl (qw (b := true) rfl rfl rfl rfl (qx (d := 74) (v := .bool ((((x27 && ((x5.2.2 : Int) == 0)) && ((x9.1 : Int) == 9)) && ((x9.2 : Int) == 0)) && ((x10.1 : Int) == 13))) rfl (by rw [h31]; simp only [Bool.true_and]) (qc (qE (qh rfl (qh rfl (qh rfl (qh rfl (qh rfl (qh rfl qO))))))))))))))
 exact qp (os := _) rfl (qQ (k := 70) rfl h31 (qi rfl rfl rfl (qi rfl rfl rfl (qi rfl rfl rfl (qw (b := false) rfl rfl rfl rfl (qx (d := 74) (v := .bool ((((x27 && ((x5.2.2 : Int) == 0)) && ((x9.1 : Int) == 9)) && ((x9.2 : Int) == 0)) && ((x10.1 : Int) == 13))) rfl (by rw [h31]; simp only [Bool.false_and]) (qc (qE (qh rfl (qh rfl (qh rfl (qh rfl (qh rfl (qh rfl qO))))))))))))))
 refine qp (os := _) rfl (qd rfl rfl rfl (q8 3 ((((x27 && ((x5.2.2 : Int) == 0)) && ((x9.1 : Int) == 9)) && ((x9.2 : Int) == 0)) && ((x10.1 : Int) == 13)) [(1, .pointer (some ⟨g4, 0, none⟩)), (9, .pointer (some ⟨g17, 0, none⟩)), (10, .int .i64 x14.2.2), (12, .int .i64 x18.2), (78, .bool (((((x27 && ((x5.2.2 : Int) == 0)) && ((x9.1 : Int) == 9)) && ((x9.2 : Int) == 0)) && ((x10.1 : Int) == 13)) && ((x10.2.2 : Int) == 0)))] (fun h32 => ?_) (fun h32 => ?_) ?_))
 exact qp (os := _) rfl (qR (k := 75) rfl h32 (qd rfl rfl rfl (zj rfl rfl rfl rfl (qw (b := true) rfl rfl rfl rfl (qx (d := 78) (v := .bool (((((x27 && ((x5.2.2 : Int) == 0)) && ((x9.1 : Int) == 9)) && ((x9.2 : Int) == 0)) && ((x10.1 : Int) == 13)) && ((x10.2.2 : Int) == 0))) rfl (by rw [h32]; simp only [Bool.true_and]) (qc (qE (qh rfl (qh rfl (qh rfl (qh rfl (qh rfl qO))))))))))))
 exact qp (os := _) rfl (qQ (k := 75) rfl h32 (qi rfl rfl rfl (qi rfl rfl rfl (qw (b := false) rfl rfl rfl rfl (qx (d := 78) (v := .bool (((((x27 && ((x5.2.2 : Int) == 0)) && ((x9.1 : Int) == 9)) && ((x9.2 : Int) == 0)) && ((x10.1 : Int) == 13)) && ((x10.2.2 : Int) == 0))) rfl (by rw [h32]; simp only [Bool.false_and]) (qc (qE (qh rfl (qh rfl (qh rfl (qh rfl (qh rfl qO))))))))))))
 refine qp (os := _) rfl (qd rfl rfl rfl (zZ 4 (fun ((x35, _) : (Bool × Unit)) => [(10, .int .i64 x14.2.2), (12, .int .i64 x18.2), (83, .bool x35)]) (fun ((x35, _) : (Bool × Unit)) => []) (fun ((x35, _) : (Bool × Unit)) => []) (fun ((x35, _) : (Bool × Unit)) => []) (fun ((x35, _) : (Bool × Unit)) => qa2 F x14 x18 x35) ?_ ?_))
 refine qp (os := _) rfl (yA (fun h33 => ?_) (fun h33 => ?_))
 refine qR (k := 79) rfl h33 (qk (i := 0) rfl rfl tf29 rfl rfl (by simp) rfl rfl (qk (i := 2) rfl rfl tf29 rfl rfl (by simp) rfl rfl (qy ent26 rfl rfl rfl (fun x46 e46 => qaA F x14.1 x14.2.1 a15 c16 x1.1 x1.2.1 a2 c3 x46 e46) (.consR 0 (Ro (eI .u8) 5 1 (.slice a15 x14.2.1.length c16) x14.2.1) rfl (.consR 2 (Ro (eI .u8) 5 1 (.slice a2 x1.2.1.length c3) x1.2.1) rfl .nil)) (fun x46 e46 => ?_))))
 intro _
 exact qw (b := true) rfl rfl rfl rfl (qc (qn (x46, ())))
 exact qQ (k := 79) rfl h33 (qi rfl rfl rfl (qi rfl rfl rfl (qi rfl rfl rfl (qw (b := false) rfl rfl rfl rfl (qc (qn (false, ())))))))
 rintro ⟨x35, _⟩
 try dsimp only
 refine qp (os := _) rfl (qd rfl rfl rfl (q8 3 x35 [(12, .int .i64 x18.2), (87, .bool (x35 && ((x14.2.2 : Int) == 0)))] (fun h36 => ?_) (fun h36 => ?_) ?_))
 exact qp (os := _) rfl (qR (k := 84) rfl h36 (qd rfl rfl rfl (zj rfl rfl rfl rfl (qw (b := true) rfl rfl rfl rfl (qx (d := 87) (v := .bool (x35 && ((x14.2.2 : Int) == 0))) rfl (by rw [h36]; simp only [Bool.true_and]) (qc (qE (qh rfl (qh rfl qO)))))))))
 exact qp (os := _) rfl (qQ (k := 84) rfl h36 (qi rfl rfl rfl (qi rfl rfl rfl (qw (b := false) rfl rfl rfl rfl (qx (d := 87) (v := .bool (x35 && ((x14.2.2 : Int) == 0))) rfl (by rw [h36]; simp only [Bool.false_and]) (qc (qE (qh rfl (qh rfl qO)))))))))
 refine qp (os := _) rfl (qd rfl rfl rfl (q8 3 (x35 && ((x14.2.2 : Int) == 0)) [(91, .bool ((x35 && ((x14.2.2 : Int) == 0)) && ((x18.2 : Int) == 7)))] (fun h37 => ?_) (fun h37 => ?_) ?_))
 exact qp (os := _) rfl (qR (k := 88) rfl h37 (qd rfl rfl rfl (zj rfl rfl rfl rfl (qw (b := true) rfl rfl rfl rfl (qx (d := 91) (v := .bool ((x35 && ((x14.2.2 : Int) == 0)) && ((x18.2 : Int) == 7))) rfl (by rw [h37]; simp only [Bool.true_and]) (qc (qE (qh rfl qO))))))))
 exact qp (os := _) rfl (qQ (k := 88) rfl h37 (qi rfl rfl rfl (qi rfl rfl rfl (qw (b := false) rfl rfl rfl rfl (qx (d := 91) (v := .bool ((x35 && ((x14.2.2 : Int) == 0)) && ((x18.2 : Int) == 7))) rfl (by rw [h37]; simp only [Bool.false_and]) (qc (qE (qh rfl qO))))))))
 refine qp (os := _) rfl (qd rfl rfl rfl (zZ 5 (fun ((x42, _) : (Bool × Unit)) => [(97, .bool x42)]) (fun ((x42, _) : (Bool × Unit)) => []) (fun ((x42, _) : (Bool × Unit)) => []) (fun ((x42, _) : (Bool × Unit)) => []) (fun ((x42, _) : (Bool × Unit)) => qa3 F x42) ?_ ?_))
 refine qp (os := _) rfl (yA (fun h38 => ?_) (fun h38 => ?_))
 refine qR (k := 92) rfl h38 (zB (vs := [.int .u8 1]) (ys := ([1] : List Int)) (zd .u8) (by decide) rfl Tryz.underlying27 tf5 rfl rfl rfl rfl rfl (by decide) (fun a43 c44 => q6 (cells := [.int .i64 3, .slice a43 ([1] : List Int).length c44]) rfl st29 rfl (by kernel_rfl) rfl (qy ent46 rfl rfl rfl (fun x45 e45 => vg F 3 ([1] : List Int) a43 c44 x45 e45) (.consR 0 (Ro (eI .u8) 5 1 (.slice a43 ([1] : List Int).length c44) ([1] : List Int)) rfl .nil) (fun x45 e45 => ?_))))
 intro _
 exact zj rfl rfl rfl rfl (qw (b := true) rfl rfl rfl rfl (qc (qn (((x45 : Int) == 1), ()))))
 exact qQ (k := 92) rfl h38 (qi rfl rfl rfl (qi rfl rfl rfl (qi rfl rfl rfl (qi rfl rfl rfl (qw (b := false) rfl rfl rfl rfl (qc (qn (false, ()))))))))
 rintro ⟨x42, _⟩
 try dsimp only
 exact qp (os := _) rfl (qb rfl rfl rfl (qc (qe (qv (qs () (res1 rfl rfl))))))
set_option maxHeartbeats 4000000 in
theorem qfy (F : Nat) (x1 : List (List Int)) (a2 : Option Addr) (c3 : (Nat × List (Option Addr × Nat))) (x4 : Int) (x5 : Int) (x6 : Int) (r : Bool) (hm : qbI F x1 x4 x5 x6 = some r) :
    Pure Tryz.prog 8 [.agg #[.slice a2 x1.length c3.1], .agg #[.int .i64 x4, .int .i64 x5, .int .i64 x6]] [SlN eN37 iN37 1 (.slice a2 x1.length c3.1) x1 c3.2] Unit (fun _ => .bool r) (fun _ => []) (fun _ => []) := by
  refine qT Tryz.func8 rfl Tryz.ntmps8 rfl hm (fun w => ?_)
  refine qG (l' := [(0, .agg #[.slice a2 x1.length c3.1]), (1, .agg #[.int .i64 x4, .int .i64 x5, .int .i64 x6])]) rfl ?_
  refine qf ?_
  refine qa ?_
  refine qW rfl rfl rfl (fun g7 => ?_)
  refine qW rfl rfl rfl (fun g8 => ?_)
  refine qb rfl rfl rfl ?_
  refine qc ?_
  refine qe ?_
  refine qf ?_
  refine qa ?_
  refine qk (i := 1) rfl rfl tf24 rfl rfl (by simp) rfl rfl ?_
  refine qk (i := 0) rfl rfl tf26 rfl rfl (by simp) rfl rfl ?_
  refine qy ent11 rfl rfl rfl (fun x9 e9 => qfn F x1 a2 c3 x4 x5 x6 x9 e9) (.consF 0 rfl .nil) (fun x9 e9 => ?_)
  rintro ⟨⟨a10, c11⟩, ⟨a12, c13⟩⟩
  refine qd rfl rfl rfl ?_
  refine qr rfl rfl rfl rfl ?_
  refine qr rfl rfl rfl rfl ?_
  refine qr rfl rfl rfl rfl ?_
  refine qb rfl rfl rfl ?_
  refine qb rfl rfl rfl ?_
  refine qb rfl rfl rfl ?_
  refine qc ?_
  refine qe ?_
  refine qf ?_
  refine qf ?_
  refine qa ?_
  refine qy ent15 rfl rfl rfl (fun x24 e24 => qgA F  x24 e24) .nil (fun x24 e24 => ?_)
  intro _
  refine kn rfl rfl rfl ?_
  refine qd rfl rfl rfl ?_
  refine zZ 3 (fun ((x27, _) : (Bool × Unit)) => [(2, .pointer (some ⟨g7, 0, none⟩)), (3, .pointer (some ⟨g8, 0, none⟩)), (5, .slice a10 x9.1.length c11), (7, .int .i64 x9.2.2), (28, .bool x27)]) (fun ((x27, _) : (Bool × Unit)) => [⟨g8, 26, [.int .i64 x4, .int .i64 x5, .int .i64 x6]⟩, ⟨g7, 24, [.slice a2 x1.length c3.1]⟩]) (fun ((x27, _) : (Bool × Unit)) => [Ro (eI .i64) 3 1 (.slice a10 x9.1.length c11) x9.1]) (fun ((x27, _) : (Bool × Unit)) => [SlN eN37 iN37 1 (.slice a2 x1.length c3.1) x1 c3.2]) (fun ((x27, _) : (Bool × Unit)) => vP F x1 x5 x6 x9 x27) ?_ ?_
  · refine qp (os := _) rfl ?_
    refine yA (fun h25 => ?_) (fun h25 => ?_)
    · refine qR (k := 25) rfl h25 ?_
      refine qi rfl rfl rfl ?_
      refine qi rfl rfl rfl ?_
      refine qw (b := true) rfl rfl rfl rfl ?_
      refine qc ?_
      exact qn (true, ()) (hB := (.cons 0 rfl (.cons 0 rfl .nil))) (hR := (.cons 0 rfl .nil)) (hF := (qo 0 rfl qA))
    · refine qQ (k := 25) rfl h25 ?_
      refine qy ent21 rfl rfl rfl (fun x571 e571 => qgB F  x571 e571) .nil (fun x571 e571 => ?_)
      intro _
      refine kn rfl rfl rfl ?_
      refine qw (b := false) rfl rfl rfl rfl ?_
      refine qc ?_
      exact qn ((!x571), ()) (hB := (.cons 0 rfl (.cons 0 rfl .nil))) (hR := (.cons 0 rfl .nil)) (hF := (qo 0 rfl qA))
  · rintro ⟨x27, _⟩
    try dsimp only
    refine qp (os := _) rfl ?_
    refine qd rfl rfl rfl ?_
    refine zZ 3 (fun ((x30, _) : (Bool × Unit)) => [(2, .pointer (some ⟨g7, 0, none⟩)), (3, .pointer (some ⟨g8, 0, none⟩)), (5, .slice a10 x9.1.length c11), (7, .int .i64 x9.2.2), (32, .bool x30)]) (fun ((x30, _) : (Bool × Unit)) => [⟨g8, 26, [.int .i64 x4, .int .i64 x5, .int .i64 x6]⟩, ⟨g7, 24, [.slice a2 x1.length c3.1]⟩]) (fun ((x30, _) : (Bool × Unit)) => [Ro (eI .i64) 3 1 (.slice a10 x9.1.length c11) x9.1]) (fun ((x30, _) : (Bool × Unit)) => [SlN eN37 iN37 1 (.slice a2 x1.length c3.1) x1 c3.2]) (fun ((x30, _) : (Bool × Unit)) => vQ F x1 x5 x6 x9 x30) ?_ ?_
    · refine qp (os := _) rfl ?_
      refine yA (fun h28 => ?_) (fun h28 => ?_)
      · refine qR (k := 29) rfl h28 ?_
        refine qi rfl rfl rfl ?_
        refine qi rfl rfl rfl ?_
        refine qw (b := true) rfl rfl rfl rfl ?_
        refine qc ?_
        exact qn (true, ()) (hB := (.cons 0 rfl (.cons 0 rfl .nil))) (hR := (.cons 0 rfl .nil)) (hF := (qo 0 rfl qA))
      · refine qQ (k := 29) rfl h28 ?_
        refine qy ent22 rfl rfl rfl (fun x570 e570 => qgz F  x570 e570) .nil (fun x570 e570 => ?_)
        intro _
        refine kn rfl rfl rfl ?_
        refine qw (b := false) rfl rfl rfl rfl ?_
        refine qc ?_
        exact qn ((!x570), ()) (hB := (.cons 0 rfl (.cons 0 rfl .nil))) (hR := (.cons 0 rfl .nil)) (hF := (qo 0 rfl qA))
    · rintro ⟨x30, _⟩
      try dsimp only
      refine qp (os := _) rfl ?_
      refine qc ?_
      refine qe ?_
      refine qC rfl (fun h569 => ?_) (fun h569 => ?_)
      · refine qf ?_
        refine qa ?_
        refine qb rfl rfl rfl ?_
        refine qc ?_
        refine qe ?_
        refine qv ?_
        refine qq ?_
        exact qs () (res1 rfl rfl)
      · refine qt ?_
        refine qe ?_
        refine qf ?_
        refine qf ?_
        refine qa ?_
        refine qd rfl rfl rfl ?_
        refine zN rfl rfl rfl rfl ?_
        refine qc ?_
        refine qe ?_
        refine qC rfl (fun h568 => ?_) (fun h568 => ?_)
        · refine qf ?_
          refine qa ?_
          refine qd rfl rfl rfl ?_
          refine q3 rfl Tryz.underlying37 rfl rfl ?_
          refine zj rfl rfl rfl rfl ?_
          refine qb rfl rfl rfl ?_
          refine qc ?_
          refine qe ?_
          refine qv ?_
          refine qq ?_
          exact qs () (res1 rfl rfl)
        · refine qt ?_
          refine qe ?_
          refine qf ?_
          refine qf ?_
          refine qa ?_
          refine qd rfl rfl rfl ?_
          refine q3 rfl Tryz.underlying37 rfl rfl ?_
          refine zr rfl rfl rfl rfl ?_
          refine qd rfl rfl rfl ?_
          refine zZ 5 (fun ((x45, _) : (Bool × Unit)) => [(2, .pointer (some ⟨g7, 0, none⟩)), (3, .pointer (some ⟨g8, 0, none⟩)), (46, .bool x45)]) (fun ((x45, _) : (Bool × Unit)) => [⟨g8, 26, [.int .i64 x4, .int .i64 x5, .int .i64 x6]⟩, ⟨g7, 24, [.slice a2 x1.length c3.1]⟩]) (fun ((x45, _) : (Bool × Unit)) => []) (fun ((x45, _) : (Bool × Unit)) => [SlN eN37 iN37 1 (.slice a2 x1.length c3.1) x1 c3.2]) (fun ((x45, _) : (Bool × Unit)) => yL F x1 x5 x6 x45) ?_ ?_
          · refine qp (os := _) rfl ?_
            refine yA (fun h41 => ?_) (fun h41 => ?_)
            · refine qR (k := 41) rfl h41 ?_
              refine qd rfl rfl rfl ?_
              refine jX (j := 0) rfl Tryz.underlying37 tf3 rfl rfl rfl rfl (fun x565 e565 g566 h567 => ?_)
              refine qdL (j := 0) (y := x565) (zd .i64) rfl rfl tf3 rfl h567 (ke e565).2.2 (fun _ => rfl) rfl rfl ?_
              refine zN rfl rfl rfl rfl ?_
              refine qw (b := true) rfl rfl rfl rfl ?_
              refine qc ?_
              exact qn (((x565 : Int) != 0), ()) (hB := (.cons 0 rfl (.cons 0 rfl .nil))) (hF := (qo 0 rfl qA))
            · refine qQ (k := 41) rfl h41 ?_
              refine qi rfl rfl rfl ?_
              refine qi rfl rfl rfl ?_
              refine qi rfl rfl rfl ?_
              refine qi rfl rfl rfl ?_
              refine qw (b := false) rfl rfl rfl rfl ?_
              refine qc ?_
              exact qn (false, ()) (hB := (.cons 0 rfl (.cons 0 rfl .nil))) (hF := (qo 0 rfl qA))
          · rintro ⟨x45, _⟩
            try dsimp only
            refine qp (os := _) rfl ?_
            refine qc ?_
            refine qe ?_
            refine qC rfl (fun h564 => ?_) (fun h564 => ?_)
            · refine qf ?_
              refine qa ?_
              refine qb rfl rfl rfl ?_
              refine qc ?_
              refine qe ?_
              refine qv ?_
              refine qq ?_
              exact qs () (res1 rfl rfl)
            · refine qt ?_
              refine qe ?_
              refine qf ?_
              refine qa ?_
              refine qj rfl rfl qa7 rfl ?_
              refine qu (i := 0) rfl rfl rfl tf3 rfl rfl rfl rfl rfl ?_
              refine qc ?_
              refine qe ?_
              refine qf ?_
              refine qa ?_
              refine qk (i := 1) rfl rfl tf24 rfl rfl (by simp) rfl rfl ?_
              refine qk (i := 0) rfl rfl tf26 rfl rfl (by simp) rfl rfl ?_
              refine qy ent9 rfl rfl rfl (fun x46 e46 => qaE F x1 a2 c3 0 x5 x6 x46 e46) (.consF 0 rfl .nil) (fun x46 e46 => ?_)
              rintro ⟨a47, c48⟩
              refine qd rfl rfl rfl ?_
              refine qr rfl rfl rfl rfl ?_
              refine qr rfl rfl rfl rfl ?_
              refine qM rfl tf31 rfl (fun g49 => ?_)
              refine qu (i := 0) rfl rfl rfl tf31 rfl rfl rfl rfl rfl ?_
              refine qb rfl rfl rfl ?_
              refine qc ?_
              refine qe ?_
              refine qf ?_
              refine qf ?_
              refine qa ?_
              refine qd rfl rfl rfl ?_
              refine zN rfl rfl rfl rfl ?_
              refine qc ?_
              refine qe ?_
              refine qC rfl (fun h563 => ?_) (fun h563 => ?_)
              · refine qf ?_
                refine qa ?_
                refine qd rfl rfl rfl ?_
                refine zj rfl rfl rfl rfl ?_
                refine qb rfl rfl rfl ?_
                refine qc ?_
                refine qe ?_
                refine qv ?_
                refine qq ?_
                exact qs () (res1 rfl rfl)
              · refine qt ?_
                refine qe ?_
                refine qf ?_
                refine qa ?_
                refine q6 (cells := [.int .i64 0, .slice none 0 0]) rfl st29 rfl (by kernel_rfl) rfl ?_
                refine qM rfl tf29 rfl (fun g51 => ?_)
                refine qu (i := 0) rfl rfl rfl tf29 rfl rfl rfl rfl rfl ?_
                refine qc ?_
                refine qe ?_
                refine qH (fun (((x305, x308), (a306, c307)) : ((Int × List Int) × (Option Addr × Nat))) => [(8, .pointer (some ⟨g49, 0, none⟩)), (10, .pointer (some ⟨g51, 0, none⟩))]) (fun (((x305, x308), (a306, c307)) : ((Int × List Int) × (Option Addr × Nat))) => [⟨g51, 29, [.int .i64 x305, .slice a306 x308.length c307]⟩, ⟨g49, 31, [.int .i64 x46.1, .int .i64 x46.2.1, .int .i64 x46.2.2.1, .int .i64 x46.2.2.2.1, .int .i64 x46.2.2.2.2.1, .slice a47 x46.2.2.2.2.2.1.length c48]⟩]) (fun (((x305, x308), (a306, c307)) : ((Int × List Int) × (Option Addr × Nat))) => [Ro (eI .u8) 5 1 (.slice a306 x308.length c307) x308, Ro (eI .u8) 5 1 (.slice a47 x46.2.2.2.2.2.1.length c48) x46.2.2.2.2.2.1]) (fun (((x305, x308), (a306, c307)) : ((Int × List Int) × (Option Addr × Nat))) => []) (fun (((x305, x308), _) : ((Int × List Int) × (Option Addr × Nat))) => j9 F x46 x305 x308) ?_ ?_
                · refine qf ?_
                  refine qa ?_
                  refine qb rfl rfl rfl ?_
                  refine qc ?_
                  refine qe ?_
                  refine qD ?_
                  refine yR Int (eI .u8) 5 1 ?_
                  refine zi (fun (((x393, x394, x397), (a395, c396)) : ((Int × Int × List Int) × (Option Addr × Nat))) => [(2, .pointer (some ⟨g7, 0, none⟩)), (3, .pointer (some ⟨g8, 0, none⟩)), (8, .pointer (some ⟨g49, 0, none⟩)), (10, .pointer (some ⟨g51, 0, none⟩)), (11, .int .i64 x393)]) (fun (((x393, x394, x397), (a395, c396)) : ((Int × Int × List Int) × (Option Addr × Nat))) => [⟨g51, 29, [.int .i64 x394, .slice a395 x397.length c396]⟩, ⟨g49, 31, [.int .i64 x46.1, .int .i64 x46.2.1, .int .i64 x46.2.2.1, .int .i64 x46.2.2.2.1, .int .i64 x46.2.2.2.2.1, .slice a47 x46.2.2.2.2.2.1.length c48]⟩, ⟨g8, 26, [.int .i64 0, .int .i64 x5, .int .i64 x6]⟩, ⟨g7, 24, [.slice a2 x1.length c3.1]⟩]) (fun (((x393, x394, x397), (a395, c396)) : ((Int × Int × List Int) × (Option Addr × Nat))) => [Ro (eI .u8) 5 1 (.slice a395 x397.length c396) x397, Ro (eI .u8) 5 1 (.slice a47 x46.2.2.2.2.2.1.length c48) x46.2.2.2.2.2.1]) (fun (((x393, x394, x397), (a395, c396)) : ((Int × Int × List Int) × (Option Addr × Nat))) => [SlN eN37 iN37 1 (.slice a2 x1.length c3.1) x1 c3.2]) (fun k (s : ((Int × Int × List Int) × (Option Addr × Nat))) => kg F x1 x5 x6 x46 k s.1) ((0, 0, ([] : List Int)), (none, 0)) F ?_ (hB := (.cons 0 rfl (.cons 0 rfl (.cons 0 rfl (.cons 0 rfl .nil))))) (hR := (.cons 0 rfl (.cons 0 rfl .nil))) (hF := (qo 0 rfl qA))
                  intro k480
                  rintro ⟨⟨x393, x394, x397⟩, ⟨a395, c396⟩⟩
                  try dsimp only
                  refine zF (m' := vx F x1 x5 x6 x46 (kg F x1 x5 x6 x46 k480) x393 x394 x397) rfl ?_
                  refine qf ?_
                  refine qf ?_
                  refine qa ?_
                  refine qd rfl rfl rfl ?_
                  refine qj rfl rfl qc0 rfl ?_
                  refine qk (i := 3) rfl rfl tf22 rfl rfl (fun _ => rfl) rfl rfl ?_
                  refine q3 rfl Tryz.underlying22 rfl rfl ?_
                  refine qZ rfl rfl rfl rfl ?_
                  refine qc ?_
                  refine qe ?_
                  refine qC rfl (fun h562 => ?_) (fun h562 => ?_)
                  · refine qt ?_
                    refine qe ?_
                    refine qf ?_
                    refine qD ?_
                    refine qH (fun (((x536, x537, x540), (g535, a538, c539)) : ((Int × Int × List Int) × (Nat × Option Addr × Nat))) => [(2, .pointer (some ⟨g7, 0, none⟩)), (3, .pointer (some ⟨g8, 0, none⟩)), (8, .pointer (some ⟨g49, 0, none⟩)), (10, .pointer (some ⟨g51, 0, none⟩)), (11, .int .i64 x393), (12, .pointer (some ⟨g535, 0, none⟩)), (13, .int .i64 x536)]) (fun (((x536, x537, x540), (g535, a538, c539)) : ((Int × Int × List Int) × (Nat × Option Addr × Nat))) => [⟨g51, 29, [.int .i64 x394, .slice a395 x397.length c396]⟩, ⟨g49, 31, [.int .i64 x46.1, .int .i64 x46.2.1, .int .i64 x46.2.2.1, .int .i64 x46.2.2.2.1, .int .i64 x46.2.2.2.2.1, .slice a47 x46.2.2.2.2.2.1.length c48]⟩, ⟨g8, 26, [.int .i64 0, .int .i64 x5, .int .i64 x6]⟩, ⟨g7, 24, [.slice a2 x1.length c3.1]⟩, ⟨g535, 29, [.int .i64 x537, .slice a538 x540.length c539]⟩]) (fun (((x536, x537, x540), (g535, a538, c539)) : ((Int × Int × List Int) × (Nat × Option Addr × Nat))) => [Ro (eI .u8) 5 1 (.slice a395 x397.length c396) x397, Ro (eI .u8) 5 1 (.slice a47 x46.2.2.2.2.2.1.length c48) x46.2.2.2.2.2.1, Ro (eI .u8) 5 1 (.slice a538 x540.length c539) x540]) (fun (((x536, x537, x540), (g535, a538, c539)) : ((Int × Int × List Int) × (Nat × Option Addr × Nat))) => [SlN eN37 iN37 1 (.slice a2 x1.length c3.1) x1 c3.2]) (fun (((x536, x537, x540), _) : ((Int × Int × List Int) × (Nat × Option Addr × Nat))) => vy F (kg F x1 x5 x6 x46 k480) x393 x394 x397 x536 x537 x540) ?_ ?_
                    · refine qgt (j := 0) yY (by decide) rfl (fun x549 e549 g553 b550 o551 h552 => ?_)
                      replace h552 : a2 = some ⟨b550, o551, none⟩ := h552
                      refine zm mixed [] [⟨g51, 29, [.int .i64 x394, .slice a395 x397.length c396]⟩, ⟨g49, 31, [.int .i64 x46.1, .int .i64 x46.2.1, .int .i64 x46.2.2.1, .int .i64 x46.2.2.2.1, .int .i64 x46.2.2.2.2.1, .slice a47 x46.2.2.2.2.2.1.length c48]⟩, ⟨g8, 26, [.int .i64 0, .int .i64 x5, .int .i64 x6]⟩, ⟨g7, 24, [.slice a2 x1.length c3.1]⟩] [zH b550 (o551 + x393.toNat * 1) (eN37 (x549, g553)), Sl (eI .i64) 1 (.slice g553.1 x549.length g553.2) x549, SlN eN37 iN37 1 (.slice a2 x1.length c3.1) x1 c3.2] (.cons 0 rfl (.cons 0 rfl (.cons 0 rfl (.cons 0 rfl .nil)))) (q7 0 rfl (q7 1 rfl (q7 2 rfl qI))) 14 rfl ?_
                      refine qg 0 (.int .i64 x393) rfl rfl rfl (qm rfl) ?_
                      refine qg 1 (.pointer (some ⟨g7, 0, none⟩)) rfl rfl rfl (qz rfl qc0) ?_
                      refine qX 2 (.slice a2 x1.length c3.1) rfl rfl rfl (qY (i := 3) rfl tf22 rfl rfl (fun _ => rfl) rfl) ?_
                      refine qg 3 (.int .i64 x393) rfl rfl rfl (qm rfl) ?_
                      refine qJ (d := 69) (v := .slice (some ⟨b550, o551, none⟩) x1.length c3.1) rfl (by rw [h552] <;> rfl) ?_
                      refine qg 4 (.pointer (some ⟨b550, (o551 + x393.toNat * 1), none⟩)) rfl rfl rfl (qbc Tryz.underlying22 tf37 rfl rfl (ke e549).1 (qaU e549)) ?_
                      refine qJ (d := 69) (v := .slice a2 x1.length c3.1) rfl (by rw [h552] <;> rfl) ?_
                      refine km 5 (.slice g553.1 x549.length g553.2) [] rfl rfl rfl (vK (j := 0) rfl tf37 rfl rfl (fun _ => rfl) rfl) ?_
                      refine qX 6 (.agg #[.int .i64 0, .int .i64 x5, .int .i64 x6]) rfl rfl rfl (qY (i := 2) rfl tf26 rfl rfl (by simp) rfl) ?_
                      refine qcs 7 11 rfl rfl (by kernel_rfl) rfl rfl ?_ ?_
                      · refine zG Int (eI .i64) 3 1 ?_
                        refine qy ent24 rfl rfl rfl (fun x554 e554 => qaG F x393 x549 g553.1 g553.2 ([] : List Int) none 0 0 x5 x6 x554 e554) (.consF 1 rfl (.consR 0 (Ro (eI .i64) 3 1 (.slice none ([] : List Int).length 0) ([] : List Int)) rfl .nil)) (fun x554 e554 => ?_)
                        rintro ⟨a555, c556⟩
                        refine qc ?_
                        refine qK (.cons 0 rfl (.cons 0 rfl (.cons 0 rfl (.cons 0 rfl .nil)))) (q7 0 rfl (q7 1 rfl (q7 2 rfl qI))) ?_
                        refine qg 8 (.tuple #[.agg #[.int .i64 x554.1, .slice a555 x554.2.1.length c556], .int .i64 x554.2.2]) rfl rfl rfl (qm rfl) ?_
                        refine qg 9 (.agg #[.int .i64 x554.1, .slice a555 x554.2.1.length c556]) rfl rfl rfl (qm rfl) ?_
                        refine qg 10 (.int .i64 x554.2.2) rfl rfl rfl (qm rfl) ?_
                        refine qL 11 rfl (by kernel_rfl) rfl ?_
                        refine qM rfl tf29 rfl (fun g557 => ?_)
                        refine qc ?_
                        refine qK (.cons 1 rfl (.cons 1 rfl (.cons 1 rfl (.cons 1 rfl .nil)))) (q7 0 rfl (q7 1 rfl (q7 2 rfl qI))) ?_
                        refine qL 12 rfl (by kernel_rfl) rfl ?_
                        refine qu (i := 0) rfl rfl rfl tf29 rfl rfl rfl rfl rfl ?_
                        refine qc ?_
                        refine qK (.cons 1 rfl (.cons 1 rfl (.cons 1 rfl (.cons 1 rfl .nil)))) (q7 0 rfl (q7 1 rfl (q7 2 rfl qI))) ?_
                        refine qg 13 (.int .i64 x554.2.2) rfl rfl rfl (qm rfl) ?_
                        refine qV (by kernel_rfl) ?_
                        refine zw ?_ (by intro c h; cases h)
                        exact qn ((x554.2.2, x554.1, x554.2.1), (g557, a555, c556)) (hB := (.cons 1 rfl (.cons 1 rfl (.cons 1 rfl (.cons 1 rfl (.cons 0 rfl .nil)))))) (hR := (.cons 2 rfl (.cons 2 rfl (.cons 0 rfl .nil)))) (hF := (qo 2 rfl qA))
                      · refine qct (m' := ((vq F x393 x549 ([] : List Int) 0 x5 x6).bind fun x559 => vy F (kg F x1 x5 x6 x46 k480) x393 x394 x397 x559.2.2 x559.1 x559.2.1)) (rfl) ?_
                        refine qM rfl tf29 rfl (fun g558 => ?_)
                        refine qc ?_
                        refine qK (.cons 1 rfl (.cons 1 rfl (.cons 1 rfl (.cons 1 rfl .nil)))) (q7 0 rfl (q7 1 rfl (q7 2 rfl qI))) ?_
                        refine qL 7 rfl (by kernel_rfl) rfl ?_
                        refine zG Int (eI .i64) 3 1 ?_
                        refine qy ent24 rfl rfl rfl (fun x559 e559 => qaG F x393 x549 g553.1 g553.2 ([] : List Int) none 0 0 x5 x6 x559 e559) (.consF 1 rfl (.consR 0 (Ro (eI .i64) 3 1 (.slice none ([] : List Int).length 0) ([] : List Int)) rfl .nil)) (fun x559 e559 => ?_)
                        rintro ⟨a560, c561⟩
                        refine qc ?_
                        refine qK (.cons 1 rfl (.cons 1 rfl (.cons 1 rfl (.cons 1 rfl .nil)))) (q7 0 rfl (q7 1 rfl (q7 2 rfl qI))) ?_
                        refine qg 8 (.tuple #[.agg #[.int .i64 x559.1, .slice a560 x559.2.1.length c561], .int .i64 x559.2.2]) rfl rfl rfl (qm rfl) ?_
                        refine qg 9 (.agg #[.int .i64 x559.1, .slice a560 x559.2.1.length c561]) rfl rfl rfl (qm rfl) ?_
                        refine qg 10 (.int .i64 x559.2.2) rfl rfl rfl (qm rfl) ?_
                        refine qL 12 rfl (by kernel_rfl) rfl ?_
                        refine qu (i := 0) rfl rfl rfl tf29 rfl rfl rfl rfl rfl ?_
                        refine qc ?_
                        refine qK (.cons 1 rfl (.cons 1 rfl (.cons 1 rfl (.cons 1 rfl .nil)))) (q7 0 rfl (q7 1 rfl (q7 2 rfl qI))) ?_
                        refine qg 13 (.int .i64 x559.2.2) rfl rfl rfl (qm rfl) ?_
                        refine qV (by kernel_rfl) ?_
                        refine zw ?_ (by intro c h; cases h)
                        exact qn ((x559.2.2, x559.1, x559.2.1), (g558, a560, c561)) (hB := (.cons 1 rfl (.cons 1 rfl (.cons 1 rfl (.cons 1 rfl (.cons 0 rfl .nil)))))) (hR := (.cons 2 rfl (.cons 2 rfl (.cons 0 rfl .nil)))) (hF := (qo 2 rfl qA))
                    · rintro ⟨⟨x536, x537, x540⟩, ⟨g535, a538, c539⟩⟩
                      try dsimp only
                      refine qf ?_
                      refine qa ?_
                      refine qk (i := 0) rfl rfl tf29 rfl rfl (by simp) rfl rfl ?_
                      refine qk (i := 4) rfl rfl tf29 rfl rfl (by simp) rfl rfl ?_
                      refine qy ent27 rfl rfl rfl (fun x541 e541 => qfk F x394 x397 a395 c396 x537 x540 a538 c539 x541 e541) (.consR 0 (Ro (eI .u8) 5 1 (.slice a395 x397.length c396) x397) rfl (.consR 2 (Ro (eI .u8) 5 1 (.slice a538 x540.length c539) x540) rfl .nil)) (fun x541 e541 => ?_)
                      rintro ⟨a542, c543⟩
                      refine qd rfl rfl rfl ?_
                      refine qr rfl rfl rfl rfl ?_
                      refine qr rfl rfl rfl rfl ?_
                      refine qM rfl tf29 rfl (fun g544 => ?_)
                      refine qu (i := 0) rfl rfl rfl tf29 rfl rfl rfl rfl rfl ?_
                      refine qb rfl rfl rfl ?_
                      refine qc ?_
                      refine qe ?_
                      refine qf ?_
                      refine qf ?_
                      refine qa ?_
                      refine qd rfl rfl rfl ?_
                      refine zN rfl rfl rfl rfl ?_
                      refine qd rfl rfl rfl ?_
                      refine q8 3 ((x536 : Int) != 0) [(2, .pointer (some ⟨g7, 0, none⟩)), (3, .pointer (some ⟨g8, 0, none⟩)), (8, .pointer (some ⟨g49, 0, none⟩)), (10, .pointer (some ⟨g51, 0, none⟩)), (11, .int .i64 x393), (14, .pointer (some ⟨g544, 0, none⟩)), (88, .bool (((x536 : Int) != 0) || ((x541.2.2 : Int) != 0)))] (fun h547 => ?_) (fun h547 => ?_) ?_
                      · refine qp (os := _) rfl ?_
                        refine qR (k := 85) rfl h547 ?_
                        refine qi rfl rfl rfl ?_
                        refine qi rfl rfl rfl ?_
                        refine qw (b := true) rfl rfl rfl rfl ?_
                        refine qx (d := 88) (v := .bool (((x536 : Int) != 0) || ((x541.2.2 : Int) != 0))) rfl (by rw [h547]; simp only [Bool.true_or]) ?_
                        refine qc ?_
                        exact qE (qh rfl (qh rfl (qh rfl (qh rfl (qh rfl (qh rfl (qh rfl qO)))))))
                      · refine qp (os := _) rfl ?_
                        refine qQ (k := 85) rfl h547 ?_
                        refine qd rfl rfl rfl ?_
                        refine zN rfl rfl rfl rfl ?_
                        refine qw (b := false) rfl rfl rfl rfl ?_
                        refine qx (d := 88) (v := .bool (((x536 : Int) != 0) || ((x541.2.2 : Int) != 0))) rfl (by rw [h547]; simp only [Bool.false_or]) ?_
                        refine qc ?_
                        exact qE (qh rfl (qh rfl (qh rfl (qh rfl (qh rfl (qh rfl (qh rfl qO)))))))
                      refine qp (os := _) rfl ?_
                      refine qc ?_
                      refine qe ?_
                      refine qC rfl (fun h548 => ?_) (fun h548 => ?_)
                      · refine qf ?_
                        refine qa ?_
                        refine qb rfl rfl rfl ?_
                        refine qc ?_
                        refine qe ?_
                        refine qv ?_
                        refine qq ?_
                        refine qP ?_
                        refine qq ?_
                        refine qq ?_
                        refine qP ?_
                        refine qq ?_
                        exact qs () (res1 rfl rfl)
                      · refine qt ?_
                        refine qe ?_
                        refine qa ?_
                        refine qk (i := 0) rfl rfl tf29 rfl rfl (by simp) rfl rfl ?_
                        refine qu (i := 1) rfl rfl rfl tf29 rfl rfl rfl rfl rfl ?_
                        refine qc ?_
                        refine qU ?_
                        refine qe ?_
                        refine qa ?_
                        refine qd rfl rfl rfl ?_
                        refine qN rfl rfl rfl rfl ?_
                        refine qb rfl rfl rfl ?_
                        refine qc ?_
                        exact q4 ((iadd .i64 x393 1, x541.1, x541.2.1), (a542, c543)) (hB := (.cons 1 rfl (.cons 1 rfl (.cons 1 rfl (.cons 1 rfl .nil))))) (hR := (.cons 0 rfl (.cons 1 rfl .nil))) (hF := (qo 0 rfl qA))
                  · refine zn ?_
                    refine qF ?_
                    refine qF ?_
                    refine zo ?_
                    exact qn ((x394, x397), (a395, c396)) (hB := (.cons 0 rfl (.cons 0 rfl .nil))) (hR := (.cons 0 rfl (.cons 0 rfl .nil)))
                · rintro ⟨⟨x305, x308⟩, ⟨a306, c307⟩⟩
                  try dsimp only
                  refine qf ?_
                  refine qa ?_
                  refine qk (i := 0) rfl rfl tf29 rfl rfl (by simp) rfl rfl ?_
                  refine qj rfl rfl qbL rfl ?_
                  refine qk (i := 1) rfl rfl tf29 rfl rfl (by simp) rfl rfl ?_
                  refine qy ent26 rfl rfl rfl (fun x309 e309 => qaA F x305 x308 a306 c307 x46.2.2.2.2.1 x46.2.2.2.2.2.1 a47 c48 x309 e309) (.consR 0 (Ro (eI .u8) 5 1 (.slice a306 x308.length c307) x308) rfl (.consR 1 (Ro (eI .u8) 5 1 (.slice a47 x46.2.2.2.2.2.1.length c48) x46.2.2.2.2.2.1) rfl .nil)) (fun x309 e309 => ?_)
                  intro _
                  refine qb rfl rfl rfl ?_
                  refine qc ?_
                  refine qe ?_
                  refine qv ?_
                  exact qs () (res1 rfl rfl)
end Go.Proofs.YtpnfijegoepiaaaGreat
