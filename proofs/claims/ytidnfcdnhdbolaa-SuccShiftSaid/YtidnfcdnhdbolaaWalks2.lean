/- Each Go function of this seat computes what its model says, part 2. -/
import Derived.Test.YtidnfcdnhdbolaaWalks
namespace Go.Proofs.Ytidnfcdnhdbolaa
open Go SX
theorem C_parts_copied (F : Nat) (x1 : List Int) (a2 : Option Addr) (c3 : Nat) (x4 : List Int) (a5 : Option Addr) (c6 : Nat) (r : List Int) (hm : M_parts_copied F x1 x4 = some r) :
    Pure Try.prog 80 [.slice a2 x1.length c3, .slice a5 x4.length c6] [Sl (eI .i64) 1 (.slice a2 x1.length c3) x1, Sl (eI .i64) 1 (.slice a5 x4.length c6) x4] (Option Addr × Nat) (fun g => .slice g.1 r.length g.2) (fun g => [Ro (eI .i64) 3 1 (.slice g.1 r.length g.2) r]) (fun _ => []) := by
  refine pure_of Try.func80 rfl Try.ntmps80 rfl hm (fun w => ?_)
  refine sxc_env (l' := [(0, .slice a2 x1.length c3), (1, .slice a5 x4.length c6)]) rfl ?_
  refine sxc_seq ?_
  refine sxc_region ?_
  refine sxo_assign rfl rfl rfl ?_
  refine sxo_nil ?_
  refine sxq_next ?_
  refine sxc_seq ?_
  refine sxc_region ?_
  refine sxo_assign rfl rfl rfl ?_
  refine sxo_nil ?_
  refine sxq_next ?_
  refine sxc_seq ?_
  refine sxc_region ?_
  refine sxo_assign rfl rfl rfl ?_
  refine sxo_nil ?_
  refine sxq_next ?_
  refine sxc_join (fun (((x158, x161, x162), (a156, c157, a159, c160)) : ((List Int × List Int × Bool) × (Option Addr × Nat × Option Addr × Nat))) => [(0, .slice a156 x158.length c157), (5, .slice a159 x161.length c160), (6, .bool x162)]) (fun (((x158, x161, x162), (a156, c157, a159, c160)) : ((List Int × List Int × Bool) × (Option Addr × Nat × Option Addr × Nat))) => []) (fun (((x158, x161, x162), (a156, c157, a159, c160)) : ((List Int × List Int × Bool) × (Option Addr × Nat × Option Addr × Nat))) => [Ro (eI .i64) 3 1 (.slice a159 x161.length c160) x161]) (fun (((x158, x161, x162), (a156, c157, a159, c160)) : ((List Int × List Int × Bool) × (Option Addr × Nat × Option Addr × Nat))) => [Sl (eI .i64) 1 (.slice a156 x158.length c157) x158]) (fun (((x158, x161, x162), _) : ((List Int × List Int × Bool) × (Option Addr × Nat × Option Addr × Nat))) => M_parts_copied_j6 F x158 x161 x162) ?_ ?_
  · refine sxc_seq ?_
    refine sxc_region ?_
    refine sxo_move rfl rfl rfl ?_
    refine sxo_len rfl Try.underlying22 rfl rfl ?_
    refine sxo_move rfl rfl rfl ?_
    refine sxo_nil ?_
    refine sxq_next ?_
    refine sxc_block ?_
    refine sxc_nilrow Int (eI .i64) 3 1 ?_
    refine sxc_loopP (fun (((x217, x220, x221, x222), (a215, c216, a218, c219)) : ((List Int × List Int × Bool × Int) × (Option Addr × Nat × Option Addr × Nat))) => [(0, .slice a215 x217.length c216), (5, .slice a218 x220.length c219), (6, .bool x221), (9, .slice a5 x4.length c6), (10, .int .i64 (x4.length : Int)), (11, .int .i64 x222)]) (fun (((x217, x220, x221, x222), (a215, c216, a218, c219)) : ((List Int × List Int × Bool × Int) × (Option Addr × Nat × Option Addr × Nat))) => []) (fun (((x217, x220, x221, x222), (a215, c216, a218, c219)) : ((List Int × List Int × Bool × Int) × (Option Addr × Nat × Option Addr × Nat))) => [Ro (eI .i64) 3 1 (.slice a218 x220.length c219) x220]) (fun (((x217, x220, x221, x222), (a215, c216, a218, c219)) : ((List Int × List Int × Bool × Int) × (Option Addr × Nat × Option Addr × Nat))) => [Sl (eI .i64) 1 (.slice a215 x217.length c216) x217, Sl (eI .i64) 1 (.slice a5 x4.length c6) x4]) (fun k (s : ((List Int × List Int × Bool × Int) × (Option Addr × Nat × Option Addr × Nat))) => M_parts_copied_l10 F x4 k s.1) ((x1, ([] : List Int), true, 0), (a2, c3, none, 0)) F ?_ (hR := (.cons 0 rfl .nil)) (hF := (fk_cons 0 rfl (fk_cons 1 rfl fk_nil)))
    intro k271
    rintro ⟨⟨x217, x220, x221, x222⟩, ⟨a215, c216, a218, c219⟩⟩
    try dsimp only
    refine sxc_meq (m' := M_parts_copied_b10 F x4 (M_parts_copied_l10 F x4 k271) x217 x220 x221 x222) rfl ?_
    refine sxc_seq ?_
    refine sxc_region ?_
    refine sxo_lss rfl rfl rfl rfl ?_
    refine sxo_nil ?_
    refine sxq_next ?_
    refine sxc_seq ?_
    refine sxc_if rfl (fun h319 => ?_) (fun h319 => ?_)
    · refine sxc_skip ?_
      refine sxq_next ?_
      refine sxc_seq ?_
      refine sxc_block ?_
      refine sxc_seq ?_
      refine sxc_region ?_
      refine sxo_indexF (j := 1) (eI_ok .i64) (by decide) rfl Try.underlying22 tf3 rfl rfl rfl rfl (fun x296 e296 b297 o298 => ?_)
      refine sxo_loadF (j := 0) rfl rfl tf3 rfl rfl (fun _ => rfl) rfl rfl ?_
      refine sxo_assign rfl rfl rfl ?_
      refine sxo_nil ?_
      refine sxq_next ?_
      refine sxc_join (fun ((x308, (a306, c307)) : (List Int × (Option Addr × Nat))) => [(0, .slice a215 x217.length c216), (5, .slice a306 x308.length c307), (6, .bool x221), (8, .int .i64 x296), (9, .slice a5 x4.length c6), (10, .int .i64 (x4.length : Int)), (11, .int .i64 x222)]) (fun ((x308, (a306, c307)) : (List Int × (Option Addr × Nat))) => []) (fun ((x308, (a306, c307)) : (List Int × (Option Addr × Nat))) => [Ro (eI .i64) 3 1 (.slice a306 x308.length c307) x308]) (fun ((x308, (a306, c307)) : (List Int × (Option Addr × Nat))) => [Sl (eI .i64) 1 (.slice a215 x217.length c216) x217, Sl (eI .i64) 1 (.slice a5 x4.length c6) x4]) (fun ((x308, _) : (List Int × (Option Addr × Nat))) => M_parts_copied_j12 F (M_parts_copied_l10 F x4 k271) x217 x221 x222 x296 x308) ?_ ?_
      · refine sxc_seq ?_
        refine sxc_region ?_
        refine sxo_move rfl rfl rfl ?_
        refine sxo_nil ?_
        refine sxq_next ?_
        refine sxc_if rfl (fun h318 => ?_) (fun h318 => ?_)
        · refine sxc_region ?_
          refine sxo_move rfl rfl rfl ?_
          refine sxo_move rfl rfl rfl ?_
          refine sxo_move rfl rfl rfl ?_
          refine sxo_cut (j := 1) (eI_ok .i64) rfl Try.underlying22 tf3 rfl rfl rfl rfl rfl (fun x312 e312 a313 c314 => ?_)
          refine sxo_app 0 (eI_ok .i64) rfl Try.underlying22 tf3 rfl rfl rfl rfl rfl (.inr ⟨0, rfl⟩) rfl rfl (fun x315 e315 a316 c317 => ?_)
          refine sxo_assign rfl rfl rfl ?_
          refine sxo_nil ?_
          exact sxq_meetP (x315, (a316, c317)) (hR := (.cons 0 rfl .nil)) (hF := (fk_cons 2 rfl (fk_cons 3 rfl fk_nil)))
        · refine sxc_skip ?_
          exact sxq_meetP (x220, (a218, c219)) (hR := (.cons 0 rfl .nil)) (hF := (fk_cons 1 rfl (fk_cons 2 rfl fk_nil)))
      · rintro ⟨x308, ⟨a306, c307⟩⟩
        try dsimp only
        refine sxc_region ?_
        refine sxo_move rfl rfl rfl ?_
        refine sxo_move rfl rfl rfl ?_
        refine sxo_cut (j := 0) (eI_ok .i64) rfl Try.underlying22 tf3 rfl rfl rfl rfl rfl (fun x309 e309 a310 c311 => ?_)
        refine sxo_move rfl rfl rfl ?_
        refine sxo_not rfl rfl rfl ?_
        refine sxo_assign rfl rfl rfl ?_
        refine sxo_assign rfl rfl rfl ?_
        refine sxo_nil ?_
        refine sxq_blkN ?_
        refine sxq_next ?_
        refine sxc_region ?_
        refine sxo_add rfl rfl rfl rfl ?_
        refine sxo_move rfl rfl rfl ?_
        refine sxo_nil ?_
        exact sxq_againP ((x309, x308, (!x221), iadd .i64 x222 1), (a310, c311, a306, c307)) (hR := (.cons 0 rfl .nil)) (hF := (fk_cons 0 rfl (fk_cons 2 rfl fk_nil)))
    · refine sxc_exit ?_
      refine sxq_thenX ?_
      refine sxq_thenX ?_
      refine sxq_blkX ?_
      exact sxq_meetP ((x217, x220, x221), (a215, c216, a218, c219)) (hR := (.cons 0 rfl .nil)) (hF := (fk_cons 0 rfl fk_nil))
  · rintro ⟨⟨x158, x161, x162⟩, ⟨a156, c157, a159, c160⟩⟩
    try dsimp only
    refine sxc_join (fun ((x169, (a167, c168)) : (List Int × (Option Addr × Nat))) => [(5, .slice a167 x169.length c168)]) (fun ((x169, (a167, c168)) : (List Int × (Option Addr × Nat))) => []) (fun ((x169, (a167, c168)) : (List Int × (Option Addr × Nat))) => [Ro (eI .i64) 3 1 (.slice a167 x169.length c168) x169]) (fun ((x169, (a167, c168)) : (List Int × (Option Addr × Nat))) => []) (fun ((x169, _) : (List Int × (Option Addr × Nat))) => M_parts_copied_j7 F x169) ?_ ?_
    · refine sxc_seq ?_
      refine sxc_region ?_
      refine sxo_move rfl rfl rfl ?_
      refine sxo_nil ?_
      refine sxq_next ?_
      refine sxc_if rfl (fun h173 => ?_) (fun h173 => ?_)
      · refine sxc_region ?_
        refine sxo_move rfl rfl rfl ?_
        refine sxo_move rfl rfl rfl ?_
        refine sxo_app 0 (eI_ok .i64) rfl Try.underlying22 tf3 rfl rfl rfl rfl rfl (.inr ⟨0, rfl⟩) rfl rfl (fun x170 e170 a171 c172 => ?_)
        refine sxo_assign rfl rfl rfl ?_
        refine sxo_nil ?_
        exact sxq_meetP (x170, (a171, c172)) (hR := (.cons 0 rfl .nil))
      · refine sxc_skip ?_
        exact sxq_meetP (x161, (a159, c160)) (hR := (.cons 0 rfl .nil))
    · rintro ⟨x169, ⟨a167, c168⟩⟩
      try dsimp only
      refine sxc_seq ?_
      refine sxc_region ?_
      refine sxo_move rfl rfl rfl ?_
      refine sxo_assign rfl rfl rfl ?_
      refine sxo_nil ?_
      refine sxq_next ?_
      refine sxc_ret ?_
      exact sxq_doneP (a167, c168) (res1 rfl rfl) (fun h => by subst h; exact (.cons 0 rfl .nil))

theorem C_parts_Copy (F : Nat) (x1 : List Int) (a2 : Option Addr) (c3 : Nat) (x4 : List Int) (a5 : Option Addr) (c6 : Nat) (r : (List Int × Int)) (hm : M_parts_Copy F x1 x4 = some r) :
    Pure Try.prog 68 [.slice a2 x1.length c3, .slice a5 x4.length c6] [Sl (eI .i64) 1 (.slice a2 x1.length c3) x1, Sl (eI .i64) 1 (.slice a5 x4.length c6) x4] (Option Addr × Nat) (fun g => .tuple #[.slice g.1 r.1.length g.2, .int .i64 r.2]) (fun g => [Ro (eI .i64) 3 1 (.slice g.1 r.1.length g.2) r.1]) (fun _ => []) := by
  refine pure_of Try.func68 rfl Try.ntmps68 rfl hm (fun w => ?_)
  refine sxc_env (l' := [(0, .slice a2 x1.length c3), (1, .slice a5 x4.length c6)]) rfl ?_
  refine sxc_seq ?_
  refine sxc_region ?_
  refine sxo_assign rfl rfl rfl ?_
  refine sxo_assign rfl rfl rfl ?_
  refine sxo_nil ?_
  refine sxq_next ?_
  refine sxc_seq ?_
  refine sxc_region ?_
  refine sxo_move rfl rfl rfl ?_
  refine sxo_call ent20 rfl rfl rfl (fun x7 e7 => C_gaps_Check F x1 a2 c3 x7 e7) (.consF 0 rfl .nil) (fun x7 e7 => ?_)
  intro _
  refine sxo_assign rfl rfl rfl ?_
  refine sxo_nil ?_
  refine sxq_next ?_
  refine sxc_join (fun ((x10, _) : (Int × Unit)) => [(0, .slice a2 x1.length c3), (1, .slice a5 x4.length c6), (6, .int .i64 x10)]) (fun ((x10, _) : (Int × Unit)) => []) (fun ((x10, _) : (Int × Unit)) => []) (fun ((x10, _) : (Int × Unit)) => [Sl (eI .i64) 1 (.slice a2 x1.length c3) x1, Sl (eI .i64) 1 (.slice a5 x4.length c6) x4]) (fun ((x10, _) : (Int × Unit)) => M_parts_Copy_j1 F x1 x4 x10) ?_ ?_
  · refine sxc_seq ?_
    refine sxc_region ?_
    refine sxo_move rfl rfl rfl ?_
    refine sxo_eql rfl rfl rfl rfl ?_
    refine sxo_nil ?_
    refine sxq_next ?_
    refine sxc_if rfl (fun h17 => ?_) (fun h17 => ?_)
    · refine sxc_region ?_
      refine sxo_move rfl rfl rfl ?_
      refine sxo_move rfl rfl rfl ?_
      refine sxo_len rfl Try.underlying22 rfl rfl ?_
      refine sxo_call ent79 rfl rfl rfl (fun x16 e16 => C_parts_check F x4 a5 c6 (x1.length : Int) x16 e16) (.consF 1 rfl .nil) (fun x16 e16 => ?_)
      intro _
      refine sxo_assign rfl rfl rfl ?_
      refine sxo_nil ?_
      exact sxq_meetP (x16, ()) (hF := (fk_cons 0 rfl (fk_cons 1 rfl fk_nil)))
    · refine sxc_skip ?_
      exact sxq_meetP (x7, ()) (hF := (fk_cons 0 rfl (fk_cons 1 rfl fk_nil)))
  · rintro ⟨x10, _⟩
    try dsimp only
    refine sxc_seq ?_
    refine sxc_seq ?_
    refine sxc_region ?_
    refine sxo_move rfl rfl rfl ?_
    refine sxo_neq rfl rfl rfl rfl ?_
    refine sxo_nil ?_
    refine sxq_next ?_
    refine sxc_if rfl (fun h15 => ?_) (fun h15 => ?_)
    · refine sxc_seq ?_
      refine sxc_region ?_
      refine sxo_move rfl rfl rfl ?_
      refine sxo_assign rfl rfl rfl ?_
      refine sxo_assign rfl rfl rfl ?_
      refine sxo_nil ?_
      refine sxq_next ?_
      refine sxc_ret ?_
      refine sxq_thenR ?_
      refine sxq_nilrow Int (eI .i64) 3 1 ?_
      exact sxq_doneP (none, 0) (res2 rfl rfl rfl) (fun h => by subst h; exact (.cons 0 rfl .nil))
    · refine sxc_skip ?_
      refine sxq_next ?_
      refine sxc_seq ?_
      refine sxc_region ?_
      refine sxo_move rfl rfl rfl ?_
      refine sxo_move rfl rfl rfl ?_
      refine sxo_call ent80 rfl rfl rfl (fun x12 e12 => C_parts_copied F x1 a2 c3 x4 a5 c6 x12 e12) (.consF 0 rfl (.consF 1 rfl .nil)) (fun x12 e12 => ?_)
      rintro ⟨a13, c14⟩
      refine sxo_assign rfl rfl rfl ?_
      refine sxo_assign rfl rfl rfl ?_
      refine sxo_nil ?_
      refine sxq_next ?_
      refine sxc_ret ?_
      exact sxq_doneP (a13, c14) (res2 rfl rfl rfl) (fun h => by subst h; exact (.cons 0 rfl .nil))

theorem C_succ_reader_blocks (F : Nat) (g1 : Nat) (x2 : Int) (x3 : List Int) (a4 : Option Addr) (c5 : Nat) (x6 : Int) (x7 : Int) (r : ((List Int × Int × Int) ⊕ (Int × Int))) (hm : M_succ_reader_blocks F x2 x3 x6 x7 = some r) :
    PureL Try.prog 69 [.pointer (some ⟨g1, 0, none⟩), .int .i64 x7] [⟨g1, 86, [.int .i64 x2, .slice a4 x3.length c5, .int .i64 x6]⟩] [] [Sl (eI .u8) 1 (.slice a4 x3.length c5) x3] lostCh (Option Addr × Nat) (fun (r : (List Int × Int × Int)) (g : (Option Addr × Nat)) => .slice g.1 r.1.length g.2) (fun (r : (List Int × Int × Int)) (_ : (Option Addr × Nat)) => [⟨g1, 86, [.int .i64 r.2.1, .slice a4 x3.length c5, .int .i64 r.2.2]⟩]) (fun (r : (List Int × Int × Int)) (g : (Option Addr × Nat)) => [Ro (eI .i64) 3 1 (.slice g.1 r.1.length g.2) r.1]) (fun (z : (Int × Int)) => [⟨g1, 86, [.int .i64 z.1, .slice a4 x3.length c5, .int .i64 z.2]⟩]) r := by
  refine pureL_of Try.func69 rfl Try.ntmps69 rfl hm (fun w => ?_)
  refine sxc_env (l' := [(0, .pointer (some ⟨g1, 0, none⟩)), (1, .int .i64 x7)]) rfl ?_
  refine sxc_seq ?_
  refine sxc_region ?_
  refine sxo_assign rfl rfl rfl ?_
  refine sxo_nil ?_
  refine sxq_next ?_
  refine sxc_seq ?_
  refine sxc_region ?_
  refine sxo_move rfl rfl rfl ?_
  refine sxo_move rfl rfl rfl ?_
  refine sxo_add rfl rfl rfl rfl ?_
  refine sxo_callL ent67 rfl rfl rfl (fun x8 e8 => C_succ_reader_gamma F g1 x2 x3 a4 c5 x6 (iadd .i64 x7 1) x8 e8) (.cons 0 rfl .nil) .nil (.consF 0 rfl .nil) (fun x9 _ => ?_) (fun x8 e8 => ?_)
  · refine sxq_thenP ?_
    exact sxq_lostL (.cons 0 rfl .nil)
  intro _
  refine sxo_mk (eI_ok .i64) rfl Try.underlying22 tf3 rfl rfl rfl rfl rfl rfl rfl (fun x10 e10 a11 c12 => ?_)
  refine sxo_assign rfl rfl rfl ?_
  refine sxo_nil ?_
  refine sxq_next ?_
  refine sxc_join (fun (((x72, x73, x74), _) : ((List Int × Int × Int) × Unit)) => [(5, .slice a11 x72.length c12)]) (fun (((x72, x73, x74), _) : ((List Int × Int × Int) × Unit)) => [⟨g1, 86, [.int .i64 x73, .slice a4 x3.length c5, .int .i64 x74]⟩]) (fun (((x72, x73, x74), _) : ((List Int × Int × Int) × Unit)) => [Ro (eI .i64) 3 1 (.slice a11 x72.length c12) x72]) (fun (((x72, x73, x74), _) : ((List Int × Int × Int) × Unit)) => [Sl (eI .u8) 1 (.slice a4 x3.length c5) x3]) (fun (((x72, x73, x74), _) : ((List Int × Int × Int) × Unit)) => M_succ_reader_blocks_j2 F x72 x73 x74) ?_ ?_
  · refine sxc_seq ?_
    refine sxc_region ?_
    refine sxo_move rfl rfl rfl ?_
    refine sxo_len rfl Try.underlying22 rfl rfl ?_
    refine sxo_move rfl rfl rfl ?_
    refine sxo_nil ?_
    refine sxq_next ?_
    refine sxc_block ?_
    refine sxc_loopP (fun (((x93, x94, x95, x96), _) : ((List Int × Int × Int × Int) × Unit)) => [(0, .pointer (some ⟨g1, 0, none⟩)), (1, .int .i64 x7), (5, .slice a11 x93.length c12), (13, .int .i64 (x10.length : Int)), (14, .int .i64 x94)]) (fun (((x93, x94, x95, x96), _) : ((List Int × Int × Int × Int) × Unit)) => [⟨g1, 86, [.int .i64 x95, .slice a4 x3.length c5, .int .i64 x96]⟩]) (fun (((x93, x94, x95, x96), _) : ((List Int × Int × Int × Int) × Unit)) => [Ro (eI .i64) 3 1 (.slice a11 x93.length c12) x93]) (fun (((x93, x94, x95, x96), _) : ((List Int × Int × Int × Int) × Unit)) => [Sl (eI .u8) 1 (.slice a4 x3.length c5) x3]) (fun k (s : ((List Int × Int × Int × Int) × Unit)) => M_succ_reader_blocks_l3 F x3 x7 x10 k s.1) ((x10, 0, x8.2.1, x8.2.2), ()) F ?_ (hB := (.cons 0 rfl .nil)) (hR := (.cons 0 rfl .nil)) (hF := (fk_cons 0 rfl fk_nil))
    intro k115
    rintro ⟨⟨x93, x94, x95, x96⟩, _⟩
    try dsimp only
    refine sxc_meq (m' := M_succ_reader_blocks_b3 F x3 x7 x10 (M_succ_reader_blocks_l3 F x3 x7 x10 k115) x93 x94 x95 x96) rfl ?_
    refine sxc_seq ?_
    refine sxc_region ?_
    refine sxo_lss rfl rfl rfl rfl ?_
    refine sxo_nil ?_
    refine sxq_next ?_
    refine sxc_seq ?_
    refine sxc_if rfl (fun h133 => ?_) (fun h133 => ?_)
    · refine sxc_skip ?_
      refine sxq_next ?_
      refine sxc_seq ?_
      refine sxc_block ?_
      refine sxc_seq ?_
      refine sxc_region ?_
      refine sxo_move rfl rfl rfl ?_
      refine sxo_assign rfl rfl rfl ?_
      refine sxo_nil ?_
      refine sxq_next ?_
      refine sxc_region ?_
      refine sxo_move rfl rfl rfl ?_
      refine sxo_move rfl rfl rfl ?_
      refine sxo_move rfl rfl rfl ?_
      refine sxo_move rfl rfl rfl ?_
      refine sxo_callL ent67 rfl rfl rfl (fun x125 e125 => C_succ_reader_gamma F g1 x95 x3 a4 c5 x96 x7 x125 e125) (.cons 0 rfl .nil) .nil (.consF 0 rfl .nil) (fun x126 _ => ?_) (fun x125 e125 => ?_)
      · refine sxq_blkP ?_
        refine sxq_thenP ?_
        refine sxq_thenP ?_
        refine sxq_blkP ?_
        refine sxq_thenP ?_
        exact sxq_lostL (.cons 0 rfl .nil)
      intro _
      refine sxo_move rfl rfl rfl ?_
      refine sxo_min rfl rfl rfl rfl ?_
      refine sxo_add rfl rfl rfl rfl ?_
      refine sxo_indexR (j := 0) rfl Try.underlying22 tf3 rfl rfl rfl rfl (fun x127 e127 g128 h129 => ?_)
      refine sxo_storeL (j := 0) (y' := iadd .i64 x125.1 (imin x94 1)) (eI_ok .i64) rfl rfl rfl tf3 rfl h129 (idx_get e127).2.1 rfl (fun x130 e130 h131 => ?_)
      have h132 : x130.length = x93.length := by rw [← e130, List.length_set]
      refine sxo_again (d := 5) (v := .slice a11 x130.length c12) rfl h131 ?_
      refine sxo_again (d := 17) (v := .slice a11 x130.length c12) rfl h131 ?_
      refine sxo_nil ?_
      refine sxq_blkN ?_
      refine sxq_next ?_
      refine sxc_region ?_
      refine sxo_add rfl rfl rfl rfl ?_
      refine sxo_move rfl rfl rfl ?_
      refine sxo_nil ?_
      exact sxq_againP ((x130, iadd .i64 x94 1, x125.2.1, x125.2.2), ()) (hB := (.cons 0 rfl .nil)) (hR := (.cons 0 rfl .nil)) (hF := (fk_cons 0 rfl fk_nil))
    · refine sxc_exit ?_
      refine sxq_thenX ?_
      refine sxq_thenX ?_
      refine sxq_blkX ?_
      exact sxq_meetP ((x93, x95, x96), ()) (hB := (.cons 0 rfl .nil)) (hR := (.cons 0 rfl .nil)) (hF := (fk_cons 0 rfl fk_nil))
  · rintro ⟨⟨x72, x73, x74⟩, _⟩
    try dsimp only
    refine sxc_seq ?_
    refine sxc_region ?_
    refine sxo_move rfl rfl rfl ?_
    refine sxo_assign rfl rfl rfl ?_
    refine sxo_nil ?_
    refine sxq_next ?_
    refine sxc_ret ?_
    exact sxq_doneL (a11, c12) (.inl rfl) (res1 rfl rfl) rfl (.cons 0 rfl .nil) (.cons 0 rfl .nil)

theorem C_varint_Unfold (F : Nat) (x1 : Int) (r : Int) (hm : M_varint_Unfold F x1 = some r) :
    Pure Try.prog 81 [.int .u64 x1] [] Unit (fun _ => .int .i64 r) (fun _ => []) (fun _ => []) := by
  refine pure_of Try.func81 rfl Try.ntmps81 rfl hm (fun w => ?_)
  refine sxc_env (l' := [(0, .int .u64 x1)]) rfl ?_
  refine sxc_seq ?_
  refine sxc_region ?_
  refine sxo_assign rfl rfl rfl ?_
  refine sxo_nil ?_
  refine sxq_next ?_
  refine sxc_seq ?_
  refine sxc_region ?_
  refine sxo_move rfl rfl rfl ?_
  refine sxo_shr rfl rfl rfl rfl rfl ?_
  refine sxo_conv rfl Try.underlying36 Try.underlying2 rfl rfl ?_
  refine sxo_move rfl rfl rfl ?_
  refine sxo_and rfl rfl rfl rfl ?_
  refine sxo_conv rfl Try.underlying36 Try.underlying2 rfl rfl ?_
  refine sxo_neg rfl rfl rfl ?_
  refine sxo_xor rfl rfl rfl rfl ?_
  refine sxo_assign rfl rfl rfl ?_
  refine sxo_lett (fun x2 e2 => ?_)
  refine sxo_again (d := 2) (v := .int .i64 x2) rfl (by rw [e2] <;> rfl) ?_
  refine sxo_nil ?_
  refine sxq_next ?_
  refine sxc_ret ?_
  exact sxq_doneP () (res1 rfl rfl)

theorem C_succ_reader_runs (F : Nat) (g1 : Nat) (x2 : Int) (x3 : List Int) (a4 : Option Addr) (c5 : Nat) (x6 : Int) (x7 : Int) (x8 : Int) (x9 : Int) (r : ((List (Int × Int) × Int × Int) ⊕ (Int × Int))) (hm : M_succ_reader_runs F x2 x3 x6 x7 x8 x9 = some r) :
    PureL Try.prog 70 [.pointer (some ⟨g1, 0, none⟩), .int .i64 x7, .int .i64 x8, .int .i64 x9] [⟨g1, 86, [.int .i64 x2, .slice a4 x3.length c5, .int .i64 x6]⟩] [] [Sl (eI .u8) 1 (.slice a4 x3.length c5) x3] lostCh (Option Addr × Nat) (fun (r : (List (Int × Int) × Int × Int)) (g : (Option Addr × Nat)) => .slice g.1 r.1.length g.2) (fun (r : (List (Int × Int) × Int × Int)) (_ : (Option Addr × Nat)) => [⟨g1, 86, [.int .i64 r.2.1, .slice a4 x3.length c5, .int .i64 r.2.2]⟩]) (fun (r : (List (Int × Int) × Int × Int)) (g : (Option Addr × Nat)) => [Ro eS102 102 2 (.slice g.1 r.1.length g.2) r.1]) (fun (z : (Int × Int)) => [⟨g1, 86, [.int .i64 z.1, .slice a4 x3.length c5, .int .i64 z.2]⟩]) r := by
  refine pureL_of Try.func70 rfl Try.ntmps70 rfl hm (fun w => ?_)
  refine sxc_env (l' := [(0, .pointer (some ⟨g1, 0, none⟩)), (1, .int .i64 x7), (2, .int .i64 x8), (3, .int .i64 x9)]) rfl ?_
  refine sxc_seq ?_
  refine sxc_region ?_
  refine sxo_assign rfl rfl rfl ?_
  refine sxo_nil ?_
  refine sxq_next ?_
  refine sxc_seq ?_
  refine sxc_region ?_
  refine sxo_move rfl rfl rfl ?_
  refine sxo_move rfl rfl rfl ?_
  refine sxo_move rfl rfl rfl ?_
  refine sxo_chk (fun h10 => ?_)
  refine sxo_quo rfl rfl rfl rfl h10 ?_
  refine sxo_callL ent67 rfl rfl rfl (fun x11 e11 => C_succ_reader_gamma F g1 x2 x3 a4 c5 x6 (iquo .i64 x9 x8) x11 e11) (.cons 0 rfl .nil) .nil (.consF 0 rfl .nil) (fun x12 _ => ?_) (fun x11 e11 => ?_)
  · refine sxq_thenP ?_
    exact sxq_lostL (.cons 0 rfl .nil)
  intro _
  refine sxo_mkG eS102_ok (by decide) rfl Try.underlying73 tf102 rfl rfl rfl rfl rfl rfl (fun x13 e13 a14 c15 => ?_)
  refine sxo_assign rfl rfl rfl ?_
  refine sxo_nil ?_
  refine sxq_next ?_
  refine sxc_seq ?_
  refine sxc_region ?_
  refine sxo_move rfl rfl rfl ?_
  refine sxo_assign rfl rfl rfl ?_
  refine sxo_nil ?_
  refine sxq_next ?_
  refine sxc_join (fun (((x136, x137, x138), _) : ((List (Int × Int) × Int × Int) × Unit)) => [(9, .slice a14 x136.length c15)]) (fun (((x136, x137, x138), _) : ((List (Int × Int) × Int × Int) × Unit)) => [⟨g1, 86, [.int .i64 x137, .slice a4 x3.length c5, .int .i64 x138]⟩]) (fun (((x136, x137, x138), _) : ((List (Int × Int) × Int × Int) × Unit)) => [Ro eS102 102 2 (.slice a14 x136.length c15) x136]) (fun (((x136, x137, x138), _) : ((List (Int × Int) × Int × Int) × Unit)) => [Sl (eI .u8) 1 (.slice a4 x3.length c5) x3]) (fun (((x136, x137, x138), _) : ((List (Int × Int) × Int × Int) × Unit)) => M_succ_reader_runs_j8 F x136 x137 x138) ?_ ?_
  · refine sxc_seq ?_
    refine sxc_region ?_
    refine sxo_move rfl rfl rfl ?_
    refine sxo_len rfl Try.underlying73 rfl rfl ?_
    refine sxo_move rfl rfl rfl ?_
    refine sxo_nil ?_
    refine sxq_next ?_
    refine sxc_block ?_
    refine sxc_loopP (fun (((x177, x178, x179, x180, x181), _) : ((List (Int × Int) × Int × Int × Int × Int) × Unit)) => [(0, .pointer (some ⟨g1, 0, none⟩)), (2, .int .i64 x8), (3, .int .i64 x9), (9, .slice a14 x177.length c15), (10, .int .i64 x178), (21, .int .i64 (x13.length : Int)), (22, .int .i64 x179)]) (fun (((x177, x178, x179, x180, x181), _) : ((List (Int × Int) × Int × Int × Int × Int) × Unit)) => [⟨g1, 86, [.int .i64 x180, .slice a4 x3.length c5, .int .i64 x181]⟩]) (fun (((x177, x178, x179, x180, x181), _) : ((List (Int × Int) × Int × Int × Int × Int) × Unit)) => [Ro eS102 102 2 (.slice a14 x177.length c15) x177]) (fun (((x177, x178, x179, x180, x181), _) : ((List (Int × Int) × Int × Int × Int × Int) × Unit)) => [Sl (eI .u8) 1 (.slice a4 x3.length c5) x3]) (fun k (s : ((List (Int × Int) × Int × Int × Int × Int) × Unit)) => M_succ_reader_runs_l13 F x3 x8 x9 x13 k s.1) ((x13, x7, 0, x11.2.1, x11.2.2), ()) F ?_ (hB := (.cons 0 rfl .nil)) (hR := (.cons 0 rfl .nil)) (hF := (fk_cons 0 rfl fk_nil))
    intro k220
    rintro ⟨⟨x177, x178, x179, x180, x181⟩, _⟩
    try dsimp only
    refine sxc_meq (m' := M_succ_reader_runs_b13 F x3 x8 x9 x13 (M_succ_reader_runs_l13 F x3 x8 x9 x13 k220) x177 x178 x179 x180 x181) rfl ?_
    refine sxc_seq ?_
    refine sxc_region ?_
    refine sxo_lss rfl rfl rfl rfl ?_
    refine sxo_nil ?_
    refine sxq_next ?_
    refine sxc_seq ?_
    refine sxc_if rfl (fun h258 => ?_) (fun h258 => ?_)
    · refine sxc_skip ?_
      refine sxq_next ?_
      refine sxc_seq ?_
      refine sxc_block ?_
      refine sxc_seq ?_
      refine sxc_region ?_
      refine sxo_move rfl rfl rfl ?_
      refine sxo_assign rfl rfl rfl ?_
      refine sxo_nil ?_
      refine sxq_next ?_
      refine sxc_seq ?_
      refine sxc_region ?_
      refine sxo_move rfl rfl rfl ?_
      refine sxo_callL ent67 rfl rfl rfl (fun x240 e240 => C_succ_reader_gamma F g1 x180 x3 a4 c5 x181 2097152 x240 e240) (.cons 0 rfl .nil) .nil (.consF 0 rfl .nil) (fun x241 _ => ?_) (fun x240 e240 => ?_)
      · refine sxq_thenP ?_
        refine sxq_blkP ?_
        refine sxq_thenP ?_
        refine sxq_thenP ?_
        refine sxq_blkP ?_
        refine sxq_thenP ?_
        exact sxq_lostL (.cons 0 rfl .nil)
      intro _
      refine sxo_assign rfl rfl rfl ?_
      refine sxo_nil ?_
      refine sxq_next ?_
      refine sxc_join (fun ((x244, _) : (Int × Unit)) => [(0, .pointer (some ⟨g1, 0, none⟩)), (2, .int .i64 x8), (3, .int .i64 x9), (9, .slice a14 x177.length c15), (10, .int .i64 x244), (11, .int .i64 x179), (21, .int .i64 (x13.length : Int)), (22, .int .i64 x179)]) (fun ((x244, _) : (Int × Unit)) => [⟨g1, 86, [.int .i64 x240.2.1, .slice a4 x3.length c5, .int .i64 x240.2.2]⟩]) (fun ((x244, _) : (Int × Unit)) => [Ro eS102 102 2 (.slice a14 x177.length c15) x177]) (fun ((x244, _) : (Int × Unit)) => [Sl (eI .u8) 1 (.slice a4 x3.length c5) x3]) (fun ((x244, _) : (Int × Unit)) => M_succ_reader_runs_j15 F (M_succ_reader_runs_l13 F x3 x8 x9 x13 k220) x3 x8 x9 x177 x179 x240 x244) ?_ ?_
      · refine sxc_seq ?_
        refine sxc_region ?_
        refine sxo_move rfl rfl rfl ?_
        refine sxo_eql rfl rfl rfl rfl ?_
        refine sxo_nil ?_
        refine sxq_next ?_
        refine sxc_if rfl (fun h257 => ?_) (fun h257 => ?_)
        · refine sxc_region ?_
          refine sxo_move rfl rfl rfl ?_
          refine sxo_move rfl rfl rfl ?_
          refine sxo_conv rfl Try.underlying3 Try.underlying36 rfl rfl ?_
          refine sxo_call ent81 rfl rfl rfl (fun x256 e256 => C_varint_Unfold F (iconv .u64 x240.1) x256 e256) .nil (fun x256 e256 => ?_)
          intro _
          refine sxo_add rfl rfl rfl rfl ?_
          refine sxo_assign rfl rfl rfl ?_
          refine sxo_nil ?_
          exact sxq_meetP (iadd .i64 x178 x256, ()) (hB := (.cons 0 rfl .nil)) (hR := (.cons 0 rfl .nil)) (hF := (fk_cons 0 rfl fk_nil))
        · refine sxc_region ?_
          refine sxo_move rfl rfl rfl ?_
          refine sxo_move rfl rfl rfl ?_
          refine sxo_add rfl rfl rfl rfl ?_
          refine sxo_add rfl rfl rfl rfl ?_
          refine sxo_assign rfl rfl rfl ?_
          refine sxo_nil ?_
          exact sxq_meetP (iadd .i64 x178 (iadd .i64 x240.1 2), ()) (hB := (.cons 0 rfl .nil)) (hR := (.cons 0 rfl .nil)) (hF := (fk_cons 0 rfl fk_nil))
      · rintro ⟨x244, _⟩
        try dsimp only
        refine sxc_seq ?_
        refine sxc_region ?_
        refine sxo_move rfl rfl rfl ?_
        refine sxo_move rfl rfl rfl ?_
        refine sxo_move rfl rfl rfl ?_
        refine sxo_move rfl rfl rfl ?_
        refine sxo_move rfl rfl rfl ?_
        refine sxo_callL ent67 rfl rfl rfl (fun x245 e245 => C_succ_reader_gamma F g1 x240.2.1 x3 a4 c5 x240.2.2 x9 x245 e245) (.cons 0 rfl .nil) .nil (.consF 0 rfl .nil) (fun x246 _ => ?_) (fun x245 e245 => ?_)
        · refine sxq_thenP ?_
          refine sxq_blkP ?_
          refine sxq_thenP ?_
          refine sxq_thenP ?_
          refine sxq_blkP ?_
          refine sxq_thenP ?_
          exact sxq_lostL (.cons 0 rfl .nil)
        intro _
        refine sxo_move rfl rfl rfl ?_
        refine sxo_add rfl rfl rfl rfl ?_
        refine sxo_build (cells := [.int .i64 x244, .int .i64 (iadd .i64 x245.1 x8)]) rfl st102 rfl (by kernel_rfl) rfl ?_
        refine sxo_indexR (j := 0) rfl Try.underlying73 tf102 rfl rfl rfl rfl (fun x247 e247 g248 h249 => ?_)
        refine sxo_storeL (j := 0) (y' := (x244, iadd .i64 x245.1 x8)) eS102_ok rfl rfl rfl tf102 rfl h249 (idx_get e247).2.1 rfl (fun x250 e250 h251 => ?_)
        have h252 : x250.length = x177.length := by rw [← e250, List.length_set]
        refine sxo_again (d := 9) (v := .slice a14 x250.length c15) rfl h251 ?_
        refine sxo_again (d := 38) (v := .slice a14 x250.length c15) rfl h251 ?_
        refine sxo_nil ?_
        refine sxq_next ?_
        refine sxc_region ?_
        refine sxo_move rfl rfl rfl ?_
        refine sxo_move rfl rfl rfl ?_
        refine sxo_move rfl rfl rfl ?_
        refine sxo_indexR (j := 0) rfl Try.underlying73 tf102 rfl rfl rfl rfl (fun x253 e253 g254 h255 => ?_)
        refine sxo_fieldAddr rfl rfl ff102_1 rfl ?_
        refine sxo_loadRo (j := 0) (y := x253) (off := 1) eS102_ok rfl rfl tf3 rfl h255 (idx_get e253).2.2 rfl (fun _ => rfl) rfl rfl ?_
        refine sxo_sub rfl rfl rfl rfl ?_
        refine sxo_add rfl rfl rfl rfl ?_
        refine sxo_assign rfl rfl rfl ?_
        refine sxo_nil ?_
        refine sxq_blkN ?_
        refine sxq_next ?_
        refine sxc_region ?_
        refine sxo_add rfl rfl rfl rfl ?_
        refine sxo_move rfl rfl rfl ?_
        refine sxo_nil ?_
        exact sxq_againP ((x250, iadd .i64 x244 (isub .i64 x253.2 1), iadd .i64 x179 1, x245.2.1, x245.2.2), ()) (hB := (.cons 0 rfl .nil)) (hR := (.cons 0 rfl .nil)) (hF := (fk_cons 0 rfl fk_nil))
    · refine sxc_exit ?_
      refine sxq_thenX ?_
      refine sxq_thenX ?_
      refine sxq_blkX ?_
      exact sxq_meetP ((x177, x180, x181), ()) (hB := (.cons 0 rfl .nil)) (hR := (.cons 0 rfl .nil)) (hF := (fk_cons 0 rfl fk_nil))
  · rintro ⟨⟨x136, x137, x138⟩, _⟩
    try dsimp only
    refine sxc_seq ?_
    refine sxc_region ?_
    refine sxo_move rfl rfl rfl ?_
    refine sxo_assign rfl rfl rfl ?_
    refine sxo_nil ?_
    refine sxq_next ?_
    refine sxc_ret ?_
    exact sxq_doneL (a14, c15) (.inl rfl) (res1 rfl rfl) rfl (.cons 0 rfl .nil) (.cons 0 rfl .nil)

theorem C_slices_Grow_int_int (F : Nat) (x1 : List Int) (a2 : Option Addr) (c3 : Nat) (x4 : Int) (r : List Int) (hm : M_slices_Grow_int_int F x1 c3 x4 = some r) :
    PureM Try.prog 87 [.slice a2 x1.length c3, .int .i64 x4] [] [Ro (eI .i64) 3 1 (.slice a2 x1.length c3) x1] [] (Option Addr × Nat) (fun g => .slice g.1 r.length g.2) (fun _ => []) (fun g => [Ro (eI .i64) 3 1 (.slice g.1 r.length g.2) r]) := by
  refine pureM_of Try.func87 rfl Try.ntmps87 rfl hm (fun w => ?_)
  refine sxc_env (l' := [(0, .slice a2 x1.length c3), (1, .int .i64 x4)]) rfl ?_
  refine sxc_seq ?_
  refine sxc_region ?_
  refine sxo_assign rfl rfl rfl ?_
  refine sxo_nil ?_
  refine sxq_next ?_
  refine sxc_seq ?_
  refine sxc_seq ?_
  refine sxc_region ?_
  refine sxo_move rfl rfl rfl ?_
  refine sxo_lss rfl rfl rfl rfl ?_
  refine sxo_nil ?_
  refine sxq_next ?_
  refine sxc_if rfl (fun h23 => ?_) (fun h23 => ?_)
  · exact sxc_none
  · refine sxc_skip ?_
    refine sxq_next ?_
    refine sxc_join (fun ((x15, (a13, c14)) : (List Int × (Option Addr × Nat))) => [(0, .slice a13 x15.length c14)]) (fun ((x15, (a13, c14)) : (List Int × (Option Addr × Nat))) => []) (fun ((x15, (a13, c14)) : (List Int × (Option Addr × Nat))) => [Ro (eI .i64) 3 1 (.slice a13 x15.length c14) x15]) (fun ((x15, (a13, c14)) : (List Int × (Option Addr × Nat))) => []) (fun ((x15, _) : (List Int × (Option Addr × Nat))) => M_slices_Grow_int_int_j1 F x15) ?_ ?_
    · refine sxc_seq ?_
      refine sxc_region ?_
      refine sxo_move rfl rfl rfl ?_
      refine sxo_move rfl rfl rfl ?_
      refine sxo_cap rfl Try.underlying22 rfl rfl ?_
      refine sxo_move rfl rfl rfl ?_
      refine sxo_len rfl Try.underlying22 rfl rfl ?_
      refine sxo_sub rfl rfl rfl rfl ?_
      refine sxo_sub rfl rfl rfl rfl ?_
      refine sxo_assign rfl rfl rfl ?_
      refine sxo_lett (fun x16 e16 => ?_)
      refine sxo_again (d := 1) (v := .int .i64 x16) rfl (by rw [e16] <;> rfl) ?_
      refine sxo_nil ?_
      refine sxq_next ?_
      refine sxc_seq ?_
      refine sxc_region ?_
      refine sxo_move rfl rfl rfl ?_
      refine sxo_gtr rfl rfl rfl rfl ?_
      refine sxo_nil ?_
      refine sxq_next ?_
      refine sxc_if rfl (fun h22 => ?_) (fun h22 => ?_)
      · refine sxc_region ?_
        refine sxo_move rfl rfl rfl ?_
        refine sxo_move rfl rfl rfl ?_
        refine sxo_cap rfl Try.underlying22 rfl rfl ?_
        refine sxo_cutR (i := 0) (eI_ok .i64) rfl Try.underlying22 tf3 rfl rfl rfl rfl (fun x17 e17 => ?_)
        refine sxo_move rfl rfl rfl ?_
        refine sxo_appZ (y := (0 : Int)) 0 (eI_ok .i64) rfl Try.underlying22 Try.underlying3 tf3 rfl rfl rfl rfl rfl rfl rfl rfl rfl (fun x18 e18 a19 c20 => ?_)
        refine sxo_move rfl rfl rfl ?_
        refine sxo_len rfl Try.underlying22 rfl rfl ?_
        refine sxo_cutR (i := 0) (eI_ok .i64) rfl Try.underlying22 tf3 rfl rfl rfl rfl (fun x21 e21 => ?_)
        refine sxo_assign rfl rfl rfl ?_
        refine sxo_nil ?_
        exact sxq_meetP (x21, (a19, c20)) (hR := (.cons 0 rfl .nil))
      · refine sxc_skip ?_
        exact sxq_meetP (x1, (a2, c3)) (hR := (.cons 0 rfl .nil))
    · rintro ⟨x15, ⟨a13, c14⟩⟩
      try dsimp only
      refine sxc_seq ?_
      refine sxc_region ?_
      refine sxo_move rfl rfl rfl ?_
      refine sxo_assign rfl rfl rfl ?_
      refine sxo_nil ?_
      refine sxq_next ?_
      refine sxc_ret ?_
      exact sxq_doneM (a13, c14) (res1 rfl rfl) (hR := fun h => by subst h; exact (.cons 0 rfl .nil))

theorem C_slices_Concat_int_int (F : Nat) (x1 : List (List Int)) (a2 : Option Addr) (c3 : (Nat × List (Option Addr × Nat))) (r : List Int) (hm : M_slices_Concat_int_int F x1 = some r) :
    Pure Try.prog 73 [.slice a2 x1.length c3.1] [SlN eN22 iN22 1 (.slice a2 x1.length c3.1) x1 c3.2] (Option Addr × Nat) (fun g => .slice g.1 r.length g.2) (fun g => [Ro (eI .i64) 3 1 (.slice g.1 r.length g.2) r]) (fun _ => []) := by
  refine pure_of Try.func73 rfl Try.ntmps73 rfl hm (fun w => ?_)
  refine sxc_env (l' := [(0, .slice a2 x1.length c3.1)]) rfl ?_
  refine sxc_seq ?_
  refine sxc_region ?_
  refine sxo_assign rfl rfl rfl ?_
  refine sxo_nil ?_
  refine sxq_next ?_
  refine sxc_seq ?_
  refine sxc_region ?_
  refine sxo_assign rfl rfl rfl ?_
  refine sxo_nil ?_
  refine sxq_next ?_
  refine sxc_join (fun ((x43, _) : (Int × Unit)) => [(0, .slice a2 x1.length c3.1), (3, .int .i64 x43)]) (fun ((x43, _) : (Int × Unit)) => []) (fun ((x43, _) : (Int × Unit)) => []) (fun ((x43, _) : (Int × Unit)) => [SlN eN22 iN22 1 (.slice a2 x1.length c3.1) x1 c3.2]) (fun ((x43, _) : (Int × Unit)) => M_slices_Concat_int_int_j2 F x1 x43) ?_ ?_
  · refine sxc_seq ?_
    refine sxc_region ?_
    refine sxo_move rfl rfl rfl ?_
    refine sxo_len rfl Try.underlying138 rfl rfl ?_
    refine sxo_move rfl rfl rfl ?_
    refine sxo_nil ?_
    refine sxq_next ?_
    refine sxc_block ?_
    refine sxc_loopP (fun (((x168, x169), _) : ((Int × Int) × Unit)) => [(0, .slice a2 x1.length c3.1), (3, .int .i64 x168), (9, .slice a2 x1.length c3.1), (10, .int .i64 (x1.length : Int)), (11, .int .i64 x169)]) (fun (((x168, x169), _) : ((Int × Int) × Unit)) => []) (fun (((x168, x169), _) : ((Int × Int) × Unit)) => []) (fun (((x168, x169), _) : ((Int × Int) × Unit)) => [SlN eN22 iN22 1 (.slice a2 x1.length c3.1) x1 c3.2]) (fun k (s : ((Int × Int) × Unit)) => M_slices_Concat_int_int_l6 F x1 k s.1) ((0, 0), ()) F ?_ (hF := (fk_cons 0 rfl fk_nil))
    intro k182
    rintro ⟨⟨x168, x169⟩, _⟩
    try dsimp only
    refine sxc_meq (m' := M_slices_Concat_int_int_b6 F x1 (M_slices_Concat_int_int_l6 F x1 k182) x168 x169) rfl ?_
    refine sxc_seq ?_
    refine sxc_region ?_
    refine sxo_lss rfl rfl rfl rfl ?_
    refine sxo_nil ?_
    refine sxq_next ?_
    refine sxc_seq ?_
    refine sxc_if rfl (fun h194 => ?_) (fun h194 => ?_)
    · refine sxc_skip ?_
      refine sxq_next ?_
      refine sxc_seq ?_
      refine sxc_block ?_
      refine sxc_seq ?_
      refine sxc_region ?_
      refine sxo_indexN (j := 0) eN22_ok (by decide) rfl Try.underlying138 tf22 rfl rfl rfl rfl (fun x189 e189 g192 b190 o191 => ?_)
      refine sxo_loadF (j := 0) rfl rfl tf22 rfl rfl (fun _ => rfl) rfl rfl ?_
      refine sxo_assign rfl rfl rfl ?_
      refine sxo_nil ?_
      refine sxq_next ?_
      refine sxc_seq ?_
      refine sxc_region ?_
      refine sxo_move rfl rfl rfl ?_
      refine sxo_move rfl rfl rfl ?_
      refine sxo_len rfl Try.underlying22 rfl rfl ?_
      refine sxo_add rfl rfl rfl rfl ?_
      refine sxo_assign rfl rfl rfl ?_
      refine sxo_nil ?_
      refine sxq_next ?_
      refine sxc_seq ?_
      refine sxc_region ?_
      refine sxo_move rfl rfl rfl ?_
      refine sxo_lss rfl rfl rfl rfl ?_
      refine sxo_nil ?_
      refine sxq_next ?_
      refine sxc_if rfl (fun h193 => ?_) (fun h193 => ?_)
      · exact sxc_none
      · refine sxc_skip ?_
        refine sxq_blkN ?_
        refine sxq_next ?_
        refine sxc_region ?_
        refine sxo_add rfl rfl rfl rfl ?_
        refine sxo_move rfl rfl rfl ?_
        refine sxo_nil ?_
        exact sxq_againP ((iadd .i64 x168 (x189.length : Int), iadd .i64 x169 1), ()) (hF := (fk_cons 2 rfl fk_nil))
    · refine sxc_exit ?_
      refine sxq_thenX ?_
      refine sxq_thenX ?_
      refine sxq_blkX ?_
      exact sxq_meetP (x168, ()) (hF := (fk_cons 0 rfl fk_nil))
  · rintro ⟨x43, _⟩
    try dsimp only
    refine sxc_seq ?_
    refine sxc_region ?_
    refine sxo_move rfl rfl rfl ?_
    refine sxo_nilrow' Int (eI .i64) 3 1 ?_
    refine sxo_callM ent87 rfl rfl rfl (fun x44 e44 => C_slices_Grow_int_int F ([] : List Int) none 0 x43 x44 e44) .nil (.cons 0 rfl .nil) .nil (fun x44 e44 => ?_)
    rintro ⟨a45, c46⟩
    refine sxo_assign rfl rfl rfl ?_
    refine sxo_nil ?_
    refine sxq_next ?_
    refine sxc_join (fun ((x102, (a100, c101)) : (List Int × (Option Addr × Nat))) => [(6, .slice a100 x102.length c101)]) (fun ((x102, (a100, c101)) : (List Int × (Option Addr × Nat))) => []) (fun ((x102, (a100, c101)) : (List Int × (Option Addr × Nat))) => [Ro (eI .i64) 3 1 (.slice a100 x102.length c101) x102]) (fun ((x102, (a100, c101)) : (List Int × (Option Addr × Nat))) => []) (fun ((x102, _) : (List Int × (Option Addr × Nat))) => M_slices_Concat_int_int_j4 F x102) ?_ ?_
    · refine sxc_seq ?_
      refine sxc_region ?_
      refine sxo_move rfl rfl rfl ?_
      refine sxo_len rfl Try.underlying138 rfl rfl ?_
      refine sxo_move rfl rfl rfl ?_
      refine sxo_nil ?_
      refine sxq_next ?_
      refine sxc_block ?_
      refine sxc_loopP (fun (((x121, x122), (a119, c120)) : ((List Int × Int) × (Option Addr × Nat))) => [(6, .slice a119 x121.length c120), (25, .slice a2 x1.length c3.1), (26, .int .i64 (x1.length : Int)), (27, .int .i64 x122)]) (fun (((x121, x122), (a119, c120)) : ((List Int × Int) × (Option Addr × Nat))) => []) (fun (((x121, x122), (a119, c120)) : ((List Int × Int) × (Option Addr × Nat))) => [Ro (eI .i64) 3 1 (.slice a119 x121.length c120) x121]) (fun (((x121, x122), (a119, c120)) : ((List Int × Int) × (Option Addr × Nat))) => [SlN eN22 iN22 1 (.slice a2 x1.length c3.1) x1 c3.2]) (fun k (s : ((List Int × Int) × (Option Addr × Nat))) => M_slices_Concat_int_int_l5 F x1 k s.1) ((x44, 0), (a45, c46)) F ?_ (hR := (.cons 0 rfl .nil)) (hF := (fk_cons 0 rfl fk_nil))
      intro k139
      rintro ⟨⟨x121, x122⟩, ⟨a119, c120⟩⟩
      try dsimp only
      refine sxc_meq (m' := M_slices_Concat_int_int_b5 F x1 (M_slices_Concat_int_int_l5 F x1 k139) x121 x122) rfl ?_
      refine sxc_seq ?_
      refine sxc_region ?_
      refine sxo_lss rfl rfl rfl rfl ?_
      refine sxo_nil ?_
      refine sxq_next ?_
      refine sxc_seq ?_
      refine sxc_if rfl (fun h155 => ?_) (fun h155 => ?_)
      · refine sxc_skip ?_
        refine sxq_next ?_
        refine sxc_seq ?_
        refine sxc_block ?_
        refine sxc_seq ?_
        refine sxc_region ?_
        refine sxo_indexN (j := 0) eN22_ok (by decide) rfl Try.underlying138 tf22 rfl rfl rfl rfl (fun x148 e148 g151 b149 o150 => ?_)
        refine sxo_loadF (j := 0) rfl rfl tf22 rfl rfl (fun _ => rfl) rfl rfl ?_
        refine sxo_assign rfl rfl rfl ?_
        refine sxo_nil ?_
        refine sxq_next ?_
        refine sxc_region ?_
        refine sxo_move rfl rfl rfl ?_
        refine sxo_move rfl rfl rfl ?_
        refine sxo_app 0 (eI_ok .i64) rfl Try.underlying22 tf3 rfl rfl rfl rfl rfl (.inr ⟨1, rfl⟩) rfl rfl (fun x152 e152 a153 c154 => ?_)
        refine sxo_assign rfl rfl rfl ?_
        refine sxo_nil ?_
        refine sxq_blkN ?_
        refine sxq_next ?_
        refine sxc_region ?_
        refine sxo_add rfl rfl rfl rfl ?_
        refine sxo_move rfl rfl rfl ?_
        refine sxo_nil ?_
        exact sxq_againP ((x152, iadd .i64 x122 1), (a153, c154)) (hR := (.cons 0 rfl .nil)) (hF := (fk_cons 2 rfl fk_nil))
      · refine sxc_exit ?_
        refine sxq_thenX ?_
        refine sxq_thenX ?_
        refine sxq_blkX ?_
        exact sxq_meetP (x121, (a119, c120)) (hR := (.cons 0 rfl .nil))
    · rintro ⟨x102, ⟨a100, c101⟩⟩
      try dsimp only
      refine sxc_seq ?_
      refine sxc_region ?_
      refine sxo_move rfl rfl rfl ?_
      refine sxo_assign rfl rfl rfl ?_
      refine sxo_nil ?_
      refine sxq_next ?_
      refine sxc_ret ?_
      exact sxq_doneP (a100, c101) (res1 rfl rfl) (fun h => by subst h; exact (.cons 0 rfl .nil))

theorem C_slices_Sort_int_int (F : Nat) (x1 : List Int) (a2 : Option Addr) (c3 : Nat) (r : List Int) (hm : M_slices_Sort_int_int F x1 = some r) :
    PureM Try.prog 74 [.slice a2 x1.length c3] [] [Ro (eI .i64) 3 1 (.slice a2 x1.length c3) x1] [] Unit (fun _ => .tuple #[]) (fun _ => []) (fun _ => [Ro (eI .i64) 3 1 (.slice a2 r.length c3) r]) := by
  unfold M_slices_Sort_int_int at hm
  split at hm
  · cases hm
    exact sort_pureM Try.slices_Sort_int Try.slices_Sort_int_none (by assumption)
  · simp at hm

theorem C_runs_within (F : Nat) (x1 : Int) (x2 : Int) (x3 : Int) (r : Bool) (hm : M_runs_within F x1 x2 x3 = some r) :
    Pure Try.prog 92 [.int .i64 x1, .int .i64 x2, .int .i64 x3] [] Unit (fun _ => .bool r) (fun _ => []) (fun _ => []) := by
  refine pure_of Try.func92 rfl Try.ntmps92 rfl hm (fun w => ?_)
  refine sxc_env (l' := [(0, .int .i64 x1), (1, .int .i64 x2), (2, .int .i64 x3)]) rfl ?_
  refine sxc_seq ?_
  refine sxc_region ?_
  refine sxo_assign rfl rfl rfl ?_
  refine sxo_nil ?_
  refine sxq_next ?_
  refine sxc_seq ?_
  refine sxc_region ?_
  refine sxo_move rfl rfl rfl ?_
  refine sxo_move rfl rfl rfl ?_
  refine sxo_geq rfl rfl rfl rfl ?_
  refine sxo_move rfl rfl rfl ?_
  refine sxo_case 4 (decide (x2 ≤ x1)) [(14, .bool ((decide (x2 ≤ x1)) && (decide (x1 ≤ x3))))] (fun h4 => ?_) (fun h4 => ?_) ?_
  · refine sxo_take (os := _) rfl ?_
    refine sxo_isT (k := 10) rfl h4 ?_
    refine sxo_move rfl rfl rfl ?_
    refine sxo_move rfl rfl rfl ?_
    refine sxo_leq rfl rfl rfl rfl ?_
    refine sxo_pick (b := true) rfl rfl rfl rfl ?_
    refine sxo_again (d := 14) (v := .bool ((decide (x2 ≤ x1)) && (decide (x1 ≤ x3)))) rfl (by rw [h4]; simp only [Bool.true_and]) ?_
    refine sxo_nil ?_
    exact sxq_case (lk_cons rfl lk_nil)
  · refine sxo_take (os := _) rfl ?_
    refine sxo_isF (k := 10) rfl h4 ?_
    refine sxo_skip rfl rfl rfl ?_
    refine sxo_skip rfl rfl rfl ?_
    refine sxo_skip rfl rfl rfl ?_
    refine sxo_pick (b := false) rfl rfl rfl rfl ?_
    refine sxo_again (d := 14) (v := .bool ((decide (x2 ≤ x1)) && (decide (x1 ≤ x3)))) rfl (by rw [h4]; simp only [Bool.false_and]) ?_
    refine sxo_nil ?_
    exact sxq_case (lk_cons rfl lk_nil)
  refine sxo_take (os := _) rfl ?_
  refine sxo_assign rfl rfl rfl ?_
  refine sxo_nil ?_
  refine sxq_next ?_
  refine sxc_ret ?_
  exact sxq_doneP () (res1 rfl rfl)

set_option maxHeartbeats 4000000 in
theorem C_runs_spread (F : Nat) (x1 : List (Int × Int)) (a2 : Option Addr) (c3 : Nat) (r : (List Int × Int)) (hm : M_runs_spread F x1 = some r) :
    Pure Try.prog 82 [.slice a2 x1.length c3] [Sl eS102 2 (.slice a2 x1.length c3) x1] (Option Addr × Nat) (fun g => .tuple #[.slice g.1 r.1.length g.2, .int .i64 r.2]) (fun g => [Ro (eI .i64) 3 1 (.slice g.1 r.1.length g.2) r.1]) (fun _ => []) := by
  refine pure_of Try.func82 rfl Try.ntmps82 rfl hm (fun w => ?_)
  refine sxc_env (l' := [(0, .slice a2 x1.length c3)]) rfl ?_
  refine sxc_seq ?_
  refine sxc_region ?_
  refine sxo_assign rfl rfl rfl ?_
  refine sxo_assign rfl rfl rfl ?_
  refine sxo_nil ?_
  refine sxq_next ?_
  refine sxc_seq ?_
  refine sxc_seq ?_
  refine sxc_region ?_
  refine sxo_move rfl rfl rfl ?_
  refine sxo_len rfl Try.underlying73 rfl rfl ?_
  refine sxo_gtr rfl rfl rfl rfl ?_
  refine sxo_nil ?_
  refine sxq_next ?_
  refine sxc_if rfl (fun h918 => ?_) (fun h918 => ?_)
  · refine sxc_seq ?_
    refine sxc_region ?_
    refine sxo_assign rfl rfl rfl ?_
    refine sxo_assign rfl rfl rfl ?_
    refine sxo_nil ?_
    refine sxq_next ?_
    refine sxc_ret ?_
    refine sxq_thenR ?_
    refine sxq_nilrow Int (eI .i64) 3 1 ?_
    exact sxq_doneP (none, 0) (res2 rfl rfl rfl) (fun h => by subst h; exact (.cons 0 rfl .nil))
  · refine sxc_skip ?_
    refine sxq_next ?_
    refine sxc_seq ?_
    refine sxc_region ?_
    refine sxo_assign rfl rfl rfl ?_
    refine sxo_nil ?_
    refine sxq_next ?_
    refine sxc_join (fun ((_, _) : (Unit × Unit)) => [(0, .slice a2 x1.length c3)]) (fun ((_, _) : (Unit × Unit)) => []) (fun ((_, _) : (Unit × Unit)) => []) (fun ((_, _) : (Unit × Unit)) => [Sl eS102 2 (.slice a2 x1.length c3) x1]) (fun ((_, _) : (Unit × Unit)) => M_runs_spread_j14 F x1) ?_ ?_
    · refine sxc_seq ?_
      refine sxc_region ?_
      refine sxo_move rfl rfl rfl ?_
      refine sxo_len rfl Try.underlying73 rfl rfl ?_
      refine sxo_move rfl rfl rfl ?_
      refine sxo_nil ?_
      refine sxq_next ?_
      refine sxc_block ?_
      refine sxc_loopP (fun (((x807, x808), _) : ((Int × Int) × Unit)) => [(0, .slice a2 x1.length c3), (4, .int .i64 x807), (14, .slice a2 x1.length c3), (15, .int .i64 (x1.length : Int)), (16, .int .i64 x808)]) (fun (((x807, x808), _) : ((Int × Int) × Unit)) => []) (fun (((x807, x808), _) : ((Int × Int) × Unit)) => []) (fun (((x807, x808), _) : ((Int × Int) × Unit)) => [Sl eS102 2 (.slice a2 x1.length c3) x1]) (fun k (s : ((Int × Int) × Unit)) => M_runs_spread_l44 F x1 k s.1) ((-2, 0), ()) F ?_ (hF := (fk_cons 0 rfl fk_nil))
      intro k863
      rintro ⟨⟨x807, x808⟩, _⟩
      try dsimp only
      refine sxc_meq (m' := M_runs_spread_b44 F x1 (M_runs_spread_l44 F x1 k863) x807 x808) rfl ?_
      refine sxc_seq ?_
      refine sxc_region ?_
      refine sxo_lss rfl rfl rfl rfl ?_
      refine sxo_nil ?_
      refine sxq_next ?_
      refine sxc_seq ?_
      refine sxc_if rfl (fun h917 => ?_) (fun h917 => ?_)
      · refine sxc_skip ?_
        refine sxq_next ?_
        refine sxc_seq ?_
        refine sxc_block ?_
        refine sxc_seq ?_
        refine sxc_region ?_
        refine sxo_indexF (j := 0) eS102_ok (by decide) rfl Try.underlying73 tf102 rfl rfl rfl rfl (fun x891 e891 b892 o893 => ?_)
        refine sxo_loadF (j := 0) rfl rfl tf102 rfl rfl (by simp) rfl rfl ?_
        refine sxo_alloc rfl tf102 rfl (fun g894 => ?_)
        refine sxo_storeB (i := 0) rfl rfl rfl tf102 rfl rfl rfl rfl rfl ?_
        refine sxo_nil ?_
        refine sxq_next ?_
        refine sxc_seq ?_
        refine sxc_block ?_
        refine sxc_join (fun ((x910, _) : (Bool × Unit)) => [(0, .slice a2 x1.length c3), (4, .int .i64 x807), (6, .pointer (some ⟨g894, 0, none⟩)), (14, .slice a2 x1.length c3), (15, .int .i64 (x1.length : Int)), (16, .int .i64 x808), (20, .bool x910)]) (fun ((x910, _) : (Bool × Unit)) => [⟨g894, 102, [.int .i64 x891.1, .int .i64 x891.2]⟩]) (fun ((x910, _) : (Bool × Unit)) => []) (fun ((x910, _) : (Bool × Unit)) => [Sl eS102 2 (.slice a2 x1.length c3) x1]) (fun ((x910, _) : (Bool × Unit)) => M_runs_spread_j48 F (M_runs_spread_l44 F x1 k863) x807 x808 x891 x910) ?_ ?_
        · refine sxc_seq ?_
          refine sxc_region ?_
          refine sxo_fieldAddr rfl rfl ff102_0 rfl ?_
          refine sxo_loadB (i := 0) rfl rfl tf3 rfl rfl (fun _ => rfl) rfl rfl ?_
          refine sxo_call ent92 rfl rfl rfl (fun x913 e913 => C_runs_within F x891.1 0 1048576 x913 e913) .nil (fun x913 e913 => ?_)
          intro _
          refine sxo_not rfl rfl rfl ?_
          refine sxo_assign rfl rfl rfl ?_
          refine sxo_nil ?_
          refine sxq_next ?_
          refine sxc_if rfl (fun h916 => ?_) (fun h916 => ?_)
          · refine sxc_skip ?_
            exact sxq_meetP ((!x913), ()) (hB := (.cons 0 rfl .nil)) (hF := (fk_cons 1 rfl fk_nil))
          · refine sxc_seq ?_
            refine sxc_region ?_
            refine sxo_fieldAddr rfl rfl ff102_1 rfl ?_
            refine sxo_loadB (i := 0) rfl rfl tf3 rfl rfl (fun _ => rfl) rfl rfl ?_
            refine sxo_call ent92 rfl rfl rfl (fun x914 e914 => C_runs_within F x891.2 1 300 x914 e914) .nil (fun x914 e914 => ?_)
            intro _
            refine sxo_not rfl rfl rfl ?_
            refine sxo_assign rfl rfl rfl ?_
            refine sxo_nil ?_
            refine sxq_next ?_
            refine sxc_if rfl (fun h915 => ?_) (fun h915 => ?_)
            · refine sxc_skip ?_
              exact sxq_meetP ((!x914), ()) (hB := (.cons 0 rfl .nil)) (hF := (fk_cons 1 rfl fk_nil))
            · refine sxc_region ?_
              refine sxo_fieldAddr rfl rfl ff102_0 rfl ?_
              refine sxo_loadB (i := 0) rfl rfl tf3 rfl rfl (fun _ => rfl) rfl rfl ?_
              refine sxo_fieldAddr rfl rfl ff102_1 rfl ?_
              refine sxo_loadB (i := 0) rfl rfl tf3 rfl rfl (fun _ => rfl) rfl rfl ?_
              refine sxo_add rfl rfl rfl rfl ?_
              refine sxo_sub rfl rfl rfl rfl ?_
              refine sxo_gtr rfl rfl rfl rfl ?_
              refine sxo_assign rfl rfl rfl ?_
              refine sxo_nil ?_
              exact sxq_meetP ((decide (1048576 < (isub .i64 (iadd .i64 x891.1 x891.2) 1))), ()) (hB := (.cons 0 rfl .nil)) (hF := (fk_cons 1 rfl fk_nil))
        · rintro ⟨x910, _⟩
          try dsimp only
          refine sxc_if rfl (fun h912 => ?_) (fun h912 => ?_)
          · refine sxc_seq ?_
            refine sxc_region ?_
            refine sxo_assign rfl rfl rfl ?_
            refine sxo_assign rfl rfl rfl ?_
            refine sxo_nil ?_
            refine sxq_next ?_
            refine sxc_ret ?_
            refine sxq_blkR ?_
            refine sxq_thenR ?_
            refine sxq_blkR ?_
            refine sxq_thenR ?_
            refine sxq_thenR ?_
            refine sxq_blkR ?_
            refine sxq_thenR ?_
            refine sxq_nilrow Int (eI .i64) 3 1 ?_
            exact sxq_doneP (none, 0) (res2 rfl rfl rfl) (fun h => by subst h; exact (.cons 0 rfl .nil))
          · refine sxc_seq ?_
            refine sxc_region ?_
            refine sxo_fieldAddr rfl rfl ff102_0 rfl ?_
            refine sxo_loadB (i := 0) rfl rfl tf3 rfl rfl (fun _ => rfl) rfl rfl ?_
            refine sxo_move rfl rfl rfl ?_
            refine sxo_add rfl rfl rfl rfl ?_
            refine sxo_lss rfl rfl rfl rfl ?_
            refine sxo_assign rfl rfl rfl ?_
            refine sxo_nil ?_
            refine sxq_next ?_
            refine sxc_if rfl (fun h911 => ?_) (fun h911 => ?_)
            · refine sxc_seq ?_
              refine sxc_region ?_
              refine sxo_assign rfl rfl rfl ?_
              refine sxo_assign rfl rfl rfl ?_
              refine sxo_nil ?_
              refine sxq_next ?_
              refine sxc_ret ?_
              refine sxq_blkR ?_
              refine sxq_thenR ?_
              refine sxq_blkR ?_
              refine sxq_thenR ?_
              refine sxq_thenR ?_
              refine sxq_blkR ?_
              refine sxq_thenR ?_
              refine sxq_nilrow Int (eI .i64) 3 1 ?_
              exact sxq_doneP (none, 0) (res2 rfl rfl rfl) (fun h => by subst h; exact (.cons 0 rfl .nil))
            · refine sxc_skip ?_
              refine sxq_blkN ?_
              refine sxq_next ?_
              refine sxc_region ?_
              refine sxo_fieldAddr rfl rfl ff102_0 rfl ?_
              refine sxo_loadB (i := 0) rfl rfl tf3 rfl rfl (fun _ => rfl) rfl rfl ?_
              refine sxo_fieldAddr rfl rfl ff102_1 rfl ?_
              refine sxo_loadB (i := 0) rfl rfl tf3 rfl rfl (fun _ => rfl) rfl rfl ?_
              refine sxo_add rfl rfl rfl rfl ?_
              refine sxo_sub rfl rfl rfl rfl ?_
              refine sxo_assign rfl rfl rfl ?_
              refine sxo_nil ?_
              refine sxq_blkN ?_
              refine sxq_next ?_
              refine sxc_region ?_
              refine sxo_add rfl rfl rfl rfl ?_
              refine sxo_move rfl rfl rfl ?_
              refine sxo_nil ?_
              exact sxq_againP ((isub .i64 (iadd .i64 x891.1 x891.2) 1, iadd .i64 x808 1), ()) (hF := (fk_cons 0 rfl fk_nil))
      · refine sxc_exit ?_
        refine sxq_thenX ?_
        refine sxq_thenX ?_
        refine sxq_blkX ?_
        exact sxq_meetP ((), ()) (hF := (fk_cons 0 rfl fk_nil))
    · rintro ⟨_, _⟩
      try dsimp only
      refine sxc_seq ?_
      refine sxc_region ?_
      refine sxo_assign rfl rfl rfl ?_
      refine sxo_nil ?_
      refine sxq_next ?_
      refine sxc_join (fun ((x462, (a460, c461)) : (List Int × (Option Addr × Nat))) => [(7, .slice a460 x462.length c461)]) (fun ((x462, (a460, c461)) : (List Int × (Option Addr × Nat))) => []) (fun ((x462, (a460, c461)) : (List Int × (Option Addr × Nat))) => [Ro (eI .i64) 3 1 (.slice a460 x462.length c461) x462]) (fun ((x462, (a460, c461)) : (List Int × (Option Addr × Nat))) => []) (fun ((x462, _) : (List Int × (Option Addr × Nat))) => M_runs_spread_j25 F x462) ?_ ?_
      · refine sxc_seq ?_
        refine sxc_region ?_
        refine sxo_move rfl rfl rfl ?_
        refine sxo_len rfl Try.underlying73 rfl rfl ?_
        refine sxo_move rfl rfl rfl ?_
        refine sxo_nil ?_
        refine sxq_next ?_
        refine sxc_block ?_
        refine sxc_nilrow Int (eI .i64) 3 1 ?_
        refine sxc_loopP (fun (((x560, x561), (a558, c559)) : ((List Int × Int) × (Option Addr × Nat))) => [(7, .slice a558 x560.length c559), (49, .slice a2 x1.length c3), (50, .int .i64 (x1.length : Int)), (51, .int .i64 x561)]) (fun (((x560, x561), (a558, c559)) : ((List Int × Int) × (Option Addr × Nat))) => []) (fun (((x560, x561), (a558, c559)) : ((List Int × Int) × (Option Addr × Nat))) => [Ro (eI .i64) 3 1 (.slice a558 x560.length c559) x560]) (fun (((x560, x561), (a558, c559)) : ((List Int × Int) × (Option Addr × Nat))) => [Sl eS102 2 (.slice a2 x1.length c3) x1]) (fun k (s : ((List Int × Int) × (Option Addr × Nat))) => M_runs_spread_l32 F x1 k s.1) ((([] : List Int), 0), (none, 0)) F ?_ (hR := (.cons 0 rfl .nil)) (hF := (fk_cons 0 rfl fk_nil))
        intro k657
        rintro ⟨⟨x560, x561⟩, ⟨a558, c559⟩⟩
        try dsimp only
        refine sxc_meq (m' := M_runs_spread_b32 F x1 (M_runs_spread_l32 F x1 k657) x560 x561) rfl ?_
        refine sxc_seq ?_
        refine sxc_region ?_
        refine sxo_lss rfl rfl rfl rfl ?_
        refine sxo_nil ?_
        refine sxq_next ?_
        refine sxc_seq ?_
        refine sxc_if rfl (fun h752 => ?_) (fun h752 => ?_)
        · refine sxc_skip ?_
          refine sxq_next ?_
          refine sxc_join (fun ((x706, (a704, c705)) : (List Int × (Option Addr × Nat))) => [(7, .slice a704 x706.length c705), (49, .slice a2 x1.length c3), (50, .int .i64 (x1.length : Int)), (51, .int .i64 x561)]) (fun ((x706, (a704, c705)) : (List Int × (Option Addr × Nat))) => []) (fun ((x706, (a704, c705)) : (List Int × (Option Addr × Nat))) => [Ro (eI .i64) 3 1 (.slice a704 x706.length c705) x706]) (fun ((x706, (a704, c705)) : (List Int × (Option Addr × Nat))) => [Sl eS102 2 (.slice a2 x1.length c3) x1]) (fun ((x706, _) : (List Int × (Option Addr × Nat))) => M_runs_spread_j34 F (M_runs_spread_l32 F x1 k657) x561 x706) ?_ ?_
          · refine sxc_block ?_
            refine sxc_seq ?_
            refine sxc_region ?_
            refine sxo_indexF (j := 0) eS102_ok (by decide) rfl Try.underlying73 tf102 rfl rfl rfl rfl (fun x707 e707 b708 o709 => ?_)
            refine sxo_loadF (j := 0) rfl rfl tf102 rfl rfl (by simp) rfl rfl ?_
            refine sxo_alloc rfl tf102 rfl (fun g710 => ?_)
            refine sxo_storeB (i := 0) rfl rfl rfl tf102 rfl rfl rfl rfl rfl ?_
            refine sxo_nil ?_
            refine sxq_next ?_
            refine sxc_seq ?_
            refine sxc_region ?_
            refine sxo_fieldAddr rfl rfl ff102_1 rfl ?_
            refine sxo_loadB (i := 0) rfl rfl tf3 rfl rfl (fun _ => rfl) rfl rfl ?_
            refine sxo_move rfl rfl rfl ?_
            refine sxo_nil ?_
            refine sxq_next ?_
            refine sxc_block ?_
            refine sxc_loopP (fun (((x725, x726), (a723, c724)) : ((List Int × Int) × (Option Addr × Nat))) => [(7, .slice a723 x725.length c724), (9, .pointer (some ⟨g710, 0, none⟩)), (49, .slice a2 x1.length c3), (50, .int .i64 (x1.length : Int)), (51, .int .i64 x561), (56, .int .i64 x707.2), (57, .int .i64 x726)]) (fun (((x725, x726), (a723, c724)) : ((List Int × Int) × (Option Addr × Nat))) => [⟨g710, 102, [.int .i64 x707.1, .int .i64 x707.2]⟩]) (fun (((x725, x726), (a723, c724)) : ((List Int × Int) × (Option Addr × Nat))) => [Ro (eI .i64) 3 1 (.slice a723 x725.length c724) x725]) (fun (((x725, x726), (a723, c724)) : ((List Int × Int) × (Option Addr × Nat))) => [Sl eS102 2 (.slice a2 x1.length c3) x1]) (fun k (s : ((List Int × Int) × (Option Addr × Nat))) => M_runs_spread_l35 F (M_runs_spread_l32 F x1 k657) x561 x707 k s.1) ((x560, 0), (a558, c559)) F ?_ (hB := (.cons 0 rfl .nil)) (hR := (.cons 0 rfl .nil)) (hF := (fk_cons 1 rfl fk_nil))
            intro k739
            rintro ⟨⟨x725, x726⟩, ⟨a723, c724⟩⟩
            try dsimp only
            refine sxc_meq (m' := M_runs_spread_b35 F (M_runs_spread_l32 F x1 k657) x561 x707 (M_runs_spread_l35 F (M_runs_spread_l32 F x1 k657) x561 x707 k739) x725 x726) rfl ?_
            refine sxc_seq ?_
            refine sxc_region ?_
            refine sxo_lss rfl rfl rfl rfl ?_
            refine sxo_nil ?_
            refine sxq_next ?_
            refine sxc_seq ?_
            refine sxc_if rfl (fun h751 => ?_) (fun h751 => ?_)
            · refine sxc_skip ?_
              refine sxq_next ?_
              refine sxc_seq ?_
              refine sxc_block ?_
              refine sxc_seq ?_
              refine sxc_region ?_
              refine sxo_move rfl rfl rfl ?_
              refine sxo_assign rfl rfl rfl ?_
              refine sxo_nil ?_
              refine sxq_next ?_
              refine sxc_region ?_
              refine sxo_move rfl rfl rfl ?_
              refine sxo_fieldAddr rfl rfl ff102_0 rfl ?_
              refine sxo_loadB (i := 0) rfl rfl tf3 rfl rfl (fun _ => rfl) rfl rfl ?_
              refine sxo_move rfl rfl rfl ?_
              refine sxo_add rfl rfl rfl rfl ?_
              refine sxo_slit (vs := [.int .i64 (iadd .i64 x707.1 x726)]) (ys := ([iadd .i64 x707.1 x726] : List Int)) (eI_ok .i64) (by decide) rfl Try.underlying22 tf3 rfl rfl rfl rfl rfl (by decide) (fun a746 c747 => ?_)
              refine sxo_app 1 (eI_ok .i64) rfl Try.underlying22 tf3 rfl rfl rfl rfl rfl (.inl ⟨0, _, rfl⟩) rfl rfl (fun x748 e748 a749 c750 => ?_)
              refine sxo_assign rfl rfl rfl ?_
              refine sxo_nil ?_
              refine sxq_blkN ?_
              refine sxq_next ?_
              refine sxc_region ?_
              refine sxo_add rfl rfl rfl rfl ?_
              refine sxo_move rfl rfl rfl ?_
              refine sxo_nil ?_
              exact sxq_againP ((x748, iadd .i64 x726 1), (a749, c750)) (hB := (.cons 0 rfl .nil)) (hR := (.cons 0 rfl .nil)) (hF := (fk_cons 0 rfl fk_nil))
            · refine sxc_exit ?_
              refine sxq_thenX ?_
              refine sxq_thenX ?_
              refine sxq_blkX ?_
              refine sxq_blkN ?_
              exact sxq_meetP (x725, (a723, c724)) (hR := (.cons 0 rfl .nil)) (hF := (fk_cons 0 rfl fk_nil))
          · rintro ⟨x706, ⟨a704, c705⟩⟩
            try dsimp only
            refine sxc_region ?_
            refine sxo_add rfl rfl rfl rfl ?_
            refine sxo_move rfl rfl rfl ?_
            refine sxo_nil ?_
            exact sxq_againP ((x706, iadd .i64 x561 1), (a704, c705)) (hR := (.cons 0 rfl .nil)) (hF := (fk_cons 0 rfl fk_nil))
        · refine sxc_exit ?_
          refine sxq_thenX ?_
          refine sxq_thenX ?_
          refine sxq_blkX ?_
          exact sxq_meetP (x560, (a558, c559)) (hR := (.cons 0 rfl .nil))
      · rintro ⟨x462, ⟨a460, c461⟩⟩
        try dsimp only
        refine sxc_seq ?_
        refine sxc_region ?_
        refine sxo_move rfl rfl rfl ?_
        refine sxo_assign rfl rfl rfl ?_
        refine sxo_assign rfl rfl rfl ?_
        refine sxo_nil ?_
        refine sxq_next ?_
        refine sxc_ret ?_
        exact sxq_doneP (a460, c461) (res2 rfl rfl rfl) (fun h => by subst h; exact (.cons 0 rfl .nil))

theorem C_slices_Compact_int_int (F : Nat) (x1 : List Int) (a2 : Option Addr) (c3 : Nat) (r : List Int) (hm : M_slices_Compact_int_int F x1 = some r) :
    PureM Try.prog 83 [.slice a2 x1.length c3] [] [Ro (eI .i64) 3 1 (.slice a2 x1.length c3) x1] [] (Option Addr × Nat) (fun g => .slice g.1 r.length g.2) (fun _ => []) (fun g => [Ro (eI .i64) 3 1 (.slice g.1 r.length g.2) r]) := by
  unfold M_slices_Compact_int_int at hm
  split at hm
  · cases hm
    exact compact_pureM Try.slices_Compact_int Try.slices_Compact_int_empty (by assumption)
  · simp at hm

theorem C_slices_Clone_int_int (F : Nat) (x1 : List Int) (a2 : Option Addr) (c3 : Nat) (r : List Int) (hm : M_slices_Clone_int_int F x1 = some r) :
    Pure Try.prog 84 [.slice a2 x1.length c3] [Sl (eI .i64) 1 (.slice a2 x1.length c3) x1] (Option Addr × Nat) (fun g => .slice g.1 r.length g.2) (fun g => [Ro (eI .i64) 3 1 (.slice g.1 r.length g.2) r]) (fun _ => []) := by
  refine pure_of Try.func84 rfl Try.ntmps84 rfl hm (fun w => ?_)
  refine sxc_env (l' := [(0, .slice a2 x1.length c3)]) rfl ?_
  refine sxc_seq ?_
  refine sxc_region ?_
  refine sxo_assign rfl rfl rfl ?_
  refine sxo_nil ?_
  refine sxq_next ?_
  refine sxc_seq ?_
  refine sxc_seq ?_
  refine sxc_region ?_
  refine sxo_move rfl rfl rfl ?_
  refine sxo_eqnil rfl Try.underlying22 rfl rfl rfl ?_
  refine sxo_nil ?_
  refine sxq_next ?_
  refine sxc_cond rfl (fun h11 => ?_) (fun h11 => ?_)
  · refine sxc_nilx 0 (eI_ok .i64) (by decide) rfl h11 (fun h12 => ?_)
    subst h12
    refine sxc_meq (m' := some ([] : List Int)) rfl ?_
    refine sxc_seq ?_
    refine sxc_region ?_
    refine sxo_assign rfl rfl rfl ?_
    refine sxo_nil ?_
    refine sxq_next ?_
    refine sxc_ret ?_
    refine sxq_thenR ?_
    refine sxq_nilrow Int (eI .i64) 3 1 ?_
    exact sxq_doneP (none, 0) (res1 rfl rfl) (fun h => by subst h; exact (.cons 0 rfl .nil))
  · refine sxc_skip ?_
    refine sxq_next ?_
    refine sxc_seq ?_
    refine sxc_region ?_
    refine sxo_slit (vs := []) (ys := ([] : List Int)) (eI_ok .i64) (by decide) rfl Try.underlying22 tf3 rfl rfl rfl rfl rfl (by decide) (fun a6 c7 => ?_)
    refine sxo_move rfl rfl rfl ?_
    refine sxo_app 0 (eI_ok .i64) rfl Try.underlying22 tf3 rfl rfl rfl rfl rfl (.inr ⟨0, rfl⟩) rfl rfl (fun x8 e8 a9 c10 => ?_)
    refine sxo_assign rfl rfl rfl ?_
    refine sxo_nil ?_
    refine sxq_next ?_
    refine sxc_ret ?_
    exact sxq_doneP (a9, c10) (res1 rfl rfl) (fun h => by subst h; exact (.cons 0 rfl .nil))

theorem C_runs_Merge (F : Nat) (x1 : List (Int × Int)) (a2 : Option Addr) (c3 : Nat) (x4 : List Int) (a5 : Option Addr) (c6 : Nat) (r : (List Int × Int)) (hm : M_runs_Merge F x1 x4 = some r) :
    Pure Try.prog 71 [.slice a2 x1.length c3, .slice a5 x4.length c6] [Sl eS102 2 (.slice a2 x1.length c3) x1, Sl (eI .i64) 1 (.slice a5 x4.length c6) x4] (Option Addr × Nat) (fun g => .tuple #[.slice g.1 r.1.length g.2, .int .i64 r.2]) (fun g => [Ro (eI .i64) 3 1 (.slice g.1 r.1.length g.2) r.1]) (fun _ => []) := by
  refine pure_of Try.func71 rfl Try.ntmps71 rfl hm (fun w => ?_)
  refine sxc_env (l' := [(0, .slice a2 x1.length c3), (1, .slice a5 x4.length c6)]) rfl ?_
  refine sxc_seq ?_
  refine sxc_region ?_
  refine sxo_assign rfl rfl rfl ?_
  refine sxo_assign rfl rfl rfl ?_
  refine sxo_nil ?_
  refine sxq_next ?_
  refine sxc_seq ?_
  refine sxc_region ?_
  refine sxo_move rfl rfl rfl ?_
  refine sxo_call ent82 rfl rfl rfl (fun x7 e7 => C_runs_spread F x1 a2 c3 x7 e7) (.consF 0 rfl .nil) (fun x7 e7 => ?_)
  rintro ⟨a8, c9⟩
  refine sxo_move rfl rfl rfl ?_
  refine sxo_extract rfl rfl rfl rfl ?_
  refine sxo_extract rfl rfl rfl rfl ?_
  refine sxo_assign rfl rfl rfl ?_
  refine sxo_assign rfl rfl rfl ?_
  refine sxo_nil ?_
  refine sxq_next ?_
  refine sxc_join (fun ((x12, _) : (Int × Unit)) => [(1, .slice a5 x4.length c6), (6, .slice a8 x7.1.length c9), (7, .int .i64 x12)]) (fun ((x12, _) : (Int × Unit)) => []) (fun ((x12, _) : (Int × Unit)) => [Ro (eI .i64) 3 1 (.slice a8 x7.1.length c9) x7.1]) (fun ((x12, _) : (Int × Unit)) => [Sl (eI .i64) 1 (.slice a5 x4.length c6) x4]) (fun ((x12, _) : (Int × Unit)) => M_runs_Merge_j1 F x4 x7 x12) ?_ ?_
  · refine sxc_seq ?_
    refine sxc_region ?_
    refine sxo_move rfl rfl rfl ?_
    refine sxo_eql rfl rfl rfl rfl ?_
    refine sxo_nil ?_
    refine sxq_next ?_
    refine sxc_if rfl (fun h39 => ?_) (fun h39 => ?_)
    · refine sxc_region ?_
      refine sxo_move rfl rfl rfl ?_
      refine sxo_call ent20 rfl rfl rfl (fun x38 e38 => C_gaps_Check F x4 a5 c6 x38 e38) (.consF 1 rfl .nil) (fun x38 e38 => ?_)
      intro _
      refine sxo_assign rfl rfl rfl ?_
      refine sxo_nil ?_
      exact sxq_meetP (x38, ()) (hR := (.cons 0 rfl .nil)) (hF := (fk_cons 1 rfl fk_nil))
    · refine sxc_skip ?_
      exact sxq_meetP (x7.2, ()) (hR := (.cons 0 rfl .nil)) (hF := (fk_cons 1 rfl fk_nil))
  · rintro ⟨x12, _⟩
    try dsimp only
    refine sxc_seq ?_
    refine sxc_seq ?_
    refine sxc_region ?_
    refine sxo_move rfl rfl rfl ?_
    refine sxo_neq rfl rfl rfl rfl ?_
    refine sxo_nil ?_
    refine sxq_next ?_
    refine sxc_if rfl (fun h37 => ?_) (fun h37 => ?_)
    · refine sxc_seq ?_
      refine sxc_region ?_
      refine sxo_move rfl rfl rfl ?_
      refine sxo_assign rfl rfl rfl ?_
      refine sxo_assign rfl rfl rfl ?_
      refine sxo_nil ?_
      refine sxq_next ?_
      refine sxc_ret ?_
      refine sxq_thenR ?_
      refine sxq_nilrow Int (eI .i64) 3 1 ?_
      exact sxq_doneP (none, 0) (res2 rfl rfl rfl) (fun h => by subst h; exact (.cons 0 rfl .nil))
    · refine sxc_skip ?_
      refine sxq_next ?_
      refine sxc_seq ?_
      refine sxc_region ?_
      refine sxo_move rfl rfl rfl ?_
      refine sxo_move rfl rfl rfl ?_
      refine sxo_freeze 0 rfl ?_
      refine sxo_slit (vs := [.slice a8 x7.1.length c9, .slice a5 x4.length c6]) (ys := ([(x7.1, (a8, c9)), (x4, (a5, c6))] : List (List Int × (Option Addr × Nat)))) eN22_ok (by decide) rfl Try.underlying138 tf22 rfl rfl rfl rfl rfl (by decide) (fun a14 c15 => ?_)
      refine sxo_nestF (inn := iN22) ([x7.1, x4] : List (List Int)) ([(a8, c9), (a5, c6)] : List (Option Addr × Nat)) 0 rfl rfl (fk_cons 0 rfl (fk_cons 1 rfl fk_nil)) ?_
      refine sxo_call ent73 rfl rfl rfl (fun x16 e16 => C_slices_Concat_int_int F ([x7.1, x4] : List (List Int)) a14 (c15, ([(a8, c9), (a5, c6)] : List (Option Addr × Nat))) x16 e16) (.consF 0 rfl .nil) (fun x16 e16 => ?_)
      rintro ⟨a17, c18⟩
      refine sxo_assign rfl rfl rfl ?_
      refine sxo_nil ?_
      refine sxq_next ?_
      refine sxc_seq ?_
      refine sxc_region ?_
      refine sxo_move rfl rfl rfl ?_
      refine sxo_callM ent74 rfl rfl rfl (fun x19 e19 => C_slices_Sort_int_int F x16 a17 c18 x19 e19) .nil (.cons 0 rfl .nil) .nil (fun x19 e19 => ?_)
      intro _
      refine sxo_chk (fun h20 => ?_)
      replace h20 := of_decide_eq_true h20
      refine sxo_again (d := 8) (v := .slice a17 x19.length c18) rfl (by rw [h20] <;> rfl) ?_
      refine sxo_again (d := 24) (v := .slice a17 x19.length c18) rfl (by rw [h20] <;> rfl) ?_
      refine sxo_again (d := 25) (v := .slice a17 x19.length c18) rfl (by rw [h20] <;> rfl) ?_
      refine sxo_nil ?_
      refine sxq_next ?_
      refine sxc_seq ?_
      refine sxc_block ?_
      refine sxc_seq ?_
      refine sxc_region ?_
      refine sxo_move rfl rfl rfl ?_
      refine sxo_call ent84 rfl rfl rfl (fun x29 e29 => C_slices_Clone_int_int F x19 a17 c18 x29 e29) (.consR 0 (Ro (eI .i64) 3 1 (.slice a17 x19.length c18) x19) rfl .nil) (fun x29 e29 => ?_)
      rintro ⟨a30, c31⟩
      refine sxo_callM ent83 rfl rfl rfl (fun x32 e32 => C_slices_Compact_int_int F x29 a30 c31 x32 e32) .nil (.cons 0 rfl .nil) .nil (fun x32 e32 => ?_)
      rintro ⟨a33, c34⟩
      refine sxo_len rfl Try.underlying22 rfl rfl ?_
      refine sxo_move rfl rfl rfl ?_
      refine sxo_len rfl Try.underlying22 rfl rfl ?_
      refine sxo_lss rfl rfl rfl rfl ?_
      refine sxo_assign rfl rfl rfl ?_
      refine sxo_nil ?_
      refine sxq_next ?_
      refine sxc_if rfl (fun h36 => ?_) (fun h36 => ?_)
      · refine sxc_seq ?_
        refine sxc_region ?_
        refine sxo_assign rfl rfl rfl ?_
        refine sxo_assign rfl rfl rfl ?_
        refine sxo_nil ?_
        refine sxq_next ?_
        refine sxc_ret ?_
        refine sxq_blkR ?_
        refine sxq_thenR ?_
        refine sxq_nilrow Int (eI .i64) 3 1 ?_
        exact sxq_doneP (none, 0) (res2 rfl rfl rfl) (fun h => by subst h; exact (.cons 0 rfl .nil))
      · refine sxc_seq ?_
        refine sxc_region ?_
        refine sxo_move rfl rfl rfl ?_
        refine sxo_len rfl Try.underlying22 rfl rfl ?_
        refine sxo_gtr rfl rfl rfl rfl ?_
        refine sxo_assign rfl rfl rfl ?_
        refine sxo_nil ?_
        refine sxq_next ?_
        refine sxc_if rfl (fun h35 => ?_) (fun h35 => ?_)
        · refine sxc_seq ?_
          refine sxc_region ?_
          refine sxo_assign rfl rfl rfl ?_
          refine sxo_assign rfl rfl rfl ?_
          refine sxo_nil ?_
          refine sxq_next ?_
          refine sxc_ret ?_
          refine sxq_blkR ?_
          refine sxq_thenR ?_
          refine sxq_nilrow Int (eI .i64) 3 1 ?_
          exact sxq_doneP (none, 0) (res2 rfl rfl rfl) (fun h => by subst h; exact (.cons 0 rfl .nil))
        · refine sxc_skip ?_
          refine sxq_blkN ?_
          refine sxq_next ?_
          refine sxc_seq ?_
          refine sxc_region ?_
          refine sxo_move rfl rfl rfl ?_
          refine sxo_assign rfl rfl rfl ?_
          refine sxo_assign rfl rfl rfl ?_
          refine sxo_nil ?_
          refine sxq_next ?_
          refine sxc_ret ?_
          exact sxq_doneP (a17, c18) (res2 rfl rfl rfl) (fun h => by subst h; exact (.cons 1 rfl .nil))

theorem C_golomb_fromLeast (F : Nat) (x1 : Int) (x2 : List Int) (a3 : Option Addr) (c4 : Nat) (x5 : Int) (x6 : Int) (r : (Int × Int × Bool)) (hm : M_golomb_fromLeast F x1 x2 x5 x6 = some r) :
    Pure Try.prog 94 [.agg #[.int .i64 x1, .slice a3 x2.length c4], .int .i64 x5, .int .u64 x6] [Sl (eI .u8) 1 (.slice a3 x2.length c4) x2] Unit (fun _ => .tuple #[.int .u64 r.1, .int .i64 r.2.1, .bool r.2.2]) (fun _ => []) (fun _ => []) := by
  refine pure_of Try.func94 rfl Try.ntmps94 rfl hm (fun w => ?_)
  refine sxc_env (l' := [(0, .agg #[.int .i64 x1, .slice a3 x2.length c4]), (1, .int .i64 x5), (2, .int .u64 x6)]) rfl ?_
  refine sxc_seq ?_
  refine sxc_region ?_
  refine sxo_box rfl rfl rfl (fun g7 => ?_)
  refine sxo_assign rfl rfl rfl ?_
  refine sxo_assign rfl rfl rfl ?_
  refine sxo_assign rfl rfl rfl ?_
  refine sxo_nil ?_
  refine sxq_next ?_
  refine sxc_seq ?_
  refine sxc_region ?_
  refine sxo_move rfl rfl rfl ?_
  refine sxo_call ent77 rfl rfl rfl (fun x8 e8 => C_golomb_shape F x6 x8 e8) .nil (fun x8 e8 => ?_)
  intro _
  refine sxo_move rfl rfl rfl ?_
  refine sxo_extract rfl rfl rfl rfl ?_
  refine sxo_extract rfl rfl rfl rfl ?_
  refine sxo_assign rfl rfl rfl ?_
  refine sxo_assign rfl rfl rfl ?_
  refine sxo_nil ?_
  refine sxq_next ?_
  refine sxc_join (fun ((_, _) : (Unit × Unit)) => [(1, .int .i64 x5), (3, .pointer (some ⟨g7, 0, none⟩)), (9, .int .i64 x8.1), (10, .int .u64 x8.2)]) (fun ((_, _) : (Unit × Unit)) => [⟨g7, 27, [.int .i64 x1, .slice a3 x2.length c4]⟩]) (fun ((_, _) : (Unit × Unit)) => []) (fun ((_, _) : (Unit × Unit)) => [Sl (eI .u8) 1 (.slice a3 x2.length c4) x2]) (fun ((_, _) : (Unit × Unit)) => M_golomb_fromLeast_j1 F x1 x2 x5 x8) ?_ ?_
  · refine sxc_seq ?_
    refine sxc_region ?_
    refine sxo_move rfl rfl rfl ?_
    refine sxo_gtr rfl rfl rfl rfl ?_
    refine sxo_nil ?_
    refine sxq_next ?_
    refine sxc_if rfl (fun h19 => ?_) (fun h19 => ?_)
    · refine sxc_seq ?_
      refine sxc_region ?_
      refine sxo_loadB (i := 0) rfl rfl tf27 rfl rfl (by simp) rfl rfl ?_
      refine sxo_move rfl rfl rfl ?_
      refine sxo_move rfl rfl rfl ?_
      refine sxo_sub rfl rfl rfl rfl ?_
      refine sxo_call ent32 rfl rfl rfl (fun x15 e15 => C_bits_Read F x1 x2 a3 c4 x5 (isub .i64 x8.1 1) x15 e15) (.consF 0 rfl .nil) (fun x15 e15 => ?_)
      intro _
      refine sxo_move rfl rfl rfl ?_
      refine sxo_extract rfl rfl rfl rfl ?_
      refine sxo_extract rfl rfl rfl rfl ?_
      refine sxo_assign rfl rfl rfl ?_
      refine sxo_assign rfl rfl rfl ?_
      refine sxo_nil ?_
      refine sxq_next ?_
      refine sxc_seq ?_
      refine sxc_seq ?_
      refine sxc_region ?_
      refine sxo_move rfl rfl rfl ?_
      refine sxo_not rfl rfl rfl ?_
      refine sxo_nil ?_
      refine sxq_next ?_
      refine sxc_if rfl (fun h18 => ?_) (fun h18 => ?_)
      · refine sxc_seq ?_
        refine sxc_region ?_
        refine sxo_assign rfl rfl rfl ?_
        refine sxo_assign rfl rfl rfl ?_
        refine sxo_assign rfl rfl rfl ?_
        refine sxo_nil ?_
        refine sxq_next ?_
        refine sxc_ret ?_
        refine sxq_thenR ?_
        refine sxq_thenR ?_
        exact sxq_doneP () (res3 rfl rfl rfl rfl)
      · refine sxc_skip ?_
        refine sxq_next ?_
        refine sxc_seq ?_
        refine sxc_region ?_
        refine sxo_move rfl rfl rfl ?_
        refine sxo_move rfl rfl rfl ?_
        refine sxo_lss rfl rfl rfl rfl ?_
        refine sxo_nil ?_
        refine sxq_next ?_
        refine sxc_if rfl (fun h17 => ?_) (fun h17 => ?_)
        · refine sxc_seq ?_
          refine sxc_region ?_
          refine sxo_move rfl rfl rfl ?_
          refine sxo_move rfl rfl rfl ?_
          refine sxo_move rfl rfl rfl ?_
          refine sxo_add rfl rfl rfl rfl ?_
          refine sxo_sub rfl rfl rfl rfl ?_
          refine sxo_assign rfl rfl rfl ?_
          refine sxo_assign rfl rfl rfl ?_
          refine sxo_assign rfl rfl rfl ?_
          refine sxo_nil ?_
          refine sxq_next ?_
          refine sxc_ret ?_
          refine sxq_thenR ?_
          exact sxq_doneP () (res3 rfl rfl rfl rfl)
        · refine sxc_skip ?_
          exact sxq_meetP ((), ()) (hB := (.cons 0 rfl .nil)) (hF := (fk_cons 0 rfl fk_nil))
    · refine sxc_skip ?_
      exact sxq_meetP ((), ()) (hB := (.cons 0 rfl .nil)) (hF := (fk_cons 0 rfl fk_nil))
  · rintro ⟨_, _⟩
    try dsimp only
    refine sxc_seq ?_
    refine sxc_region ?_
    refine sxo_loadB (i := 0) rfl rfl tf27 rfl rfl (by simp) rfl rfl ?_
    refine sxo_move rfl rfl rfl ?_
    refine sxo_move rfl rfl rfl ?_
    refine sxo_call ent32 rfl rfl rfl (fun x14 e14 => C_bits_Read F x1 x2 a3 c4 x5 x8.1 x14 e14) (.consF 0 rfl .nil) (fun x14 e14 => ?_)
    intro _
    refine sxo_move rfl rfl rfl ?_
    refine sxo_extract rfl rfl rfl rfl ?_
    refine sxo_extract rfl rfl rfl rfl ?_
    refine sxo_assign rfl rfl rfl ?_
    refine sxo_assign rfl rfl rfl ?_
    refine sxo_nil ?_
    refine sxq_next ?_
    refine sxc_seq ?_
    refine sxc_region ?_
    refine sxo_move rfl rfl rfl ?_
    refine sxo_move rfl rfl rfl ?_
    refine sxo_sub rfl rfl rfl rfl ?_
    refine sxo_move rfl rfl rfl ?_
    refine sxo_move rfl rfl rfl ?_
    refine sxo_add rfl rfl rfl rfl ?_
    refine sxo_move rfl rfl rfl ?_
    refine sxo_assign rfl rfl rfl ?_
    refine sxo_assign rfl rfl rfl ?_
    refine sxo_assign rfl rfl rfl ?_
    refine sxo_nil ?_
    refine sxq_next ?_
    refine sxc_ret ?_
    exact sxq_doneP () (res3 rfl rfl rfl rfl)

theorem C_golomb_ended (F : Nat) (x1 : Int) (x2 : Int) (x3 : Bool) (r : (Int × Int × Int)) (hm : M_golomb_ended F x1 x2 x3 = some r) :
    Pure Try.prog 95 [.int .u64 x1, .int .i64 x2, .bool x3] [] Unit (fun _ => .tuple #[.int .u64 r.1, .int .i64 r.2.1, .int .i64 r.2.2]) (fun _ => []) (fun _ => []) := by
  refine pure_of Try.func95 rfl Try.ntmps95 rfl hm (fun w => ?_)
  refine sxc_env (l' := [(0, .int .u64 x1), (1, .int .i64 x2), (2, .bool x3)]) rfl ?_
  refine sxc_seq ?_
  refine sxc_region ?_
  refine sxo_assign rfl rfl rfl ?_
  refine sxo_assign rfl rfl rfl ?_
  refine sxo_assign rfl rfl rfl ?_
  refine sxo_nil ?_
  refine sxq_next ?_
  refine sxc_seq ?_
  refine sxc_block ?_
  refine sxc_seq ?_
  refine sxc_region ?_
  refine sxo_move rfl rfl rfl ?_
  refine sxo_not rfl rfl rfl ?_
  refine sxo_assign rfl rfl rfl ?_
  refine sxo_nil ?_
  refine sxq_next ?_
  refine sxc_if rfl (fun h7 => ?_) (fun h7 => ?_)
  · refine sxc_seq ?_
    refine sxc_region ?_
    refine sxo_assign rfl rfl rfl ?_
    refine sxo_assign rfl rfl rfl ?_
    refine sxo_assign rfl rfl rfl ?_
    refine sxo_nil ?_
    refine sxq_next ?_
    refine sxc_ret ?_
    refine sxq_blkR ?_
    refine sxq_thenR ?_
    exact sxq_doneP () (res3 rfl rfl rfl rfl)
  · refine sxc_seq ?_
    refine sxc_region ?_
    refine sxo_move rfl rfl rfl ?_
    refine sxo_gtr rfl rfl rfl rfl ?_
    refine sxo_assign rfl rfl rfl ?_
    refine sxo_nil ?_
    refine sxq_next ?_
    refine sxc_if rfl (fun h6 => ?_) (fun h6 => ?_)
    · refine sxc_seq ?_
      refine sxc_region ?_
      refine sxo_assign rfl rfl rfl ?_
      refine sxo_assign rfl rfl rfl ?_
      refine sxo_assign rfl rfl rfl ?_
      refine sxo_nil ?_
      refine sxq_next ?_
      refine sxc_ret ?_
      refine sxq_blkR ?_
      refine sxq_thenR ?_
      exact sxq_doneP () (res3 rfl rfl rfl rfl)
    · refine sxc_skip ?_
      refine sxq_blkN ?_
      refine sxq_next ?_
      refine sxc_seq ?_
      refine sxc_region ?_
      refine sxo_move rfl rfl rfl ?_
      refine sxo_move rfl rfl rfl ?_
      refine sxo_assign rfl rfl rfl ?_
      refine sxo_assign rfl rfl rfl ?_
      refine sxo_assign rfl rfl rfl ?_
      refine sxo_nil ?_
      refine sxq_next ?_
      refine sxc_ret ?_
      exact sxq_doneP () (res3 rfl rfl rfl rfl)

theorem C_golomb_FromZeta (F : Nat) (x1 : Int) (x2 : List Int) (a3 : Option Addr) (c4 : Nat) (x5 : Int) (x6 : Int) (r : (Int × Int × Int)) (hm : M_golomb_FromZeta F x1 x2 x5 x6 = some r) :
    Pure Try.prog 85 [.agg #[.int .i64 x1, .slice a3 x2.length c4], .int .i64 x5, .int .i64 x6] [Sl (eI .u8) 1 (.slice a3 x2.length c4) x2] Unit (fun _ => .tuple #[.int .u64 r.1, .int .i64 r.2.1, .int .i64 r.2.2]) (fun _ => []) (fun _ => []) := by
  refine pure_of Try.func85 rfl Try.ntmps85 rfl hm (fun w => ?_)
  refine sxc_env (l' := [(0, .agg #[.int .i64 x1, .slice a3 x2.length c4]), (1, .int .i64 x5), (2, .int .i64 x6)]) rfl ?_
  refine sxc_seq ?_
  refine sxc_region ?_
  refine sxo_box rfl rfl rfl (fun g7 => ?_)
  refine sxo_assign rfl rfl rfl ?_
  refine sxo_assign rfl rfl rfl ?_
  refine sxo_assign rfl rfl rfl ?_
  refine sxo_nil ?_
  refine sxq_next ?_
  refine sxc_seq ?_
  refine sxc_region ?_
  refine sxo_loadB (i := 0) rfl rfl tf27 rfl rfl (by simp) rfl rfl ?_
  refine sxo_move rfl rfl rfl ?_
  refine sxo_call ent93 rfl rfl rfl (fun x8 e8 => C_unary_From F x1 x2 a3 c4 x5 x8 e8) (.consF 0 rfl .nil) (fun x8 e8 => ?_)
  intro _
  refine sxo_move rfl rfl rfl ?_
  refine sxo_extract rfl rfl rfl rfl ?_
  refine sxo_extract rfl rfl rfl rfl ?_
  refine sxo_extract rfl rfl rfl rfl ?_
  refine sxo_assign rfl rfl rfl ?_
  refine sxo_assign rfl rfl rfl ?_
  refine sxo_assign rfl rfl rfl ?_
  refine sxo_nil ?_
  refine sxq_next ?_
  refine sxc_seq ?_
  refine sxc_seq ?_
  refine sxc_region ?_
  refine sxo_move rfl rfl rfl ?_
  refine sxo_not rfl rfl rfl ?_
  refine sxo_nil ?_
  refine sxq_next ?_
  refine sxc_if rfl (fun h23 => ?_) (fun h23 => ?_)
  · refine sxc_seq ?_
    refine sxc_region ?_
    refine sxo_assign rfl rfl rfl ?_
    refine sxo_assign rfl rfl rfl ?_
    refine sxo_assign rfl rfl rfl ?_
    refine sxo_nil ?_
    refine sxq_next ?_
    refine sxc_ret ?_
    refine sxq_thenR ?_
    exact sxq_doneP () (res3 rfl rfl rfl rfl)
  · refine sxc_skip ?_
    refine sxq_next ?_
    refine sxc_seq ?_
    refine sxc_seq ?_
    refine sxc_region ?_
    refine sxo_move rfl rfl rfl ?_
    refine sxo_move rfl rfl rfl ?_
    refine sxo_conv rfl Try.underlying3 Try.underlying36 rfl rfl ?_
    refine sxo_mul rfl rfl rfl rfl ?_
    refine sxo_geq rfl rfl rfl rfl ?_
    refine sxo_nil ?_
    refine sxq_next ?_
    refine sxc_if rfl (fun h22 => ?_) (fun h22 => ?_)
    · refine sxc_seq ?_
      refine sxc_region ?_
      refine sxo_assign rfl rfl rfl ?_
      refine sxo_assign rfl rfl rfl ?_
      refine sxo_assign rfl rfl rfl ?_
      refine sxo_nil ?_
      refine sxq_next ?_
      refine sxc_ret ?_
      refine sxq_thenR ?_
      exact sxq_doneP () (res3 rfl rfl rfl rfl)
    · refine sxc_skip ?_
      refine sxq_next ?_
      refine sxc_seq ?_
      refine sxc_region ?_
      refine sxo_move rfl rfl rfl ?_
      refine sxo_conv rfl Try.underlying36 Try.underlying3 rfl rfl ?_
      refine sxo_move rfl rfl rfl ?_
      refine sxo_mul rfl rfl rfl rfl ?_
      refine sxo_chk (fun h11 => ?_)
      refine sxo_shl rfl rfl rfl rfl h11 ?_
      refine sxo_assign rfl rfl rfl ?_
      refine sxo_lett (fun x12 e12 => ?_)
      refine sxo_again (d := 12) (v := .int .u64 x12) rfl (by rw [e12] <;> rfl) ?_
      refine sxo_nil ?_
      refine sxq_next ?_
      refine sxc_seq ?_
      refine sxc_chk (fun h17 => ?_)
      refine sxb_draw mixed [] [⟨g7, 27, [.int .i64 x1, .slice a3 x2.length c4]⟩] [Sl (eI .u8) 1 (.slice a3 x2.length c4) x2] (.cons 0 rfl .nil) (gk_F 0 rfl gk_nil) 15 rfl ?_
      refine sxb_takeB 0 (.agg #[.int .i64 x1, .slice a3 x2.length c4]) rfl rfl rfl (yv_loadB (i := 0) rfl tf27 rfl rfl (by simp) rfl) ?_
      refine sxb_takeP 1 (.int .i64 x8.2.1) rfl rfl rfl (yv_pv rfl) ?_
      refine sxb_takeP 2 (.int .u64 x12) rfl rfl rfl (yv_pv rfl) ?_
      refine sxb_takeP 3 (.int .i64 x6) rfl rfl rfl (yv_pv rfl) ?_
      refine sxb_takeP 4 (.int .u64 (ishl .u64 x12 x6)) rfl rfl rfl (yv_shl rfl rfl h17) ?_
      refine sxb_takeP 5 (.int .u64 x12) rfl rfl rfl (yv_pv rfl) ?_
      refine sxb_takeP 6 (.int .u64 (isub .u64 (ishl .u64 x12 x6) x12)) rfl rfl rfl (yv_pv rfl) ?_
      refine sxb_step 7 rfl (by kernel_rfl) rfl ?_
      refine sxo_call ent94 rfl rfl rfl (fun x20 e20 => C_golomb_fromLeast F x1 x2 a3 c4 x8.2.1 (isub .u64 (ishl .u64 x12 x6) x12) x20 e20) (.consF 0 rfl .nil) (fun x20 e20 => ?_)
      intro _
      refine sxo_nil ?_
      refine sxq_anyB (.cons 0 rfl .nil) (gk_F 0 rfl gk_nil) ?_
      refine sxb_takeP 8 (.tuple #[.int .u64 x20.1, .int .i64 x20.2.1, .bool x20.2.2]) rfl rfl rfl (yv_pv rfl) ?_
      refine sxb_takeP 9 (.int .u64 x20.1) rfl rfl rfl (yv_pv rfl) ?_
      refine sxb_takeP 10 (.int .i64 x20.2.1) rfl rfl rfl (yv_pv rfl) ?_
      refine sxb_takeP 11 (.bool x20.2.2) rfl rfl rfl (yv_pv rfl) ?_
      refine sxb_takeP 12 (.int .u64 x20.1) rfl rfl rfl (yv_pv rfl) ?_
      refine sxb_takeP 13 (.int .i64 x20.2.1) rfl rfl rfl (yv_pv rfl) ?_
      refine sxb_takeP 14 (.bool x20.2.2) rfl rfl rfl (yv_pv rfl) ?_
      refine sxb_done (by kernel_rfl) ?_
      refine sxq_np ?_ (by intro c h; cases h)
      refine sxq_next ?_
      refine sxc_seq ?_
      refine sxc_region ?_
      refine sxo_move rfl rfl rfl ?_
      refine sxo_move rfl rfl rfl ?_
      refine sxo_add rfl rfl rfl rfl ?_
      refine sxo_sub rfl rfl rfl rfl ?_
      refine sxo_move rfl rfl rfl ?_
      refine sxo_move rfl rfl rfl ?_
      refine sxo_call ent95 rfl rfl rfl (fun x21 e21 => C_golomb_ended F (isub .u64 (iadd .u64 x12 x20.1) 1) x20.2.1 x20.2.2 x21 e21) .nil (fun x21 e21 => ?_)
      intro _
      refine sxo_extract rfl rfl rfl rfl ?_
      refine sxo_extract rfl rfl rfl rfl ?_
      refine sxo_extract rfl rfl rfl rfl ?_
      refine sxo_assign rfl rfl rfl ?_
      refine sxo_assign rfl rfl rfl ?_
      refine sxo_assign rfl rfl rfl ?_
      refine sxo_nil ?_
      refine sxq_next ?_
      refine sxc_ret ?_
      exact sxq_doneP () (res3 rfl rfl rfl rfl)

theorem C_gaps_walker_step (F : Nat) (g1 : Nat) (x2 : Int) (x3 : Bool) (x4 : Int) (r : (Bool × Int × Bool)) (hm : M_gaps_walker_step F x2 x3 x4 = some r) :
    PureM Try.prog 86 [.pointer (some ⟨g1, 0, none⟩), .int .u64 x4] [⟨g1, 107, [.int .i64 x2, .bool x3]⟩] [] [] Unit (fun _ => .bool r.1) (fun _ => [⟨g1, 107, [.int .i64 r.2.1, .bool r.2.2]⟩]) (fun _ => []) := by
  refine pureM_of Try.func86 rfl Try.ntmps86 rfl hm (fun w => ?_)
  refine sxc_env (l' := [(0, .pointer (some ⟨g1, 0, none⟩)), (1, .int .u64 x4)]) rfl ?_
  refine sxc_seq ?_
  refine sxc_region ?_
  refine sxo_assign rfl rfl rfl ?_
  refine sxo_nil ?_
  refine sxq_next ?_
  refine sxc_seq ?_
  refine sxc_seq ?_
  refine sxc_region ?_
  refine sxo_move rfl rfl rfl ?_
  refine sxo_gtr rfl rfl rfl rfl ?_
  refine sxo_nil ?_
  refine sxq_next ?_
  refine sxc_if rfl (fun h12 => ?_) (fun h12 => ?_)
  · refine sxc_seq ?_
    refine sxc_region ?_
    refine sxo_assign rfl rfl rfl ?_
    refine sxo_nil ?_
    refine sxq_next ?_
    refine sxc_ret ?_
    refine sxq_thenR ?_
    exact sxq_doneM () (res1 rfl rfl) (hB := fun h => by subst h; exact (.cons 0 rfl .nil))
  · refine sxc_skip ?_
    refine sxq_next ?_
    refine sxc_join (fun ((x8, _) : (Int × Unit)) => [(0, .pointer (some ⟨g1, 0, none⟩))]) (fun ((x8, _) : (Int × Unit)) => [⟨g1, 107, [.int .i64 x8, .bool x3]⟩]) (fun ((x8, _) : (Int × Unit)) => []) (fun ((x8, _) : (Int × Unit)) => []) (fun ((x8, _) : (Int × Unit)) => M_gaps_walker_step_j1 F x8) ?_ ?_
    · refine sxc_seq ?_
      refine sxc_region ?_
      refine sxo_move rfl rfl rfl ?_
      refine sxo_nilCheck rfl rfl rfl ?_
      refine sxo_fieldAddr rfl rfl ff107_1 rfl ?_
      refine sxo_loadB (i := 0) rfl rfl tf4 rfl rfl (fun _ => rfl) rfl rfl ?_
      refine sxo_nil ?_
      refine sxq_next ?_
      refine sxc_if rfl (fun h11 => ?_) (fun h11 => ?_)
      · refine sxc_region ?_
        refine sxo_move rfl rfl rfl ?_
        refine sxo_nilCheck rfl rfl rfl ?_
        refine sxo_fieldAddr rfl rfl ff107_0 rfl ?_
        refine sxo_loadB (i := 0) rfl rfl tf3 rfl rfl (fun _ => rfl) rfl rfl ?_
        refine sxo_move rfl rfl rfl ?_
        refine sxo_conv rfl Try.underlying36 Try.underlying3 rfl rfl ?_
        refine sxo_add rfl rfl rfl rfl ?_
        refine sxo_add rfl rfl rfl rfl ?_
        refine sxo_nilCheck rfl rfl rfl ?_
        refine sxo_fieldAddr rfl rfl ff107_0 rfl ?_
        refine sxo_storeB (i := 0) rfl rfl rfl tf3 rfl rfl rfl rfl rfl ?_
        refine sxo_nil ?_
        exact sxq_meetP (iadd .i64 x2 (iadd .i64 (iconv .i64 x4) 1), ()) (hB := (.cons 0 rfl .nil))
      · refine sxb_draw mixed [9] [] [(BlkD.is ⟨g1, 107, [.int .i64 x2, .bool x3]⟩)] .nil (gk_B 0 rfl gk_nil) 10 rfl ?_
        refine sxb_takeP 0 (.pointer (some ⟨g1, 0, none⟩)) rfl rfl rfl (yv_pv rfl) ?_
        refine sxb_takeP 1 (.pointer (some ⟨g1, 0, none⟩)) rfl rfl rfl (yv_pv rfl) ?_
        refine sxb_takeP 2 (.pointer (some ⟨g1, 0, none⟩)) rfl rfl rfl (yv_fieldAddr rfl ff107_0) ?_
        refine sxb_take 3 (.int .i64 x2) [[9]] rfl rfl rfl (yv_loadG (j := 0) rfl tf3 rfl rfl (fun _ => rfl) rfl) ?_
        refine sxb_takeP 4 (.int .u64 x4) rfl rfl rfl (yv_pv rfl) ?_
        refine sxb_step 5 rfl (by kernel_rfl) rfl ?_
        refine sxo_call ent81 rfl rfl rfl (fun x10 e10 => C_varint_Unfold F x4 x10 e10) .nil (fun x10 e10 => ?_)
        intro _
        refine sxo_nil ?_
        refine sxq_anyB .nil (gk_B 0 rfl gk_nil) ?_
        refine sxb_takeP 6 (.int .i64 (iadd .i64 x2 x10)) rfl rfl rfl (yv_pv rfl) ?_
        refine sxb_takeP 7 (.pointer (some ⟨g1, 0, none⟩)) rfl rfl rfl (yv_pv rfl) ?_
        refine sxb_takeP 8 (.pointer (some ⟨g1, 0, none⟩)) rfl rfl rfl (yv_fieldAddr rfl ff107_0) ?_
        refine sxb_step 9 rfl (by kernel_rfl) rfl ?_
        refine sxo_storeB (i := 0) rfl rfl rfl tf3 rfl rfl rfl rfl rfl ?_
        refine sxo_nil ?_
        refine sxq_anyW 9 rfl (by kernel_rfl) .nil ?_
        refine sxb_done (by kernel_rfl) ?_
        refine sxq_np ?_ (by intro c h; cases h)
        exact sxq_meetP (iadd .i64 x2 x10, ()) (hB := (.cons 0 rfl .nil))
    · rintro ⟨x8, _⟩
      try dsimp only
      refine sxc_seq ?_
      refine sxc_region ?_
      refine sxo_move rfl rfl rfl ?_
      refine sxo_nilCheck rfl rfl rfl ?_
      refine sxo_fieldAddr rfl rfl ff107_1 rfl ?_
      refine sxo_storeB (i := 0) rfl rfl rfl tf4 rfl rfl rfl rfl rfl ?_
      refine sxo_nil ?_
      refine sxq_next ?_
      refine sxc_seq ?_
      refine sxc_region ?_
      refine sxo_move rfl rfl rfl ?_
      refine sxo_nilCheck rfl rfl rfl ?_
      refine sxo_fieldAddr rfl rfl ff107_0 rfl ?_
      refine sxo_loadB (i := 0) rfl rfl tf3 rfl rfl (fun _ => rfl) rfl rfl ?_
      refine sxo_call ent33 rfl rfl rfl (fun x9 e9 => C_gaps_node F x8 x9 e9) .nil (fun x9 e9 => ?_)
      intro _
      refine sxo_assign rfl rfl rfl ?_
      refine sxo_nil ?_
      refine sxq_next ?_
      refine sxc_ret ?_
      exact sxq_doneM () (res1 rfl rfl) (hB := fun h => by subst h; exact (.cons 0 rfl .nil))

theorem C_gaps_From (F : Nat) (x1 : Int) (x2 : List Int) (a3 : Option Addr) (c4 : Nat) (x5 : Int) (x6 : Int) (x7 : Int) (x8 : Int) (r : (List Int × Int × Int)) (hm : M_gaps_From F x1 x2 x5 x6 x7 x8 = some r) :
    Pure Try.prog 72 [.agg #[.int .i64 x1, .slice a3 x2.length c4], .int .i64 x5, .int .i64 x6, .int .i64 x7, .int .i64 x8] [Sl (eI .u8) 1 (.slice a3 x2.length c4) x2] (Option Addr × Nat) (fun g => .tuple #[.slice g.1 r.1.length g.2, .int .i64 r.2.1, .int .i64 r.2.2]) (fun g => [Ro (eI .i64) 3 1 (.slice g.1 r.1.length g.2) r.1]) (fun _ => []) := by
  refine pure_of Try.func72 rfl Try.ntmps72 rfl hm (fun w => ?_)
  refine sxc_env (l' := [(0, .agg #[.int .i64 x1, .slice a3 x2.length c4]), (1, .int .i64 x5), (2, .int .i64 x6), (3, .int .i64 x7), (4, .int .i64 x8)]) rfl ?_
  refine sxc_seq ?_
  refine sxc_region ?_
  refine sxo_box rfl rfl rfl (fun g9 => ?_)
  refine sxo_assign rfl rfl rfl ?_
  refine sxo_assign rfl rfl rfl ?_
  refine sxo_assign rfl rfl rfl ?_
  refine sxo_nil ?_
  refine sxq_next ?_
  refine sxc_seq ?_
  refine sxc_region ?_
  refine sxo_move rfl rfl rfl ?_
  refine sxo_build (cells := [.int .i64 x6, .bool false]) rfl st107 rfl (by kernel_rfl) rfl ?_
  refine sxo_box rfl rfl rfl (fun g10 => ?_)
  refine sxo_assign rfl rfl rfl ?_
  refine sxo_nil ?_
  refine sxq_next ?_
  refine sxc_join (fun (((x105, x108), (a106, c107)) : ((Int × List Int) × (Option Addr × Nat))) => [(1, .int .i64 x105), (10, .slice a106 x108.length c107)]) (fun (((x105, x108), (a106, c107)) : ((Int × List Int) × (Option Addr × Nat))) => []) (fun (((x105, x108), (a106, c107)) : ((Int × List Int) × (Option Addr × Nat))) => [Ro (eI .i64) 3 1 (.slice a106 x108.length c107) x108]) (fun (((x105, x108), (a106, c107)) : ((Int × List Int) × (Option Addr × Nat))) => []) (fun (((x105, x108), _) : ((Int × List Int) × (Option Addr × Nat))) => M_gaps_From_j2 F x105 x108) ?_ ?_
  · refine sxc_seq ?_
    refine sxc_region ?_
    refine sxo_move rfl rfl rfl ?_
    refine sxo_move rfl rfl rfl ?_
    refine sxo_nil ?_
    refine sxq_next ?_
    refine sxc_block ?_
    refine sxc_nilrow Int (eI .i64) 3 1 ?_
    refine sxc_loopP (fun (((x138, x141, x142, x143, x144), (a139, c140)) : ((Int × List Int × Int × Int × Bool) × (Option Addr × Nat))) => [(1, .int .i64 x138), (3, .int .i64 x7), (5, .pointer (some ⟨g9, 0, none⟩)), (10, .slice a139 x141.length c140), (13, .pointer (some ⟨g10, 0, none⟩)), (18, .int .i64 x8), (19, .int .i64 x142)]) (fun (((x138, x141, x142, x143, x144), (a139, c140)) : ((Int × List Int × Int × Int × Bool) × (Option Addr × Nat))) => [⟨g10, 107, [.int .i64 x143, .bool x144]⟩, ⟨g9, 27, [.int .i64 x1, .slice a3 x2.length c4]⟩]) (fun (((x138, x141, x142, x143, x144), (a139, c140)) : ((Int × List Int × Int × Int × Bool) × (Option Addr × Nat))) => [Ro (eI .i64) 3 1 (.slice a139 x141.length c140) x141]) (fun (((x138, x141, x142, x143, x144), (a139, c140)) : ((Int × List Int × Int × Int × Bool) × (Option Addr × Nat))) => [Sl (eI .u8) 1 (.slice a3 x2.length c4) x2]) (fun k (s : ((Int × List Int × Int × Int × Bool) × (Option Addr × Nat))) => M_gaps_From_l3 F x1 x2 x7 x8 k s.1) ((x5, ([] : List Int), 0, x6, false), (none, 0)) F ?_ (hB := (.cons 0 rfl (.cons 0 rfl .nil))) (hR := (.cons 0 rfl .nil)) (hF := (fk_cons 0 rfl fk_nil))
    intro k173
    rintro ⟨⟨x138, x141, x142, x143, x144⟩, ⟨a139, c140⟩⟩
    try dsimp only
    refine sxc_meq (m' := M_gaps_From_b3 F x1 x2 x7 x8 (M_gaps_From_l3 F x1 x2 x7 x8 k173) x138 x141 x142 x143 x144) rfl ?_
    refine sxc_seq ?_
    refine sxc_region ?_
    refine sxo_lss rfl rfl rfl rfl ?_
    refine sxo_nil ?_
    refine sxq_next ?_
    refine sxc_seq ?_
    refine sxc_if rfl (fun h201 => ?_) (fun h201 => ?_)
    · refine sxc_skip ?_
      refine sxq_next ?_
      refine sxc_seq ?_
      refine sxc_block ?_
      refine sxc_seq ?_
      refine sxc_region ?_
      refine sxo_assign rfl rfl rfl ?_
      refine sxo_nil ?_
      refine sxq_next ?_
      refine sxc_seq ?_
      refine sxc_seq ?_
      refine sxc_region ?_
      refine sxo_loadB (i := 1) rfl rfl tf27 rfl rfl (by simp) rfl rfl ?_
      refine sxo_move rfl rfl rfl ?_
      refine sxo_move rfl rfl rfl ?_
      refine sxo_call ent85 rfl rfl rfl (fun x190 e190 => C_golomb_FromZeta F x1 x2 a3 c4 x138 x7 x190 e190) (.consF 0 rfl .nil) (fun x190 e190 => ?_)
      intro _
      refine sxo_move rfl rfl rfl ?_
      refine sxo_extract rfl rfl rfl rfl ?_
      refine sxo_extract rfl rfl rfl rfl ?_
      refine sxo_extract rfl rfl rfl rfl ?_
      refine sxo_assign rfl rfl rfl ?_
      refine sxo_assign rfl rfl rfl ?_
      refine sxo_assign rfl rfl rfl ?_
      refine sxo_nil ?_
      refine sxq_next ?_
      refine sxc_seq ?_
      refine sxc_region ?_
      refine sxo_move rfl rfl rfl ?_
      refine sxo_neq rfl rfl rfl rfl ?_
      refine sxo_nil ?_
      refine sxq_next ?_
      refine sxc_if rfl (fun h200 => ?_) (fun h200 => ?_)
      · refine sxc_seq ?_
        refine sxc_region ?_
        refine sxo_move rfl rfl rfl ?_
        refine sxo_assign rfl rfl rfl ?_
        refine sxo_assign rfl rfl rfl ?_
        refine sxo_assign rfl rfl rfl ?_
        refine sxo_nil ?_
        refine sxq_next ?_
        refine sxc_ret ?_
        refine sxq_thenR ?_
        refine sxq_blkR ?_
        refine sxq_thenR ?_
        refine sxq_thenR ?_
        refine sxq_blkR ?_
        refine sxq_thenR ?_
        refine sxq_nilrow Int (eI .i64) 3 1 ?_
        exact sxq_doneP (none, 0) (res3 rfl rfl rfl rfl) (fun h => by subst h; exact (.cons 0 rfl .nil))
      · refine sxc_skip ?_
        refine sxq_next ?_
        refine sxc_seq ?_
        refine sxc_seq ?_
        refine sxc_region ?_
        refine sxo_move rfl rfl rfl ?_
        refine sxo_move rfl rfl rfl ?_
        refine sxo_callM ent86 rfl rfl rfl (fun x193 e193 => C_gaps_walker_step F g10 x143 x144 x190.1 x193 e193) (.cons 0 rfl .nil) .nil .nil (fun x193 e193 => ?_)
        intro _
        refine sxo_not rfl rfl rfl ?_
        refine sxo_nil ?_
        refine sxq_next ?_
        refine sxc_if rfl (fun h199 => ?_) (fun h199 => ?_)
        · refine sxc_seq ?_
          refine sxc_region ?_
          refine sxo_assign rfl rfl rfl ?_
          refine sxo_assign rfl rfl rfl ?_
          refine sxo_assign rfl rfl rfl ?_
          refine sxo_nil ?_
          refine sxq_next ?_
          refine sxc_ret ?_
          refine sxq_thenR ?_
          refine sxq_blkR ?_
          refine sxq_thenR ?_
          refine sxq_thenR ?_
          refine sxq_blkR ?_
          refine sxq_thenR ?_
          refine sxq_nilrow Int (eI .i64) 3 1 ?_
          exact sxq_doneP (none, 0) (res3 rfl rfl rfl rfl) (fun h => by subst h; exact (.cons 0 rfl .nil))
        · refine sxc_skip ?_
          refine sxq_next ?_
          refine sxc_region ?_
          refine sxo_move rfl rfl rfl ?_
          refine sxo_move rfl rfl rfl ?_
          refine sxo_nilCheck rfl rfl rfl ?_
          refine sxo_fieldAddr rfl rfl ff107_0 rfl ?_
          refine sxo_loadB (i := 0) rfl rfl tf3 rfl rfl (fun _ => rfl) rfl rfl ?_
          refine sxo_slit (vs := [.int .i64 x193.2.1]) (ys := ([x193.2.1] : List Int)) (eI_ok .i64) (by decide) rfl Try.underlying22 tf3 rfl rfl rfl rfl rfl (by decide) (fun a194 c195 => ?_)
          refine sxo_app 1 (eI_ok .i64) rfl Try.underlying22 tf3 rfl rfl rfl rfl rfl (.inl ⟨0, _, rfl⟩) rfl rfl (fun x196 e196 a197 c198 => ?_)
          refine sxo_assign rfl rfl rfl ?_
          refine sxo_nil ?_
          refine sxq_blkN ?_
          refine sxq_next ?_
          refine sxc_region ?_
          refine sxo_add rfl rfl rfl rfl ?_
          refine sxo_move rfl rfl rfl ?_
          refine sxo_nil ?_
          exact sxq_againP ((x190.2.1, x196, iadd .i64 x142 1, x193.2.1, x193.2.2), (a197, c198)) (hB := (.cons 0 rfl (.cons 0 rfl .nil))) (hR := (.cons 0 rfl .nil)) (hF := (fk_cons 0 rfl fk_nil))
    · refine sxc_exit ?_
      refine sxq_thenX ?_
      refine sxq_thenX ?_
      refine sxq_blkX ?_
      exact sxq_meetP ((x138, x141), (a139, c140)) (hR := (.cons 0 rfl .nil))
  · rintro ⟨⟨x105, x108⟩, ⟨a106, c107⟩⟩
    try dsimp only
    refine sxc_seq ?_
    refine sxc_region ?_
    refine sxo_move rfl rfl rfl ?_
    refine sxo_move rfl rfl rfl ?_
    refine sxo_assign rfl rfl rfl ?_
    refine sxo_assign rfl rfl rfl ?_
    refine sxo_assign rfl rfl rfl ?_
    refine sxo_nil ?_
    refine sxq_next ?_
    refine sxc_ret ?_
    exact sxq_doneP (a106, c107) (res3 rfl rfl rfl rfl) (fun h => by subst h; exact (.cons 0 rfl .nil))

set_option maxHeartbeats 4000000 in
theorem C_succ_reader_list (F : Nat) (g1 : Nat) (x2 : Int) (x3 : List Int) (a4 : Option Addr) (c5 : Nat) (x6 : Int) (x7 : Int) (x8 : List Int) (a9 : Option Addr) (c10 : Nat) (x11 : Int) (x12 : Int) (x13 : Int) (r : ((List Int × Int × Int) ⊕ (Int × Int))) (hm : M_succ_reader_list F x2 x3 x6 x7 x8 x11 x12 x13 = some r) :
    PureL Try.prog 57 [.pointer (some ⟨g1, 0, none⟩), .int .i64 x7, .slice a9 x8.length c10, .agg #[.int .i64 x11, .int .i64 x12, .int .i64 x13]] [⟨g1, 86, [.int .i64 x2, .slice a4 x3.length c5, .int .i64 x6]⟩] [] [Sl (eI .u8) 1 (.slice a4 x3.length c5) x3, Sl (eI .i64) 1 (.slice a9 x8.length c10) x8] lostCh (Option Addr × Nat) (fun (r : (List Int × Int × Int)) (g : (Option Addr × Nat)) => .slice g.1 r.1.length g.2) (fun (r : (List Int × Int × Int)) (_ : (Option Addr × Nat)) => [⟨g1, 86, [.int .i64 r.2.1, .slice a4 x3.length c5, .int .i64 r.2.2]⟩]) (fun (r : (List Int × Int × Int)) (g : (Option Addr × Nat)) => [Ro (eI .i64) 3 1 (.slice g.1 r.1.length g.2) r.1]) (fun (z : (Int × Int)) => [⟨g1, 86, [.int .i64 z.1, .slice a4 x3.length c5, .int .i64 z.2]⟩]) r := by
  refine pureL_of Try.func57 rfl Try.ntmps57 rfl hm (fun w => ?_)
  refine sxc_env (l' := [(0, .pointer (some ⟨g1, 0, none⟩)), (1, .int .i64 x7), (2, .slice a9 x8.length c10), (3, .agg #[.int .i64 x11, .int .i64 x12, .int .i64 x13])]) rfl ?_
  refine sxc_seq ?_
  refine sxc_region ?_
  refine sxo_box rfl rfl rfl (fun g14 => ?_)
  refine sxo_assign rfl rfl rfl ?_
  refine sxo_nil ?_
  refine sxq_next ?_
  refine sxc_seq ?_
  refine sxc_region ?_
  refine sxo_move rfl rfl rfl ?_
  refine sxo_callL ent67 rfl rfl rfl (fun x15 e15 => C_succ_reader_gamma F g1 x2 x3 a4 c5 x6 300 x15 e15) (.cons 1 rfl .nil) .nil (.consF 0 rfl .nil) (fun x16 _ => ?_) (fun x15 e15 => ?_)
  · refine sxq_thenP ?_
    exact sxq_lostL (.cons 0 rfl .nil)
  intro _
  refine sxo_assign rfl rfl rfl ?_
  refine sxo_nil ?_
  refine sxq_next ?_
  refine sxc_seq ?_
  refine sxc_seq ?_
  refine sxc_region ?_
  refine sxo_move rfl rfl rfl ?_
  refine sxo_eql rfl rfl rfl rfl ?_
  refine sxo_nil ?_
  refine sxq_next ?_
  refine sxc_if rfl (fun h83 => ?_) (fun h83 => ?_)
  · refine sxc_seq ?_
    refine sxc_region ?_
    refine sxo_assign rfl rfl rfl ?_
    refine sxo_nil ?_
    refine sxq_next ?_
    refine sxc_ret ?_
    refine sxq_thenR ?_
    refine sxq_nilrow Int (eI .i64) 3 1 ?_
    exact sxq_doneL (none, 0) (.inl rfl) (res1 rfl rfl) rfl (.cons 0 rfl .nil) (.cons 0 rfl .nil)
  · refine sxc_skip ?_
    refine sxq_next ?_
    refine sxc_seq ?_
    refine sxc_region ?_
    refine sxo_assign rfl rfl rfl ?_
    refine sxo_nil ?_
    refine sxq_next ?_
    refine sxc_join (fun (((x31, x32, x33), (a29, c30)) : ((List Int × Int × Int) × (Option Addr × Nat))) => [(0, .pointer (some ⟨g1, 0, none⟩)), (1, .int .i64 x7), (7, .pointer (some ⟨g14, 0, none⟩)), (9, .int .i64 x15.1), (10, .slice a29 x31.length c30)]) (fun (((x31, x32, x33), (a29, c30)) : ((List Int × Int × Int) × (Option Addr × Nat))) => [⟨g1, 86, [.int .i64 x32, .slice a4 x3.length c5, .int .i64 x33]⟩, ⟨g14, 24, [.int .i64 x11, .int .i64 x12, .int .i64 x13]⟩]) (fun (((x31, x32, x33), (a29, c30)) : ((List Int × Int × Int) × (Option Addr × Nat))) => [Ro (eI .i64) 3 1 (.slice a29 x31.length c30) x31]) (fun (((x31, x32, x33), (a29, c30)) : ((List Int × Int × Int) × (Option Addr × Nat))) => [Sl (eI .u8) 1 (.slice a4 x3.length c5) x3]) (fun (((x31, x32, x33), _) : ((List Int × Int × Int) × (Option Addr × Nat))) => M_succ_reader_list_j1 F x3 x7 x12 x13 x15 x31 x32 x33) ?_ ?_
    · refine sxc_seq ?_
      refine sxc_region ?_
      refine sxo_fieldAddr rfl rfl ff24_0 rfl ?_
      refine sxo_loadB (i := 1) rfl rfl tf3 rfl rfl (fun _ => rfl) rfl rfl ?_
      refine sxo_gtr rfl rfl rfl rfl ?_
      refine sxo_nil ?_
      refine sxq_next ?_
      refine sxc_if rfl (fun h82 => ?_) (fun h82 => ?_)
      · refine sxc_seq ?_
        refine sxc_region ?_
        refine sxo_assign rfl rfl rfl ?_
        refine sxo_nil ?_
        refine sxq_next ?_
        refine sxc_seq ?_
        refine sxc_region ?_
        refine sxo_move rfl rfl rfl ?_
        refine sxo_move rfl rfl rfl ?_
        refine sxo_move rfl rfl rfl ?_
        refine sxo_len rfl Try.underlying22 rfl rfl ?_
        refine sxo_callL ent69 rfl rfl rfl (fun x72 e72 => C_succ_reader_blocks F g1 x15.2.1 x3 a4 c5 x15.2.2 (x8.length : Int) x72 e72) (.cons 0 rfl .nil) .nil (.consF 0 rfl .nil) (fun x73 _ => ?_) (fun x72 e72 => ?_)
        · refine sxq_thenP ?_
          refine sxq_thenP ?_
          exact sxq_lostL (.cons 0 rfl .nil)
        rintro ⟨a74, c75⟩
        refine sxo_call ent68 rfl rfl rfl (fun x76 e76 => C_parts_Copy F x8 a9 c10 x72.1 a74 c75 x76 e76) (.consF 1 rfl (.consR 0 (Ro (eI .i64) 3 1 (.slice a74 x72.1.length c75) x72.1) rfl .nil)) (fun x76 e76 => ?_)
        rintro ⟨a77, c78⟩
        refine sxo_move rfl rfl rfl ?_
        refine sxo_extract rfl rfl rfl rfl ?_
        refine sxo_extract rfl rfl rfl rfl ?_
        refine sxo_assign rfl rfl rfl ?_
        refine sxo_assign rfl rfl rfl ?_
        refine sxo_nil ?_
        refine sxq_next ?_
        refine sxc_region ?_
        refine sxo_move rfl rfl rfl ?_
        refine sxo_eql rfl rfl rfl rfl ?_
        refine sxo_move rfl rfl rfl ?_
        refine sxo_case 5 ((x76.2 : Int) == 0) [(0, .pointer (some ⟨g1, 0, none⟩)), (1, .int .i64 x7), (7, .pointer (some ⟨g14, 0, none⟩)), (9, .int .i64 x15.1), (10, .slice a77 x76.1.length c78), (41, .bool (((x76.2 : Int) == 0) && (decide ((x76.1.length : Int) ≤ x15.1))))] (fun h79 => ?_) (fun h79 => ?_) ?_
        · refine sxo_take (os := _) rfl ?_
          refine sxo_isT (k := 36) rfl h79 ?_
          refine sxo_move rfl rfl rfl ?_
          refine sxo_len rfl Try.underlying22 rfl rfl ?_
          refine sxo_move rfl rfl rfl ?_
          refine sxo_leq rfl rfl rfl rfl ?_
          refine sxo_pick (b := true) rfl rfl rfl rfl ?_
          refine sxo_again (d := 41) (v := .bool (((x76.2 : Int) == 0) && (decide ((x76.1.length : Int) ≤ x15.1)))) rfl (by rw [h79]; simp only [Bool.true_and]) ?_
          refine sxo_nil ?_
          exact sxq_case (lk_cons rfl (lk_cons rfl (lk_cons rfl (lk_cons rfl (lk_cons rfl (lk_cons rfl lk_nil))))))
        · refine sxo_take (os := _) rfl ?_
          refine sxo_isF (k := 36) rfl h79 ?_
          refine sxo_skip rfl rfl rfl ?_
          refine sxo_skip rfl rfl rfl ?_
          refine sxo_skip rfl rfl rfl ?_
          refine sxo_skip rfl rfl rfl ?_
          refine sxo_pick (b := false) rfl rfl rfl rfl ?_
          refine sxo_again (d := 41) (v := .bool (((x76.2 : Int) == 0) && (decide ((x76.1.length : Int) ≤ x15.1)))) rfl (by rw [h79]; simp only [Bool.false_and]) ?_
          refine sxo_nil ?_
          exact sxq_case (lk_cons rfl (lk_cons rfl (lk_cons rfl (lk_cons rfl (lk_cons rfl (lk_cons rfl lk_nil))))))
        refine sxo_take (os := _) rfl ?_
        refine sxo_callL ent58 rfl rfl rfl (fun x80 e80 => C_succ_must F (((x76.2 : Int) == 0) && (decide ((x76.1.length : Int) ≤ x15.1))) x80 e80) .nil .nil .nil (fun x81 _ => ?_) (fun x80 e80 => ?_)
        · refine sxq_thenP ?_
          exact sxq_lostL (.cons 0 rfl .nil)
        intro _
        refine sxo_nil ?_
        exact sxq_meetP ((x76.1, x72.2.1, x72.2.2), (a77, c78)) (hB := (.cons 0 rfl (.cons 0 rfl .nil))) (hR := (.cons 0 rfl .nil)) (hF := (fk_cons 0 rfl fk_nil))
      · refine sxc_skip ?_
        refine sxq_nilrow Int (eI .i64) 3 1 ?_
        exact sxq_meetP ((([] : List Int), x15.2.1, x15.2.2), (none, 0)) (hB := (.cons 0 rfl (.cons 0 rfl .nil))) (hR := (.cons 0 rfl .nil)) (hF := (fk_cons 0 rfl fk_nil))
    · rintro ⟨⟨x31, x32, x33⟩, ⟨a29, c30⟩⟩
      try dsimp only
      refine sxc_seq ?_
      refine sxc_region ?_
      refine sxo_move rfl rfl rfl ?_
      refine sxo_move rfl rfl rfl ?_
      refine sxo_len rfl Try.underlying22 rfl rfl ?_
      refine sxo_sub rfl rfl rfl rfl ?_
      refine sxo_assign rfl rfl rfl ?_
      refine sxo_nil ?_
      refine sxq_next ?_
      refine sxc_seq ?_
      refine sxc_seq ?_
      refine sxc_region ?_
      refine sxo_move rfl rfl rfl ?_
      refine sxo_eql rfl rfl rfl rfl ?_
      refine sxo_nil ?_
      refine sxq_next ?_
      refine sxc_if rfl (fun h71 => ?_) (fun h71 => ?_)
      · refine sxc_seq ?_
        refine sxc_region ?_
        refine sxo_move rfl rfl rfl ?_
        refine sxo_assign rfl rfl rfl ?_
        refine sxo_nil ?_
        refine sxq_next ?_
        refine sxc_ret ?_
        refine sxq_thenR ?_
        exact sxq_doneL (a29, c30) (.inl rfl) (res1 rfl rfl) rfl (.cons 0 rfl .nil) (.cons 0 rfl .nil)
      · refine sxc_skip ?_
        refine sxq_next ?_
        refine sxc_seq ?_
        refine sxc_region ?_
        refine sxo_assign rfl rfl rfl ?_
        refine sxo_nil ?_
        refine sxq_next ?_
        refine sxc_join (fun (((x42, x43, x44), (a40, c41)) : ((List (Int × Int) × Int × Int) × (Option Addr × Nat))) => [(0, .pointer (some ⟨g1, 0, none⟩)), (1, .int .i64 x7), (7, .pointer (some ⟨g14, 0, none⟩)), (10, .slice a29 x31.length c30), (12, .int .i64 (isub .i64 x15.1 (x31.length : Int))), (13, .slice a40 x42.length c41)]) (fun (((x42, x43, x44), (a40, c41)) : ((List (Int × Int) × Int × Int) × (Option Addr × Nat))) => [⟨g1, 86, [.int .i64 x43, .slice a4 x3.length c5, .int .i64 x44]⟩, ⟨g14, 24, [.int .i64 x11, .int .i64 x12, .int .i64 x13]⟩]) (fun (((x42, x43, x44), (a40, c41)) : ((List (Int × Int) × Int × Int) × (Option Addr × Nat))) => [Ro (eI .i64) 3 1 (.slice a29 x31.length c30) x31, Ro eS102 102 2 (.slice a40 x42.length c41) x42]) (fun (((x42, x43, x44), (a40, c41)) : ((List (Int × Int) × Int × Int) × (Option Addr × Nat))) => [Sl (eI .u8) 1 (.slice a4 x3.length c5) x3]) (fun (((x42, x43, x44), _) : ((List (Int × Int) × Int × Int) × (Option Addr × Nat))) => M_succ_reader_list_j2 F x3 x7 x13 x15 x31 x42 x43 x44) ?_ ?_
        · refine sxc_seq ?_
          refine sxc_region ?_
          refine sxo_fieldAddr rfl rfl ff24_1 rfl ?_
          refine sxo_loadB (i := 1) rfl rfl tf3 rfl rfl (fun _ => rfl) rfl rfl ?_
          refine sxo_gtr rfl rfl rfl rfl ?_
          refine sxo_nil ?_
          refine sxq_next ?_
          refine sxc_if rfl (fun h70 => ?_) (fun h70 => ?_)
          · refine sxc_region ?_
            refine sxo_move rfl rfl rfl ?_
            refine sxo_move rfl rfl rfl ?_
            refine sxo_fieldAddr rfl rfl ff24_1 rfl ?_
            refine sxo_loadB (i := 1) rfl rfl tf3 rfl rfl (fun _ => rfl) rfl rfl ?_
            refine sxo_move rfl rfl rfl ?_
            refine sxo_callL ent70 rfl rfl rfl (fun x66 e66 => C_succ_reader_runs F g1 x32 x3 a4 c5 x33 x7 x12 (isub .i64 x15.1 (x31.length : Int)) x66 e66) (.cons 0 rfl .nil) .nil (.consF 0 rfl .nil) (fun x67 _ => ?_) (fun x66 e66 => ?_)
            · refine sxq_thenP ?_
              exact sxq_lostL (.cons 0 rfl .nil)
            rintro ⟨a68, c69⟩
            refine sxo_assign rfl rfl rfl ?_
            refine sxo_nil ?_
            exact sxq_meetP ((x66.1, x66.2.1, x66.2.2), (a68, c69)) (hB := (.cons 0 rfl (.cons 0 rfl .nil))) (hR := (.cons 1 rfl (.cons 0 rfl .nil))) (hF := (fk_cons 0 rfl fk_nil))
          · refine sxc_skip ?_
            refine sxq_nilrow (Int × Int) eS102 102 2 ?_
            exact sxq_meetP ((([] : List (Int × Int)), x32, x33), (none, 0)) (hB := (.cons 0 rfl (.cons 0 rfl .nil))) (hR := (.cons 1 rfl (.cons 0 rfl .nil))) (hF := (fk_cons 0 rfl fk_nil))
        · rintro ⟨⟨x42, x43, x44⟩, ⟨a40, c41⟩⟩
          try dsimp only
          refine sxc_seq ?_
          refine sxc_region ?_
          refine sxo_move rfl rfl rfl ?_
          refine sxo_nilrow' Int (eI .i64) 3 1 ?_
          refine sxo_call ent71 rfl rfl rfl (fun x45 e45 => C_runs_Merge F x42 a40 c41 ([] : List Int) none 0 x45 e45) (.consR 2 (Ro eS102 102 2 (.slice a40 x42.length c41) x42) rfl (.consR 0 (Ro (eI .i64) 3 1 (.slice none ([] : List Int).length 0) ([] : List Int)) rfl .nil)) (fun x45 e45 => ?_)
          rintro ⟨a46, c47⟩
          refine sxo_move rfl rfl rfl ?_
          refine sxo_extract rfl rfl rfl rfl ?_
          refine sxo_extract rfl rfl rfl rfl ?_
          refine sxo_assign rfl rfl rfl ?_
          refine sxo_assign rfl rfl rfl ?_
          refine sxo_nil ?_
          refine sxq_next ?_
          refine sxc_seq ?_
          refine sxc_region ?_
          refine sxo_move rfl rfl rfl ?_
          refine sxo_eql rfl rfl rfl rfl ?_
          refine sxo_move rfl rfl rfl ?_
          refine sxo_case 5 ((x45.2 : Int) == 0) [(0, .pointer (some ⟨g1, 0, none⟩)), (1, .int .i64 x7), (7, .pointer (some ⟨g14, 0, none⟩)), (10, .slice a29 x31.length c30), (12, .int .i64 (isub .i64 x15.1 (x31.length : Int))), (14, .slice a46 x45.1.length c47), (71, .bool (((x45.2 : Int) == 0) && (decide ((x45.1.length : Int) ≤ (isub .i64 x15.1 (x31.length : Int))))))] (fun h48 => ?_) (fun h48 => ?_) ?_
          · refine sxo_take (os := _) rfl ?_
            refine sxo_isT (k := 66) rfl h48 ?_
            refine sxo_move rfl rfl rfl ?_
            refine sxo_len rfl Try.underlying22 rfl rfl ?_
            refine sxo_move rfl rfl rfl ?_
            refine sxo_leq rfl rfl rfl rfl ?_
            refine sxo_pick (b := true) rfl rfl rfl rfl ?_
            refine sxo_again (d := 71) (v := .bool (((x45.2 : Int) == 0) && (decide ((x45.1.length : Int) ≤ (isub .i64 x15.1 (x31.length : Int)))))) rfl (by rw [h48]; simp only [Bool.true_and]) ?_
            refine sxo_nil ?_
            exact sxq_case (lk_cons rfl (lk_cons rfl (lk_cons rfl (lk_cons rfl (lk_cons rfl (lk_cons rfl (lk_cons rfl lk_nil)))))))
          · refine sxo_take (os := _) rfl ?_
            refine sxo_isF (k := 66) rfl h48 ?_
            refine sxo_skip rfl rfl rfl ?_
            refine sxo_skip rfl rfl rfl ?_
            refine sxo_skip rfl rfl rfl ?_
            refine sxo_skip rfl rfl rfl ?_
            refine sxo_pick (b := false) rfl rfl rfl rfl ?_
            refine sxo_again (d := 71) (v := .bool (((x45.2 : Int) == 0) && (decide ((x45.1.length : Int) ≤ (isub .i64 x15.1 (x31.length : Int)))))) rfl (by rw [h48]; simp only [Bool.false_and]) ?_
            refine sxo_nil ?_
            exact sxq_case (lk_cons rfl (lk_cons rfl (lk_cons rfl (lk_cons rfl (lk_cons rfl (lk_cons rfl (lk_cons rfl lk_nil)))))))
          refine sxo_take (os := _) rfl ?_
          refine sxo_callL ent58 rfl rfl rfl (fun x49 e49 => C_succ_must F (((x45.2 : Int) == 0) && (decide ((x45.1.length : Int) ≤ (isub .i64 x15.1 (x31.length : Int))))) x49 e49) .nil .nil .nil (fun x50 _ => ?_) (fun x49 e49 => ?_)
          · refine sxq_thenP ?_
            exact sxq_lostL (.cons 0 rfl .nil)
          intro _
          refine sxo_nil ?_
          refine sxq_next ?_
          refine sxc_seq ?_
          refine sxb_draw mixed [] [⟨g1, 86, [.int .i64 x43, .slice a4 x3.length c5, .int .i64 x44]⟩, ⟨g14, 24, [.int .i64 x11, .int .i64 x12, .int .i64 x13]⟩] [Sl (eI .u8) 1 (.slice a4 x3.length c5) x3] (.cons 0 rfl (.cons 0 rfl .nil)) (gk_F 0 rfl gk_nil) 23 rfl ?_
          refine sxb_takeP 0 (.pointer (some ⟨g1, 0, none⟩)) rfl rfl rfl (yv_pv rfl) ?_
          refine sxb_takeP 1 (.pointer (some ⟨g1, 0, none⟩)) rfl rfl rfl (yv_pv rfl) ?_
          refine sxb_takeP 2 (.pointer (some ⟨g1, 0, none⟩)) rfl rfl rfl (yv_fieldAddr rfl ff86_0) ?_
          refine sxb_takeB 3 (.agg #[.int .i64 x43, .slice a4 x3.length c5]) rfl rfl rfl (yv_loadB (i := 0) rfl tf27 rfl rfl (by simp) rfl) ?_
          refine sxb_takeP 4 (.pointer (some ⟨g1, 0, none⟩)) rfl rfl rfl (yv_pv rfl) ?_
          refine sxb_takeP 5 (.pointer (some ⟨g1, 0, none⟩)) rfl rfl rfl (yv_pv rfl) ?_
          refine sxb_takeP 6 (.pointer (some ⟨g1, 2, none⟩)) rfl rfl rfl (yv_fieldAddr rfl ff86_1) ?_
          refine sxb_takeB 7 (.int .i64 x44) rfl rfl rfl (yv_loadB (i := 0) rfl tf3 rfl rfl (fun _ => rfl) rfl) ?_
          refine sxb_takeP 8 (.int .i64 x7) rfl rfl rfl (yv_pv rfl) ?_
          refine sxb_takeP 9 (.pointer (some ⟨g14, 2, none⟩)) rfl rfl rfl (yv_fieldAddr rfl ff24_2) ?_
          refine sxb_takeB 10 (.int .i64 x13) rfl rfl rfl (yv_loadB (i := 1) rfl tf3 rfl rfl (fun _ => rfl) rfl) ?_
          refine sxb_takeP 11 (.int .i64 (isub .i64 x15.1 (x31.length : Int))) rfl rfl rfl (yv_pv rfl) ?_
          refine sxb_takeP 12 (.slice a46 x45.1.length c47) rfl rfl rfl (yv_pv rfl) ?_
          refine sxb_takeP 13 (.int .i64 (x45.1.length : Int)) rfl rfl rfl (yv_len Try.underlying22 rfl) ?_
          refine sxb_takeP 14 (.int .i64 (isub .i64 (isub .i64 x15.1 (x31.length : Int)) (x45.1.length : Int))) rfl rfl rfl (yv_pv rfl) ?_
          refine sxb_step 15 rfl (by kernel_rfl) rfl ?_
          refine sxo_call ent72 rfl rfl rfl (fun x54 e54 => C_gaps_From F x43 x3 a4 c5 x44 x7 x13 (isub .i64 (isub .i64 x15.1 (x31.length : Int)) (x45.1.length : Int)) x54 e54) (.consF 0 rfl .nil) (fun x54 e54 => ?_)
          rintro ⟨a55, c56⟩
          refine sxo_nil ?_
          refine sxq_anyB (.cons 0 rfl (.cons 0 rfl .nil)) (gk_F 0 rfl gk_nil) ?_
          refine sxb_takeP 16 (.tuple #[.slice a55 x54.1.length c56, .int .i64 x54.2.1, .int .i64 x54.2.2]) rfl rfl rfl (yv_pv rfl) ?_
          refine sxb_takeP 17 (.slice a55 x54.1.length c56) rfl rfl rfl (yv_pv rfl) ?_
          refine sxb_takeP 18 (.int .i64 x54.2.1) rfl rfl rfl (yv_pv rfl) ?_
          refine sxb_takeP 19 (.int .i64 x54.2.2) rfl rfl rfl (yv_pv rfl) ?_
          refine sxb_takeP 20 (.slice a55 x54.1.length c56) rfl rfl rfl (yv_pv rfl) ?_
          refine sxb_takeP 21 (.int .i64 x54.2.1) rfl rfl rfl (yv_pv rfl) ?_
          refine sxb_takeP 22 (.int .i64 x54.2.2) rfl rfl rfl (yv_pv rfl) ?_
          refine sxb_done (by kernel_rfl) ?_
          refine sxq_np ?_ (by intro c h; cases h)
          refine sxq_next ?_
          refine sxc_seq ?_
          refine sxc_region ?_
          refine sxo_move rfl rfl rfl ?_
          refine sxo_eql rfl rfl rfl rfl ?_
          refine sxo_callL ent58 rfl rfl rfl (fun x57 e57 => C_succ_must F ((x54.2.2 : Int) == 0) x57 e57) .nil .nil .nil (fun x58 _ => ?_) (fun x57 e57 => ?_)
          · refine sxq_thenP ?_
            exact sxq_lostL (.cons 0 rfl .nil)
          intro _
          refine sxo_nil ?_
          refine sxq_next ?_
          refine sxc_seq ?_
          refine sxc_region ?_
          refine sxo_move rfl rfl rfl ?_
          refine sxo_move rfl rfl rfl ?_
          refine sxo_nilCheck rfl rfl rfl ?_
          refine sxo_fieldAddr rfl rfl ff86_1 rfl ?_
          refine sxo_storeB (i := 0) rfl rfl rfl tf3 rfl rfl rfl rfl rfl ?_
          refine sxo_nil ?_
          refine sxq_next ?_
          refine sxc_seq ?_
          refine sxc_region ?_
          refine sxo_move rfl rfl rfl ?_
          refine sxo_move rfl rfl rfl ?_
          refine sxo_move rfl rfl rfl ?_
          refine sxo_freeze 3 rfl ?_
          refine sxo_freeze 1 rfl ?_
          refine sxo_freeze 0 rfl ?_
          refine sxo_slit (vs := [.slice a29 x31.length c30, .slice a46 x45.1.length c47, .slice a55 x54.1.length c56]) (ys := ([(x31, (a29, c30)), (x45.1, (a46, c47)), (x54.1, (a55, c56))] : List (List Int × (Option Addr × Nat)))) eN22_ok (by decide) rfl Try.underlying138 tf22 rfl rfl rfl rfl rfl (by decide) (fun a59 c60 => ?_)
          refine sxo_nestF (inn := iN22) ([x31, x45.1, x54.1] : List (List Int)) ([(a29, c30), (a46, c47), (a55, c56)] : List (Option Addr × Nat)) 0 rfl rfl (fk_cons 2 rfl (fk_cons 1 rfl (fk_cons 0 rfl fk_nil))) ?_
          refine sxo_call ent73 rfl rfl rfl (fun x61 e61 => C_slices_Concat_int_int F ([x31, x45.1, x54.1] : List (List Int)) a59 (c60, ([(a29, c30), (a46, c47), (a55, c56)] : List (Option Addr × Nat))) x61 e61) (.consF 0 rfl .nil) (fun x61 e61 => ?_)
          rintro ⟨a62, c63⟩
          refine sxo_assign rfl rfl rfl ?_
          refine sxo_nil ?_
          refine sxq_next ?_
          refine sxc_seq ?_
          refine sxc_region ?_
          refine sxo_move rfl rfl rfl ?_
          refine sxo_callM ent74 rfl rfl rfl (fun x64 e64 => C_slices_Sort_int_int F x61 a62 c63 x64 e64) .nil (.cons 0 rfl .nil) .nil (fun x64 e64 => ?_)
          intro _
          refine sxo_chk (fun h65 => ?_)
          replace h65 := of_decide_eq_true h65
          refine sxo_again (d := 10) (v := .slice a62 x64.length c63) rfl (by rw [h65] <;> rfl) ?_
          refine sxo_again (d := 104) (v := .slice a62 x64.length c63) rfl (by rw [h65] <;> rfl) ?_
          refine sxo_again (d := 105) (v := .slice a62 x64.length c63) rfl (by rw [h65] <;> rfl) ?_
          refine sxo_nil ?_
          refine sxq_next ?_
          refine sxc_seq ?_
          refine sxc_region ?_
          refine sxo_move rfl rfl rfl ?_
          refine sxo_assign rfl rfl rfl ?_
          refine sxo_nil ?_
          refine sxq_next ?_
          refine sxc_ret ?_
          exact sxq_doneL (a62, c63) (.inl rfl) (res1 rfl rfl) rfl (.cons 0 rfl .nil) (.cons 0 rfl .nil)

set_option maxHeartbeats 4000000 in
theorem C_succ_reader_read (F : Nat) (g1 : Nat) (x2 : Int) (x3 : List Int) (a4 : Option Addr) (c5 : Nat) (x6 : Int) (x7 : Int) (x8 : List Int) (a9 : Option Addr) (c10 : Nat) (x11 : Int) (x12 : Int) (x13 : Int) (r : (List Int × Bool × Int × Int)) (hm : M_succ_reader_read F x2 x3 x6 x7 x8 x11 x12 x13 = some r) :
    PureM Try.prog 44 [.pointer (some ⟨g1, 0, none⟩), .int .i64 x7, .slice a9 x8.length c10, .agg #[.int .i64 x11, .int .i64 x12, .int .i64 x13]] [⟨g1, 86, [.int .i64 x2, .slice a4 x3.length c5, .int .i64 x6]⟩] [] [Sl (eI .u8) 1 (.slice a4 x3.length c5) x3, Sl (eI .i64) 1 (.slice a9 x8.length c10) x8] (Option Addr × Nat) (fun g => .tuple #[.slice g.1 r.1.length g.2, .bool r.2.1]) (fun _ => [⟨g1, 86, [.int .i64 r.2.2.1, .slice a4 x3.length c5, .int .i64 r.2.2.2]⟩]) (fun g => [Ro (eI .i64) 3 1 (.slice g.1 r.1.length g.2) r.1]) := by
  refine pureD_of Try.func44 rfl Try.ntmps44 rfl hm (fun w => ?_)
  refine sxc_env (l' := [(0, .pointer (some ⟨g1, 0, none⟩)), (1, .int .i64 x7), (2, .slice a9 x8.length c10), (3, .agg #[.int .i64 x11, .int .i64 x12, .int .i64 x13])]) rfl ?_
  refine sxc_seq ?_
  refine sxc_region ?_
  refine sxo_box rfl rfl rfl (fun g14 => ?_)
  refine sxo_alloc rfl tf22 rfl (fun g15 => ?_)
  refine sxo_alloc rfl tf4 rfl (fun g16 => ?_)
  refine sxo_nil ?_
  refine sxq_next ?_
  refine sxc_seq ?_
  refine sxc_region ?_
  refine sxo_makeFunc rfl rfl rfl ?_
  refine sxo_defer rfl rfl ?_
  refine sxo_nil ?_
  refine sxq_next ?_
  refine sxc_seq ?_
  refine sxc_region ?_
  refine sxo_move rfl rfl rfl ?_
  refine sxo_nilCheck rfl rfl rfl ?_
  refine sxo_fieldAddr rfl rfl ff86_1 rfl ?_
  refine sxo_loadB (i := 3) rfl rfl tf3 rfl rfl (fun _ => rfl) rfl rfl ?_
  refine sxo_assign rfl rfl rfl ?_
  refine sxo_nil ?_
  refine sxq_next ?_
  refine sxc_seq ?_
  refine sxc_region ?_
  refine sxo_move rfl rfl rfl ?_
  refine sxo_move rfl rfl rfl ?_
  refine sxo_move rfl rfl rfl ?_
  refine sxo_loadB (i := 2) rfl rfl tf24 rfl rfl (by simp) rfl rfl ?_
  refine sxo_callL ent57 rfl rfl rfl (fun x17 e17 => C_succ_reader_list F g1 x2 x3 a4 c5 x6 x7 x8 a9 c10 x11 x12 x13 x17 e17) (.cons 3 rfl .nil) .nil (.consF 0 rfl (.consF 1 rfl .nil)) (fun x18 _ => ?_) (fun x17 e17 => ?_)
  · refine sxq_thenP ?_
    refine sxq_leaveL ent56 rfl (.cons 2 rfl (.cons 1 rfl .nil)) (lost56 _ _ _ _) ?_
    refine sxq_nilrow Int (eI .i64) 3 1 ?_
    exact sxq_doneM (none, 0) (resL (rs := [.cell 8 22, .cell 9 4]) rfl (.cell (i := 0) rfl tf22 rfl rfl (fun _ => rfl) rfl (.cell (i := 1) rfl tf4 rfl rfl (fun _ => rfl) rfl ResOk.nil)) rfl) (hB := fun h => by subst h; exact (.cons 2 rfl .nil)) (hR := fun h => by subst h; exact (.cons 0 rfl .nil))
  rintro ⟨a19, c20⟩
  refine sxo_storeB (i := 2) rfl rfl rfl tf22 rfl rfl rfl rfl rfl ?_
  refine sxo_nil ?_
  refine sxq_next ?_
  refine sxc_seq ?_
  refine sxc_region ?_
  refine sxo_loadB (i := 2) rfl rfl tf22 rfl rfl (fun _ => rfl) rfl rfl ?_
  refine sxo_call ent20 rfl rfl rfl (fun x21 e21 => C_gaps_Check F x17.1 a19 c20 x21 e21) (.consR 0 (Ro (eI .i64) 3 1 (.slice a19 x17.1.length c20) x17.1) rfl .nil) (fun x21 e21 => ?_)
  intro _
  refine sxo_eql rfl rfl rfl rfl ?_
  refine sxo_callL ent58 rfl rfl rfl (fun x22 e22 => C_succ_must F ((x21 : Int) == 0) x22 e22) .nil .nil .nil (fun x23 _ => ?_) (fun x22 e22 => ?_)
  · refine sxq_thenP ?_
    refine sxq_leaveL ent56 rfl (.cons 2 rfl (.cons 1 rfl .nil)) (lost56 _ _ _ _) ?_
    refine sxq_nilrow Int (eI .i64) 3 1 ?_
    exact sxq_doneM (none, 0) (resL (rs := [.cell 8 22, .cell 9 4]) rfl (.cell (i := 0) rfl tf22 rfl rfl (fun _ => rfl) rfl (.cell (i := 1) rfl tf4 rfl rfl (fun _ => rfl) rfl ResOk.nil)) rfl) (hB := fun h => by subst h; exact (.cons 2 rfl .nil)) (hR := fun h => by subst h; exact (.cons 0 rfl .nil))
  intro _
  refine sxo_nil ?_
  refine sxq_next ?_
  refine sxc_seq ?_
  refine sxc_region ?_
  refine sxo_build (cells := [.int .i64 0, .slice none 0 0, .bool false]) rfl st53 rfl (by kernel_rfl) rfl ?_
  refine sxo_box rfl rfl rfl (fun g24 => ?_)
  refine sxo_assign rfl rfl rfl ?_
  refine sxo_nil ?_
  refine sxq_next ?_
  refine sxc_seq ?_
  refine sxc_region ?_
  refine sxo_move rfl rfl rfl ?_
  refine sxo_move rfl rfl rfl ?_
  refine sxo_loadB (i := 3) rfl rfl tf22 rfl rfl (fun _ => rfl) rfl rfl ?_
  refine sxo_move rfl rfl rfl ?_
  refine sxo_loadB (i := 4) rfl rfl tf24 rfl rfl (by simp) rfl rfl ?_
  refine sxo_nilrow' Int (eI .u8) 5 1 ?_
  refine sxo_callM ent22 rfl rfl rfl (fun x25 e25 => C_succ_writer_list F g24 0 ([] : List Int) none 0 false x7 x17.1 a19 c20 x8 a9 c10 x11 x12 x13 x25 e25) (.cons 0 rfl .nil) (.cons 0 rfl .nil) (.consR 0 (Ro (eI .i64) 3 1 (.slice a19 x17.1.length c20) x17.1) rfl (.consF 1 rfl .nil)) (fun x25 e25 => ?_)
  rintro ⟨a26, c27⟩
  refine sxo_nil ?_
  refine sxq_next ?_
  refine sxc_join (fun ((_, _) : (Unit × Unit)) => [(0, .pointer (some ⟨g1, 0, none⟩)), (8, .pointer (some ⟨g15, 0, none⟩)), (9, .pointer (some ⟨g16, 0, none⟩)), (10, .int .i64 x6), (11, .pointer (some ⟨g24, 0, none⟩))]) (fun ((_, _) : (Unit × Unit)) => [⟨g24, 53, [.int .i64 x25.1, .slice a26 x25.2.1.length c27, .bool x25.2.2]⟩, ⟨g1, 86, [.int .i64 x17.2.1, .slice a4 x3.length c5, .int .i64 x17.2.2]⟩, ⟨g16, 4, [.bool false]⟩, ⟨g15, 22, [.slice a19 x17.1.length c20]⟩]) (fun ((_, _) : (Unit × Unit)) => [Ro (eI .u8) 5 1 (.slice a26 x25.2.1.length c27) x25.2.1, Ro (eI .i64) 3 1 (.slice a19 x17.1.length c20) x17.1]) (fun ((_, _) : (Unit × Unit)) => [Sl (eI .u8) 1 (.slice a4 x3.length c5) x3]) (fun ((_, _) : (Unit × Unit)) => M_succ_reader_read_j1 F x3 x6 x17 x25) ?_ ?_
  · refine sxc_split (fun h97 => ?_) (fun h97 => ?_)
    · refine sxb_drawL mixed [8, 9] [] [⟨g24, 53, [.int .i64 x25.1, .slice a26 x25.2.1.length c27, .bool x25.2.2]⟩, ⟨g1, 86, [.int .i64 x17.2.1, .slice a4 x3.length c5, .int .i64 x17.2.2]⟩, ⟨g16, 4, [.bool false]⟩, ⟨g15, 22, [.slice a19 x17.1.length c20]⟩, ⟨g14, 24, [.int .i64 x11, .int .i64 x12, .int .i64 x13]⟩] [Sl (eI .u8) 1 (.slice a4 x3.length c5) x3, Sl (eI .i64) 1 (.slice a9 x8.length c10) x8] (.cons 0 rfl (.cons 0 rfl (.cons 0 rfl (.cons 0 rfl (.cons 0 rfl .nil))))) (gk_F 0 rfl (gk_F 1 rfl gk_nil)) 20 rfl ?_
      refine sxb_takePL 0 (.pointer (some ⟨g24, 0, none⟩)) rfl rfl rfl (yv_pv rfl) rfl ?_
      refine sxb_takePL 1 (.pointer (some ⟨g24, 0, none⟩)) rfl rfl rfl (yv_pv rfl) rfl ?_
      refine sxb_takePL 2 (.pointer (some ⟨g24, 2, none⟩)) rfl rfl rfl (yv_fieldAddr rfl ff53_1) rfl ?_
      refine sxb_takeBL 3 (.bool x25.2.2) rfl rfl rfl (yv_loadB (i := 0) rfl tf4 rfl rfl (fun _ => rfl) rfl) rfl ?_
      refine sxb_takePL 4 (.bool (!x25.2.2)) rfl rfl rfl (yv_pv rfl) rfl ?_
      refine sxb_takePL 5 (.bool (!x25.2.2)) rfl rfl rfl (yv_pv rfl) rfl ?_
      refine sxb_again (d := 40) (v := .bool true) rfl (by rw [h97] <;> rfl) ?_
      refine sxb_takePL 6 (.pointer (some ⟨g24, 0, none⟩)) rfl rfl rfl (yv_pv rfl) rfl ?_
      refine sxb_takePL 7 (.pointer (some ⟨g24, 0, none⟩)) rfl rfl rfl (yv_pv rfl) rfl ?_
      refine sxb_takePL 8 (.pointer (some ⟨g24, 0, none⟩)) rfl rfl rfl (yv_fieldAddr rfl ff53_0) rfl ?_
      refine sxb_takePL 9 (.pointer (some ⟨g24, 0, none⟩)) rfl rfl rfl (yv_fieldAddr rfl ff27_0) rfl ?_
      refine sxb_takeBL 10 (.int .i64 x25.1) rfl rfl rfl (yv_loadB (i := 0) rfl tf3 rfl rfl (fun _ => rfl) rfl) rfl ?_
      refine sxb_takePL 11 (.pointer (some ⟨g1, 0, none⟩)) rfl rfl rfl (yv_pv rfl) rfl ?_
      refine sxb_takePL 12 (.pointer (some ⟨g1, 0, none⟩)) rfl rfl rfl (yv_pv rfl) rfl ?_
      refine sxb_takePL 13 (.pointer (some ⟨g1, 2, none⟩)) rfl rfl rfl (yv_fieldAddr rfl ff86_1) rfl ?_
      refine sxb_takeBL 14 (.int .i64 x17.2.2) rfl rfl rfl (yv_loadB (i := 1) rfl tf3 rfl rfl (fun _ => rfl) rfl) rfl ?_
      refine sxb_takePL 15 (.int .i64 x6) rfl rfl rfl (yv_pv rfl) rfl ?_
      refine sxb_takePL 16 (.int .i64 (isub .i64 x17.2.2 x6)) rfl rfl rfl (yv_pv rfl) rfl ?_
      refine sxb_takePL 17 (.bool ((x25.1 : Int) == (isub .i64 x17.2.2 x6))) rfl rfl rfl (yv_pv rfl) rfl ?_
      refine sxb_takePL 18 (.bool ((x25.1 : Int) == (isub .i64 x17.2.2 x6))) rfl rfl rfl (yv_pv rfl) rfl ?_
      refine sxb_step 19 rfl (by kernel_rfl) rfl ?_
      refine sxo_callL ent58 rfl rfl rfl (fun x98 e98 => C_succ_must F ((x25.1 : Int) == (isub .i64 x17.2.2 x6)) x98 e98) .nil .nil .nil (fun x99 _ => ?_) (fun x98 e98 => ?_)
      · refine sxq_thenP ?_
        refine sxq_kpL (l' := [(8, .pointer (some ⟨g15, 0, none⟩)), (9, .pointer (some ⟨g16, 0, none⟩))]) (kl_cons rfl rfl (kl_cons rfl rfl kl_nil)) ?_
        refine sxq_thenP ?_
        refine sxq_leaveL ent56 rfl (.cons 3 rfl (.cons 2 rfl .nil)) (lost56 _ _ _ _) ?_
        refine sxq_nilrow Int (eI .i64) 3 1 ?_
        exact sxq_doneM (none, 0) (resL (rs := [.cell 8 22, .cell 9 4]) rfl (.cell (i := 0) rfl tf22 rfl rfl (fun _ => rfl) rfl (.cell (i := 1) rfl tf4 rfl rfl (fun _ => rfl) rfl ResOk.nil)) rfl) (hB := fun h => by subst h; exact (.cons 3 rfl .nil)) (hR := fun h => by subst h; exact (.cons 0 rfl .nil))
      intro _
      refine sxo_nil ?_
      refine sxq_anyB (.cons 0 rfl (.cons 0 rfl (.cons 0 rfl (.cons 0 rfl (.cons 0 rfl .nil))))) (gk_F 0 rfl (gk_F 1 rfl gk_nil)) ?_
      refine sxb_done (by kernel_rfl) ?_
      refine sxq_kp ?_ (by intro c h; cases h)
      exact sxq_meetP ((), ()) (hB := (.cons 0 rfl (.cons 0 rfl (.cons 0 rfl (.cons 0 rfl .nil))))) (hR := (.cons 0 rfl (.cons 0 rfl .nil))) (hF := (fk_cons 0 rfl fk_nil))
    · refine sxb_drawL mixed [8, 9] [] [⟨g24, 53, [.int .i64 x25.1, .slice a26 x25.2.1.length c27, .bool x25.2.2]⟩, ⟨g1, 86, [.int .i64 x17.2.1, .slice a4 x3.length c5, .int .i64 x17.2.2]⟩, ⟨g16, 4, [.bool false]⟩, ⟨g15, 22, [.slice a19 x17.1.length c20]⟩, ⟨g14, 24, [.int .i64 x11, .int .i64 x12, .int .i64 x13]⟩] [Sl (eI .u8) 1 (.slice a4 x3.length c5) x3, Sl (eI .i64) 1 (.slice a9 x8.length c10) x8] (.cons 0 rfl (.cons 0 rfl (.cons 0 rfl (.cons 0 rfl (.cons 0 rfl .nil))))) (gk_F 0 rfl (gk_F 1 rfl gk_nil)) 20 rfl ?_
      refine sxb_takePL 0 (.pointer (some ⟨g24, 0, none⟩)) rfl rfl rfl (yv_pv rfl) rfl ?_
      refine sxb_takePL 1 (.pointer (some ⟨g24, 0, none⟩)) rfl rfl rfl (yv_pv rfl) rfl ?_
      refine sxb_takePL 2 (.pointer (some ⟨g24, 2, none⟩)) rfl rfl rfl (yv_fieldAddr rfl ff53_1) rfl ?_
      refine sxb_takeBL 3 (.bool x25.2.2) rfl rfl rfl (yv_loadB (i := 0) rfl tf4 rfl rfl (fun _ => rfl) rfl) rfl ?_
      refine sxb_takePL 4 (.bool (!x25.2.2)) rfl rfl rfl (yv_pv rfl) rfl ?_
      refine sxb_takePL 5 (.bool (!x25.2.2)) rfl rfl rfl (yv_pv rfl) rfl ?_
      refine sxb_again (d := 40) (v := .bool false) rfl (by rw [h97] <;> rfl) ?_
      refine sxb_skipL 6 rfl rfl rfl rfl ?_
      refine sxb_skipL 7 rfl rfl rfl rfl ?_
      refine sxb_skipL 8 rfl rfl rfl rfl ?_
      refine sxb_skipL 9 rfl rfl rfl rfl ?_
      refine sxb_skipL 10 rfl rfl rfl rfl ?_
      refine sxb_skipL 11 rfl rfl rfl rfl ?_
      refine sxb_skipL 12 rfl rfl rfl rfl ?_
      refine sxb_skipL 13 rfl rfl rfl rfl ?_
      refine sxb_skipL 14 rfl rfl rfl rfl ?_
      refine sxb_skipL 15 rfl rfl rfl rfl ?_
      refine sxb_skipL 16 rfl rfl rfl rfl ?_
      refine sxb_skipL 17 rfl rfl rfl rfl ?_
      refine sxb_takePL 18 (.bool false) rfl rfl rfl (yv_pv rfl) rfl ?_
      refine sxb_step 19 rfl (by kernel_rfl) rfl ?_
      refine sxo_callL ent58 rfl rfl rfl (fun x100 e100 => C_succ_must F false x100 e100) .nil .nil .nil (fun x101 _ => ?_) (fun x100 e100 => ?_)
      · refine sxq_thenP ?_
        refine sxq_kpL (l' := [(8, .pointer (some ⟨g15, 0, none⟩)), (9, .pointer (some ⟨g16, 0, none⟩))]) (kl_cons rfl rfl (kl_cons rfl rfl kl_nil)) ?_
        refine sxq_thenP ?_
        refine sxq_leaveL ent56 rfl (.cons 3 rfl (.cons 2 rfl .nil)) (lost56 _ _ _ _) ?_
        refine sxq_nilrow Int (eI .i64) 3 1 ?_
        exact sxq_doneM (none, 0) (resL (rs := [.cell 8 22, .cell 9 4]) rfl (.cell (i := 0) rfl tf22 rfl rfl (fun _ => rfl) rfl (.cell (i := 1) rfl tf4 rfl rfl (fun _ => rfl) rfl ResOk.nil)) rfl) (hB := fun h => by subst h; exact (.cons 3 rfl .nil)) (hR := fun h => by subst h; exact (.cons 0 rfl .nil))
      intro _
      refine sxo_nil ?_
      refine sxq_anyB (.cons 0 rfl (.cons 0 rfl (.cons 0 rfl (.cons 0 rfl (.cons 0 rfl .nil))))) (gk_F 0 rfl (gk_F 1 rfl gk_nil)) ?_
      refine sxb_done (by kernel_rfl) ?_
      refine sxq_kp ?_ (by intro c h; cases h)
      exact sxq_meetP ((), ()) (hB := (.cons 0 rfl (.cons 0 rfl (.cons 0 rfl (.cons 0 rfl .nil))))) (hR := (.cons 0 rfl (.cons 0 rfl .nil))) (hF := (fk_cons 0 rfl fk_nil))
  · rintro ⟨_, _⟩
    try dsimp only
    refine sxc_join (fun ((_, _) : (Unit × Unit)) => [(8, .pointer (some ⟨g15, 0, none⟩)), (9, .pointer (some ⟨g16, 0, none⟩))]) (fun ((_, _) : (Unit × Unit)) => [⟨g1, 86, [.int .i64 x17.2.1, .slice a4 x3.length c5, .int .i64 x17.2.2]⟩, ⟨g16, 4, [.bool false]⟩, ⟨g15, 22, [.slice a19 x17.1.length c20]⟩]) (fun ((_, _) : (Unit × Unit)) => [Ro (eI .i64) 3 1 (.slice a19 x17.1.length c20) x17.1]) (fun ((_, _) : (Unit × Unit)) => [Sl (eI .u8) 1 (.slice a4 x3.length c5) x3]) (fun ((_, _) : (Unit × Unit)) => M_succ_reader_read_j3 F x17) ?_ ?_
    · refine sxc_seq ?_
      refine sxc_region ?_
      refine sxo_move rfl rfl rfl ?_
      refine sxo_nilCheck rfl rfl rfl ?_
      refine sxo_fieldAddr rfl rfl ff53_0 rfl ?_
      refine sxo_fieldAddr rfl rfl ff27_0 rfl ?_
      refine sxo_loadB (i := 0) rfl rfl tf3 rfl rfl (fun _ => rfl) rfl rfl ?_
      refine sxo_move rfl rfl rfl ?_
      refine sxo_nil ?_
      refine sxq_next ?_
      refine sxc_block ?_
      refine sxc_loopP (fun ((x75, _) : (Int × Unit)) => [(0, .pointer (some ⟨g1, 0, none⟩)), (8, .pointer (some ⟨g15, 0, none⟩)), (9, .pointer (some ⟨g16, 0, none⟩)), (10, .int .i64 x6), (11, .pointer (some ⟨g24, 0, none⟩)), (59, .int .i64 x25.1), (60, .int .i64 x75)]) (fun ((x75, _) : (Int × Unit)) => [⟨g24, 53, [.int .i64 x25.1, .slice a26 x25.2.1.length c27, .bool x25.2.2]⟩, ⟨g1, 86, [.int .i64 x17.2.1, .slice a4 x3.length c5, .int .i64 x17.2.2]⟩, ⟨g16, 4, [.bool false]⟩, ⟨g15, 22, [.slice a19 x17.1.length c20]⟩]) (fun ((x75, _) : (Int × Unit)) => [Ro (eI .u8) 5 1 (.slice a26 x25.2.1.length c27) x25.2.1, Ro (eI .i64) 3 1 (.slice a19 x17.1.length c20) x17.1]) (fun ((x75, _) : (Int × Unit)) => [Sl (eI .u8) 1 (.slice a4 x3.length c5) x3]) (fun k (s : (Int × Unit)) => M_succ_reader_read_l4 F x3 x6 x17 x25 k s.1) (0, ()) F ?_ (hB := (.cons 0 rfl (.cons 0 rfl (.cons 0 rfl (.cons 0 rfl .nil))))) (hR := (.cons 0 rfl (.cons 0 rfl .nil))) (hF := (fk_cons 0 rfl fk_nil))
      intro k86
      rintro ⟨x75, _⟩
      try dsimp only
      refine sxc_meq (m' := M_succ_reader_read_b4 F x3 x6 x17 x25 (M_succ_reader_read_l4 F x3 x6 x17 x25 k86) x75) rfl ?_
      refine sxc_seq ?_
      refine sxc_region ?_
      refine sxo_lss rfl rfl rfl rfl ?_
      refine sxo_nil ?_
      refine sxq_next ?_
      refine sxc_seq ?_
      refine sxc_if rfl (fun h96 => ?_) (fun h96 => ?_)
      · refine sxc_skip ?_
        refine sxq_next ?_
        refine sxc_seq ?_
        refine sxc_block ?_
        refine sxc_seq ?_
        refine sxc_region ?_
        refine sxo_move rfl rfl rfl ?_
        refine sxo_assign rfl rfl rfl ?_
        refine sxo_nil ?_
        refine sxq_next ?_
        refine sxb_drawL mixed [8, 9] [] [⟨g24, 53, [.int .i64 x25.1, .slice a26 x25.2.1.length c27, .bool x25.2.2]⟩, ⟨g1, 86, [.int .i64 x17.2.1, .slice a4 x3.length c5, .int .i64 x17.2.2]⟩, ⟨g16, 4, [.bool false]⟩, ⟨g15, 22, [.slice a19 x17.1.length c20]⟩] [Sl (eI .u8) 1 (.slice a4 x3.length c5) x3] (.cons 0 rfl (.cons 0 rfl (.cons 0 rfl (.cons 0 rfl .nil)))) (gk_F 0 rfl gk_nil) 16 rfl ?_
        refine sxb_takePL 0 (.pointer (some ⟨g24, 0, none⟩)) rfl rfl rfl (yv_pv rfl) rfl ?_
        refine sxb_takePL 1 (.pointer (some ⟨g24, 0, none⟩)) rfl rfl rfl (yv_pv rfl) rfl ?_
        refine sxb_takePL 2 (.pointer (some ⟨g24, 0, none⟩)) rfl rfl rfl (yv_fieldAddr rfl ff53_0) rfl ?_
        refine sxb_takeBL 3 (.agg #[.int .i64 x25.1, .slice a26 x25.2.1.length c27]) rfl rfl rfl (yv_loadB (i := 0) rfl tf27 rfl rfl (by simp) rfl) rfl ?_
        refine sxb_takePL 4 (.int .i64 x75) rfl rfl rfl (yv_pv rfl) rfl ?_
        refine sxb_takePL 6 (.pointer (some ⟨g1, 0, none⟩)) rfl rfl rfl (yv_pv rfl) rfl ?_
        refine sxb_takePL 7 (.pointer (some ⟨g1, 0, none⟩)) rfl rfl rfl (yv_pv rfl) rfl ?_
        refine sxb_takePL 8 (.pointer (some ⟨g1, 0, none⟩)) rfl rfl rfl (yv_fieldAddr rfl ff86_0) rfl ?_
        refine sxb_takeBL 9 (.agg #[.int .i64 x17.2.1, .slice a4 x3.length c5]) rfl rfl rfl (yv_loadB (i := 1) rfl tf27 rfl rfl (by simp) rfl) rfl ?_
        refine sxb_takePL 10 (.int .i64 x6) rfl rfl rfl (yv_pv rfl) rfl ?_
        refine sxb_takePL 11 (.int .i64 x75) rfl rfl rfl (yv_pv rfl) rfl ?_
        refine sxb_takePL 12 (.int .i64 (iadd .i64 x6 x75)) rfl rfl rfl (yv_pv rfl) rfl ?_
        refine sxb_step 5 rfl (by kernel_rfl) rfl ?_
        refine sxo_call ent46 rfl rfl rfl (fun x92 e92 => C_bits_At F x25.1 x25.2.1 a26 c27 x75 x92 e92) (.consR 0 (Ro (eI .u8) 5 1 (.slice a26 x25.2.1.length c27) x25.2.1) rfl .nil) (fun x92 e92 => ?_)
        intro _
        refine sxo_nil ?_
        refine sxq_anyB (.cons 0 rfl (.cons 0 rfl (.cons 0 rfl (.cons 0 rfl .nil)))) (gk_F 0 rfl gk_nil) ?_
        refine sxb_step 13 rfl (by kernel_rfl) rfl ?_
        refine sxo_call ent46 rfl rfl rfl (fun x93 e93 => C_bits_At F x17.2.1 x3 a4 c5 (iadd .i64 x6 x75) x93 e93) (.consF 0 rfl .nil) (fun x93 e93 => ?_)
        intro _
        refine sxo_nil ?_
        refine sxq_anyB (.cons 0 rfl (.cons 0 rfl (.cons 0 rfl (.cons 0 rfl .nil)))) (gk_F 0 rfl gk_nil) ?_
        refine sxb_takePL 14 (.bool ((x92 : Int) == x93)) rfl rfl rfl (yv_pv rfl) rfl ?_
        refine sxb_step 15 rfl (by kernel_rfl) rfl ?_
        refine sxo_callL ent58 rfl rfl rfl (fun x94 e94 => C_succ_must F ((x92 : Int) == x93) x94 e94) .nil .nil .nil (fun x95 _ => ?_) (fun x94 e94 => ?_)
        · refine sxq_thenP ?_
          refine sxq_kpL (l' := [(8, .pointer (some ⟨g15, 0, none⟩)), (9, .pointer (some ⟨g16, 0, none⟩))]) (kl_cons rfl rfl (kl_cons rfl rfl kl_nil)) ?_
          refine sxq_blkP ?_
          refine sxq_thenP ?_
          refine sxq_thenP ?_
          refine sxq_blkP ?_
          refine sxq_thenP ?_
          refine sxq_leaveL ent56 rfl (.cons 3 rfl (.cons 2 rfl .nil)) (lost56 _ _ _ _) ?_
          refine sxq_nilrow Int (eI .i64) 3 1 ?_
          exact sxq_doneM (none, 0) (resL (rs := [.cell 8 22, .cell 9 4]) rfl (.cell (i := 0) rfl tf22 rfl rfl (fun _ => rfl) rfl (.cell (i := 1) rfl tf4 rfl rfl (fun _ => rfl) rfl ResOk.nil)) rfl) (hB := fun h => by subst h; exact (.cons 3 rfl .nil)) (hR := fun h => by subst h; exact (.cons 0 rfl .nil))
        intro _
        refine sxo_nil ?_
        refine sxq_anyB (.cons 0 rfl (.cons 0 rfl (.cons 0 rfl (.cons 0 rfl .nil)))) (gk_F 0 rfl gk_nil) ?_
        refine sxb_done (by kernel_rfl) ?_
        refine sxq_kp ?_ (by intro c h; cases h)
        refine sxq_blkN ?_
        refine sxq_next ?_
        refine sxc_region ?_
        refine sxo_add rfl rfl rfl rfl ?_
        refine sxo_move rfl rfl rfl ?_
        refine sxo_nil ?_
        exact sxq_againP (iadd .i64 x75 1, ()) (hB := (.cons 0 rfl (.cons 0 rfl (.cons 0 rfl (.cons 0 rfl .nil))))) (hR := (.cons 0 rfl (.cons 0 rfl .nil))) (hF := (fk_cons 0 rfl fk_nil))
      · refine sxc_exit ?_
        refine sxq_thenX ?_
        refine sxq_thenX ?_
        refine sxq_blkX ?_
        exact sxq_meetP ((), ()) (hB := (.cons 1 rfl (.cons 1 rfl (.cons 1 rfl .nil)))) (hR := (.cons 1 rfl .nil)) (hF := (fk_cons 0 rfl fk_nil))
    · rintro ⟨_, _⟩
      try dsimp only
      refine sxc_seq ?_
      refine sxc_region ?_
      refine sxo_loadB (i := 2) rfl rfl tf22 rfl rfl (fun _ => rfl) rfl rfl ?_
      refine sxo_storeB (i := 2) rfl rfl rfl tf22 rfl rfl rfl rfl rfl ?_
      refine sxo_storeB (i := 1) rfl rfl rfl tf4 rfl rfl rfl rfl rfl ?_
      refine sxo_nil ?_
      refine sxq_next ?_
      refine sxc_ret ?_
      refine sxq_leaveD (.inl rfl) ent56 rfl (idle56 _ _) ?_
      exact sxq_doneM (a19, c20) (resL (rs := [.cell 8 22, .cell 9 4]) rfl (.cell (i := 2) rfl tf22 rfl rfl (fun _ => rfl) rfl (.cell (i := 1) rfl tf4 rfl rfl (fun _ => rfl) rfl ResOk.nil)) rfl) (hB := fun h => by subst h; exact (.cons 0 rfl .nil)) (hR := fun h => by subst h; exact (.cons 0 rfl .nil))

theorem C_succ_From (F : Nat) (x1 : Int) (x2 : List Int) (a3 : Option Addr) (c4 : Nat) (x5 : Int) (x6 : Int) (x7 : List Int) (a8 : Option Addr) (c9 : Nat) (x10 : Int) (x11 : Int) (x12 : Int) (r : (List Int × Int × Int)) (hm : M_succ_From F x1 x2 x5 x6 x7 x10 x11 x12 = some r) :
    Pure Try.prog 29 [.agg #[.int .i64 x1, .slice a3 x2.length c4], .int .i64 x5, .int .i64 x6, .slice a8 x7.length c9, .agg #[.int .i64 x10, .int .i64 x11, .int .i64 x12]] [Sl (eI .u8) 1 (.slice a3 x2.length c4) x2, Sl (eI .i64) 1 (.slice a8 x7.length c9) x7] (Option Addr × Nat) (fun g => .tuple #[.slice g.1 r.1.length g.2, .int .i64 r.2.1, .int .i64 r.2.2]) (fun g => [Ro (eI .i64) 3 1 (.slice g.1 r.1.length g.2) r.1]) (fun _ => []) := by
  refine pure_of Try.func29 rfl Try.ntmps29 rfl hm (fun w => ?_)
  refine sxc_env (l' := [(0, .agg #[.int .i64 x1, .slice a3 x2.length c4]), (1, .int .i64 x5), (2, .int .i64 x6), (3, .slice a8 x7.length c9), (4, .agg #[.int .i64 x10, .int .i64 x11, .int .i64 x12])]) rfl ?_
  refine sxc_seq ?_
  refine sxc_region ?_
  refine sxo_box rfl rfl rfl (fun g13 => ?_)
  refine sxo_box rfl rfl rfl (fun g14 => ?_)
  refine sxo_assign rfl rfl rfl ?_
  refine sxo_assign rfl rfl rfl ?_
  refine sxo_assign rfl rfl rfl ?_
  refine sxo_nil ?_
  refine sxq_next ?_
  refine sxc_seq ?_
  refine sxc_region ?_
  refine sxo_loadB (i := 1) rfl rfl tf27 rfl rfl (by simp) rfl rfl ?_
  refine sxo_move rfl rfl rfl ?_
  refine sxo_build (cells := [.int .i64 x1, .slice a3 x2.length c4, .int .i64 x5]) rfl st86 rfl (by kernel_rfl) rfl ?_
  refine sxo_box rfl rfl rfl (fun g15 => ?_)
  refine sxo_assign rfl rfl rfl ?_
  refine sxo_nil ?_
  refine sxq_next ?_
  refine sxc_seq ?_
  refine sxc_region ?_
  refine sxo_move rfl rfl rfl ?_
  refine sxo_move rfl rfl rfl ?_
  refine sxo_move rfl rfl rfl ?_
  refine sxo_loadB (i := 1) rfl rfl tf24 rfl rfl (by simp) rfl rfl ?_
  refine sxo_callM ent44 rfl rfl rfl (fun x16 e16 => C_succ_reader_read F g15 x1 x2 a3 c4 x5 x6 x7 a8 c9 x10 x11 x12 x16 e16) (.cons 0 rfl .nil) .nil (.consF 0 rfl (.consF 1 rfl .nil)) (fun x16 e16 => ?_)
  rintro ⟨a17, c18⟩
  refine sxo_move rfl rfl rfl ?_
  refine sxo_extract rfl rfl rfl rfl ?_
  refine sxo_extract rfl rfl rfl rfl ?_
  refine sxo_assign rfl rfl rfl ?_
  refine sxo_assign rfl rfl rfl ?_
  refine sxo_nil ?_
  refine sxq_next ?_
  refine sxc_seq ?_
  refine sxc_seq ?_
  refine sxc_region ?_
  refine sxo_move rfl rfl rfl ?_
  refine sxo_not rfl rfl rfl ?_
  refine sxo_nil ?_
  refine sxq_next ?_
  refine sxc_if rfl (fun h20 => ?_) (fun h20 => ?_)
  · refine sxc_seq ?_
    refine sxc_region ?_
    refine sxo_assign rfl rfl rfl ?_
    refine sxo_assign rfl rfl rfl ?_
    refine sxo_assign rfl rfl rfl ?_
    refine sxo_nil ?_
    refine sxq_next ?_
    refine sxc_ret ?_
    refine sxq_thenR ?_
    refine sxq_nilrow Int (eI .i64) 3 1 ?_
    exact sxq_doneP (none, 0) (res3 rfl rfl rfl rfl) (fun h => by subst h; exact (.cons 0 rfl .nil))
  · refine sxc_skip ?_
    refine sxq_next ?_
    refine sxc_seq ?_
    refine sxb_draw mixed [] [⟨g15, 86, [.int .i64 x16.2.2.1, .slice a3 x2.length c4, .int .i64 x16.2.2.2]⟩, ⟨g14, 24, [.int .i64 x10, .int .i64 x11, .int .i64 x12]⟩, ⟨g13, 27, [.int .i64 x1, .slice a3 x2.length c4]⟩] [Sl (eI .u8) 1 (.slice a3 x2.length c4) x2, Sl (eI .i64) 1 (.slice a8 x7.length c9) x7] (.cons 0 rfl (.cons 0 rfl (.cons 0 rfl .nil))) (gk_F 0 rfl (gk_F 1 rfl gk_nil)) 8 rfl ?_
    refine sxb_takeP 0 (.slice a17 x16.1.length c18) rfl rfl rfl (yv_pv rfl) ?_
    refine sxb_takeP 1 (.pointer (some ⟨g15, 0, none⟩)) rfl rfl rfl (yv_pv rfl) ?_
    refine sxb_takeP 2 (.pointer (some ⟨g15, 0, none⟩)) rfl rfl rfl (yv_pv rfl) ?_
    refine sxb_takeP 3 (.pointer (some ⟨g15, 2, none⟩)) rfl rfl rfl (yv_fieldAddr rfl ff86_1) ?_
    refine sxb_takeB 4 (.int .i64 x16.2.2.2) rfl rfl rfl (yv_loadB (i := 0) rfl tf3 rfl rfl (fun _ => rfl) rfl) ?_
    refine sxb_takeP 5 (.slice a17 x16.1.length c18) rfl rfl rfl (yv_pv rfl) ?_
    refine sxb_takeP 6 (.int .i64 x16.2.2.2) rfl rfl rfl (yv_pv rfl) ?_
    refine sxb_takeP 7 (.int .i64 0) rfl rfl rfl (yv_pv rfl) ?_
    refine sxb_done (by kernel_rfl) ?_
    refine sxq_np ?_ (by intro c h; cases h)
    refine sxq_next ?_
    refine sxc_ret ?_
    exact sxq_doneP (a17, c18) (res3 rfl rfl rfl rfl) (fun h => by subst h; exact (.cons 0 rfl .nil))

theorem C_succ_Read (F : Nat) (x1 : Int) (x2 : List Int) (a3 : Option Addr) (c4 : Nat) (x5 : Int) (x6 : Int) (x7 : List Int) (a8 : Option Addr) (c9 : Nat) (x10 : Int) (x11 : Int) (x12 : Int) (r : (List Int × Int × Int)) (hm : M_succ_Read F x1 x2 x5 x6 x7 x10 x11 x12 = some r) :
    Pure Try.prog 15 [.agg #[.int .i64 x1, .slice a3 x2.length c4], .int .i64 x5, .int .i64 x6, .slice a8 x7.length c9, .agg #[.int .i64 x10, .int .i64 x11, .int .i64 x12]] [Sl (eI .u8) 1 (.slice a3 x2.length c4) x2, Sl (eI .i64) 1 (.slice a8 x7.length c9) x7] (Option Addr × Nat) (fun g => .tuple #[.slice g.1 r.1.length g.2, .int .i64 r.2.1, .int .i64 r.2.2]) (fun g => [Ro (eI .i64) 3 1 (.slice g.1 r.1.length g.2) r.1]) (fun _ => []) := by
  refine pure_of Try.func15 rfl Try.ntmps15 rfl hm (fun w => ?_)
  refine sxc_env (l' := [(0, .agg #[.int .i64 x1, .slice a3 x2.length c4]), (1, .int .i64 x5), (2, .int .i64 x6), (3, .slice a8 x7.length c9), (4, .agg #[.int .i64 x10, .int .i64 x11, .int .i64 x12])]) rfl ?_
  refine sxc_seq ?_
  refine sxc_region ?_
  refine sxo_box rfl rfl rfl (fun g13 => ?_)
  refine sxo_box rfl rfl rfl (fun g14 => ?_)
  refine sxo_assign rfl rfl rfl ?_
  refine sxo_assign rfl rfl rfl ?_
  refine sxo_assign rfl rfl rfl ?_
  refine sxo_nil ?_
  refine sxq_next ?_
  refine sxc_seq ?_
  refine sxc_region ?_
  refine sxo_loadB (i := 0) rfl rfl tf24 rfl rfl (by simp) rfl rfl ?_
  refine sxo_call ent19 rfl rfl rfl (fun x15 e15 => C_succ_Check F x10 x11 x12 x15 e15) .nil (fun x15 e15 => ?_)
  intro _
  refine sxo_assign rfl rfl rfl ?_
  refine sxo_nil ?_
  refine sxq_next ?_
  refine sxc_join (fun ((x18, _) : (Int × Unit)) => [(1, .int .i64 x5), (2, .int .i64 x6), (3, .slice a8 x7.length c9), (5, .pointer (some ⟨g13, 0, none⟩)), (9, .pointer (some ⟨g14, 0, none⟩)), (13, .int .i64 x18)]) (fun ((x18, _) : (Int × Unit)) => [⟨g14, 24, [.int .i64 x10, .int .i64 x11, .int .i64 x12]⟩, ⟨g13, 27, [.int .i64 x1, .slice a3 x2.length c4]⟩]) (fun ((x18, _) : (Int × Unit)) => []) (fun ((x18, _) : (Int × Unit)) => [Sl (eI .i64) 1 (.slice a8 x7.length c9) x7, Sl (eI .u8) 1 (.slice a3 x2.length c4) x2]) (fun ((x18, _) : (Int × Unit)) => M_succ_Read_j1 F x1 x2 x5 x6 x7 x10 x11 x12 x18) ?_ ?_
  · refine sxc_seq ?_
    refine sxc_region ?_
    refine sxo_move rfl rfl rfl ?_
    refine sxo_eql rfl rfl rfl rfl ?_
    refine sxo_nil ?_
    refine sxq_next ?_
    refine sxc_if rfl (fun h30 => ?_) (fun h30 => ?_)
    · refine sxc_region ?_
      refine sxo_loadB (i := 1) rfl rfl tf27 rfl rfl (by simp) rfl rfl ?_
      refine sxo_move rfl rfl rfl ?_
      refine sxo_call ent28 rfl rfl rfl (fun x29 e29 => C_elias_Check F x1 x2 a3 c4 x5 x29 e29) (.consF 0 rfl .nil) (fun x29 e29 => ?_)
      intro _
      refine sxo_assign rfl rfl rfl ?_
      refine sxo_nil ?_
      exact sxq_meetP (x29, ()) (hB := (.cons 0 rfl (.cons 0 rfl .nil))) (hF := (fk_cons 1 rfl (fk_cons 0 rfl fk_nil)))
    · refine sxc_skip ?_
      exact sxq_meetP (x15, ()) (hB := (.cons 0 rfl (.cons 0 rfl .nil))) (hF := (fk_cons 1 rfl (fk_cons 0 rfl fk_nil)))
  · rintro ⟨x18, _⟩
    try dsimp only
    refine sxc_join (fun ((x21, _) : (Int × Unit)) => [(1, .int .i64 x5), (2, .int .i64 x6), (3, .slice a8 x7.length c9), (5, .pointer (some ⟨g13, 0, none⟩)), (9, .pointer (some ⟨g14, 0, none⟩)), (13, .int .i64 x21)]) (fun ((x21, _) : (Int × Unit)) => [⟨g14, 24, [.int .i64 x10, .int .i64 x11, .int .i64 x12]⟩, ⟨g13, 27, [.int .i64 x1, .slice a3 x2.length c4]⟩]) (fun ((x21, _) : (Int × Unit)) => []) (fun ((x21, _) : (Int × Unit)) => [Sl (eI .i64) 1 (.slice a8 x7.length c9) x7, Sl (eI .u8) 1 (.slice a3 x2.length c4) x2]) (fun ((x21, _) : (Int × Unit)) => M_succ_Read_j2 F x1 x2 x5 x6 x7 x10 x11 x12 x21) ?_ ?_
    · refine sxc_seq ?_
      refine sxc_region ?_
      refine sxo_move rfl rfl rfl ?_
      refine sxo_eql rfl rfl rfl rfl ?_
      refine sxo_nil ?_
      refine sxq_next ?_
      refine sxc_if rfl (fun h28 => ?_) (fun h28 => ?_)
      · refine sxc_region ?_
        refine sxo_move rfl rfl rfl ?_
        refine sxo_move rfl rfl rfl ?_
        refine sxo_loadB (i := 0) rfl rfl tf24 rfl rfl (by simp) rfl rfl ?_
        refine sxo_call ent21 rfl rfl rfl (fun x27 e27 => C_succ_check F x6 x7 a8 c9 x10 x11 x12 x27 e27) (.consF 0 rfl .nil) (fun x27 e27 => ?_)
        intro _
        refine sxo_assign rfl rfl rfl ?_
        refine sxo_nil ?_
        exact sxq_meetP (x27, ()) (hB := (.cons 0 rfl (.cons 0 rfl .nil))) (hF := (fk_cons 0 rfl (fk_cons 1 rfl fk_nil)))
      · refine sxc_skip ?_
        exact sxq_meetP (x18, ()) (hB := (.cons 0 rfl (.cons 0 rfl .nil))) (hF := (fk_cons 0 rfl (fk_cons 1 rfl fk_nil)))
    · rintro ⟨x21, _⟩
      try dsimp only
      refine sxc_seq ?_
      refine sxc_seq ?_
      refine sxc_region ?_
      refine sxo_move rfl rfl rfl ?_
      refine sxo_neq rfl rfl rfl rfl ?_
      refine sxo_nil ?_
      refine sxq_next ?_
      refine sxc_if rfl (fun h26 => ?_) (fun h26 => ?_)
      · refine sxc_seq ?_
        refine sxc_region ?_
        refine sxo_move rfl rfl rfl ?_
        refine sxo_assign rfl rfl rfl ?_
        refine sxo_assign rfl rfl rfl ?_
        refine sxo_assign rfl rfl rfl ?_
        refine sxo_nil ?_
        refine sxq_next ?_
        refine sxc_ret ?_
        refine sxq_thenR ?_
        refine sxq_nilrow Int (eI .i64) 3 1 ?_
        exact sxq_doneP (none, 0) (res3 rfl rfl rfl rfl) (fun h => by subst h; exact (.cons 0 rfl .nil))
      · refine sxc_skip ?_
        refine sxq_next ?_
        refine sxc_seq ?_
        refine sxc_region ?_
        refine sxo_loadB (i := 1) rfl rfl tf27 rfl rfl (by simp) rfl rfl ?_
        refine sxo_move rfl rfl rfl ?_
        refine sxo_move rfl rfl rfl ?_
        refine sxo_move rfl rfl rfl ?_
        refine sxo_loadB (i := 0) rfl rfl tf24 rfl rfl (by simp) rfl rfl ?_
        refine sxo_call ent29 rfl rfl rfl (fun x23 e23 => C_succ_From F x1 x2 a3 c4 x5 x6 x7 a8 c9 x10 x11 x12 x23 e23) (.consF 1 rfl (.consF 0 rfl .nil)) (fun x23 e23 => ?_)
        rintro ⟨a24, c25⟩
        refine sxo_extract rfl rfl rfl rfl ?_
        refine sxo_extract rfl rfl rfl rfl ?_
        refine sxo_extract rfl rfl rfl rfl ?_
        refine sxo_assign rfl rfl rfl ?_
        refine sxo_assign rfl rfl rfl ?_
        refine sxo_assign rfl rfl rfl ?_
        refine sxo_nil ?_
        refine sxq_next ?_
        refine sxc_ret ?_
        exact sxq_doneP (a24, c25) (res3 rfl rfl rfl rfl) (fun h => by subst h; exact (.cons 0 rfl .nil))

theorem C_R_SameInts (F : Nat) (x1 : List Int) (a2 : Option Addr) (c3 : Nat) (x4 : List Int) (a5 : Option Addr) (c6 : Nat) (r : Bool) (hm : M_R_SameInts F x1 x4 = some r) :
    Pure Try.prog 16 [.slice a2 x1.length c3, .slice a5 x4.length c6] [Sl (eI .i64) 1 (.slice a2 x1.length c3) x1, Sl (eI .i64) 1 (.slice a5 x4.length c6) x4] Unit (fun _ => .bool r) (fun _ => []) (fun _ => []) := by
  refine pure_of Try.func16 rfl Try.ntmps16 rfl hm (fun w => ?_)
  refine sxc_env (l' := [(0, .slice a2 x1.length c3), (1, .slice a5 x4.length c6)]) rfl ?_
  refine sxc_seq ?_
  refine sxc_region ?_
  refine sxo_assign rfl rfl rfl ?_
  refine sxo_nil ?_
  refine sxq_next ?_
  refine sxc_seq ?_
  refine sxc_seq ?_
  refine sxc_region ?_
  refine sxo_move rfl rfl rfl ?_
  refine sxo_len rfl Try.underlying22 rfl rfl ?_
  refine sxo_move rfl rfl rfl ?_
  refine sxo_len rfl Try.underlying22 rfl rfl ?_
  refine sxo_neq rfl rfl rfl rfl ?_
  refine sxo_nil ?_
  refine sxq_next ?_
  refine sxc_if rfl (fun h228 => ?_) (fun h228 => ?_)
  · refine sxc_seq ?_
    refine sxc_region ?_
    refine sxo_assign rfl rfl rfl ?_
    refine sxo_nil ?_
    refine sxq_next ?_
    refine sxc_ret ?_
    refine sxq_thenR ?_
    exact sxq_doneP () (res1 rfl rfl)
  · refine sxc_skip ?_
    refine sxq_next ?_
    refine sxc_join (fun ((_, _) : (Unit × Unit)) => []) (fun ((_, _) : (Unit × Unit)) => []) (fun ((_, _) : (Unit × Unit)) => []) (fun ((_, _) : (Unit × Unit)) => []) (fun ((_, _) : (Unit × Unit)) => M_R_SameInts_j2 F) ?_ ?_
    · refine sxc_seq ?_
      refine sxc_region ?_
      refine sxo_assign rfl rfl rfl ?_
      refine sxo_nil ?_
      refine sxq_next ?_
      refine sxc_block ?_
      refine sxc_loopP (fun ((x154, _) : (Int × Unit)) => [(0, .slice a2 x1.length c3), (1, .slice a5 x4.length c6), (5, .int .i64 x154)]) (fun ((x154, _) : (Int × Unit)) => []) (fun ((x154, _) : (Int × Unit)) => []) (fun ((x154, _) : (Int × Unit)) => [Sl (eI .i64) 1 (.slice a2 x1.length c3) x1, Sl (eI .i64) 1 (.slice a5 x4.length c6) x4]) (fun k (s : (Int × Unit)) => M_R_SameInts_l3 F x1 x4 k s.1) (0, ()) F ?_ (hF := (fk_cons 0 rfl (fk_cons 1 rfl fk_nil)))
      intro k191
      rintro ⟨x154, _⟩
      try dsimp only
      refine sxc_meq (m' := M_R_SameInts_b3 F x1 x4 (M_R_SameInts_l3 F x1 x4 k191) x154) rfl ?_
      refine sxc_seq ?_
      refine sxc_seq ?_
      refine sxc_region ?_
      refine sxo_move rfl rfl rfl ?_
      refine sxo_move rfl rfl rfl ?_
      refine sxo_len rfl Try.underlying22 rfl rfl ?_
      refine sxo_lss rfl rfl rfl rfl ?_
      refine sxo_nil ?_
      refine sxq_next ?_
      refine sxc_if rfl (fun h227 => ?_) (fun h227 => ?_)
      · refine sxc_skip ?_
        refine sxq_next ?_
        refine sxc_seq ?_
        refine sxc_block ?_
        refine sxc_seq ?_
        refine sxc_idxF (j := 0) (eI_ok .i64) (by decide) rfl (fun x218 e218 b219 o220 h221 => ?_)
        replace h221 : a2 = some ⟨b219, o220, none⟩ := h221
        refine sxc_idxF (j := 2) (eI_ok .i64) (by decide) rfl (fun x222 e222 b223 o224 h225 => ?_)
        replace h225 : a5 = some ⟨b223, o224, none⟩ := h225
        refine sxb_draw mixed [] [] [CellsAt b223 (o224 + x154.toNat * 1) ((eI .i64) x222), CellsAt b219 (o220 + x154.toNat * 1) ((eI .i64) x218), Sl (eI .i64) 1 (.slice a2 x1.length c3) x1, Sl (eI .i64) 1 (.slice a5 x4.length c6) x4] .nil (gk_F 0 rfl (gk_F 1 rfl (gk_F 2 rfl (gk_F 3 rfl gk_nil)))) 9 rfl ?_
        refine sxb_takeP 0 (.slice a2 x1.length c3) rfl rfl rfl (yv_pv rfl) ?_
        refine sxb_takeP 1 (.int .i64 x154) rfl rfl rfl (yv_pv rfl) ?_
        refine sxb_again (d := 17) (v := .slice (some ⟨b219, o220, none⟩) x1.length c3) rfl (by rw [h221] <;> rfl) ?_
        refine sxb_takeP 2 (.pointer (some ⟨b219, (o220 + x154.toNat * 1), none⟩)) rfl rfl rfl (yv_idx Try.underlying22 tf3 rfl rfl (idx_get e218).1 (idx_lt e218)) ?_
        refine sxb_again (d := 17) (v := .slice a2 x1.length c3) rfl (by rw [h221] <;> rfl) ?_
        refine sxb_take 3 (.int .i64 x218) [] rfl rfl rfl (yv_loadF (j := 1) rfl tf3 rfl rfl (fun _ => rfl) rfl) ?_
        refine sxb_takeP 4 (.slice a5 x4.length c6) rfl rfl rfl (yv_pv rfl) ?_
        refine sxb_takeP 5 (.int .i64 x154) rfl rfl rfl (yv_pv rfl) ?_
        refine sxb_again (d := 21) (v := .slice (some ⟨b223, o224, none⟩) x4.length c6) rfl (by rw [h225] <;> rfl) ?_
        refine sxb_takeP 6 (.pointer (some ⟨b223, (o224 + x154.toNat * 1), none⟩)) rfl rfl rfl (yv_idx Try.underlying22 tf3 rfl rfl (idx_get e222).1 (idx_lt e222)) ?_
        refine sxb_again (d := 21) (v := .slice a5 x4.length c6) rfl (by rw [h225] <;> rfl) ?_
        refine sxb_take 7 (.int .i64 x222) [] rfl rfl rfl (yv_loadF (j := 0) rfl tf3 rfl rfl (fun _ => rfl) rfl) ?_
        refine sxb_takeP 8 (.bool ((x218 : Int) != x222)) rfl rfl rfl (yv_pv rfl) ?_
        refine sxb_done (by kernel_rfl) ?_
        refine sxq_np ?_ (by intro c h; cases h)
        refine sxq_next ?_
        refine sxc_if rfl (fun h226 => ?_) (fun h226 => ?_)
        · refine sxc_seq ?_
          refine sxc_region ?_
          refine sxo_assign rfl rfl rfl ?_
          refine sxo_nil ?_
          refine sxq_next ?_
          refine sxc_ret ?_
          refine sxq_blkR ?_
          refine sxq_thenR ?_
          refine sxq_thenR ?_
          refine sxq_blkR ?_
          refine sxq_thenR ?_
          exact sxq_doneP () (res1 rfl rfl)
        · refine sxc_skip ?_
          refine sxq_blkN ?_
          refine sxq_next ?_
          refine sxc_region ?_
          refine sxo_move rfl rfl rfl ?_
          refine sxo_add rfl rfl rfl rfl ?_
          refine sxo_assign rfl rfl rfl ?_
          refine sxo_nil ?_
          exact sxq_againP (iadd .i64 x154 1, ()) (hF := (fk_cons 2 rfl (fk_cons 3 rfl fk_nil)))
      · refine sxc_exit ?_
        refine sxq_thenX ?_
        refine sxq_thenX ?_
        refine sxq_blkX ?_
        exact sxq_meetP ((), ())
    · rintro ⟨_, _⟩
      try dsimp only
      refine sxc_seq ?_
      refine sxc_region ?_
      refine sxo_assign rfl rfl rfl ?_
      refine sxo_nil ?_
      refine sxq_next ?_
      refine sxc_ret ?_
      exact sxq_doneP () (res1 rfl rfl)

set_option maxHeartbeats 4000000 in
theorem C_L_succBegun (F : Nat)  (r : Bool) (hm : M_L_succBegun F  = some r) :
    Pure Try.prog 9 [] [] Unit (fun _ => .bool r) (fun _ => []) (fun _ => []) := by
  refine pure_of Try.func9 rfl Try.ntmps9 rfl hm (fun w => ?_)
  refine sxc_env (l' := []) rfl ?_
  refine sxc_seq ?_
  refine sxc_region ?_
  refine sxo_assign rfl rfl rfl ?_
  refine sxo_nil ?_
  refine sxq_next ?_
  refine sxc_seq ?_
  refine sxc_region ?_
  refine sxo_build (cells := [.int .i64 1, .int .i64 3, .int .i64 2]) rfl st24 rfl (by kernel_rfl) rfl ?_
  refine sxo_alloc rfl tf24 rfl (fun g1 => ?_)
  refine sxo_storeB (i := 0) rfl rfl rfl tf24 rfl rfl rfl rfl rfl ?_
  refine sxo_nil ?_
  refine sxq_next ?_
  refine sxc_seq ?_
  refine sxc_region ?_
  refine sxo_slit (vs := [.int .i64 2, .int .i64 3, .int .i64 4, .int .i64 5, .int .i64 9, .int .i64 20]) (ys := ([2, 3, 4, 5, 9, 20] : List Int)) (eI_ok .i64) (by decide) rfl Try.underlying22 tf3 rfl rfl rfl rfl rfl (by decide) (fun a2 c3 => ?_)
  refine sxo_assign rfl rfl rfl ?_
  refine sxo_nil ?_
  refine sxq_next ?_
  refine sxc_seq ?_
  refine sxc_region ?_
  refine sxo_move rfl rfl rfl ?_
  refine sxo_slit (vs := [.int .i64 3, .int .i64 9, .int .i64 11]) (ys := ([3, 9, 11] : List Int)) (eI_ok .i64) (by decide) rfl Try.underlying22 tf3 rfl rfl rfl rfl rfl (by decide) (fun a4 c5 => ?_)
  refine sxo_loadB (i := 0) rfl rfl tf24 rfl rfl (by simp) rfl rfl ?_
  refine sxo_call ent8 rfl rfl rfl (fun x6 e6 => C_succ_Write F 7 ([2, 3, 4, 5, 9, 20] : List Int) a2 c3 ([3, 9, 11] : List Int) a4 c5 1 3 2 x6 e6) (.consR 1 (Ro (eI .i64) 3 1 (.slice a2 ([2, 3, 4, 5, 9, 20] : List Int).length c3) ([2, 3, 4, 5, 9, 20] : List Int)) rfl (.consR 0 (Ro (eI .i64) 3 1 (.slice a4 ([3, 9, 11] : List Int).length c5) ([3, 9, 11] : List Int)) rfl .nil)) (fun x6 e6 => ?_)
  rintro ⟨a7, c8⟩
  refine sxo_move rfl rfl rfl ?_
  refine sxo_extract rfl rfl rfl rfl ?_
  refine sxo_extract rfl rfl rfl rfl ?_
  refine sxo_alloc rfl tf27 rfl (fun g9 => ?_)
  refine sxo_storeB (i := 0) rfl rfl rfl tf27 rfl rfl rfl rfl rfl ?_
  refine sxo_assign rfl rfl rfl ?_
  refine sxo_nil ?_
  refine sxq_next ?_
  refine sxc_seq ?_
  refine sxc_region ?_
  refine sxo_loadB (i := 0) rfl rfl tf27 rfl rfl (by simp) rfl rfl ?_
  refine sxo_slit (vs := [.int .i64 3, .int .i64 9, .int .i64 11]) (ys := ([3, 9, 11] : List Int)) (eI_ok .i64) (by decide) rfl Try.underlying22 tf3 rfl rfl rfl rfl rfl (by decide) (fun a10 c11 => ?_)
  refine sxo_loadB (i := 1) rfl rfl tf24 rfl rfl (by simp) rfl rfl ?_
  refine sxo_call ent15 rfl rfl rfl (fun x12 e12 => C_succ_Read F x6.1 x6.2.1 a7 c8 0 7 ([3, 9, 11] : List Int) a10 c11 1 3 2 x12 e12) (.consR 1 (Ro (eI .u8) 5 1 (.slice a7 x6.2.1.length c8) x6.2.1) rfl (.consR 0 (Ro (eI .i64) 3 1 (.slice a10 ([3, 9, 11] : List Int).length c11) ([3, 9, 11] : List Int)) rfl .nil)) (fun x12 e12 => ?_)
  rintro ⟨a13, c14⟩
  refine sxo_move rfl rfl rfl ?_
  refine sxo_extract rfl rfl rfl rfl ?_
  refine sxo_extract rfl rfl rfl rfl ?_
  refine sxo_extract rfl rfl rfl rfl ?_
  refine sxo_assign rfl rfl rfl ?_
  refine sxo_assign rfl rfl rfl ?_
  refine sxo_assign rfl rfl rfl ?_
  refine sxo_nil ?_
  refine sxq_next ?_
  refine sxc_seq ?_
  refine sxc_region ?_
  refine sxo_build (cells := [.int .i64 0, .int .i64 0, .int .i64 1]) rfl st24 rfl (by kernel_rfl) rfl ?_
  refine sxo_nilrow' Int (eI .i64) 3 1 ?_
  refine sxo_nilrow' Int (eI .i64) 3 1 ?_
  refine sxo_call ent8 rfl rfl rfl (fun x15 e15 => C_succ_Write F 7 ([] : List Int) none 0 ([] : List Int) none 0 0 0 1 x15 e15) (.consR 0 (Ro (eI .i64) 3 1 (.slice none ([] : List Int).length 0) ([] : List Int)) rfl (.consR 0 (Ro (eI .i64) 3 1 (.slice none ([] : List Int).length 0) ([] : List Int)) rfl .nil)) (fun x15 e15 => ?_)
  rintro ⟨a16, c17⟩
  refine sxo_move rfl rfl rfl ?_
  refine sxo_extract rfl rfl rfl rfl ?_
  refine sxo_extract rfl rfl rfl rfl ?_
  refine sxo_alloc rfl tf27 rfl (fun g18 => ?_)
  refine sxo_storeB (i := 0) rfl rfl rfl tf27 rfl rfl rfl rfl rfl ?_
  refine sxo_assign rfl rfl rfl ?_
  refine sxo_nil ?_
  refine sxq_next ?_
  refine sxc_seq ?_
  refine sxc_region ?_
  refine sxo_build (cells := [.int .i64 0, .slice none 0 0]) rfl st27 rfl (by kernel_rfl) rfl ?_
  refine sxo_build (cells := [.int .i64 0, .int .i64 0, .int .i64 1]) rfl st24 rfl (by kernel_rfl) rfl ?_
  refine sxo_nilrow' Int (eI .u8) 5 1 ?_
  refine sxo_nilrow' Int (eI .i64) 3 1 ?_
  refine sxo_call ent15 rfl rfl rfl (fun x19 e19 => C_succ_Read F 0 ([] : List Int) none 0 0 7 ([] : List Int) none 0 0 0 1 x19 e19) (.consR 1 (Ro (eI .u8) 5 1 (.slice none ([] : List Int).length 0) ([] : List Int)) rfl (.consR 0 (Ro (eI .i64) 3 1 (.slice none ([] : List Int).length 0) ([] : List Int)) rfl .nil)) (fun x19 e19 => ?_)
  rintro ⟨a20, c21⟩
  refine sxo_move rfl rfl rfl ?_
  refine sxo_extract rfl rfl rfl rfl ?_
  refine sxo_extract rfl rfl rfl rfl ?_
  refine sxo_extract rfl rfl rfl rfl ?_
  refine sxo_assign rfl rfl rfl ?_
  refine sxo_assign rfl rfl rfl ?_
  refine sxo_assign rfl rfl rfl ?_
  refine sxo_nil ?_
  refine sxq_next ?_
  refine sxc_seq ?_
  refine sxc_region ?_
  refine sxo_move rfl rfl rfl ?_
  refine sxo_eql rfl rfl rfl rfl ?_
  refine sxo_move rfl rfl rfl ?_
  refine sxo_join 4 (fun ((x24, _) : (Bool × Unit)) => [(3, .pointer (some ⟨g9, 0, none⟩)), (6, .int .i64 x12.2.1), (7, .int .i64 x12.2.2), (8, .pointer (some ⟨g18, 0, none⟩)), (9, .int .i64 x15.2.2), (12, .int .i64 x19.2.2), (48, .bool x24)]) (fun ((x24, _) : (Bool × Unit)) => [⟨g18, 27, [.int .i64 x15.1, .slice a16 x15.2.1.length c17]⟩, ⟨g9, 27, [.int .i64 x6.1, .slice a7 x6.2.1.length c8]⟩]) (fun ((x24, _) : (Bool × Unit)) => [Ro (eI .u8) 5 1 (.slice a16 x15.2.1.length c17) x15.2.1, Ro (eI .u8) 5 1 (.slice a7 x6.2.1.length c8) x6.2.1]) (fun ((x24, _) : (Bool × Unit)) => []) (fun ((x24, _) : (Bool × Unit)) => M_L_succBegun_j1 F x6 x12 x15 x19 x24) ?_ ?_
  · refine sxo_take (os := _) rfl ?_
    refine sxo_if (fun h22 => ?_) (fun h22 => ?_)
    · refine sxo_isT (k := 44) rfl h22 ?_
      refine sxo_move rfl rfl rfl ?_
      refine sxo_move rfl rfl rfl ?_
      refine sxo_call ent16 rfl rfl rfl (fun x41 e41 => C_R_SameInts F x12.1 a13 c14 ([2, 3, 4, 5, 9, 20] : List Int) a2 c3 x41 e41) (.consR 6 (Ro (eI .i64) 3 1 (.slice a13 x12.1.length c14) x12.1) rfl (.consR 10 (Ro (eI .i64) 3 1 (.slice a2 ([2, 3, 4, 5, 9, 20] : List Int).length c3) ([2, 3, 4, 5, 9, 20] : List Int)) rfl .nil)) (fun x41 e41 => ?_)
      intro _
      refine sxo_pick (b := true) rfl rfl rfl rfl ?_
      refine sxo_nil ?_
      exact sxq_meetP (x41, ()) (hB := (.cons 0 rfl (.cons 0 rfl .nil))) (hR := (.cons 3 rfl (.cons 7 rfl .nil)))
    · refine sxo_isF (k := 44) rfl h22 ?_
      refine sxo_skip rfl rfl rfl ?_
      refine sxo_skip rfl rfl rfl ?_
      refine sxo_skip rfl rfl rfl ?_
      refine sxo_pick (b := false) rfl rfl rfl rfl ?_
      refine sxo_nil ?_
      exact sxq_meetP (false, ()) (hB := (.cons 0 rfl (.cons 0 rfl .nil))) (hR := (.cons 3 rfl (.cons 7 rfl .nil)))
  · rintro ⟨x24, _⟩
    try dsimp only
    refine sxo_take (os := _) rfl ?_
    refine sxo_move rfl rfl rfl ?_
    refine sxo_case 5 x24 [(7, .int .i64 x12.2.2), (8, .pointer (some ⟨g18, 0, none⟩)), (9, .int .i64 x15.2.2), (12, .int .i64 x19.2.2), (54, .bool (x24 && ((x12.2.1 : Int) == x6.1)))] (fun h25 => ?_) (fun h25 => ?_) ?_
    · refine sxo_take (os := _) rfl ?_
      refine sxo_isT (k := 49) rfl h25 ?_
      refine sxo_move rfl rfl rfl ?_
      refine sxo_fieldAddr rfl rfl ff27_0 rfl ?_
      refine sxo_loadB (i := 1) rfl rfl tf3 rfl rfl (fun _ => rfl) rfl rfl ?_
      refine sxo_eql rfl rfl rfl rfl ?_
      refine sxo_pick (b := true) rfl rfl rfl rfl ?_
      refine sxo_again (d := 54) (v := .bool (x24 && ((x12.2.1 : Int) == x6.1))) rfl (by rw [h25]; simp only [Bool.true_and]) ?_
      refine sxo_nil ?_
      exact sxq_case (lk_cons rfl (lk_cons rfl (lk_cons rfl (lk_cons rfl (lk_cons rfl lk_nil)))))
    · refine sxo_take (os := _) rfl ?_
      refine sxo_isF (k := 49) rfl h25 ?_
      refine sxo_skip rfl rfl rfl ?_
      refine sxo_skip rfl rfl rfl ?_
      refine sxo_skip rfl rfl rfl ?_
      refine sxo_skip rfl rfl rfl ?_
      refine sxo_pick (b := false) rfl rfl rfl rfl ?_
      refine sxo_again (d := 54) (v := .bool (x24 && ((x12.2.1 : Int) == x6.1))) rfl (by rw [h25]; simp only [Bool.false_and]) ?_
      refine sxo_nil ?_
      exact sxq_case (lk_cons rfl (lk_cons rfl (lk_cons rfl (lk_cons rfl (lk_cons rfl lk_nil)))))
    refine sxo_take (os := _) rfl ?_
    refine sxo_move rfl rfl rfl ?_
    refine sxo_case 3 (x24 && ((x12.2.1 : Int) == x6.1)) [(8, .pointer (some ⟨g18, 0, none⟩)), (9, .int .i64 x15.2.2), (12, .int .i64 x19.2.2), (58, .bool ((x24 && ((x12.2.1 : Int) == x6.1)) && ((x12.2.2 : Int) == 0)))] (fun h26 => ?_) (fun h26 => ?_) ?_
    · refine sxo_take (os := _) rfl ?_
      refine sxo_isT (k := 55) rfl h26 ?_
      refine sxo_move rfl rfl rfl ?_
      refine sxo_eql rfl rfl rfl rfl ?_
      refine sxo_pick (b := true) rfl rfl rfl rfl ?_
      refine sxo_again (d := 58) (v := .bool ((x24 && ((x12.2.1 : Int) == x6.1)) && ((x12.2.2 : Int) == 0))) rfl (by rw [h26]; simp only [Bool.true_and]) ?_
      refine sxo_nil ?_
      exact sxq_case (lk_cons rfl (lk_cons rfl (lk_cons rfl (lk_cons rfl lk_nil))))
    · refine sxo_take (os := _) rfl ?_
      refine sxo_isF (k := 55) rfl h26 ?_
      refine sxo_skip rfl rfl rfl ?_
      refine sxo_skip rfl rfl rfl ?_
      refine sxo_pick (b := false) rfl rfl rfl rfl ?_
      refine sxo_again (d := 58) (v := .bool ((x24 && ((x12.2.1 : Int) == x6.1)) && ((x12.2.2 : Int) == 0))) rfl (by rw [h26]; simp only [Bool.false_and]) ?_
      refine sxo_nil ?_
      exact sxq_case (lk_cons rfl (lk_cons rfl (lk_cons rfl (lk_cons rfl lk_nil))))
    refine sxo_take (os := _) rfl ?_
    refine sxo_move rfl rfl rfl ?_
    refine sxo_join 5 (fun ((x31, _) : (Bool × Unit)) => [(9, .int .i64 x15.2.2), (12, .int .i64 x19.2.2), (64, .bool x31)]) (fun ((x31, _) : (Bool × Unit)) => []) (fun ((x31, _) : (Bool × Unit)) => []) (fun ((x31, _) : (Bool × Unit)) => []) (fun ((x31, _) : (Bool × Unit)) => M_L_succBegun_j2 F x15 x19 x31) ?_ ?_
    · refine sxo_take (os := _) rfl ?_
      refine sxo_if (fun h27 => ?_) (fun h27 => ?_)
      · refine sxo_isT (k := 59) rfl h27 ?_
        refine sxo_loadB (i := 0) rfl rfl tf27 rfl rfl (by simp) rfl rfl ?_
        refine sxo_slit (vs := [.int .u8 128]) (ys := ([128] : List Int)) (eI_ok .u8) (by decide) rfl Try.underlying25 tf5 rfl rfl rfl rfl rfl (by decide) (fun a38 c39 => ?_)
        refine sxo_build (cells := [.int .i64 1, .slice a38 ([128] : List Int).length c39]) rfl st27 rfl (by kernel_rfl) rfl ?_
        refine sxo_call ent11 rfl rfl rfl (fun x40 e40 => C_R_SameBits F x15.1 x15.2.1 a16 c17 1 ([128] : List Int) a38 c39 x40 e40) (.consR 1 (Ro (eI .u8) 5 1 (.slice a16 x15.2.1.length c17) x15.2.1) rfl (.consR 0 (Ro (eI .u8) 5 1 (.slice a38 ([128] : List Int).length c39) ([128] : List Int)) rfl .nil)) (fun x40 e40 => ?_)
        intro _
        refine sxo_pick (b := true) rfl rfl rfl rfl ?_
        refine sxo_nil ?_
        exact sxq_meetP (x40, ())
      · refine sxo_isF (k := 59) rfl h27 ?_
        refine sxo_skip rfl rfl rfl ?_
        refine sxo_skip rfl rfl rfl ?_
        refine sxo_skip rfl rfl rfl ?_
        refine sxo_skip rfl rfl rfl ?_
        refine sxo_pick (b := false) rfl rfl rfl rfl ?_
        refine sxo_nil ?_
        exact sxq_meetP (false, ())
    · rintro ⟨x31, _⟩
      try dsimp only
      refine sxo_take (os := _) rfl ?_
      refine sxo_move rfl rfl rfl ?_
      refine sxo_case 3 x31 [(12, .int .i64 x19.2.2), (68, .bool (x31 && ((x15.2.2 : Int) == 0)))] (fun h32 => ?_) (fun h32 => ?_) ?_
      · refine sxo_take (os := _) rfl ?_
        refine sxo_isT (k := 65) rfl h32 ?_
        refine sxo_move rfl rfl rfl ?_
        refine sxo_eql rfl rfl rfl rfl ?_
        refine sxo_pick (b := true) rfl rfl rfl rfl ?_
        refine sxo_again (d := 68) (v := .bool (x31 && ((x15.2.2 : Int) == 0))) rfl (by rw [h32]; simp only [Bool.true_and]) ?_
        refine sxo_nil ?_
        exact sxq_case (lk_cons rfl (lk_cons rfl lk_nil))
      · refine sxo_take (os := _) rfl ?_
        refine sxo_isF (k := 65) rfl h32 ?_
        refine sxo_skip rfl rfl rfl ?_
        refine sxo_skip rfl rfl rfl ?_
        refine sxo_pick (b := false) rfl rfl rfl rfl ?_
        refine sxo_again (d := 68) (v := .bool (x31 && ((x15.2.2 : Int) == 0))) rfl (by rw [h32]; simp only [Bool.false_and]) ?_
        refine sxo_nil ?_
        exact sxq_case (lk_cons rfl (lk_cons rfl lk_nil))
      refine sxo_take (os := _) rfl ?_
      refine sxo_move rfl rfl rfl ?_
      refine sxo_case 3 (x31 && ((x15.2.2 : Int) == 0)) [(72, .bool ((x31 && ((x15.2.2 : Int) == 0)) && ((x19.2.2 : Int) == 1)))] (fun h33 => ?_) (fun h33 => ?_) ?_
      · refine sxo_take (os := _) rfl ?_
        refine sxo_isT (k := 69) rfl h33 ?_
        refine sxo_move rfl rfl rfl ?_
        refine sxo_eql rfl rfl rfl rfl ?_
        refine sxo_pick (b := true) rfl rfl rfl rfl ?_
        refine sxo_again (d := 72) (v := .bool ((x31 && ((x15.2.2 : Int) == 0)) && ((x19.2.2 : Int) == 1))) rfl (by rw [h33]; simp only [Bool.true_and]) ?_
        refine sxo_nil ?_
        exact sxq_case (lk_cons rfl lk_nil)
      · refine sxo_take (os := _) rfl ?_
        refine sxo_isF (k := 69) rfl h33 ?_
        refine sxo_skip rfl rfl rfl ?_
        refine sxo_skip rfl rfl rfl ?_
        refine sxo_pick (b := false) rfl rfl rfl rfl ?_
        refine sxo_again (d := 72) (v := .bool ((x31 && ((x15.2.2 : Int) == 0)) && ((x19.2.2 : Int) == 1))) rfl (by rw [h33]; simp only [Bool.false_and]) ?_
        refine sxo_nil ?_
        exact sxq_case (lk_cons rfl lk_nil)
      refine sxo_take (os := _) rfl ?_
      refine sxo_move rfl rfl rfl ?_
      refine sxo_join 4 (fun ((x36, _) : (Bool × Unit)) => [(77, .bool x36)]) (fun ((x36, _) : (Bool × Unit)) => []) (fun ((x36, _) : (Bool × Unit)) => []) (fun ((x36, _) : (Bool × Unit)) => []) (fun ((x36, _) : (Bool × Unit)) => M_L_succBegun_j3 F x36) ?_ ?_
      · refine sxo_take (os := _) rfl ?_
        refine sxo_if (fun h34 => ?_) (fun h34 => ?_)
        · refine sxo_isT (k := 73) rfl h34 ?_
          refine sxo_build (cells := [.int .i64 0, .int .i64 1, .int .i64 1]) rfl st24 rfl (by kernel_rfl) rfl ?_
          refine sxo_call ent19 rfl rfl rfl (fun x37 e37 => C_succ_Check F 0 1 1 x37 e37) .nil (fun x37 e37 => ?_)
          intro _
          refine sxo_eql rfl rfl rfl rfl ?_
          refine sxo_pick (b := true) rfl rfl rfl rfl ?_
          refine sxo_nil ?_
          exact sxq_meetP (((x37 : Int) == 3), ())
        · refine sxo_isF (k := 73) rfl h34 ?_
          refine sxo_skip rfl rfl rfl ?_
          refine sxo_skip rfl rfl rfl ?_
          refine sxo_skip rfl rfl rfl ?_
          refine sxo_pick (b := false) rfl rfl rfl rfl ?_
          refine sxo_nil ?_
          exact sxq_meetP (false, ())
      · rintro ⟨x36, _⟩
        try dsimp only
        refine sxo_take (os := _) rfl ?_
        refine sxo_assign rfl rfl rfl ?_
        refine sxo_nil ?_
        refine sxq_next ?_
        refine sxc_ret ?_
        exact sxq_doneP () (res1 rfl rfl)

theorem C_L_SuccShift_1 (F : Nat) (x1 : List Int) (a2 : Option Addr) (c3 : Nat) (g4 : Nat) (x5 : Int) (r : List Int) (hm : M_L_SuccShift_1 F x1 x5 = some r) :
    PureM Try.prog 10 [.slice a2 x1.length c3, .pointer (some ⟨g4, 0, none⟩)] [⟨g4, 3, [.int .i64 x5]⟩] [] [Sl (eI .i64) 1 (.slice a2 x1.length c3) x1] (Option Addr × Nat) (fun g => .slice g.1 r.length g.2) (fun _ => [⟨g4, 3, [.int .i64 x5]⟩]) (fun g => [Ro (eI .i64) 3 1 (.slice g.1 r.length g.2) r]) := by
  refine pureM_of Try.func10 rfl Try.ntmps10 rfl hm (fun w => ?_)
  refine sxc_env (l' := [(0, .slice a2 x1.length c3), (1, .pointer (some ⟨g4, 0, none⟩))]) rfl ?_
  refine sxc_seq ?_
  refine sxc_region ?_
  refine sxo_assign rfl rfl rfl ?_
  refine sxo_nil ?_
  refine sxq_next ?_
  refine sxc_seq ?_
  refine sxc_region ?_
  refine sxo_assign rfl rfl rfl ?_
  refine sxo_nil ?_
  refine sxq_next ?_
  refine sxc_join (fun ((x73, (a71, c72)) : (List Int × (Option Addr × Nat))) => [(4, .slice a71 x73.length c72)]) (fun ((x73, (a71, c72)) : (List Int × (Option Addr × Nat))) => [⟨g4, 3, [.int .i64 x5]⟩]) (fun ((x73, (a71, c72)) : (List Int × (Option Addr × Nat))) => [Ro (eI .i64) 3 1 (.slice a71 x73.length c72) x73]) (fun ((x73, (a71, c72)) : (List Int × (Option Addr × Nat))) => []) (fun ((x73, _) : (List Int × (Option Addr × Nat))) => M_L_SuccShift_1_j2 F x73) ?_ ?_
  · refine sxc_seq ?_
    refine sxc_region ?_
    refine sxo_assign rfl rfl rfl ?_
    refine sxo_nil ?_
    refine sxq_next ?_
    refine sxc_block ?_
    refine sxc_nilrow Int (eI .i64) 3 1 ?_
    refine sxc_loopP (fun (((x96, x97), (a94, c95)) : ((List Int × Int) × (Option Addr × Nat))) => [(0, .slice a2 x1.length c3), (1, .pointer (some ⟨g4, 0, none⟩)), (4, .slice a94 x96.length c95), (5, .int .i64 x97)]) (fun (((x96, x97), (a94, c95)) : ((List Int × Int) × (Option Addr × Nat))) => [⟨g4, 3, [.int .i64 x5]⟩]) (fun (((x96, x97), (a94, c95)) : ((List Int × Int) × (Option Addr × Nat))) => [Ro (eI .i64) 3 1 (.slice a94 x96.length c95) x96]) (fun (((x96, x97), (a94, c95)) : ((List Int × Int) × (Option Addr × Nat))) => [Sl (eI .i64) 1 (.slice a2 x1.length c3) x1]) (fun k (s : ((List Int × Int) × (Option Addr × Nat))) => M_L_SuccShift_1_l3 F x1 x5 k s.1) ((([] : List Int), 0), (none, 0)) F ?_ (hB := (.cons 0 rfl .nil)) (hR := (.cons 0 rfl .nil)) (hF := (fk_cons 0 rfl fk_nil))
    intro k118
    rintro ⟨⟨x96, x97⟩, ⟨a94, c95⟩⟩
    try dsimp only
    refine sxc_meq (m' := M_L_SuccShift_1_b3 F x1 x5 (M_L_SuccShift_1_l3 F x1 x5 k118) x96 x97) rfl ?_
    refine sxc_seq ?_
    refine sxc_seq ?_
    refine sxc_region ?_
    refine sxo_move rfl rfl rfl ?_
    refine sxo_move rfl rfl rfl ?_
    refine sxo_len rfl Try.underlying22 rfl rfl ?_
    refine sxo_lss rfl rfl rfl rfl ?_
    refine sxo_nil ?_
    refine sxq_next ?_
    refine sxc_if rfl (fun h138 => ?_) (fun h138 => ?_)
    · refine sxc_skip ?_
      refine sxq_next ?_
      refine sxc_seq ?_
      refine sxc_block ?_
      refine sxc_idxF (j := 0) (eI_ok .i64) (by decide) rfl (fun x129 e129 b130 o131 h132 => ?_)
      replace h132 : a2 = some ⟨b130, o131, none⟩ := h132
      refine sxb_draw mixed [] [⟨g4, 3, [.int .i64 x5]⟩] [CellsAt b130 (o131 + x97.toNat * 1) ((eI .i64) x129), Sl (eI .i64) 1 (.slice a2 x1.length c3) x1] (.cons 0 rfl .nil) (gk_F 0 rfl (gk_F 1 rfl gk_nil)) 10 rfl ?_
      refine sxb_takeP 0 (.slice a94 x96.length c95) rfl rfl rfl (yv_pv rfl) ?_
      refine sxb_takeP 1 (.slice a2 x1.length c3) rfl rfl rfl (yv_pv rfl) ?_
      refine sxb_takeP 2 (.int .i64 x97) rfl rfl rfl (yv_pv rfl) ?_
      refine sxb_again (d := 13) (v := .slice (some ⟨b130, o131, none⟩) x1.length c3) rfl (by rw [h132] <;> rfl) ?_
      refine sxb_takeP 3 (.pointer (some ⟨b130, (o131 + x97.toNat * 1), none⟩)) rfl rfl rfl (yv_idx Try.underlying22 tf3 rfl rfl (idx_get e129).1 (idx_lt e129)) ?_
      refine sxb_again (d := 13) (v := .slice a2 x1.length c3) rfl (by rw [h132] <;> rfl) ?_
      refine sxb_take 4 (.int .i64 x129) [] rfl rfl rfl (yv_loadF (j := 0) rfl tf3 rfl rfl (fun _ => rfl) rfl) ?_
      refine sxb_takeB 5 (.int .i64 x5) rfl rfl rfl (yv_loadB (i := 0) rfl tf3 rfl rfl (fun _ => rfl) rfl) ?_
      refine sxb_takeP 6 (.int .i64 (iadd .i64 x129 x5)) rfl rfl rfl (yv_pv rfl) ?_
      refine sxb_step 7 rfl (by kernel_rfl) rfl ?_
      refine sxo_slit (vs := [.int .i64 (iadd .i64 x129 x5)]) (ys := ([iadd .i64 x129 x5] : List Int)) (eI_ok .i64) (by decide) rfl Try.underlying22 tf3 rfl rfl rfl rfl rfl (by decide) (fun a133 c134 => ?_)
      refine sxo_nil ?_
      refine sxq_anyB (.cons 0 rfl .nil) (gk_F 0 rfl (gk_F 1 rfl gk_nil)) ?_
      refine sxb_step 8 rfl (by kernel_rfl) rfl ?_
      refine sxo_app 1 (eI_ok .i64) rfl Try.underlying22 tf3 rfl rfl rfl rfl rfl (.inl ⟨0, _, rfl⟩) rfl rfl (fun x135 e135 a136 c137 => ?_)
      refine sxo_nil ?_
      refine sxq_anyB (.cons 0 rfl .nil) (gk_F 0 rfl (gk_F 1 rfl gk_nil)) ?_
      refine sxb_takeP 9 (.slice a136 x135.length c137) rfl rfl rfl (yv_pv rfl) ?_
      refine sxb_done (by kernel_rfl) ?_
      refine sxq_np ?_ (by intro c h; cases h)
      refine sxq_blkN ?_
      refine sxq_next ?_
      refine sxc_region ?_
      refine sxo_move rfl rfl rfl ?_
      refine sxo_add rfl rfl rfl rfl ?_
      refine sxo_assign rfl rfl rfl ?_
      refine sxo_nil ?_
      exact sxq_againP ((x135, iadd .i64 x97 1), (a136, c137)) (hB := (.cons 0 rfl .nil)) (hR := (.cons 0 rfl .nil)) (hF := (fk_cons 1 rfl fk_nil))
    · refine sxc_exit ?_
      refine sxq_thenX ?_
      refine sxq_thenX ?_
      refine sxq_blkX ?_
      exact sxq_meetP (x96, (a94, c95)) (hB := (.cons 0 rfl .nil)) (hR := (.cons 0 rfl .nil))
  · rintro ⟨x73, ⟨a71, c72⟩⟩
    try dsimp only
    refine sxc_seq ?_
    refine sxc_region ?_
    refine sxo_move rfl rfl rfl ?_
    refine sxo_assign rfl rfl rfl ?_
    refine sxo_nil ?_
    refine sxq_next ?_
    refine sxc_ret ?_
    exact sxq_doneM (a71, c72) (res1 rfl rfl) (hB := fun h => by subst h; exact (.cons 0 rfl .nil)) (hR := fun h => by subst h; exact (.cons 0 rfl .nil))

set_option maxHeartbeats 4000000 in
theorem C_L_SuccShift (F : Nat) (x1 : Int) (x2 : List Int) (a3 : Option Addr) (c4 : Nat) (x5 : List Int) (a6 : Option Addr) (c7 : Nat) (x8 : Int) (x9 : Int) (x10 : Int) (x11 : Int) (r : Bool) (hm : M_L_SuccShift F x1 x2 x5 x8 x9 x10 x11 = some r) :
    Pure Try.prog 3 [.int .i64 x1, .slice a3 x2.length c4, .slice a6 x5.length c7, .agg #[.int .i64 x8, .int .i64 x9, .int .i64 x10], .int .i64 x11] [Sl (eI .i64) 1 (.slice a3 x2.length c4) x2, Sl (eI .i64) 1 (.slice a6 x5.length c7) x5] Unit (fun _ => .bool r) (fun _ => []) (fun _ => []) := by
  refine pure_of Try.func3 rfl Try.ntmps3 rfl hm (fun w => ?_)
  refine sxc_env (l' := [(0, .int .i64 x1), (1, .slice a3 x2.length c4), (2, .slice a6 x5.length c7), (3, .agg #[.int .i64 x8, .int .i64 x9, .int .i64 x10]), (4, .int .i64 x11)]) rfl ?_
  refine sxc_seq ?_
  refine sxc_region ?_
  refine sxo_box rfl rfl rfl (fun g12 => ?_)
  refine sxo_box rfl rfl rfl (fun g13 => ?_)
  refine sxo_assign rfl rfl rfl ?_
  refine sxo_nil ?_
  refine sxq_next ?_
  refine sxc_seq ?_
  refine sxc_region ?_
  refine sxo_move rfl rfl rfl ?_
  refine sxo_move rfl rfl rfl ?_
  refine sxo_move rfl rfl rfl ?_
  refine sxo_loadB (i := 1) rfl rfl tf24 rfl rfl (by simp) rfl rfl ?_
  refine sxo_call ent8 rfl rfl rfl (fun x14 e14 => C_succ_Write F x1 x2 a3 c4 x5 a6 c7 x8 x9 x10 x14 e14) (.consF 0 rfl (.consF 1 rfl .nil)) (fun x14 e14 => ?_)
  rintro ⟨a15, c16⟩
  refine sxo_move rfl rfl rfl ?_
  refine sxo_extract rfl rfl rfl rfl ?_
  refine sxo_extract rfl rfl rfl rfl ?_
  refine sxo_alloc rfl tf27 rfl (fun g17 => ?_)
  refine sxo_storeB (i := 0) rfl rfl rfl tf27 rfl rfl rfl rfl rfl ?_
  refine sxo_assign rfl rfl rfl ?_
  refine sxo_nil ?_
  refine sxq_next ?_
  refine sxc_seq ?_
  refine sxc_seq ?_
  refine sxc_region ?_
  refine sxo_call ent9 rfl rfl rfl (fun x20 e20 => C_L_succBegun F  x20 e20) .nil (fun x20 e20 => ?_)
  intro _
  refine sxo_not rfl rfl rfl ?_
  refine sxo_nil ?_
  refine sxq_next ?_
  refine sxc_if rfl (fun h110 => ?_) (fun h110 => ?_)
  · refine sxc_seq ?_
    refine sxc_region ?_
    refine sxo_assign rfl rfl rfl ?_
    refine sxo_nil ?_
    refine sxq_next ?_
    refine sxc_ret ?_
    refine sxq_thenR ?_
    exact sxq_doneP () (res1 rfl rfl)
  · refine sxc_skip ?_
    refine sxq_next ?_
    refine sxc_seq ?_
    refine sxc_seq ?_
    refine sxc_region ?_
    refine sxo_move rfl rfl rfl ?_
    refine sxo_neq rfl rfl rfl rfl ?_
    refine sxo_move rfl rfl rfl ?_
    refine sxo_case 3 ((x14.2.2 : Int) != 0) [(0, .int .i64 x1), (1, .slice a3 x2.length c4), (2, .slice a6 x5.length c7), (8, .pointer (some ⟨g12, 0, none⟩)), (9, .pointer (some ⟨g13, 0, none⟩)), (11, .pointer (some ⟨g17, 0, none⟩)), (31, .bool (((x14.2.2 : Int) != 0) || (decide (x11 < (-1048576)))))] (fun h24 => ?_) (fun h24 => ?_) ?_
    · refine sxo_take (os := _) rfl ?_
      refine sxo_isT (k := 28) rfl h24 ?_
      refine sxo_skip rfl rfl rfl ?_
      refine sxo_skip rfl rfl rfl ?_
      refine sxo_pick (b := true) rfl rfl rfl rfl ?_
      refine sxo_again (d := 31) (v := .bool (((x14.2.2 : Int) != 0) || (decide (x11 < (-1048576))))) rfl (by rw [h24]; simp only [Bool.true_or]) ?_
      refine sxo_nil ?_
      exact sxq_case (lk_cons rfl (lk_cons rfl (lk_cons rfl (lk_cons rfl (lk_cons rfl (lk_cons rfl (lk_cons rfl lk_nil)))))))
    · refine sxo_take (os := _) rfl ?_
      refine sxo_isF (k := 28) rfl h24 ?_
      refine sxo_loadB (i := 1) rfl rfl tf3 rfl rfl (fun _ => rfl) rfl rfl ?_
      refine sxo_lss rfl rfl rfl rfl ?_
      refine sxo_pick (b := false) rfl rfl rfl rfl ?_
      refine sxo_again (d := 31) (v := .bool (((x14.2.2 : Int) != 0) || (decide (x11 < (-1048576))))) rfl (by rw [h24]; simp only [Bool.false_or]) ?_
      refine sxo_nil ?_
      exact sxq_case (lk_cons rfl (lk_cons rfl (lk_cons rfl (lk_cons rfl (lk_cons rfl (lk_cons rfl (lk_cons rfl lk_nil)))))))
    refine sxo_take (os := _) rfl ?_
    refine sxo_move rfl rfl rfl ?_
    refine sxo_case 3 (((x14.2.2 : Int) != 0) || (decide (x11 < (-1048576)))) [(0, .int .i64 x1), (1, .slice a3 x2.length c4), (2, .slice a6 x5.length c7), (8, .pointer (some ⟨g12, 0, none⟩)), (9, .pointer (some ⟨g13, 0, none⟩)), (11, .pointer (some ⟨g17, 0, none⟩)), (35, .bool ((((x14.2.2 : Int) != 0) || (decide (x11 < (-1048576)))) || (decide (1048576 < x11))))] (fun h25 => ?_) (fun h25 => ?_) ?_
    · refine sxo_take (os := _) rfl ?_
      refine sxo_isT (k := 32) rfl h25 ?_
      refine sxo_skip rfl rfl rfl ?_
      refine sxo_skip rfl rfl rfl ?_
      refine sxo_pick (b := true) rfl rfl rfl rfl ?_
      refine sxo_again (d := 35) (v := .bool ((((x14.2.2 : Int) != 0) || (decide (x11 < (-1048576)))) || (decide (1048576 < x11)))) rfl (by rw [h25]; simp only [Bool.true_or]) ?_
      refine sxo_nil ?_
      exact sxq_case (lk_cons rfl (lk_cons rfl (lk_cons rfl (lk_cons rfl (lk_cons rfl (lk_cons rfl (lk_cons rfl lk_nil)))))))
    · refine sxo_take (os := _) rfl ?_
      refine sxo_isF (k := 32) rfl h25 ?_
      refine sxo_loadB (i := 1) rfl rfl tf3 rfl rfl (fun _ => rfl) rfl rfl ?_
      refine sxo_gtr rfl rfl rfl rfl ?_
      refine sxo_pick (b := false) rfl rfl rfl rfl ?_
      refine sxo_again (d := 35) (v := .bool ((((x14.2.2 : Int) != 0) || (decide (x11 < (-1048576)))) || (decide (1048576 < x11)))) rfl (by rw [h25]; simp only [Bool.false_or]) ?_
      refine sxo_nil ?_
      exact sxq_case (lk_cons rfl (lk_cons rfl (lk_cons rfl (lk_cons rfl (lk_cons rfl (lk_cons rfl (lk_cons rfl lk_nil)))))))
    refine sxo_take (os := _) rfl ?_
    refine sxo_nil ?_
    refine sxq_next ?_
    refine sxc_if rfl (fun h109 => ?_) (fun h109 => ?_)
    · refine sxc_seq ?_
      refine sxc_region ?_
      refine sxo_assign rfl rfl rfl ?_
      refine sxo_nil ?_
      refine sxq_next ?_
      refine sxc_ret ?_
      refine sxq_thenR ?_
      exact sxq_doneP () (res1 rfl rfl)
    · refine sxc_skip ?_
      refine sxq_next ?_
      refine sxc_join (fun ((x29, (a27, c28)) : (List Int × (Option Addr × Nat))) => [(0, .int .i64 x1), (1, .slice a3 x2.length c4), (2, .slice a27 x29.length c28), (8, .pointer (some ⟨g12, 0, none⟩)), (9, .pointer (some ⟨g13, 0, none⟩)), (11, .pointer (some ⟨g17, 0, none⟩))]) (fun ((x29, (a27, c28)) : (List Int × (Option Addr × Nat))) => [⟨g17, 27, [.int .i64 x14.1, .slice a15 x14.2.1.length c16]⟩, ⟨g13, 3, [.int .i64 x11]⟩, ⟨g12, 24, [.int .i64 x8, .int .i64 x9, .int .i64 x10]⟩]) (fun ((x29, (a27, c28)) : (List Int × (Option Addr × Nat))) => [Ro (eI .u8) 5 1 (.slice a15 x14.2.1.length c16) x14.2.1]) (fun ((x29, (a27, c28)) : (List Int × (Option Addr × Nat))) => [Sl (eI .i64) 1 (.slice a3 x2.length c4) x2, Sl (eI .i64) 1 (.slice a27 x29.length c28) x29]) (fun ((x29, _) : (List Int × (Option Addr × Nat))) => M_L_SuccShift_j1 F x1 x2 x8 x9 x10 x11 x14 x29) ?_ ?_
      · refine sxc_seq ?_
        refine sxc_region ?_
        refine sxo_fieldAddr rfl rfl ff24_0 rfl ?_
        refine sxo_loadB (i := 2) rfl rfl tf3 rfl rfl (fun _ => rfl) rfl rfl ?_
        refine sxo_eql rfl rfl rfl rfl ?_
        refine sxo_nil ?_
        refine sxq_next ?_
        refine sxc_if rfl (fun h108 => ?_) (fun h108 => ?_)
        · refine sxc_region ?_
          refine sxo_assign rfl rfl rfl ?_
          refine sxo_nil ?_
          refine sxq_nilrow Int (eI .i64) 3 1 ?_
          refine sxq_freeze 0 rfl ?_
          exact sxq_meetP (([] : List Int), (none, 0)) (hB := (.cons 0 rfl (.cons 0 rfl (.cons 0 rfl .nil)))) (hR := (.cons 0 rfl .nil)) (hF := (fk_cons 1 rfl (fk_cons 0 rfl fk_nil)))
        · refine sxc_skip ?_
          exact sxq_meetP (x5, (a6, c7)) (hB := (.cons 0 rfl (.cons 0 rfl (.cons 0 rfl .nil)))) (hR := (.cons 0 rfl .nil)) (hF := (fk_cons 0 rfl (fk_cons 1 rfl fk_nil)))
      · rintro ⟨x29, ⟨a27, c28⟩⟩
        try dsimp only
        refine sxc_seq ?_
        refine sxc_region ?_
        refine sxo_makeFunc rfl rfl rfl ?_
        refine sxo_assign rfl rfl rfl ?_
        refine sxo_nil ?_
        refine sxq_next ?_
        refine sxc_join (fun (((x62, x63, x66), (g61, a64, c65)) : ((Int × Int × List Int) × (Nat × Option Addr × Nat))) => [(11, .pointer (some ⟨g17, 0, none⟩)), (14, .pointer (some ⟨g61, 0, none⟩)), (15, .int .i64 x62)]) (fun (((x62, x63, x66), (g61, a64, c65)) : ((Int × Int × List Int) × (Nat × Option Addr × Nat))) => [⟨g17, 27, [.int .i64 x14.1, .slice a15 x14.2.1.length c16]⟩, ⟨g61, 27, [.int .i64 x63, .slice a64 x66.length c65]⟩]) (fun (((x62, x63, x66), (g61, a64, c65)) : ((Int × Int × List Int) × (Nat × Option Addr × Nat))) => [Ro (eI .u8) 5 1 (.slice a15 x14.2.1.length c16) x14.2.1, Ro (eI .u8) 5 1 (.slice a64 x66.length c65) x66]) (fun (((x62, x63, x66), (g61, a64, c65)) : ((Int × Int × List Int) × (Nat × Option Addr × Nat))) => []) (fun (((x62, x63, x66), _) : ((Int × Int × List Int) × (Nat × Option Addr × Nat))) => M_L_SuccShift_j2 F x14 x62 x63 x66) ?_ ?_
        · refine sxb_draw mixed [] [⟨g17, 27, [.int .i64 x14.1, .slice a15 x14.2.1.length c16]⟩, ⟨g13, 3, [.int .i64 x11]⟩, ⟨g12, 24, [.int .i64 x8, .int .i64 x9, .int .i64 x10]⟩] [Sl (eI .i64) 1 (.slice a3 x2.length c4) x2, Sl (eI .i64) 1 (.slice a27 x29.length c28) x29] (.cons 0 rfl (.cons 0 rfl (.cons 0 rfl .nil))) (gk_F 0 rfl (gk_F 1 rfl gk_nil)) 17 rfl ?_
          refine sxb_takeP 0 (.int .i64 x1) rfl rfl rfl (yv_pv rfl) ?_
          refine sxb_takeB 1 (.int .i64 x11) rfl rfl rfl (yv_loadB (i := 1) rfl tf3 rfl rfl (fun _ => rfl) rfl) ?_
          refine sxb_takeP 2 (.int .i64 (iadd .i64 x1 x11)) rfl rfl rfl (yv_pv rfl) ?_
          refine sxb_takeP 3 (.func (.func 10) #[] #[.pointer (some ⟨g13, 0, none⟩)]) rfl rfl rfl (yv_pv rfl) ?_
          refine sxb_takeP 4 (.slice a3 x2.length c4) rfl rfl rfl (yv_pv rfl) ?_
          refine sxb_takeP 6 (.func (.func 10) #[] #[.pointer (some ⟨g13, 0, none⟩)]) rfl rfl rfl (yv_pv rfl) ?_
          refine sxb_takeP 7 (.slice a27 x29.length c28) rfl rfl rfl (yv_pv rfl) ?_
          refine sxb_takeB 9 (.agg #[.int .i64 x8, .int .i64 x9, .int .i64 x10]) rfl rfl rfl (yv_loadB (i := 2) rfl tf24 rfl rfl (by simp) rfl) ?_
          refine sxb_two 5 14 rfl rfl (by kernel_rfl) rfl rfl ?_ ?_
          · refine sxo_callMV ent10 rfl rfl rfl rfl (fun x77 e77 => C_L_SuccShift_1 F x2 a3 c4 g13 x11 x77 e77) (.cons 1 rfl .nil) .nil (.consF 0 rfl .nil) (fun x77 e77 => ?_)
            rintro ⟨a78, c79⟩
            refine sxo_nil ?_
            refine sxq_anyB (.cons 1 rfl (.cons 0 rfl (.cons 0 rfl .nil))) (gk_F 0 rfl (gk_F 1 rfl gk_nil)) ?_
            refine sxb_two 8 14 rfl rfl (by kernel_rfl) rfl rfl ?_ ?_
            · refine sxo_callMV ent10 rfl rfl rfl rfl (fun x80 e80 => C_L_SuccShift_1 F x29 a27 c28 g13 x11 x80 e80) (.cons 0 rfl .nil) .nil (.consF 1 rfl .nil) (fun x80 e80 => ?_)
              rintro ⟨a81, c82⟩
              refine sxo_nil ?_
              refine sxq_anyB (.cons 1 rfl (.cons 0 rfl (.cons 0 rfl .nil))) (gk_F 0 rfl (gk_F 1 rfl gk_nil)) ?_
              refine sxb_two 10 14 rfl rfl (by kernel_rfl) rfl rfl ?_ ?_
              · refine sxo_call ent8 rfl rfl rfl (fun x83 e83 => C_succ_Write F (iadd .i64 x1 x11) x77 a78 c79 x80 a81 c82 x8 x9 x10 x83 e83) (.consR 1 (Ro (eI .i64) 3 1 (.slice a78 x77.length c79) x77) rfl (.consR 0 (Ro (eI .i64) 3 1 (.slice a81 x80.length c82) x80) rfl .nil)) (fun x83 e83 => ?_)
                rintro ⟨a84, c85⟩
                refine sxo_nil ?_
                refine sxq_anyB (.cons 1 rfl (.cons 0 rfl (.cons 0 rfl .nil))) (gk_F 0 rfl (gk_F 1 rfl gk_nil)) ?_
                refine sxb_takeP 11 (.tuple #[.agg #[.int .i64 x83.1, .slice a84 x83.2.1.length c85], .int .i64 x83.2.2]) rfl rfl rfl (yv_pv rfl) ?_
                refine sxb_takeP 12 (.agg #[.int .i64 x83.1, .slice a84 x83.2.1.length c85]) rfl rfl rfl (yv_pv rfl) ?_
                refine sxb_takeP 13 (.int .i64 x83.2.2) rfl rfl rfl (yv_pv rfl) ?_
                refine sxb_step 14 rfl (by kernel_rfl) rfl ?_
                refine sxo_alloc rfl tf27 rfl (fun g86 => ?_)
                refine sxo_nil ?_
                refine sxq_anyB (.cons 2 rfl (.cons 1 rfl (.cons 1 rfl .nil))) (gk_F 0 rfl (gk_F 1 rfl gk_nil)) ?_
                refine sxb_step 15 rfl (by kernel_rfl) rfl ?_
                refine sxo_storeB (i := 0) rfl rfl rfl tf27 rfl rfl rfl rfl rfl ?_
                refine sxo_nil ?_
                refine sxq_anyB (.cons 2 rfl (.cons 1 rfl (.cons 1 rfl .nil))) (gk_F 0 rfl (gk_F 1 rfl gk_nil)) ?_
                refine sxb_takeP 16 (.int .i64 x83.2.2) rfl rfl rfl (yv_pv rfl) ?_
                refine sxb_done (by kernel_rfl) ?_
                refine sxq_np ?_ (by intro c h; cases h)
                exact sxq_meetP ((x83.2.2, x83.1, x83.2.1), (g86, a84, c85)) (hB := (.cons 2 rfl (.cons 0 rfl .nil))) (hR := (.cons 3 rfl (.cons 0 rfl .nil)))
              · refine sxo_meq (m' := ((M_succ_Write F (iadd .i64 x1 x11) x77 x80 x8 x9 x10).bind fun x88 => M_L_SuccShift_j2 F x14 x88.2.2 x88.1 x88.2.1)) (rfl) ?_
                refine sxo_alloc rfl tf27 rfl (fun g87 => ?_)
                refine sxo_nil ?_
                refine sxq_anyB (.cons 2 rfl (.cons 1 rfl (.cons 1 rfl .nil))) (gk_F 0 rfl (gk_F 1 rfl gk_nil)) ?_
                refine sxb_step 10 rfl (by kernel_rfl) rfl ?_
                refine sxo_call ent8 rfl rfl rfl (fun x88 e88 => C_succ_Write F (iadd .i64 x1 x11) x77 a78 c79 x80 a81 c82 x8 x9 x10 x88 e88) (.consR 1 (Ro (eI .i64) 3 1 (.slice a78 x77.length c79) x77) rfl (.consR 0 (Ro (eI .i64) 3 1 (.slice a81 x80.length c82) x80) rfl .nil)) (fun x88 e88 => ?_)
                rintro ⟨a89, c90⟩
                refine sxo_nil ?_
                refine sxq_anyB (.cons 2 rfl (.cons 1 rfl (.cons 1 rfl .nil))) (gk_F 0 rfl (gk_F 1 rfl gk_nil)) ?_
                refine sxb_takeP 11 (.tuple #[.agg #[.int .i64 x88.1, .slice a89 x88.2.1.length c90], .int .i64 x88.2.2]) rfl rfl rfl (yv_pv rfl) ?_
                refine sxb_takeP 12 (.agg #[.int .i64 x88.1, .slice a89 x88.2.1.length c90]) rfl rfl rfl (yv_pv rfl) ?_
                refine sxb_takeP 13 (.int .i64 x88.2.2) rfl rfl rfl (yv_pv rfl) ?_
                refine sxb_step 15 rfl (by kernel_rfl) rfl ?_
                refine sxo_storeB (i := 0) rfl rfl rfl tf27 rfl rfl rfl rfl rfl ?_
                refine sxo_nil ?_
                refine sxq_anyB (.cons 2 rfl (.cons 1 rfl (.cons 1 rfl .nil))) (gk_F 0 rfl (gk_F 1 rfl gk_nil)) ?_
                refine sxb_takeP 16 (.int .i64 x88.2.2) rfl rfl rfl (yv_pv rfl) ?_
                refine sxb_done (by kernel_rfl) ?_
                refine sxq_np ?_ (by intro c h; cases h)
                exact sxq_meetP ((x88.2.2, x88.1, x88.2.1), (g87, a89, c90)) (hB := (.cons 2 rfl (.cons 0 rfl .nil))) (hR := (.cons 3 rfl (.cons 0 rfl .nil)))
            · refine sxo_meq (m' := ((M_L_SuccShift_1 F x29 x11).bind fun x92 => ((M_succ_Write F (iadd .i64 x1 x11) x77 x92 x8 x9 x10).bind fun x95 => M_L_SuccShift_j2 F x14 x95.2.2 x95.1 x95.2.1))) (rfl) ?_
              refine sxo_alloc rfl tf27 rfl (fun g91 => ?_)
              refine sxo_nil ?_
              refine sxq_anyB (.cons 2 rfl (.cons 1 rfl (.cons 1 rfl .nil))) (gk_F 0 rfl (gk_F 1 rfl gk_nil)) ?_
              refine sxb_step 8 rfl (by kernel_rfl) rfl ?_
              refine sxo_callMV ent10 rfl rfl rfl rfl (fun x92 e92 => C_L_SuccShift_1 F x29 a27 c28 g13 x11 x92 e92) (.cons 1 rfl .nil) .nil (.consF 1 rfl .nil) (fun x92 e92 => ?_)
              rintro ⟨a93, c94⟩
              refine sxo_nil ?_
              refine sxq_anyB (.cons 2 rfl (.cons 0 rfl (.cons 1 rfl .nil))) (gk_F 0 rfl (gk_F 1 rfl gk_nil)) ?_
              refine sxb_step 10 rfl (by kernel_rfl) rfl ?_
              refine sxo_call ent8 rfl rfl rfl (fun x95 e95 => C_succ_Write F (iadd .i64 x1 x11) x77 a78 c79 x92 a93 c94 x8 x9 x10 x95 e95) (.consR 1 (Ro (eI .i64) 3 1 (.slice a78 x77.length c79) x77) rfl (.consR 0 (Ro (eI .i64) 3 1 (.slice a93 x92.length c94) x92) rfl .nil)) (fun x95 e95 => ?_)
              rintro ⟨a96, c97⟩
              refine sxo_nil ?_
              refine sxq_anyB (.cons 2 rfl (.cons 0 rfl (.cons 1 rfl .nil))) (gk_F 0 rfl (gk_F 1 rfl gk_nil)) ?_
              refine sxb_takeP 11 (.tuple #[.agg #[.int .i64 x95.1, .slice a96 x95.2.1.length c97], .int .i64 x95.2.2]) rfl rfl rfl (yv_pv rfl) ?_
              refine sxb_takeP 12 (.agg #[.int .i64 x95.1, .slice a96 x95.2.1.length c97]) rfl rfl rfl (yv_pv rfl) ?_
              refine sxb_takeP 13 (.int .i64 x95.2.2) rfl rfl rfl (yv_pv rfl) ?_
              refine sxb_step 15 rfl (by kernel_rfl) rfl ?_
              refine sxo_storeB (i := 1) rfl rfl rfl tf27 rfl rfl rfl rfl rfl ?_
              refine sxo_nil ?_
              refine sxq_anyB (.cons 2 rfl (.cons 0 rfl (.cons 1 rfl .nil))) (gk_F 0 rfl (gk_F 1 rfl gk_nil)) ?_
              refine sxb_takeP 16 (.int .i64 x95.2.2) rfl rfl rfl (yv_pv rfl) ?_
              refine sxb_done (by kernel_rfl) ?_
              refine sxq_np ?_ (by intro c h; cases h)
              exact sxq_meetP ((x95.2.2, x95.1, x95.2.1), (g91, a96, c97)) (hB := (.cons 2 rfl (.cons 1 rfl .nil))) (hR := (.cons 3 rfl (.cons 0 rfl .nil)))
          · refine sxo_meq (m' := ((M_L_SuccShift_1 F x2 x11).bind fun x99 => ((M_L_SuccShift_1 F x29 x11).bind fun x102 => ((M_succ_Write F (iadd .i64 x1 x11) x99 x102 x8 x9 x10).bind fun x105 => M_L_SuccShift_j2 F x14 x105.2.2 x105.1 x105.2.1)))) (rfl) ?_
            refine sxo_alloc rfl tf27 rfl (fun g98 => ?_)
            refine sxo_nil ?_
            refine sxq_anyB (.cons 1 rfl (.cons 1 rfl (.cons 1 rfl .nil))) (gk_F 0 rfl (gk_F 1 rfl gk_nil)) ?_
            refine sxb_step 5 rfl (by kernel_rfl) rfl ?_
            refine sxo_callMV ent10 rfl rfl rfl rfl (fun x99 e99 => C_L_SuccShift_1 F x2 a3 c4 g13 x11 x99 e99) (.cons 2 rfl .nil) .nil (.consF 0 rfl .nil) (fun x99 e99 => ?_)
            rintro ⟨a100, c101⟩
            refine sxo_nil ?_
            refine sxq_anyB (.cons 2 rfl (.cons 0 rfl (.cons 1 rfl .nil))) (gk_F 0 rfl (gk_F 1 rfl gk_nil)) ?_
            refine sxb_step 8 rfl (by kernel_rfl) rfl ?_
            refine sxo_callMV ent10 rfl rfl rfl rfl (fun x102 e102 => C_L_SuccShift_1 F x29 a27 c28 g13 x11 x102 e102) (.cons 0 rfl .nil) .nil (.consF 1 rfl .nil) (fun x102 e102 => ?_)
            rintro ⟨a103, c104⟩
            refine sxo_nil ?_
            refine sxq_anyB (.cons 2 rfl (.cons 0 rfl (.cons 1 rfl .nil))) (gk_F 0 rfl (gk_F 1 rfl gk_nil)) ?_
            refine sxb_step 10 rfl (by kernel_rfl) rfl ?_
            refine sxo_call ent8 rfl rfl rfl (fun x105 e105 => C_succ_Write F (iadd .i64 x1 x11) x99 a100 c101 x102 a103 c104 x8 x9 x10 x105 e105) (.consR 1 (Ro (eI .i64) 3 1 (.slice a100 x99.length c101) x99) rfl (.consR 0 (Ro (eI .i64) 3 1 (.slice a103 x102.length c104) x102) rfl .nil)) (fun x105 e105 => ?_)
            rintro ⟨a106, c107⟩
            refine sxo_nil ?_
            refine sxq_anyB (.cons 2 rfl (.cons 0 rfl (.cons 1 rfl .nil))) (gk_F 0 rfl (gk_F 1 rfl gk_nil)) ?_
            refine sxb_takeP 11 (.tuple #[.agg #[.int .i64 x105.1, .slice a106 x105.2.1.length c107], .int .i64 x105.2.2]) rfl rfl rfl (yv_pv rfl) ?_
            refine sxb_takeP 12 (.agg #[.int .i64 x105.1, .slice a106 x105.2.1.length c107]) rfl rfl rfl (yv_pv rfl) ?_
            refine sxb_takeP 13 (.int .i64 x105.2.2) rfl rfl rfl (yv_pv rfl) ?_
            refine sxb_step 15 rfl (by kernel_rfl) rfl ?_
            refine sxo_storeB (i := 1) rfl rfl rfl tf27 rfl rfl rfl rfl rfl ?_
            refine sxo_nil ?_
            refine sxq_anyB (.cons 2 rfl (.cons 0 rfl (.cons 1 rfl .nil))) (gk_F 0 rfl (gk_F 1 rfl gk_nil)) ?_
            refine sxb_takeP 16 (.int .i64 x105.2.2) rfl rfl rfl (yv_pv rfl) ?_
            refine sxb_done (by kernel_rfl) ?_
            refine sxq_np ?_ (by intro c h; cases h)
            exact sxq_meetP ((x105.2.2, x105.1, x105.2.1), (g98, a106, c107)) (hB := (.cons 2 rfl (.cons 1 rfl .nil))) (hR := (.cons 3 rfl (.cons 0 rfl .nil)))
        · rintro ⟨⟨x62, x63, x66⟩, ⟨g61, a64, c65⟩⟩
          try dsimp only
          refine sxc_seq ?_
          refine sxc_region ?_
          refine sxo_move rfl rfl rfl ?_
          refine sxo_eql rfl rfl rfl rfl ?_
          refine sxo_move rfl rfl rfl ?_
          refine sxo_join 8 (fun ((x72, _) : (Bool × Unit)) => [(64, .bool x72)]) (fun ((x72, _) : (Bool × Unit)) => []) (fun ((x72, _) : (Bool × Unit)) => []) (fun ((x72, _) : (Bool × Unit)) => []) (fun ((x72, _) : (Bool × Unit)) => M_L_SuccShift_j4 F x72) ?_ ?_
          · refine sxo_take (os := _) rfl ?_
            refine sxo_if (fun h67 => ?_) (fun h67 => ?_)
            · refine sxo_isT (k := 56) rfl h67 ?_
              refine sxo_skip rfl rfl rfl ?_
              refine sxo_skip rfl rfl rfl ?_
              refine sxo_skip rfl rfl rfl ?_
              refine sxo_skip rfl rfl rfl ?_
              refine sxo_skip rfl rfl rfl ?_
              refine sxo_skip rfl rfl rfl ?_
              refine sxo_skip rfl rfl rfl ?_
              refine sxo_pick (b := true) rfl rfl rfl rfl ?_
              refine sxo_nil ?_
              exact sxq_meetP (true, ())
            · refine sxo_isF (k := 56) rfl h67 ?_
              refine sxo_move rfl rfl rfl ?_
              refine sxo_eql rfl rfl rfl rfl ?_
              refine sxo_move rfl rfl rfl ?_
              refine sxo_join 4 (fun ((x75, _) : (Bool × Unit)) => [(56, .bool false), (63, .bool x75)]) (fun ((x75, _) : (Bool × Unit)) => []) (fun ((x75, _) : (Bool × Unit)) => []) (fun ((x75, _) : (Bool × Unit)) => []) (fun ((x75, _) : (Bool × Unit)) => M_L_SuccShift_j5 F x75) ?_ ?_
              · refine sxo_take (os := _) rfl ?_
                refine sxo_if (fun h73 => ?_) (fun h73 => ?_)
                · refine sxo_isT (k := 59) rfl h73 ?_
                  refine sxo_loadB (i := 0) rfl rfl tf27 rfl rfl (by simp) rfl rfl ?_
                  refine sxo_loadB (i := 1) rfl rfl tf27 rfl rfl (by simp) rfl rfl ?_
                  refine sxo_call ent11 rfl rfl rfl (fun x76 e76 => C_R_SameBits F x14.1 x14.2.1 a15 c16 x63 x66 a64 c65 x76 e76) (.consR 0 (Ro (eI .u8) 5 1 (.slice a15 x14.2.1.length c16) x14.2.1) rfl (.consR 1 (Ro (eI .u8) 5 1 (.slice a64 x66.length c65) x66) rfl .nil)) (fun x76 e76 => ?_)
                  intro _
                  refine sxo_pick (b := true) rfl rfl rfl rfl ?_
                  refine sxo_nil ?_
                  exact sxq_meetP (x76, ())
                · refine sxo_isF (k := 59) rfl h73 ?_
                  refine sxo_skip rfl rfl rfl ?_
                  refine sxo_skip rfl rfl rfl ?_
                  refine sxo_skip rfl rfl rfl ?_
                  refine sxo_pick (b := false) rfl rfl rfl rfl ?_
                  refine sxo_nil ?_
                  exact sxq_meetP (false, ())
              · rintro ⟨x75, _⟩
                try dsimp only
                refine sxo_take (os := _) rfl ?_
                refine sxo_pick (b := false) rfl rfl rfl rfl ?_
                refine sxo_nil ?_
                exact sxq_meetP (x75, ())
          · rintro ⟨x72, _⟩
            try dsimp only
            refine sxo_take (os := _) rfl ?_
            refine sxo_assign rfl rfl rfl ?_
            refine sxo_nil ?_
            refine sxq_next ?_
            refine sxc_ret ?_
            exact sxq_doneP () (res1 rfl rfl)
end Go.Proofs.Ytidnfcdnhdbolaa
