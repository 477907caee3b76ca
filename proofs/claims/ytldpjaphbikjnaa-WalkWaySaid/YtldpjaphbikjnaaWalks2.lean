/- Each Go function of this seat computes what its model says, part 2. -/
import Derived.Test.YtldpjaphbikjnaaWalks
namespace Go.Proofs.Ytldpjaphbikjnaa
open Go SX
set_option maxHeartbeats 4000000 in
theorem C_L_WalkWay (F : Nat) (x1 : List (List Int)) (a2 : Option Addr) (c3 : (Nat × List (Option Addr × Nat))) (x4 : Int) (x5 : Int) (x6 : List Int) (a7 : Option Addr) (c8 : Nat) (r : Bool) (hm : M_L_WalkWay F x1 x4 x5 x6 = some r) :
    Pure Try.prog 4 [.agg #[.slice a2 x1.length c3.1], .int .i64 x4, .int .i64 x5, .slice a7 x6.length c8] [SlN eN25 iN25 1 (.slice a2 x1.length c3.1) x1 c3.2, Sl (eI .i64) 1 (.slice a7 x6.length c8) x6] Unit (fun _ => .bool r) (fun _ => []) (fun _ => []) := by
  refine pure_of Try.func4 rfl Try.ntmps4 rfl hm (fun w => ?_)
  refine sxc_env (l' := [(0, .agg #[.slice a2 x1.length c3.1]), (1, .int .i64 x4), (2, .int .i64 x5), (3, .slice a7 x6.length c8)]) rfl ?_
  refine sxc_seq ?_
  refine sxc_region ?_
  refine sxo_box rfl rfl rfl (fun g9 => ?_)
  refine sxo_assign rfl rfl rfl ?_
  refine sxo_nil ?_
  refine sxq_next ?_
  refine sxc_seq ?_
  refine sxc_region ?_
  refine sxo_loadB (i := 0) rfl rfl tf24 rfl rfl (by simp) rfl rfl ?_
  refine sxo_move rfl rfl rfl ?_
  refine sxo_call ent10 rfl rfl rfl (fun x10 e10 => C_walk_Far F x1 a2 c3 x4 x10 e10) (.consF 0 rfl .nil) (fun x10 e10 => ?_)
  rintro ⟨a11, c12⟩
  refine sxo_move rfl rfl rfl ?_
  refine sxo_extract rfl rfl rfl rfl ?_
  refine sxo_extract rfl rfl rfl rfl ?_
  refine sxo_assign rfl rfl rfl ?_
  refine sxo_assign rfl rfl rfl ?_
  refine sxo_nil ?_
  refine sxq_next ?_
  refine sxc_seq ?_
  refine sxc_region ?_
  refine sxo_loadB (i := 0) rfl rfl tf24 rfl rfl (by simp) rfl rfl ?_
  refine sxo_move rfl rfl rfl ?_
  refine sxo_move rfl rfl rfl ?_
  refine sxo_call ent11 rfl rfl rfl (fun x13 e13 => C_walk_Way F x1 a2 c3 x4 x5 x13 e13) (.consF 0 rfl .nil) (fun x13 e13 => ?_)
  rintro ⟨a14, c15⟩
  refine sxo_move rfl rfl rfl ?_
  refine sxo_extract rfl rfl rfl rfl ?_
  refine sxo_extract rfl rfl rfl rfl ?_
  refine sxo_assign rfl rfl rfl ?_
  refine sxo_assign rfl rfl rfl ?_
  refine sxo_nil ?_
  refine sxq_next ?_
  refine sxc_seq ?_
  refine sxc_seq ?_
  refine sxc_region ?_
  refine sxo_call ent18 rfl rfl rfl (fun x18 e18 => C_L_walkBegun F  x18 e18) .nil (fun x18 e18 => ?_)
  intro _
  refine sxo_not rfl rfl rfl ?_
  refine sxo_nil ?_
  refine sxq_next ?_
  refine sxc_if rfl (fun h1403 => ?_) (fun h1403 => ?_)
  · refine sxc_seq ?_
    refine sxc_region ?_
    refine sxo_assign rfl rfl rfl ?_
    refine sxo_nil ?_
    refine sxq_next ?_
    refine sxc_ret ?_
    refine sxq_thenR ?_
    exact sxq_doneP () (.inl rfl) (res1 rfl rfl) (fun h => by subst h; rfl) (fun h => by subst h; exact .nil)
  · refine sxc_skip ?_
    refine sxq_next ?_
    refine sxc_seq ?_
    refine sxc_seq ?_
    refine sxc_region ?_
    refine sxo_move rfl rfl rfl ?_
    refine sxo_neq rfl rfl rfl rfl ?_
    refine sxo_move rfl rfl rfl ?_
    refine sxo_case 3 ((x10.2 : Int) != 0) [(1, .int .i64 x4), (2, .int .i64 x5), (3, .slice a7 x6.length c8), (4, .pointer (some ⟨g9, 0, none⟩)), (9, .slice a11 x10.1.length c12), (11, .slice a14 x13.1.length c15), (12, .int .i64 x13.2), (36, .bool (((x10.2 : Int) != 0) || (decide (x5 < 0))))] (fun h23 => ?_) (fun h23 => ?_) ?_
    · refine sxo_take (os := _) rfl ?_
      refine sxo_isT (k := 33) rfl h23 ?_
      refine sxo_skip rfl rfl rfl ?_
      refine sxo_skip rfl rfl rfl ?_
      refine sxo_pick (b := true) rfl rfl rfl rfl ?_
      refine sxo_again (d := 36) (v := .bool (((x10.2 : Int) != 0) || (decide (x5 < 0)))) rfl (by rw [h23]; simp only [Bool.true_or]) ?_
      refine sxo_nil ?_
      exact sxq_case (lk_cons rfl (lk_cons rfl (lk_cons rfl (lk_cons rfl (lk_cons rfl (lk_cons rfl (lk_cons rfl (lk_cons rfl lk_nil))))))))
    · refine sxo_take (os := _) rfl ?_
      refine sxo_isF (k := 33) rfl h23 ?_
      refine sxo_move rfl rfl rfl ?_
      refine sxo_lss rfl rfl rfl rfl ?_
      refine sxo_pick (b := false) rfl rfl rfl rfl ?_
      refine sxo_again (d := 36) (v := .bool (((x10.2 : Int) != 0) || (decide (x5 < 0)))) rfl (by rw [h23]; simp only [Bool.false_or]) ?_
      refine sxo_nil ?_
      exact sxq_case (lk_cons rfl (lk_cons rfl (lk_cons rfl (lk_cons rfl (lk_cons rfl (lk_cons rfl (lk_cons rfl (lk_cons rfl lk_nil))))))))
    refine sxo_take (os := _) rfl ?_
    refine sxo_move rfl rfl rfl ?_
    refine sxo_case 5 (((x10.2 : Int) != 0) || (decide (x5 < 0))) [(1, .int .i64 x4), (2, .int .i64 x5), (3, .slice a7 x6.length c8), (4, .pointer (some ⟨g9, 0, none⟩)), (9, .slice a11 x10.1.length c12), (11, .slice a14 x13.1.length c15), (12, .int .i64 x13.2), (42, .bool ((((x10.2 : Int) != 0) || (decide (x5 < 0))) || (decide ((x10.1.length : Int) ≤ x5))))] (fun h24 => ?_) (fun h24 => ?_) ?_
    · refine sxo_take (os := _) rfl ?_
      refine sxo_isT (k := 37) rfl h24 ?_
      refine sxo_skip rfl rfl rfl ?_
      refine sxo_skip rfl rfl rfl ?_
      refine sxo_skip rfl rfl rfl ?_
      refine sxo_skip rfl rfl rfl ?_
      refine sxo_pick (b := true) rfl rfl rfl rfl ?_
      refine sxo_again (d := 42) (v := .bool ((((x10.2 : Int) != 0) || (decide (x5 < 0))) || (decide ((x10.1.length : Int) ≤ x5)))) rfl (by rw [h24]; simp only [Bool.true_or]) ?_
      refine sxo_nil ?_
      exact sxq_case (lk_cons rfl (lk_cons rfl (lk_cons rfl (lk_cons rfl (lk_cons rfl (lk_cons rfl (lk_cons rfl (lk_cons rfl lk_nil))))))))
    · refine sxo_take (os := _) rfl ?_
      refine sxo_isF (k := 37) rfl h24 ?_
      refine sxo_move rfl rfl rfl ?_
      refine sxo_move rfl rfl rfl ?_
      refine sxo_len rfl Try.underlying25 rfl rfl ?_
      refine sxo_geq rfl rfl rfl rfl ?_
      refine sxo_pick (b := false) rfl rfl rfl rfl ?_
      refine sxo_again (d := 42) (v := .bool ((((x10.2 : Int) != 0) || (decide (x5 < 0))) || (decide ((x10.1.length : Int) ≤ x5)))) rfl (by rw [h24]; simp only [Bool.false_or]) ?_
      refine sxo_nil ?_
      exact sxq_case (lk_cons rfl (lk_cons rfl (lk_cons rfl (lk_cons rfl (lk_cons rfl (lk_cons rfl (lk_cons rfl (lk_cons rfl lk_nil))))))))
    refine sxo_take (os := _) rfl ?_
    refine sxo_nil ?_
    refine sxq_next ?_
    refine sxc_if rfl (fun h1402 => ?_) (fun h1402 => ?_)
    · refine sxc_seq ?_
      refine sxc_region ?_
      refine sxo_move rfl rfl rfl ?_
      refine sxo_neq rfl rfl rfl rfl ?_
      refine sxo_move rfl rfl rfl ?_
      refine sxo_case 4 ((x13.2 : Int) != 0) [(49, .bool (((x13.2 : Int) != 0) && (((x13.1.length : Int) : Int) == 0)))] (fun h25 => ?_) (fun h25 => ?_) ?_
      · refine sxo_take (os := _) rfl ?_
        refine sxo_isT (k := 45) rfl h25 ?_
        refine sxo_move rfl rfl rfl ?_
        refine sxo_len rfl Try.underlying25 rfl rfl ?_
        refine sxo_eql rfl rfl rfl rfl ?_
        refine sxo_pick (b := true) rfl rfl rfl rfl ?_
        refine sxo_again (d := 49) (v := .bool (((x13.2 : Int) != 0) && (((x13.1.length : Int) : Int) == 0))) rfl (by rw [h25]; simp only [Bool.true_and]) ?_
        refine sxo_nil ?_
        exact sxq_case (lk_cons rfl lk_nil)
      · refine sxo_take (os := _) rfl ?_
        refine sxo_isF (k := 45) rfl h25 ?_
        refine sxo_skip rfl rfl rfl ?_
        refine sxo_skip rfl rfl rfl ?_
        refine sxo_skip rfl rfl rfl ?_
        refine sxo_pick (b := false) rfl rfl rfl rfl ?_
        refine sxo_again (d := 49) (v := .bool (((x13.2 : Int) != 0) && (((x13.1.length : Int) : Int) == 0))) rfl (by rw [h25]; simp only [Bool.false_and]) ?_
        refine sxo_nil ?_
        exact sxq_case (lk_cons rfl lk_nil)
      refine sxo_take (os := _) rfl ?_
      refine sxo_assign rfl rfl rfl ?_
      refine sxo_nil ?_
      refine sxq_next ?_
      refine sxc_ret ?_
      refine sxq_thenR ?_
      exact sxq_doneP () (.inl rfl) (res1 rfl rfl) (fun h => by subst h; rfl) (fun h => by subst h; exact .nil)
    · refine sxc_skip ?_
      refine sxq_next ?_
      refine sxc_seq ?_
      refine sxc_seq ?_
      refine sxc_region ?_
      refine sxo_move rfl rfl rfl ?_
      refine sxo_neq rfl rfl rfl rfl ?_
      refine sxo_nil ?_
      refine sxq_next ?_
      refine sxc_if rfl (fun h1401 => ?_) (fun h1401 => ?_)
      · refine sxc_seq ?_
        refine sxc_region ?_
        refine sxo_move rfl rfl rfl ?_
        refine sxo_eql rfl rfl rfl rfl ?_
        refine sxo_move rfl rfl rfl ?_
        refine sxo_join 6 (fun ((x39, _) : (Bool × Unit)) => [(60, .bool x39)]) (fun ((x39, _) : (Bool × Unit)) => []) (fun ((x39, _) : (Bool × Unit)) => []) (fun ((x39, _) : (Bool × Unit)) => []) (fun ((x39, _) : (Bool × Unit)) => M_L_WalkWay_j2 F x39) ?_ ?_
        · refine sxo_take (os := _) rfl ?_
          refine sxo_if (fun h35 => ?_) (fun h35 => ?_)
          · refine sxo_isT (k := 54) rfl h35 ?_
            refine sxo_move rfl rfl rfl ?_
            refine sxo_move rfl rfl rfl ?_
            refine sxo_indexR (j := 1) rfl Try.underlying25 tf3 rfl rfl rfl rfl (fun x40 e40 g41 h42 => ?_)
            refine sxo_loadR (j := 1) (y := x40) (eI_ok .i64) rfl rfl tf3 rfl h42 (idx_get e40).2.2 (fun _ => rfl) rfl rfl ?_
            refine sxo_eql rfl rfl rfl rfl ?_
            refine sxo_pick (b := true) rfl rfl rfl rfl ?_
            refine sxo_nil ?_
            exact sxq_meetP (((x40 : Int) == (-1)), ()) (lk_cons rfl lk_nil) .nil .nil fk_nil
          · refine sxo_isF (k := 54) rfl h35 ?_
            refine sxo_skip rfl rfl rfl ?_
            refine sxo_skip rfl rfl rfl ?_
            refine sxo_skip rfl rfl rfl ?_
            refine sxo_skip rfl rfl rfl ?_
            refine sxo_skip rfl rfl rfl ?_
            refine sxo_pick (b := false) rfl rfl rfl rfl ?_
            refine sxo_nil ?_
            exact sxq_meetP (false, ()) (lk_cons rfl lk_nil) .nil .nil fk_nil
        · rintro ⟨x39, _⟩
          try dsimp only
          refine sxo_take (os := _) rfl ?_
          refine sxo_assign rfl rfl rfl ?_
          refine sxo_nil ?_
          refine sxq_next ?_
          refine sxc_ret ?_
          refine sxq_thenR ?_
          exact sxq_doneP () (.inl rfl) (res1 rfl rfl) (fun h => by subst h; rfl) (fun h => by subst h; exact .nil)
      · refine sxc_skip ?_
        refine sxq_next ?_
        refine sxc_seq ?_
        refine sxc_seq ?_
        refine sxc_region ?_
        refine sxo_move rfl rfl rfl ?_
        refine sxo_len rfl Try.underlying25 rfl rfl ?_
        refine sxo_move rfl rfl rfl ?_
        refine sxo_move rfl rfl rfl ?_
        refine sxo_indexR (j := 1) rfl Try.underlying25 tf3 rfl rfl rfl rfl (fun x63 e63 g64 h65 => ?_)
        refine sxo_loadR (j := 1) (y := x63) (eI_ok .i64) rfl rfl tf3 rfl h65 (idx_get e63).2.2 (fun _ => rfl) rfl rfl ?_
        refine sxo_add rfl rfl rfl rfl ?_
        refine sxo_neq rfl rfl rfl rfl ?_
        refine sxo_move rfl rfl rfl ?_
        refine sxo_join 6 (fun ((x70, _) : (Bool × Unit)) => [(1, .int .i64 x4), (2, .int .i64 x5), (3, .slice a7 x6.length c8), (4, .pointer (some ⟨g9, 0, none⟩)), (11, .slice a14 x13.1.length c15), (75, .bool x70)]) (fun ((x70, _) : (Bool × Unit)) => [⟨g9, 24, [.slice a2 x1.length c3.1]⟩]) (fun ((x70, _) : (Bool × Unit)) => [Ro (eI .i64) 3 1 (.slice a14 x13.1.length c15) x13.1]) (fun ((x70, _) : (Bool × Unit)) => [Sl (eI .i64) 1 (.slice a7 x6.length c8) x6, SlN eN25 iN25 1 (.slice a2 x1.length c3.1) x1 c3.2]) (fun ((x70, _) : (Bool × Unit)) => M_L_WalkWay_j5 F x1 x4 x5 x6 x13 x70) ?_ ?_
        · refine sxo_take (os := _) rfl ?_
          refine sxo_if (fun h66 => ?_) (fun h66 => ?_)
          · refine sxo_isT (k := 69) rfl h66 ?_
            refine sxo_skip rfl rfl rfl ?_
            refine sxo_skip rfl rfl rfl ?_
            refine sxo_skip rfl rfl rfl ?_
            refine sxo_skip rfl rfl rfl ?_
            refine sxo_skip rfl rfl rfl ?_
            refine sxo_pick (b := true) rfl rfl rfl rfl ?_
            refine sxo_nil ?_
            exact sxq_meetP (true, ()) (lk_cons rfl (lk_cons rfl (lk_cons rfl (lk_cons rfl (lk_cons rfl (lk_cons rfl lk_nil)))))) (.cons 0 rfl .nil) (.cons 0 rfl .nil) (fk_cons 1 rfl (fk_cons 0 rfl fk_nil))
          · refine sxo_isF (k := 69) rfl h66 ?_
            refine sxo_move rfl rfl rfl ?_
            refine sxo_indexR (j := 0) rfl Try.underlying25 tf3 rfl rfl rfl rfl (fun x1398 e1398 g1399 h1400 => ?_)
            refine sxo_loadR (j := 0) (y := x1398) (eI_ok .i64) rfl rfl tf3 rfl h1400 (idx_get e1398).2.2 (fun _ => rfl) rfl rfl ?_
            refine sxo_move rfl rfl rfl ?_
            refine sxo_neq rfl rfl rfl rfl ?_
            refine sxo_pick (b := false) rfl rfl rfl rfl ?_
            refine sxo_nil ?_
            exact sxq_meetP (((x1398 : Int) != x4), ()) (lk_cons rfl (lk_cons rfl (lk_cons rfl (lk_cons rfl (lk_cons rfl (lk_cons rfl lk_nil)))))) (.cons 0 rfl .nil) (.cons 0 rfl .nil) (fk_cons 1 rfl (fk_cons 0 rfl fk_nil))
        · rintro ⟨x70, _⟩
          try dsimp only
          refine sxo_take (os := _) rfl ?_
          refine sxo_move rfl rfl rfl ?_
          refine sxo_join 9 (fun ((x75, _) : (Bool × Unit)) => [(1, .int .i64 x4), (2, .int .i64 x5), (3, .slice a7 x6.length c8), (4, .pointer (some ⟨g9, 0, none⟩)), (11, .slice a14 x13.1.length c15), (85, .bool x75)]) (fun ((x75, _) : (Bool × Unit)) => [⟨g9, 24, [.slice a2 x1.length c3.1]⟩]) (fun ((x75, _) : (Bool × Unit)) => [Ro (eI .i64) 3 1 (.slice a14 x13.1.length c15) x13.1]) (fun ((x75, _) : (Bool × Unit)) => [Sl (eI .i64) 1 (.slice a7 x6.length c8) x6, SlN eN25 iN25 1 (.slice a2 x1.length c3.1) x1 c3.2]) (fun ((x75, _) : (Bool × Unit)) => M_L_WalkWay_j6 F x1 x4 x5 x6 x13 x75) ?_ ?_
          · refine sxo_take (os := _) rfl ?_
            refine sxo_if (fun h71 => ?_) (fun h71 => ?_)
            · refine sxo_isT (k := 76) rfl h71 ?_
              refine sxo_skip rfl rfl rfl ?_
              refine sxo_skip rfl rfl rfl ?_
              refine sxo_skip rfl rfl rfl ?_
              refine sxo_skip rfl rfl rfl ?_
              refine sxo_skip rfl rfl rfl ?_
              refine sxo_skip rfl rfl rfl ?_
              refine sxo_skip rfl rfl rfl ?_
              refine sxo_skip rfl rfl rfl ?_
              refine sxo_pick (b := true) rfl rfl rfl rfl ?_
              refine sxo_nil ?_
              exact sxq_meetP (true, ()) (lk_cons rfl (lk_cons rfl (lk_cons rfl (lk_cons rfl (lk_cons rfl (lk_cons rfl lk_nil)))))) (.cons 0 rfl .nil) (.cons 0 rfl .nil) (fk_cons 0 rfl (fk_cons 1 rfl fk_nil))
            · refine sxo_isF (k := 76) rfl h71 ?_
              refine sxo_move rfl rfl rfl ?_
              refine sxo_move rfl rfl rfl ?_
              refine sxo_len rfl Try.underlying25 rfl rfl ?_
              refine sxo_sub rfl rfl rfl rfl ?_
              refine sxo_indexR (j := 0) rfl Try.underlying25 tf3 rfl rfl rfl rfl (fun x1395 e1395 g1396 h1397 => ?_)
              refine sxo_loadR (j := 0) (y := x1395) (eI_ok .i64) rfl rfl tf3 rfl h1397 (idx_get e1395).2.2 (fun _ => rfl) rfl rfl ?_
              refine sxo_move rfl rfl rfl ?_
              refine sxo_neq rfl rfl rfl rfl ?_
              refine sxo_pick (b := false) rfl rfl rfl rfl ?_
              refine sxo_nil ?_
              exact sxq_meetP (((x1395 : Int) != x5), ()) (lk_cons rfl (lk_cons rfl (lk_cons rfl (lk_cons rfl (lk_cons rfl (lk_cons rfl lk_nil)))))) (.cons 0 rfl .nil) (.cons 0 rfl .nil) (fk_cons 0 rfl (fk_cons 1 rfl fk_nil))
          · rintro ⟨x75, _⟩
            try dsimp only
            refine sxo_take (os := _) rfl ?_
            refine sxo_nil ?_
            refine sxq_next ?_
            refine sxc_if rfl (fun h1394 => ?_) (fun h1394 => ?_)
            · refine sxc_seq ?_
              refine sxc_region ?_
              refine sxo_assign rfl rfl rfl ?_
              refine sxo_nil ?_
              refine sxq_next ?_
              refine sxc_ret ?_
              refine sxq_thenR ?_
              exact sxq_doneP () (.inl rfl) (res1 rfl rfl) (fun h => by subst h; rfl) (fun h => by subst h; exact .nil)
            · refine sxc_skip ?_
              refine sxq_next ?_
              refine sxc_join (fun ((_, _) : (Unit × Unit)) => [(1, .int .i64 x4), (2, .int .i64 x5), (3, .slice a7 x6.length c8), (4, .pointer (some ⟨g9, 0, none⟩)), (11, .slice a14 x13.1.length c15)]) (fun ((_, _) : (Unit × Unit)) => [⟨g9, 24, [.slice a2 x1.length c3.1]⟩]) (fun ((_, _) : (Unit × Unit)) => []) (fun ((_, _) : (Unit × Unit)) => [Sl (eI .i64) 1 (.slice a7 x6.length c8) x6, Sl (eI .i64) 1 (.slice a14 x13.1.length c15) x13.1, SlN eN25 iN25 1 (.slice a2 x1.length c3.1) x1 c3.2]) (fun ((_, _) : (Unit × Unit)) => M_L_WalkWay_j14 F x1 x4 x5 x6 x13) ?_ ?_
              · refine sxc_seq ?_
                refine sxc_region ?_
                refine sxo_assign rfl rfl rfl ?_
                refine sxo_nil ?_
                refine sxq_next ?_
                refine sxc_block ?_
                refine sxc_freeze 0 rfl ?_
                refine sxc_loopP (fun ((x1268, _) : (Int × Unit)) => [(1, .int .i64 x4), (2, .int .i64 x5), (3, .slice a7 x6.length c8), (4, .pointer (some ⟨g9, 0, none⟩)), (11, .slice a14 x13.1.length c15), (13, .int .i64 x1268)]) (fun ((x1268, _) : (Int × Unit)) => [⟨g9, 24, [.slice a2 x1.length c3.1]⟩]) (fun ((x1268, _) : (Int × Unit)) => []) (fun ((x1268, _) : (Int × Unit)) => [Sl (eI .i64) 1 (.slice a7 x6.length c8) x6, Sl (eI .i64) 1 (.slice a14 x13.1.length c15) x13.1, SlN eN25 iN25 1 (.slice a2 x1.length c3.1) x1 c3.2]) (fun k (s : (Int × Unit)) => M_L_WalkWay_l41 F x1 x4 x5 x6 x13 k s.1) (1, ()) F (lk_cons rfl (lk_cons rfl (lk_cons rfl (lk_cons rfl (lk_cons rfl (lk_cons rfl lk_nil)))))) (.cons 0 rfl .nil) .nil (fk_cons 1 rfl (fk_cons 0 rfl (fk_cons 2 rfl fk_nil))) (fun _ => rfl) ?_
                intro k1331
                rintro ⟨x1268, _⟩
                try dsimp only
                refine sxc_meq (m' := M_L_WalkWay_b41 F x1 x4 x5 x6 x13 (M_L_WalkWay_l41 F x1 x4 x5 x6 x13 k1331) x1268) rfl ?_
                refine sxc_seq ?_
                refine sxc_seq ?_
                refine sxc_region ?_
                refine sxo_move rfl rfl rfl ?_
                refine sxo_move rfl rfl rfl ?_
                refine sxo_len rfl Try.underlying25 rfl rfl ?_
                refine sxo_lss rfl rfl rfl rfl ?_
                refine sxo_nil ?_
                refine sxq_next ?_
                refine sxc_if rfl (fun h1393 => ?_) (fun h1393 => ?_)
                · refine sxc_skip ?_
                  refine sxq_next ?_
                  refine sxc_seq ?_
                  refine sxc_block ?_
                  refine sxc_join (fun ((x1377, _) : (Bool × Unit)) => [(1, .int .i64 x4), (2, .int .i64 x5), (3, .slice a7 x6.length c8), (4, .pointer (some ⟨g9, 0, none⟩)), (11, .slice a14 x13.1.length c15), (13, .int .i64 x1268), (113, .bool x1377)]) (fun ((x1377, _) : (Bool × Unit)) => [⟨g9, 24, [.slice a2 x1.length c3.1]⟩]) (fun ((x1377, _) : (Bool × Unit)) => []) (fun ((x1377, _) : (Bool × Unit)) => [Sl (eI .i64) 1 (.slice a7 x6.length c8) x6, Sl (eI .i64) 1 (.slice a14 x13.1.length c15) x13.1, SlN eN25 iN25 1 (.slice a2 x1.length c3.1) x1 c3.2]) (fun ((x1377, _) : (Bool × Unit)) => M_L_WalkWay_j43 F (M_L_WalkWay_l41 F x1 x4 x5 x6 x13 k1331) x1268 x1377) ?_ ?_
                  · refine sxc_idxF (j := 1) (eI_ok .i64) (by decide) rfl (fun x1379 e1379 b1380 o1381 h1382 => ?_)
                    replace h1382 : a14 = some ⟨b1380, o1381, none⟩ := h1382
                    refine sxc_idxF (j := 2) (eI_ok .i64) (by decide) rfl (fun x1383 e1383 b1384 o1385 h1386 => ?_)
                    replace h1386 : a14 = some ⟨b1384, o1385, none⟩ := h1386
                    refine sxb_draw mixed [] [⟨g9, 24, [.slice a2 x1.length c3.1]⟩] [CellsAt b1384 (o1385 + x1268.toNat * 1) ((eI .i64) x1383), CellsAt b1380 (o1381 + (isub .i64 x1268 1).toNat * 1) ((eI .i64) x1379), Sl (eI .i64) 1 (.slice a7 x6.length c8) x6, Sl (eI .i64) 1 (.slice a14 x13.1.length c15) x13.1, SlN eN25 iN25 1 (.slice a2 x1.length c3.1) x1 c3.2] (.cons 0 rfl .nil) (gk_F 0 rfl (gk_F 1 rfl (gk_F 2 rfl (gk_F 3 rfl (gk_F 4 rfl gk_nil))))) 22 rfl ?_
                    refine sxb_takeB 0 (.agg #[.slice a2 x1.length c3.1]) rfl rfl rfl rfl (by kernel_rfl) (by kernel_rfl) (by kernel_rfl) (by kernel_rfl) (by kernel_rfl) rfl (show _ = #[true, false, false, false, false, false, false, false, false, false, false, false, false, false, false, false, false, false, false, false, false, false] from rfl) (yv_loadB (i := 0) rfl tf24 rfl rfl (by simp) rfl) ?_
                    refine sxb_takeP 1 (.slice a14 x13.1.length c15) rfl rfl rfl rfl (by kernel_rfl) (by kernel_rfl) (by kernel_rfl) (by kernel_rfl) (by kernel_rfl) rfl (show _ = #[true, true, false, false, false, false, false, false, false, false, false, false, false, false, false, false, false, false, false, false, false, false] from rfl) (yv_pv rfl) ?_
                    refine sxb_takeP 2 (.int .i64 x1268) rfl rfl rfl rfl (by kernel_rfl) (by kernel_rfl) (by kernel_rfl) (by kernel_rfl) (by kernel_rfl) rfl (show _ = #[true, true, true, false, false, false, false, false, false, false, false, false, false, false, false, false, false, false, false, false, false, false] from rfl) (yv_pv rfl) ?_
                    refine sxb_takeP 3 (.int .i64 (isub .i64 x1268 1)) rfl rfl rfl rfl (by kernel_rfl) (by kernel_rfl) (by kernel_rfl) (by kernel_rfl) (by kernel_rfl) rfl (show _ = #[true, true, true, true, false, false, false, false, false, false, false, false, false, false, false, false, false, false, false, false, false, false] from rfl) (yv_pv rfl) ?_
                    refine sxb_again (d := 93) (v := .slice (some ⟨b1380, o1381, none⟩) x13.1.length c15) rfl (by rw [h1382] <;> rfl) ?_
                    refine sxb_takeP 4 (.pointer (some ⟨b1380, (o1381 + (isub .i64 x1268 1).toNat * 1), none⟩)) rfl rfl rfl rfl (by kernel_rfl) (by kernel_rfl) (by kernel_rfl) (by kernel_rfl) (by kernel_rfl) rfl (show _ = #[true, true, true, true, true, false, false, false, false, false, false, false, false, false, false, false, false, false, false, false, false, false] from rfl) (yv_idx Try.underlying25 tf3 rfl rfl (idx_get e1379).1 (idx_lt e1379)) ?_
                    refine sxb_again (d := 93) (v := .slice a14 x13.1.length c15) rfl (by rw [h1382] <;> rfl) ?_
                    refine sxb_take 5 (.int .i64 x1379) [] rfl rfl rfl rfl (by kernel_rfl) (by kernel_rfl) (by kernel_rfl) (by kernel_rfl) (by kernel_rfl) (by kernel_rfl) rfl (show _ = #[true, true, true, true, true, true, false, false, false, false, false, false, false, false, false, false, false, false, false, false, false, false] from rfl) (yv_loadF (j := 1) rfl tf3 rfl rfl (fun _ => rfl) rfl) ?_
                    refine sxb_takeP 6 (.slice a14 x13.1.length c15) rfl rfl rfl rfl (by kernel_rfl) (by kernel_rfl) (by kernel_rfl) (by kernel_rfl) (by kernel_rfl) rfl (show _ = #[true, true, true, true, true, true, true, false, false, false, false, false, false, false, false, false, false, false, false, false, false, false] from rfl) (yv_pv rfl) ?_
                    refine sxb_takeP 7 (.int .i64 x1268) rfl rfl rfl rfl (by kernel_rfl) (by kernel_rfl) (by kernel_rfl) (by kernel_rfl) (by kernel_rfl) rfl (show _ = #[true, true, true, true, true, true, true, true, false, false, false, false, false, false, false, false, false, false, false, false, false, false] from rfl) (yv_pv rfl) ?_
                    refine sxb_again (d := 98) (v := .slice (some ⟨b1384, o1385, none⟩) x13.1.length c15) rfl (by rw [h1386] <;> rfl) ?_
                    refine sxb_takeP 8 (.pointer (some ⟨b1384, (o1385 + x1268.toNat * 1), none⟩)) rfl rfl rfl rfl (by kernel_rfl) (by kernel_rfl) (by kernel_rfl) (by kernel_rfl) (by kernel_rfl) rfl (show _ = #[true, true, true, true, true, true, true, true, true, false, false, false, false, false, false, false, false, false, false, false, false, false] from rfl) (yv_idx Try.underlying25 tf3 rfl rfl (idx_get e1383).1 (idx_lt e1383)) ?_
                    refine sxb_again (d := 98) (v := .slice a14 x13.1.length c15) rfl (by rw [h1386] <;> rfl) ?_
                    refine sxb_take 9 (.int .i64 x1383) [] rfl rfl rfl rfl (by kernel_rfl) (by kernel_rfl) (by kernel_rfl) (by kernel_rfl) (by kernel_rfl) (by kernel_rfl) rfl (show _ = #[true, true, true, true, true, true, true, true, true, true, false, false, false, false, false, false, false, false, false, false, false, false] from rfl) (yv_loadF (j := 0) rfl tf3 rfl rfl (fun _ => rfl) rfl) ?_
                    refine sxb_step 10 rfl (by kernel_rfl) (show _ = #[true, true, true, true, true, true, true, true, true, true, true, false, false, false, false, false, false, false, false, false, false, false] from rfl) ?_
                    refine sxo_call ent20 rfl rfl rfl (fun x1387 e1387 => C_R_Leads F x1 a2 c3 x1379 x1383 x1387 e1387) (.consF 4 rfl .nil) (fun x1387 e1387 => ?_)
                    intro _
                    refine sxo_nil ?_
                    refine sxq_anyB (.cons 0 rfl .nil) (gk_F 0 rfl (gk_F 1 rfl (gk_F 2 rfl (gk_F 3 rfl (gk_F 4 rfl gk_nil))))) ?_
                    refine sxb_takeP 11 (.bool (!x1387)) rfl rfl rfl rfl (by kernel_rfl) (by kernel_rfl) (by kernel_rfl) (by kernel_rfl) (by kernel_rfl) rfl (show _ = #[true, true, true, true, true, true, true, true, true, true, true, true, false, false, false, false, false, false, false, false, false, false] from rfl) (yv_pv rfl) ?_
                    refine sxb_takeP 12 (.bool (!x1387)) rfl rfl rfl rfl (by kernel_rfl) (by kernel_rfl) (by kernel_rfl) (by kernel_rfl) (by kernel_rfl) rfl (show _ = #[true, true, true, true, true, true, true, true, true, true, true, true, true, false, false, false, false, false, false, false, false, false] from rfl) (yv_pv rfl) ?_
                    refine sxb_if (fun h1388 => ?_) (fun h1388 => ?_)
                    · refine sxb_again (d := 104) (v := .bool true) rfl (by rw [h1388] <;> rfl) ?_
                      refine sxb_skip 13 rfl rfl rfl rfl (by kernel_rfl) (by kernel_rfl) (by kernel_rfl) (by kernel_rfl) (by kernel_rfl) rfl (show _ = #[true, true, true, true, true, true, true, true, true, true, true, true, true, true, false, false, false, false, false, false, false, false] from rfl) ?_
                      refine sxb_skip 14 rfl rfl rfl rfl (by kernel_rfl) (by kernel_rfl) (by kernel_rfl) (by kernel_rfl) (by kernel_rfl) rfl (show _ = #[true, true, true, true, true, true, true, true, true, true, true, true, true, true, true, false, false, false, false, false, false, false] from rfl) ?_
                      refine sxb_skip 15 rfl rfl rfl rfl (by kernel_rfl) (by kernel_rfl) (by kernel_rfl) (by kernel_rfl) (by kernel_rfl) rfl (show _ = #[true, true, true, true, true, true, true, true, true, true, true, true, true, true, true, true, false, false, false, false, false, false] from rfl) ?_
                      refine sxb_skip 16 rfl rfl rfl rfl (by kernel_rfl) (by kernel_rfl) (by kernel_rfl) (by kernel_rfl) (by kernel_rfl) rfl (show _ = #[true, true, true, true, true, true, true, true, true, true, true, true, true, true, true, true, true, false, false, false, false, false] from rfl) ?_
                      refine sxb_skip 17 rfl rfl rfl rfl (by kernel_rfl) (by kernel_rfl) (by kernel_rfl) (by kernel_rfl) (by kernel_rfl) rfl (show _ = #[true, true, true, true, true, true, true, true, true, true, true, true, true, true, true, true, true, true, false, false, false, false] from rfl) ?_
                      refine sxb_skip 18 rfl rfl rfl rfl (by kernel_rfl) (by kernel_rfl) (by kernel_rfl) (by kernel_rfl) (by kernel_rfl) rfl (show _ = #[true, true, true, true, true, true, true, true, true, true, true, true, true, true, true, true, true, true, true, false, false, false] from rfl) ?_
                      refine sxb_skip 19 rfl rfl rfl rfl (by kernel_rfl) (by kernel_rfl) (by kernel_rfl) (by kernel_rfl) (by kernel_rfl) rfl (show _ = #[true, true, true, true, true, true, true, true, true, true, true, true, true, true, true, true, true, true, true, true, false, false] from rfl) ?_
                      refine sxb_skip 20 rfl rfl rfl rfl (by kernel_rfl) (by kernel_rfl) (by kernel_rfl) (by kernel_rfl) (by kernel_rfl) rfl (show _ = #[true, true, true, true, true, true, true, true, true, true, true, true, true, true, true, true, true, true, true, true, true, false] from rfl) ?_
                      refine sxb_takeP 21 (.bool true) rfl rfl rfl rfl (by kernel_rfl) (by kernel_rfl) (by kernel_rfl) (by kernel_rfl) (by kernel_rfl) rfl (show _ = #[true, true, true, true, true, true, true, true, true, true, true, true, true, true, true, true, true, true, true, true, true, true] from rfl) (yv_pv rfl) ?_
                      refine sxb_done (by kernel_rfl) ?_
                      refine sxq_np ?_ (by intro c h; cases h)
                      exact sxq_meetP (true, ()) (lk_cons rfl (lk_cons rfl (lk_cons rfl (lk_cons rfl (lk_cons rfl (lk_cons rfl (lk_cons rfl lk_nil))))))) (.cons 0 rfl .nil) .nil (fk_cons 2 rfl (fk_cons 3 rfl (fk_cons 4 rfl fk_nil)))
                    · refine sxb_again (d := 104) (v := .bool false) rfl (by rw [h1388] <;> rfl) ?_
                      refine sxb_takeP 13 (.slice a14 x13.1.length c15) rfl rfl rfl rfl (by kernel_rfl) (by kernel_rfl) (by kernel_rfl) (by kernel_rfl) (by kernel_rfl) rfl (show _ = #[true, true, true, true, true, true, true, true, true, true, true, true, true, true, false, false, false, false, false, false, false, false] from rfl) (yv_pv rfl) ?_
                      refine sxb_takeP 14 (.int .i64 x1268) rfl rfl rfl rfl (by kernel_rfl) (by kernel_rfl) (by kernel_rfl) (by kernel_rfl) (by kernel_rfl) rfl (show _ = #[true, true, true, true, true, true, true, true, true, true, true, true, true, true, true, false, false, false, false, false, false, false] from rfl) (yv_pv rfl) ?_
                      refine sxb_takeP 16 (.slice a14 x13.1.length c15) rfl rfl rfl rfl (by kernel_rfl) (by kernel_rfl) (by kernel_rfl) (by kernel_rfl) (by kernel_rfl) rfl (show _ = #[true, true, true, true, true, true, true, true, true, true, true, true, true, true, true, false, true, false, false, false, false, false] from rfl) (yv_pv rfl) ?_
                      refine sxb_takeP 17 (.int .i64 x1268) rfl rfl rfl rfl (by kernel_rfl) (by kernel_rfl) (by kernel_rfl) (by kernel_rfl) (by kernel_rfl) rfl (show _ = #[true, true, true, true, true, true, true, true, true, true, true, true, true, true, true, false, true, true, false, false, false, false] from rfl) (yv_pv rfl) ?_
                      refine sxb_again (d := 108) (v := .slice (some ⟨b1384, o1385, none⟩) x13.1.length c15) rfl (by rw [h1386] <;> rfl) ?_
                      refine sxb_takeP 18 (.pointer (some ⟨b1384, (o1385 + x1268.toNat * 1), none⟩)) rfl rfl rfl rfl (by kernel_rfl) (by kernel_rfl) (by kernel_rfl) (by kernel_rfl) (by kernel_rfl) rfl (show _ = #[true, true, true, true, true, true, true, true, true, true, true, true, true, true, true, false, true, true, true, false, false, false] from rfl) (yv_idx Try.underlying25 tf3 rfl rfl (idx_get e1383).1 (idx_lt e1383)) ?_
                      refine sxb_again (d := 108) (v := .slice a14 x13.1.length c15) rfl (by rw [h1386] <;> rfl) ?_
                      refine sxb_take 19 (.int .i64 x1383) [] rfl rfl rfl rfl (by kernel_rfl) (by kernel_rfl) (by kernel_rfl) (by kernel_rfl) (by kernel_rfl) (by kernel_rfl) rfl (show _ = #[true, true, true, true, true, true, true, true, true, true, true, true, true, true, true, false, true, true, true, true, false, false] from rfl) (yv_loadF (j := 0) rfl tf3 rfl rfl (fun _ => rfl) rfl) ?_
                      refine sxb_step 15 rfl (by kernel_rfl) (show _ = #[true, true, true, true, true, true, true, true, true, true, true, true, true, true, true, true, true, true, true, true, false, false] from rfl) ?_
                      refine sxo_cut (j := 3) (eI_ok .i64) rfl Try.underlying25 tf3 rfl rfl rfl rfl rfl (fun x1389 e1389 a1390 c1391 => ?_)
                      refine sxo_nil ?_
                      refine sxq_anyB (.cons 0 rfl .nil) (gk_F 1 rfl (gk_F 2 rfl (gk_F 3 rfl (gk_F 4 rfl (gk_F 5 rfl gk_nil))))) ?_
                      refine sxb_step 20 rfl (by kernel_rfl) (show _ = #[true, true, true, true, true, true, true, true, true, true, true, true, true, true, true, true, true, true, true, true, true, false] from rfl) ?_
                      refine sxo_call ent21 rfl rfl rfl (fun x1392 e1392 => C_R_HasInt F x1389 a1390 c1391 x1383 x1392 e1392) (.consF 0 rfl .nil) (fun x1392 e1392 => ?_)
                      intro _
                      refine sxo_nil ?_
                      refine sxq_anyB (.cons 0 rfl .nil) (gk_F 1 rfl (gk_F 2 rfl (gk_F 3 rfl (gk_F 4 rfl (gk_F 5 rfl gk_nil))))) ?_
                      refine sxb_takeP 21 (.bool x1392) rfl rfl rfl rfl (by kernel_rfl) (by kernel_rfl) (by kernel_rfl) (by kernel_rfl) (by kernel_rfl) rfl (show _ = #[true, true, true, true, true, true, true, true, true, true, true, true, true, true, true, true, true, true, true, true, true, true] from rfl) (yv_pv rfl) ?_
                      refine sxb_done (by kernel_rfl) ?_
                      refine sxq_np ?_ (by intro c h; cases h)
                      exact sxq_meetP (x1392, ()) (lk_cons rfl (lk_cons rfl (lk_cons rfl (lk_cons rfl (lk_cons rfl (lk_cons rfl (lk_cons rfl lk_nil))))))) (.cons 0 rfl .nil) .nil (fk_cons 3 rfl (fk_cons 4 rfl (fk_cons 5 rfl fk_nil)))
                  · rintro ⟨x1377, _⟩
                    try dsimp only
                    refine sxc_if rfl (fun h1378 => ?_) (fun h1378 => ?_)
                    · refine sxc_seq ?_
                      refine sxc_region ?_
                      refine sxo_assign rfl rfl rfl ?_
                      refine sxo_nil ?_
                      refine sxq_next ?_
                      refine sxc_ret ?_
                      refine sxq_blkR ?_
                      refine sxq_thenR ?_
                      refine sxq_thenR ?_
                      refine sxq_blkR ?_
                      refine sxq_thenR ?_
                      exact sxq_doneP () (.inl rfl) (res1 rfl rfl) (fun h => by subst h; rfl) (fun h => by subst h; exact .nil)
                    · refine sxc_skip ?_
                      refine sxq_blkN ?_
                      refine sxq_next ?_
                      refine sxc_region ?_
                      refine sxo_move rfl rfl rfl ?_
                      refine sxo_add rfl rfl rfl rfl ?_
                      refine sxo_assign rfl rfl rfl ?_
                      refine sxo_nil ?_
                      exact sxq_againP (iadd .i64 x1268 1, ()) (lk_cons rfl (lk_cons rfl (lk_cons rfl (lk_cons rfl (lk_cons rfl (lk_cons rfl lk_nil)))))) (.cons 0 rfl .nil) .nil (fk_cons 0 rfl (fk_cons 1 rfl (fk_cons 2 rfl fk_nil)))
                · refine sxc_exit ?_
                  refine sxq_thenX ?_
                  refine sxq_thenX ?_
                  refine sxq_blkX ?_
                  exact sxq_meetP ((), ()) (lk_cons rfl (lk_cons rfl (lk_cons rfl (lk_cons rfl (lk_cons rfl lk_nil))))) (.cons 0 rfl .nil) .nil (fk_cons 0 rfl (fk_cons 1 rfl (fk_cons 2 rfl fk_nil)))
              · rintro ⟨_, _⟩
                try dsimp only
                refine sxc_seq ?_
                refine sxc_seq ?_
                refine sxc_region ?_
                refine sxo_move rfl rfl rfl ?_
                refine sxo_len rfl Try.underlying25 rfl rfl ?_
                refine sxo_move rfl rfl rfl ?_
                refine sxo_len rfl Try.underlying25 rfl rfl ?_
                refine sxo_neq rfl rfl rfl rfl ?_
                refine sxo_move rfl rfl rfl ?_
                refine sxo_join 6 (fun ((x285, _) : (Bool × Unit)) => [(2, .int .i64 x5), (3, .slice a7 x6.length c8), (4, .pointer (some ⟨g9, 0, none⟩)), (11, .slice a14 x13.1.length c15), (125, .bool x285)]) (fun ((x285, _) : (Bool × Unit)) => [⟨g9, 24, [.slice a2 x1.length c3.1]⟩]) (fun ((x285, _) : (Bool × Unit)) => []) (fun ((x285, _) : (Bool × Unit)) => [Sl (eI .i64) 1 (.slice a7 x6.length c8) x6, Sl (eI .i64) 1 (.slice a14 x13.1.length c15) x13.1, SlN eN25 iN25 1 (.slice a2 x1.length c3.1) x1 c3.2]) (fun ((x285, _) : (Bool × Unit)) => M_L_WalkWay_j17 F x1 x5 x6 x13 x285) ?_ ?_
                · refine sxo_take (os := _) rfl ?_
                  refine sxo_if (fun h281 => ?_) (fun h281 => ?_)
                  · refine sxo_isT (k := 119) rfl h281 ?_
                    refine sxo_skip rfl rfl rfl ?_
                    refine sxo_skip rfl rfl rfl ?_
                    refine sxo_skip rfl rfl rfl ?_
                    refine sxo_skip rfl rfl rfl ?_
                    refine sxo_skip rfl rfl rfl ?_
                    refine sxo_pick (b := true) rfl rfl rfl rfl ?_
                    refine sxo_nil ?_
                    exact sxq_meetP (true, ()) (lk_cons rfl (lk_cons rfl (lk_cons rfl (lk_cons rfl (lk_cons rfl lk_nil))))) (.cons 0 rfl .nil) .nil (fk_cons 0 rfl (fk_cons 1 rfl (fk_cons 2 rfl fk_nil)))
                  · refine sxo_isF (k := 119) rfl h281 ?_
                    refine sxo_move rfl rfl rfl ?_
                    refine sxo_indexF (j := 0) (eI_ok .i64) (by decide) rfl Try.underlying25 tf3 rfl rfl rfl rfl (fun x1203 e1203 b1204 o1205 => ?_)
                    refine sxo_loadF (j := 0) rfl rfl tf3 rfl rfl (fun _ => rfl) rfl rfl ?_
                    refine sxo_move rfl rfl rfl ?_
                    refine sxo_neq rfl rfl rfl rfl ?_
                    refine sxo_pick (b := false) rfl rfl rfl rfl ?_
                    refine sxo_nil ?_
                    exact sxq_meetP (((x1203 : Int) != x4), ()) (lk_cons rfl (lk_cons rfl (lk_cons rfl (lk_cons rfl (lk_cons rfl lk_nil))))) (.cons 0 rfl .nil) .nil (fk_cons 1 rfl (fk_cons 2 rfl (fk_cons 3 rfl fk_nil)))
                · rintro ⟨x285, _⟩
                  try dsimp only
                  refine sxo_take (os := _) rfl ?_
                  refine sxo_move rfl rfl rfl ?_
                  refine sxo_join 9 (fun ((x290, _) : (Bool × Unit)) => [(3, .slice a7 x6.length c8), (4, .pointer (some ⟨g9, 0, none⟩)), (11, .slice a14 x13.1.length c15), (135, .bool x290)]) (fun ((x290, _) : (Bool × Unit)) => [⟨g9, 24, [.slice a2 x1.length c3.1]⟩]) (fun ((x290, _) : (Bool × Unit)) => []) (fun ((x290, _) : (Bool × Unit)) => [Sl (eI .i64) 1 (.slice a7 x6.length c8) x6, Sl (eI .i64) 1 (.slice a14 x13.1.length c15) x13.1, SlN eN25 iN25 1 (.slice a2 x1.length c3.1) x1 c3.2]) (fun ((x290, _) : (Bool × Unit)) => M_L_WalkWay_j18 F x1 x6 x13 x290) ?_ ?_
                  · refine sxo_take (os := _) rfl ?_
                    refine sxo_if (fun h286 => ?_) (fun h286 => ?_)
                    · refine sxo_isT (k := 126) rfl h286 ?_
                      refine sxo_skip rfl rfl rfl ?_
                      refine sxo_skip rfl rfl rfl ?_
                      refine sxo_skip rfl rfl rfl ?_
                      refine sxo_skip rfl rfl rfl ?_
                      refine sxo_skip rfl rfl rfl ?_
                      refine sxo_skip rfl rfl rfl ?_
                      refine sxo_skip rfl rfl rfl ?_
                      refine sxo_skip rfl rfl rfl ?_
                      refine sxo_pick (b := true) rfl rfl rfl rfl ?_
                      refine sxo_nil ?_
                      exact sxq_meetP (true, ()) (lk_cons rfl (lk_cons rfl (lk_cons rfl (lk_cons rfl lk_nil)))) (.cons 0 rfl .nil) .nil (fk_cons 0 rfl (fk_cons 1 rfl (fk_cons 2 rfl fk_nil)))
                    · refine sxo_isF (k := 126) rfl h286 ?_
                      refine sxo_move rfl rfl rfl ?_
                      refine sxo_move rfl rfl rfl ?_
                      refine sxo_len rfl Try.underlying25 rfl rfl ?_
                      refine sxo_sub rfl rfl rfl rfl ?_
                      refine sxo_indexF (j := 0) (eI_ok .i64) (by decide) rfl Try.underlying25 tf3 rfl rfl rfl rfl (fun x1200 e1200 b1201 o1202 => ?_)
                      refine sxo_loadF (j := 0) rfl rfl tf3 rfl rfl (fun _ => rfl) rfl rfl ?_
                      refine sxo_move rfl rfl rfl ?_
                      refine sxo_neq rfl rfl rfl rfl ?_
                      refine sxo_pick (b := false) rfl rfl rfl rfl ?_
                      refine sxo_nil ?_
                      exact sxq_meetP (((x1200 : Int) != x5), ()) (lk_cons rfl (lk_cons rfl (lk_cons rfl (lk_cons rfl lk_nil)))) (.cons 0 rfl .nil) .nil (fk_cons 1 rfl (fk_cons 2 rfl (fk_cons 3 rfl fk_nil)))
                  · rintro ⟨x290, _⟩
                    try dsimp only
                    refine sxo_take (os := _) rfl ?_
                    refine sxo_nil ?_
                    refine sxq_next ?_
                    refine sxc_if rfl (fun h1199 => ?_) (fun h1199 => ?_)
                    · refine sxc_seq ?_
                      refine sxc_region ?_
                      refine sxo_assign rfl rfl rfl ?_
                      refine sxo_nil ?_
                      refine sxq_next ?_
                      refine sxc_ret ?_
                      refine sxq_thenR ?_
                      exact sxq_doneP () (.inl rfl) (res1 rfl rfl) (fun h => by subst h; rfl) (fun h => by subst h; exact .nil)
                    · refine sxc_skip ?_
                      refine sxq_next ?_
                      refine sxc_join (fun ((_, _) : (Unit × Unit)) => [(3, .slice a7 x6.length c8), (11, .slice a14 x13.1.length c15)]) (fun ((_, _) : (Unit × Unit)) => []) (fun ((_, _) : (Unit × Unit)) => []) (fun ((_, _) : (Unit × Unit)) => [Sl (eI .i64) 1 (.slice a7 x6.length c8) x6, Sl (eI .i64) 1 (.slice a14 x13.1.length c15) x13.1]) (fun ((_, _) : (Unit × Unit)) => M_L_WalkWay_j26 F x6 x13) ?_ ?_
                      · refine sxc_seq ?_
                        refine sxc_region ?_
                        refine sxo_assign rfl rfl rfl ?_
                        refine sxo_nil ?_
                        refine sxq_next ?_
                        refine sxc_block ?_
                        refine sxc_loopP (fun ((x1033, _) : (Int × Unit)) => [(3, .slice a7 x6.length c8), (4, .pointer (some ⟨g9, 0, none⟩)), (11, .slice a14 x13.1.length c15), (14, .int .i64 x1033)]) (fun ((x1033, _) : (Int × Unit)) => [⟨g9, 24, [.slice a2 x1.length c3.1]⟩]) (fun ((x1033, _) : (Int × Unit)) => []) (fun ((x1033, _) : (Int × Unit)) => [Sl (eI .i64) 1 (.slice a7 x6.length c8) x6, Sl (eI .i64) 1 (.slice a14 x13.1.length c15) x13.1, SlN eN25 iN25 1 (.slice a2 x1.length c3.1) x1 c3.2]) (fun k (s : (Int × Unit)) => M_L_WalkWay_l34 F x1 x6 x13 k s.1) (1, ()) F (lk_cons rfl (lk_cons rfl (lk_cons rfl (lk_cons rfl lk_nil)))) (.cons 0 rfl .nil) .nil (fk_cons 0 rfl (fk_cons 1 rfl (fk_cons 2 rfl fk_nil))) (fun _ => rfl) ?_
                        intro k1116
                        rintro ⟨x1033, _⟩
                        try dsimp only
                        refine sxc_meq (m' := M_L_WalkWay_b34 F x1 x6 x13 (M_L_WalkWay_l34 F x1 x6 x13 k1116) x1033) rfl ?_
                        refine sxc_seq ?_
                        refine sxc_seq ?_
                        refine sxc_region ?_
                        refine sxo_move rfl rfl rfl ?_
                        refine sxo_move rfl rfl rfl ?_
                        refine sxo_len rfl Try.underlying25 rfl rfl ?_
                        refine sxo_lss rfl rfl rfl rfl ?_
                        refine sxo_nil ?_
                        refine sxq_next ?_
                        refine sxc_if rfl (fun h1198 => ?_) (fun h1198 => ?_)
                        · refine sxc_skip ?_
                          refine sxq_next ?_
                          refine sxc_seq ?_
                          refine sxc_block ?_
                          refine sxc_join (fun ((x1177, _) : (Bool × Unit)) => [(3, .slice a7 x6.length c8), (4, .pointer (some ⟨g9, 0, none⟩)), (11, .slice a14 x13.1.length c15), (14, .int .i64 x1033), (170, .bool x1177)]) (fun ((x1177, _) : (Bool × Unit)) => [⟨g9, 24, [.slice a2 x1.length c3.1]⟩]) (fun ((x1177, _) : (Bool × Unit)) => []) (fun ((x1177, _) : (Bool × Unit)) => [Sl (eI .i64) 1 (.slice a7 x6.length c8) x6, Sl (eI .i64) 1 (.slice a14 x13.1.length c15) x13.1, SlN eN25 iN25 1 (.slice a2 x1.length c3.1) x1 c3.2]) (fun ((x1177, _) : (Bool × Unit)) => M_L_WalkWay_j36 F (M_L_WalkWay_l34 F x1 x6 x13 k1116) x1033 x1177) ?_ ?_
                          · refine sxc_idxF (j := 0) (eI_ok .i64) (by decide) rfl (fun x1179 e1179 b1180 o1181 h1182 => ?_)
                            replace h1182 : a7 = some ⟨b1180, o1181, none⟩ := h1182
                            refine sxc_split (fun h1183 => ?_) (fun h1183 => ?_)
                            · refine sxb_draw mixed [] [⟨g9, 24, [.slice a2 x1.length c3.1]⟩] [CellsAt b1180 (o1181 + x1033.toNat * 1) ((eI .i64) x1179), Sl (eI .i64) 1 (.slice a7 x6.length c8) x6, Sl (eI .i64) 1 (.slice a14 x13.1.length c15) x13.1, SlN eN25 iN25 1 (.slice a2 x1.length c3.1) x1 c3.2] (.cons 0 rfl .nil) (gk_F 0 rfl (gk_F 1 rfl (gk_F 2 rfl (gk_F 3 rfl gk_nil)))) 29 rfl ?_
                              refine sxb_takeP 0 (.slice a7 x6.length c8) rfl rfl rfl rfl (by kernel_rfl) (by kernel_rfl) (by kernel_rfl) (by kernel_rfl) (by kernel_rfl) rfl (show _ = #[true, false, false, false, false, false, false, false, false, false, false, false, false, false, false, false, false, false, false, false, false, false, false, false, false, false, false, false, false] from rfl) (yv_pv rfl) ?_
                              refine sxb_takeP 1 (.int .i64 x1033) rfl rfl rfl rfl (by kernel_rfl) (by kernel_rfl) (by kernel_rfl) (by kernel_rfl) (by kernel_rfl) rfl (show _ = #[true, true, false, false, false, false, false, false, false, false, false, false, false, false, false, false, false, false, false, false, false, false, false, false, false, false, false, false, false] from rfl) (yv_pv rfl) ?_
                              refine sxb_again (d := 142) (v := .slice (some ⟨b1180, o1181, none⟩) x6.length c8) rfl (by rw [h1182] <;> rfl) ?_
                              refine sxb_takeP 2 (.pointer (some ⟨b1180, (o1181 + x1033.toNat * 1), none⟩)) rfl rfl rfl rfl (by kernel_rfl) (by kernel_rfl) (by kernel_rfl) (by kernel_rfl) (by kernel_rfl) rfl (show _ = #[true, true, true, false, false, false, false, false, false, false, false, false, false, false, false, false, false, false, false, false, false, false, false, false, false, false, false, false, false] from rfl) (yv_idx Try.underlying25 tf3 rfl rfl (idx_get e1179).1 (idx_lt e1179)) ?_
                              refine sxb_again (d := 142) (v := .slice a7 x6.length c8) rfl (by rw [h1182] <;> rfl) ?_
                              refine sxb_take 3 (.int .i64 x1179) [] rfl rfl rfl rfl (by kernel_rfl) (by kernel_rfl) (by kernel_rfl) (by kernel_rfl) (by kernel_rfl) (by kernel_rfl) rfl (show _ = #[true, true, true, true, false, false, false, false, false, false, false, false, false, false, false, false, false, false, false, false, false, false, false, false, false, false, false, false, false] from rfl) (yv_loadF (j := 0) rfl tf3 rfl rfl (fun _ => rfl) rfl) ?_
                              refine sxb_takeP 4 (.bool (decide (x1179 < 0))) rfl rfl rfl rfl (by kernel_rfl) (by kernel_rfl) (by kernel_rfl) (by kernel_rfl) (by kernel_rfl) rfl (show _ = #[true, true, true, true, true, false, false, false, false, false, false, false, false, false, false, false, false, false, false, false, false, false, false, false, false, false, false, false, false] from rfl) (yv_pv rfl) ?_
                              refine sxb_takeP 5 (.bool (decide (x1179 < 0))) rfl rfl rfl rfl (by kernel_rfl) (by kernel_rfl) (by kernel_rfl) (by kernel_rfl) (by kernel_rfl) rfl (show _ = #[true, true, true, true, true, true, false, false, false, false, false, false, false, false, false, false, false, false, false, false, false, false, false, false, false, false, false, false, false] from rfl) (yv_pv rfl) ?_
                              refine sxb_again (d := 147) (v := .bool true) rfl (by rw [h1183] <;> rfl) ?_
                              refine sxb_skip 6 rfl rfl rfl rfl (by kernel_rfl) (by kernel_rfl) (by kernel_rfl) (by kernel_rfl) (by kernel_rfl) rfl (show _ = #[true, true, true, true, true, true, true, false, false, false, false, false, false, false, false, false, false, false, false, false, false, false, false, false, false, false, false, false, false] from rfl) ?_
                              refine sxb_skip 7 rfl rfl rfl rfl (by kernel_rfl) (by kernel_rfl) (by kernel_rfl) (by kernel_rfl) (by kernel_rfl) rfl (show _ = #[true, true, true, true, true, true, true, true, false, false, false, false, false, false, false, false, false, false, false, false, false, false, false, false, false, false, false, false, false] from rfl) ?_
                              refine sxb_skip 8 rfl rfl rfl rfl (by kernel_rfl) (by kernel_rfl) (by kernel_rfl) (by kernel_rfl) (by kernel_rfl) rfl (show _ = #[true, true, true, true, true, true, true, true, true, false, false, false, false, false, false, false, false, false, false, false, false, false, false, false, false, false, false, false, false] from rfl) ?_
                              refine sxb_skip 9 rfl rfl rfl rfl (by kernel_rfl) (by kernel_rfl) (by kernel_rfl) (by kernel_rfl) (by kernel_rfl) rfl (show _ = #[true, true, true, true, true, true, true, true, true, true, false, false, false, false, false, false, false, false, false, false, false, false, false, false, false, false, false, false, false] from rfl) ?_
                              refine sxb_skip 10 rfl rfl rfl rfl (by kernel_rfl) (by kernel_rfl) (by kernel_rfl) (by kernel_rfl) (by kernel_rfl) rfl (show _ = #[true, true, true, true, true, true, true, true, true, true, true, false, false, false, false, false, false, false, false, false, false, false, false, false, false, false, false, false, false] from rfl) ?_
                              refine sxb_skip 11 rfl rfl rfl rfl (by kernel_rfl) (by kernel_rfl) (by kernel_rfl) (by kernel_rfl) (by kernel_rfl) rfl (show _ = #[true, true, true, true, true, true, true, true, true, true, true, true, false, false, false, false, false, false, false, false, false, false, false, false, false, false, false, false, false] from rfl) ?_
                              refine sxb_skip 12 rfl rfl rfl rfl (by kernel_rfl) (by kernel_rfl) (by kernel_rfl) (by kernel_rfl) (by kernel_rfl) rfl (show _ = #[true, true, true, true, true, true, true, true, true, true, true, true, true, false, false, false, false, false, false, false, false, false, false, false, false, false, false, false, false] from rfl) ?_
                              refine sxb_skip 13 rfl rfl rfl rfl (by kernel_rfl) (by kernel_rfl) (by kernel_rfl) (by kernel_rfl) (by kernel_rfl) rfl (show _ = #[true, true, true, true, true, true, true, true, true, true, true, true, true, true, false, false, false, false, false, false, false, false, false, false, false, false, false, false, false] from rfl) ?_
                              refine sxb_takeP 14 (.bool true) rfl rfl rfl rfl (by kernel_rfl) (by kernel_rfl) (by kernel_rfl) (by kernel_rfl) (by kernel_rfl) rfl (show _ = #[true, true, true, true, true, true, true, true, true, true, true, true, true, true, true, false, false, false, false, false, false, false, false, false, false, false, false, false, false] from rfl) (yv_pv rfl) ?_
                              refine sxb_takeP 15 (.bool true) rfl rfl rfl rfl (by kernel_rfl) (by kernel_rfl) (by kernel_rfl) (by kernel_rfl) (by kernel_rfl) rfl (show _ = #[true, true, true, true, true, true, true, true, true, true, true, true, true, true, true, true, false, false, false, false, false, false, false, false, false, false, false, false, false] from rfl) (yv_pv rfl) ?_
                              refine sxb_skip 16 rfl rfl rfl rfl (by kernel_rfl) (by kernel_rfl) (by kernel_rfl) (by kernel_rfl) (by kernel_rfl) rfl (show _ = #[true, true, true, true, true, true, true, true, true, true, true, true, true, true, true, true, true, false, false, false, false, false, false, false, false, false, false, false, false] from rfl) ?_
                              refine sxb_skip 17 rfl rfl rfl rfl (by kernel_rfl) (by kernel_rfl) (by kernel_rfl) (by kernel_rfl) (by kernel_rfl) rfl (show _ = #[true, true, true, true, true, true, true, true, true, true, true, true, true, true, true, true, true, true, false, false, false, false, false, false, false, false, false, false, false] from rfl) ?_
                              refine sxb_skip 18 rfl rfl rfl rfl (by kernel_rfl) (by kernel_rfl) (by kernel_rfl) (by kernel_rfl) (by kernel_rfl) rfl (show _ = #[true, true, true, true, true, true, true, true, true, true, true, true, true, true, true, true, true, true, true, false, false, false, false, false, false, false, false, false, false] from rfl) ?_
                              refine sxb_skip 19 rfl rfl rfl rfl (by kernel_rfl) (by kernel_rfl) (by kernel_rfl) (by kernel_rfl) (by kernel_rfl) rfl (show _ = #[true, true, true, true, true, true, true, true, true, true, true, true, true, true, true, true, true, true, true, true, false, false, false, false, false, false, false, false, false] from rfl) ?_
                              refine sxb_skip 20 rfl rfl rfl rfl (by kernel_rfl) (by kernel_rfl) (by kernel_rfl) (by kernel_rfl) (by kernel_rfl) rfl (show _ = #[true, true, true, true, true, true, true, true, true, true, true, true, true, true, true, true, true, true, true, true, true, false, false, false, false, false, false, false, false] from rfl) ?_
                              refine sxb_skip 21 rfl rfl rfl rfl (by kernel_rfl) (by kernel_rfl) (by kernel_rfl) (by kernel_rfl) (by kernel_rfl) rfl (show _ = #[true, true, true, true, true, true, true, true, true, true, true, true, true, true, true, true, true, true, true, true, true, true, false, false, false, false, false, false, false] from rfl) ?_
                              refine sxb_skip 22 rfl rfl rfl rfl (by kernel_rfl) (by kernel_rfl) (by kernel_rfl) (by kernel_rfl) (by kernel_rfl) rfl (show _ = #[true, true, true, true, true, true, true, true, true, true, true, true, true, true, true, true, true, true, true, true, true, true, true, false, false, false, false, false, false] from rfl) ?_
                              refine sxb_skip 23 rfl rfl rfl rfl (by kernel_rfl) (by kernel_rfl) (by kernel_rfl) (by kernel_rfl) (by kernel_rfl) rfl (show _ = #[true, true, true, true, true, true, true, true, true, true, true, true, true, true, true, true, true, true, true, true, true, true, true, true, false, false, false, false, false] from rfl) ?_
                              refine sxb_skip 24 rfl rfl rfl rfl (by kernel_rfl) (by kernel_rfl) (by kernel_rfl) (by kernel_rfl) (by kernel_rfl) rfl (show _ = #[true, true, true, true, true, true, true, true, true, true, true, true, true, true, true, true, true, true, true, true, true, true, true, true, true, false, false, false, false] from rfl) ?_
                              refine sxb_skip 25 rfl rfl rfl rfl (by kernel_rfl) (by kernel_rfl) (by kernel_rfl) (by kernel_rfl) (by kernel_rfl) rfl (show _ = #[true, true, true, true, true, true, true, true, true, true, true, true, true, true, true, true, true, true, true, true, true, true, true, true, true, true, false, false, false] from rfl) ?_
                              refine sxb_skip 26 rfl rfl rfl rfl (by kernel_rfl) (by kernel_rfl) (by kernel_rfl) (by kernel_rfl) (by kernel_rfl) rfl (show _ = #[true, true, true, true, true, true, true, true, true, true, true, true, true, true, true, true, true, true, true, true, true, true, true, true, true, true, true, false, false] from rfl) ?_
                              refine sxb_skip 27 rfl rfl rfl rfl (by kernel_rfl) (by kernel_rfl) (by kernel_rfl) (by kernel_rfl) (by kernel_rfl) rfl (show _ = #[true, true, true, true, true, true, true, true, true, true, true, true, true, true, true, true, true, true, true, true, true, true, true, true, true, true, true, true, false] from rfl) ?_
                              refine sxb_takeP 28 (.bool true) rfl rfl rfl rfl (by kernel_rfl) (by kernel_rfl) (by kernel_rfl) (by kernel_rfl) (by kernel_rfl) rfl (show _ = #[true, true, true, true, true, true, true, true, true, true, true, true, true, true, true, true, true, true, true, true, true, true, true, true, true, true, true, true, true] from rfl) (yv_pv rfl) ?_
                              refine sxb_done (by kernel_rfl) ?_
                              refine sxq_np ?_ (by intro c h; cases h)
                              exact sxq_meetP (true, ()) (lk_cons rfl (lk_cons rfl (lk_cons rfl (lk_cons rfl (lk_cons rfl lk_nil))))) (.cons 0 rfl .nil) .nil (fk_cons 1 rfl (fk_cons 2 rfl (fk_cons 3 rfl fk_nil)))
                            · refine sxc_idxF (j := 1) (eI_ok .i64) (by decide) rfl (fun x1184 e1184 b1185 o1186 h1187 => ?_)
                              replace h1187 : a7 = some ⟨b1185, o1186, none⟩ := h1187
                              refine sxc_split (fun h1188 => ?_) (fun h1188 => ?_)
                              · refine sxb_draw mixed [] [⟨g9, 24, [.slice a2 x1.length c3.1]⟩] [CellsAt b1185 (o1186 + x1033.toNat * 1) ((eI .i64) x1184), CellsAt b1180 (o1181 + x1033.toNat * 1) ((eI .i64) x1179), Sl (eI .i64) 1 (.slice a7 x6.length c8) x6, Sl (eI .i64) 1 (.slice a14 x13.1.length c15) x13.1, SlN eN25 iN25 1 (.slice a2 x1.length c3.1) x1 c3.2] (.cons 0 rfl .nil) (gk_F 0 rfl (gk_F 1 rfl (gk_F 2 rfl (gk_F 3 rfl (gk_F 4 rfl gk_nil))))) 29 rfl ?_
                                refine sxb_takeP 0 (.slice a7 x6.length c8) rfl rfl rfl rfl (by kernel_rfl) (by kernel_rfl) (by kernel_rfl) (by kernel_rfl) (by kernel_rfl) rfl (show _ = #[true, false, false, false, false, false, false, false, false, false, false, false, false, false, false, false, false, false, false, false, false, false, false, false, false, false, false, false, false] from rfl) (yv_pv rfl) ?_
                                refine sxb_takeP 1 (.int .i64 x1033) rfl rfl rfl rfl (by kernel_rfl) (by kernel_rfl) (by kernel_rfl) (by kernel_rfl) (by kernel_rfl) rfl (show _ = #[true, true, false, false, false, false, false, false, false, false, false, false, false, false, false, false, false, false, false, false, false, false, false, false, false, false, false, false, false] from rfl) (yv_pv rfl) ?_
                                refine sxb_again (d := 142) (v := .slice (some ⟨b1180, o1181, none⟩) x6.length c8) rfl (by rw [h1182] <;> rfl) ?_
                                refine sxb_takeP 2 (.pointer (some ⟨b1180, (o1181 + x1033.toNat * 1), none⟩)) rfl rfl rfl rfl (by kernel_rfl) (by kernel_rfl) (by kernel_rfl) (by kernel_rfl) (by kernel_rfl) rfl (show _ = #[true, true, true, false, false, false, false, false, false, false, false, false, false, false, false, false, false, false, false, false, false, false, false, false, false, false, false, false, false] from rfl) (yv_idx Try.underlying25 tf3 rfl rfl (idx_get e1179).1 (idx_lt e1179)) ?_
                                refine sxb_again (d := 142) (v := .slice a7 x6.length c8) rfl (by rw [h1182] <;> rfl) ?_
                                refine sxb_take 3 (.int .i64 x1179) [] rfl rfl rfl rfl (by kernel_rfl) (by kernel_rfl) (by kernel_rfl) (by kernel_rfl) (by kernel_rfl) (by kernel_rfl) rfl (show _ = #[true, true, true, true, false, false, false, false, false, false, false, false, false, false, false, false, false, false, false, false, false, false, false, false, false, false, false, false, false] from rfl) (yv_loadF (j := 1) rfl tf3 rfl rfl (fun _ => rfl) rfl) ?_
                                refine sxb_takeP 4 (.bool (decide (x1179 < 0))) rfl rfl rfl rfl (by kernel_rfl) (by kernel_rfl) (by kernel_rfl) (by kernel_rfl) (by kernel_rfl) rfl (show _ = #[true, true, true, true, true, false, false, false, false, false, false, false, false, false, false, false, false, false, false, false, false, false, false, false, false, false, false, false, false] from rfl) (yv_pv rfl) ?_
                                refine sxb_takeP 5 (.bool (decide (x1179 < 0))) rfl rfl rfl rfl (by kernel_rfl) (by kernel_rfl) (by kernel_rfl) (by kernel_rfl) (by kernel_rfl) rfl (show _ = #[true, true, true, true, true, true, false, false, false, false, false, false, false, false, false, false, false, false, false, false, false, false, false, false, false, false, false, false, false] from rfl) (yv_pv rfl) ?_
                                refine sxb_again (d := 147) (v := .bool false) rfl (by rw [h1183] <;> rfl) ?_
                                refine sxb_takeP 6 (.slice a7 x6.length c8) rfl rfl rfl rfl (by kernel_rfl) (by kernel_rfl) (by kernel_rfl) (by kernel_rfl) (by kernel_rfl) rfl (show _ = #[true, true, true, true, true, true, true, false, false, false, false, false, false, false, false, false, false, false, false, false, false, false, false, false, false, false, false, false, false] from rfl) (yv_pv rfl) ?_
                                refine sxb_takeP 7 (.int .i64 x1033) rfl rfl rfl rfl (by kernel_rfl) (by kernel_rfl) (by kernel_rfl) (by kernel_rfl) (by kernel_rfl) rfl (show _ = #[true, true, true, true, true, true, true, true, false, false, false, false, false, false, false, false, false, false, false, false, false, false, false, false, false, false, false, false, false] from rfl) (yv_pv rfl) ?_
                                refine sxb_again (d := 148) (v := .slice (some ⟨b1185, o1186, none⟩) x6.length c8) rfl (by rw [h1187] <;> rfl) ?_
                                refine sxb_takeP 8 (.pointer (some ⟨b1185, (o1186 + x1033.toNat * 1), none⟩)) rfl rfl rfl rfl (by kernel_rfl) (by kernel_rfl) (by kernel_rfl) (by kernel_rfl) (by kernel_rfl) rfl (show _ = #[true, true, true, true, true, true, true, true, true, false, false, false, false, false, false, false, false, false, false, false, false, false, false, false, false, false, false, false, false] from rfl) (yv_idx Try.underlying25 tf3 rfl rfl (idx_get e1184).1 (idx_lt e1184)) ?_
                                refine sxb_again (d := 148) (v := .slice a7 x6.length c8) rfl (by rw [h1187] <;> rfl) ?_
                                refine sxb_take 9 (.int .i64 x1184) [] rfl rfl rfl rfl (by kernel_rfl) (by kernel_rfl) (by kernel_rfl) (by kernel_rfl) (by kernel_rfl) (by kernel_rfl) rfl (show _ = #[true, true, true, true, true, true, true, true, true, true, false, false, false, false, false, false, false, false, false, false, false, false, false, false, false, false, false, false, false] from rfl) (yv_loadF (j := 0) rfl tf3 rfl rfl (fun _ => rfl) rfl) ?_
                                refine sxb_takeP 10 (.pointer (some ⟨g9, 0, none⟩)) rfl rfl rfl rfl (by kernel_rfl) (by kernel_rfl) (by kernel_rfl) (by kernel_rfl) (by kernel_rfl) rfl (show _ = #[true, true, true, true, true, true, true, true, true, true, true, false, false, false, false, false, false, false, false, false, false, false, false, false, false, false, false, false, false] from rfl) (yv_fieldAddr rfl ff24_0) ?_
                                refine sxb_takeB 11 (.slice a2 x1.length c3.1) rfl rfl rfl rfl (by kernel_rfl) (by kernel_rfl) (by kernel_rfl) (by kernel_rfl) (by kernel_rfl) rfl (show _ = #[true, true, true, true, true, true, true, true, true, true, true, true, false, false, false, false, false, false, false, false, false, false, false, false, false, false, false, false, false] from rfl) (yv_loadB (i := 0) rfl tf22 rfl rfl (fun _ => rfl) rfl) ?_
                                refine sxb_takeP 12 (.int .i64 (x1.length : Int)) rfl rfl rfl rfl (by kernel_rfl) (by kernel_rfl) (by kernel_rfl) (by kernel_rfl) (by kernel_rfl) rfl (show _ = #[true, true, true, true, true, true, true, true, true, true, true, true, true, false, false, false, false, false, false, false, false, false, false, false, false, false, false, false, false] from rfl) (yv_len Try.underlying22 rfl) ?_
                                refine sxb_takeP 13 (.bool (decide ((x1.length : Int) ≤ x1184))) rfl rfl rfl rfl (by kernel_rfl) (by kernel_rfl) (by kernel_rfl) (by kernel_rfl) (by kernel_rfl) rfl (show _ = #[true, true, true, true, true, true, true, true, true, true, true, true, true, true, false, false, false, false, false, false, false, false, false, false, false, false, false, false, false] from rfl) (yv_pv rfl) ?_
                                refine sxb_takeP 14 (.bool (decide ((x1.length : Int) ≤ x1184))) rfl rfl rfl rfl (by kernel_rfl) (by kernel_rfl) (by kernel_rfl) (by kernel_rfl) (by kernel_rfl) rfl (show _ = #[true, true, true, true, true, true, true, true, true, true, true, true, true, true, true, false, false, false, false, false, false, false, false, false, false, false, false, false, false] from rfl) (yv_pv rfl) ?_
                                refine sxb_takeP 15 (.bool (decide ((x1.length : Int) ≤ x1184))) rfl rfl rfl rfl (by kernel_rfl) (by kernel_rfl) (by kernel_rfl) (by kernel_rfl) (by kernel_rfl) rfl (show _ = #[true, true, true, true, true, true, true, true, true, true, true, true, true, true, true, true, false, false, false, false, false, false, false, false, false, false, false, false, false] from rfl) (yv_pv rfl) ?_
                                refine sxb_again (d := 157) (v := .bool true) rfl (by rw [h1188] <;> rfl) ?_
                                refine sxb_skip 16 rfl rfl rfl rfl (by kernel_rfl) (by kernel_rfl) (by kernel_rfl) (by kernel_rfl) (by kernel_rfl) rfl (show _ = #[true, true, true, true, true, true, true, true, true, true, true, true, true, true, true, true, true, false, false, false, false, false, false, false, false, false, false, false, false] from rfl) ?_
                                refine sxb_skip 17 rfl rfl rfl rfl (by kernel_rfl) (by kernel_rfl) (by kernel_rfl) (by kernel_rfl) (by kernel_rfl) rfl (show _ = #[true, true, true, true, true, true, true, true, true, true, true, true, true, true, true, true, true, true, false, false, false, false, false, false, false, false, false, false, false] from rfl) ?_
                                refine sxb_skip 18 rfl rfl rfl rfl (by kernel_rfl) (by kernel_rfl) (by kernel_rfl) (by kernel_rfl) (by kernel_rfl) rfl (show _ = #[true, true, true, true, true, true, true, true, true, true, true, true, true, true, true, true, true, true, true, false, false, false, false, false, false, false, false, false, false] from rfl) ?_
                                refine sxb_skip 19 rfl rfl rfl rfl (by kernel_rfl) (by kernel_rfl) (by kernel_rfl) (by kernel_rfl) (by kernel_rfl) rfl (show _ = #[true, true, true, true, true, true, true, true, true, true, true, true, true, true, true, true, true, true, true, true, false, false, false, false, false, false, false, false, false] from rfl) ?_
                                refine sxb_skip 20 rfl rfl rfl rfl (by kernel_rfl) (by kernel_rfl) (by kernel_rfl) (by kernel_rfl) (by kernel_rfl) rfl (show _ = #[true, true, true, true, true, true, true, true, true, true, true, true, true, true, true, true, true, true, true, true, true, false, false, false, false, false, false, false, false] from rfl) ?_
                                refine sxb_skip 21 rfl rfl rfl rfl (by kernel_rfl) (by kernel_rfl) (by kernel_rfl) (by kernel_rfl) (by kernel_rfl) rfl (show _ = #[true, true, true, true, true, true, true, true, true, true, true, true, true, true, true, true, true, true, true, true, true, true, false, false, false, false, false, false, false] from rfl) ?_
                                refine sxb_skip 22 rfl rfl rfl rfl (by kernel_rfl) (by kernel_rfl) (by kernel_rfl) (by kernel_rfl) (by kernel_rfl) rfl (show _ = #[true, true, true, true, true, true, true, true, true, true, true, true, true, true, true, true, true, true, true, true, true, true, true, false, false, false, false, false, false] from rfl) ?_
                                refine sxb_skip 23 rfl rfl rfl rfl (by kernel_rfl) (by kernel_rfl) (by kernel_rfl) (by kernel_rfl) (by kernel_rfl) rfl (show _ = #[true, true, true, true, true, true, true, true, true, true, true, true, true, true, true, true, true, true, true, true, true, true, true, true, false, false, false, false, false] from rfl) ?_
                                refine sxb_skip 24 rfl rfl rfl rfl (by kernel_rfl) (by kernel_rfl) (by kernel_rfl) (by kernel_rfl) (by kernel_rfl) rfl (show _ = #[true, true, true, true, true, true, true, true, true, true, true, true, true, true, true, true, true, true, true, true, true, true, true, true, true, false, false, false, false] from rfl) ?_
                                refine sxb_skip 25 rfl rfl rfl rfl (by kernel_rfl) (by kernel_rfl) (by kernel_rfl) (by kernel_rfl) (by kernel_rfl) rfl (show _ = #[true, true, true, true, true, true, true, true, true, true, true, true, true, true, true, true, true, true, true, true, true, true, true, true, true, true, false, false, false] from rfl) ?_
                                refine sxb_skip 26 rfl rfl rfl rfl (by kernel_rfl) (by kernel_rfl) (by kernel_rfl) (by kernel_rfl) (by kernel_rfl) rfl (show _ = #[true, true, true, true, true, true, true, true, true, true, true, true, true, true, true, true, true, true, true, true, true, true, true, true, true, true, true, false, false] from rfl) ?_
                                refine sxb_skip 27 rfl rfl rfl rfl (by kernel_rfl) (by kernel_rfl) (by kernel_rfl) (by kernel_rfl) (by kernel_rfl) rfl (show _ = #[true, true, true, true, true, true, true, true, true, true, true, true, true, true, true, true, true, true, true, true, true, true, true, true, true, true, true, true, false] from rfl) ?_
                                refine sxb_takeP 28 (.bool true) rfl rfl rfl rfl (by kernel_rfl) (by kernel_rfl) (by kernel_rfl) (by kernel_rfl) (by kernel_rfl) rfl (show _ = #[true, true, true, true, true, true, true, true, true, true, true, true, true, true, true, true, true, true, true, true, true, true, true, true, true, true, true, true, true] from rfl) (yv_pv rfl) ?_
                                refine sxb_done (by kernel_rfl) ?_
                                refine sxq_np ?_ (by intro c h; cases h)
                                exact sxq_meetP (true, ()) (lk_cons rfl (lk_cons rfl (lk_cons rfl (lk_cons rfl (lk_cons rfl lk_nil))))) (.cons 0 rfl .nil) .nil (fk_cons 2 rfl (fk_cons 3 rfl (fk_cons 4 rfl fk_nil)))
                              · refine sxc_idxF (j := 2) (eI_ok .i64) (by decide) rfl (fun x1189 e1189 b1190 o1191 h1192 => ?_)
                                replace h1192 : a7 = some ⟨b1190, o1191, none⟩ := h1192
                                refine sxc_idxF (j := 3) (eI_ok .i64) (by decide) rfl (fun x1193 e1193 b1194 o1195 h1196 => ?_)
                                replace h1196 : a7 = some ⟨b1194, o1195, none⟩ := h1196
                                refine sxb_draw mixed [] [⟨g9, 24, [.slice a2 x1.length c3.1]⟩] [CellsAt b1194 (o1195 + x1033.toNat * 1) ((eI .i64) x1193), CellsAt b1190 (o1191 + (isub .i64 x1033 1).toNat * 1) ((eI .i64) x1189), CellsAt b1185 (o1186 + x1033.toNat * 1) ((eI .i64) x1184), CellsAt b1180 (o1181 + x1033.toNat * 1) ((eI .i64) x1179), Sl (eI .i64) 1 (.slice a7 x6.length c8) x6, Sl (eI .i64) 1 (.slice a14 x13.1.length c15) x13.1, SlN eN25 iN25 1 (.slice a2 x1.length c3.1) x1 c3.2] (.cons 0 rfl .nil) (gk_F 0 rfl (gk_F 1 rfl (gk_F 2 rfl (gk_F 3 rfl (gk_F 4 rfl (gk_F 5 rfl (gk_F 6 rfl gk_nil))))))) 29 rfl ?_
                                refine sxb_takeP 0 (.slice a7 x6.length c8) rfl rfl rfl rfl (by kernel_rfl) (by kernel_rfl) (by kernel_rfl) (by kernel_rfl) (by kernel_rfl) rfl (show _ = #[true, false, false, false, false, false, false, false, false, false, false, false, false, false, false, false, false, false, false, false, false, false, false, false, false, false, false, false, false] from rfl) (yv_pv rfl) ?_
                                refine sxb_takeP 1 (.int .i64 x1033) rfl rfl rfl rfl (by kernel_rfl) (by kernel_rfl) (by kernel_rfl) (by kernel_rfl) (by kernel_rfl) rfl (show _ = #[true, true, false, false, false, false, false, false, false, false, false, false, false, false, false, false, false, false, false, false, false, false, false, false, false, false, false, false, false] from rfl) (yv_pv rfl) ?_
                                refine sxb_again (d := 142) (v := .slice (some ⟨b1180, o1181, none⟩) x6.length c8) rfl (by rw [h1182] <;> rfl) ?_
                                refine sxb_takeP 2 (.pointer (some ⟨b1180, (o1181 + x1033.toNat * 1), none⟩)) rfl rfl rfl rfl (by kernel_rfl) (by kernel_rfl) (by kernel_rfl) (by kernel_rfl) (by kernel_rfl) rfl (show _ = #[true, true, true, false, false, false, false, false, false, false, false, false, false, false, false, false, false, false, false, false, false, false, false, false, false, false, false, false, false] from rfl) (yv_idx Try.underlying25 tf3 rfl rfl (idx_get e1179).1 (idx_lt e1179)) ?_
                                refine sxb_again (d := 142) (v := .slice a7 x6.length c8) rfl (by rw [h1182] <;> rfl) ?_
                                refine sxb_take 3 (.int .i64 x1179) [] rfl rfl rfl rfl (by kernel_rfl) (by kernel_rfl) (by kernel_rfl) (by kernel_rfl) (by kernel_rfl) (by kernel_rfl) rfl (show _ = #[true, true, true, true, false, false, false, false, false, false, false, false, false, false, false, false, false, false, false, false, false, false, false, false, false, false, false, false, false] from rfl) (yv_loadF (j := 3) rfl tf3 rfl rfl (fun _ => rfl) rfl) ?_
                                refine sxb_takeP 4 (.bool (decide (x1179 < 0))) rfl rfl rfl rfl (by kernel_rfl) (by kernel_rfl) (by kernel_rfl) (by kernel_rfl) (by kernel_rfl) rfl (show _ = #[true, true, true, true, true, false, false, false, false, false, false, false, false, false, false, false, false, false, false, false, false, false, false, false, false, false, false, false, false] from rfl) (yv_pv rfl) ?_
                                refine sxb_takeP 5 (.bool (decide (x1179 < 0))) rfl rfl rfl rfl (by kernel_rfl) (by kernel_rfl) (by kernel_rfl) (by kernel_rfl) (by kernel_rfl) rfl (show _ = #[true, true, true, true, true, true, false, false, false, false, false, false, false, false, false, false, false, false, false, false, false, false, false, false, false, false, false, false, false] from rfl) (yv_pv rfl) ?_
                                refine sxb_again (d := 147) (v := .bool false) rfl (by rw [h1183] <;> rfl) ?_
                                refine sxb_takeP 6 (.slice a7 x6.length c8) rfl rfl rfl rfl (by kernel_rfl) (by kernel_rfl) (by kernel_rfl) (by kernel_rfl) (by kernel_rfl) rfl (show _ = #[true, true, true, true, true, true, true, false, false, false, false, false, false, false, false, false, false, false, false, false, false, false, false, false, false, false, false, false, false] from rfl) (yv_pv rfl) ?_
                                refine sxb_takeP 7 (.int .i64 x1033) rfl rfl rfl rfl (by kernel_rfl) (by kernel_rfl) (by kernel_rfl) (by kernel_rfl) (by kernel_rfl) rfl (show _ = #[true, true, true, true, true, true, true, true, false, false, false, false, false, false, false, false, false, false, false, false, false, false, false, false, false, false, false, false, false] from rfl) (yv_pv rfl) ?_
                                refine sxb_again (d := 148) (v := .slice (some ⟨b1185, o1186, none⟩) x6.length c8) rfl (by rw [h1187] <;> rfl) ?_
                                refine sxb_takeP 8 (.pointer (some ⟨b1185, (o1186 + x1033.toNat * 1), none⟩)) rfl rfl rfl rfl (by kernel_rfl) (by kernel_rfl) (by kernel_rfl) (by kernel_rfl) (by kernel_rfl) rfl (show _ = #[true, true, true, true, true, true, true, true, true, false, false, false, false, false, false, false, false, false, false, false, false, false, false, false, false, false, false, false, false] from rfl) (yv_idx Try.underlying25 tf3 rfl rfl (idx_get e1184).1 (idx_lt e1184)) ?_
                                refine sxb_again (d := 148) (v := .slice a7 x6.length c8) rfl (by rw [h1187] <;> rfl) ?_
                                refine sxb_take 9 (.int .i64 x1184) [] rfl rfl rfl rfl (by kernel_rfl) (by kernel_rfl) (by kernel_rfl) (by kernel_rfl) (by kernel_rfl) (by kernel_rfl) rfl (show _ = #[true, true, true, true, true, true, true, true, true, true, false, false, false, false, false, false, false, false, false, false, false, false, false, false, false, false, false, false, false] from rfl) (yv_loadF (j := 2) rfl tf3 rfl rfl (fun _ => rfl) rfl) ?_
                                refine sxb_takeP 10 (.pointer (some ⟨g9, 0, none⟩)) rfl rfl rfl rfl (by kernel_rfl) (by kernel_rfl) (by kernel_rfl) (by kernel_rfl) (by kernel_rfl) rfl (show _ = #[true, true, true, true, true, true, true, true, true, true, true, false, false, false, false, false, false, false, false, false, false, false, false, false, false, false, false, false, false] from rfl) (yv_fieldAddr rfl ff24_0) ?_
                                refine sxb_takeB 11 (.slice a2 x1.length c3.1) rfl rfl rfl rfl (by kernel_rfl) (by kernel_rfl) (by kernel_rfl) (by kernel_rfl) (by kernel_rfl) rfl (show _ = #[true, true, true, true, true, true, true, true, true, true, true, true, false, false, false, false, false, false, false, false, false, false, false, false, false, false, false, false, false] from rfl) (yv_loadB (i := 0) rfl tf22 rfl rfl (fun _ => rfl) rfl) ?_
                                refine sxb_takeP 12 (.int .i64 (x1.length : Int)) rfl rfl rfl rfl (by kernel_rfl) (by kernel_rfl) (by kernel_rfl) (by kernel_rfl) (by kernel_rfl) rfl (show _ = #[true, true, true, true, true, true, true, true, true, true, true, true, true, false, false, false, false, false, false, false, false, false, false, false, false, false, false, false, false] from rfl) (yv_len Try.underlying22 rfl) ?_
                                refine sxb_takeP 13 (.bool (decide ((x1.length : Int) ≤ x1184))) rfl rfl rfl rfl (by kernel_rfl) (by kernel_rfl) (by kernel_rfl) (by kernel_rfl) (by kernel_rfl) rfl (show _ = #[true, true, true, true, true, true, true, true, true, true, true, true, true, true, false, false, false, false, false, false, false, false, false, false, false, false, false, false, false] from rfl) (yv_pv rfl) ?_
                                refine sxb_takeP 14 (.bool (decide ((x1.length : Int) ≤ x1184))) rfl rfl rfl rfl (by kernel_rfl) (by kernel_rfl) (by kernel_rfl) (by kernel_rfl) (by kernel_rfl) rfl (show _ = #[true, true, true, true, true, true, true, true, true, true, true, true, true, true, true, false, false, false, false, false, false, false, false, false, false, false, false, false, false] from rfl) (yv_pv rfl) ?_
                                refine sxb_takeP 15 (.bool (decide ((x1.length : Int) ≤ x1184))) rfl rfl rfl rfl (by kernel_rfl) (by kernel_rfl) (by kernel_rfl) (by kernel_rfl) (by kernel_rfl) rfl (show _ = #[true, true, true, true, true, true, true, true, true, true, true, true, true, true, true, true, false, false, false, false, false, false, false, false, false, false, false, false, false] from rfl) (yv_pv rfl) ?_
                                refine sxb_again (d := 157) (v := .bool false) rfl (by rw [h1188] <;> rfl) ?_
                                refine sxb_takeB 16 (.agg #[.slice a2 x1.length c3.1]) rfl rfl rfl rfl (by kernel_rfl) (by kernel_rfl) (by kernel_rfl) (by kernel_rfl) (by kernel_rfl) rfl (show _ = #[true, true, true, true, true, true, true, true, true, true, true, true, true, true, true, true, true, false, false, false, false, false, false, false, false, false, false, false, false] from rfl) (yv_loadB (i := 0) rfl tf24 rfl rfl (by simp) rfl) ?_
                                refine sxb_takeP 17 (.slice a7 x6.length c8) rfl rfl rfl rfl (by kernel_rfl) (by kernel_rfl) (by kernel_rfl) (by kernel_rfl) (by kernel_rfl) rfl (show _ = #[true, true, true, true, true, true, true, true, true, true, true, true, true, true, true, true, true, true, false, false, false, false, false, false, false, false, false, false, false] from rfl) (yv_pv rfl) ?_
                                refine sxb_takeP 18 (.int .i64 x1033) rfl rfl rfl rfl (by kernel_rfl) (by kernel_rfl) (by kernel_rfl) (by kernel_rfl) (by kernel_rfl) rfl (show _ = #[true, true, true, true, true, true, true, true, true, true, true, true, true, true, true, true, true, true, true, false, false, false, false, false, false, false, false, false, false] from rfl) (yv_pv rfl) ?_
                                refine sxb_takeP 19 (.int .i64 (isub .i64 x1033 1)) rfl rfl rfl rfl (by kernel_rfl) (by kernel_rfl) (by kernel_rfl) (by kernel_rfl) (by kernel_rfl) rfl (show _ = #[true, true, true, true, true, true, true, true, true, true, true, true, true, true, true, true, true, true, true, true, false, false, false, false, false, false, false, false, false] from rfl) (yv_pv rfl) ?_
                                refine sxb_again (d := 159) (v := .slice (some ⟨b1190, o1191, none⟩) x6.length c8) rfl (by rw [h1192] <;> rfl) ?_
                                refine sxb_takeP 20 (.pointer (some ⟨b1190, (o1191 + (isub .i64 x1033 1).toNat * 1), none⟩)) rfl rfl rfl rfl (by kernel_rfl) (by kernel_rfl) (by kernel_rfl) (by kernel_rfl) (by kernel_rfl) rfl (show _ = #[true, true, true, true, true, true, true, true, true, true, true, true, true, true, true, true, true, true, true, true, true, false, false, false, false, false, false, false, false] from rfl) (yv_idx Try.underlying25 tf3 rfl rfl (idx_get e1189).1 (idx_lt e1189)) ?_
                                refine sxb_again (d := 159) (v := .slice a7 x6.length c8) rfl (by rw [h1192] <;> rfl) ?_
                                refine sxb_take 21 (.int .i64 x1189) [] rfl rfl rfl rfl (by kernel_rfl) (by kernel_rfl) (by kernel_rfl) (by kernel_rfl) (by kernel_rfl) (by kernel_rfl) rfl (show _ = #[true, true, true, true, true, true, true, true, true, true, true, true, true, true, true, true, true, true, true, true, true, true, false, false, false, false, false, false, false] from rfl) (yv_loadF (j := 1) rfl tf3 rfl rfl (fun _ => rfl) rfl) ?_
                                refine sxb_takeP 22 (.slice a7 x6.length c8) rfl rfl rfl rfl (by kernel_rfl) (by kernel_rfl) (by kernel_rfl) (by kernel_rfl) (by kernel_rfl) rfl (show _ = #[true, true, true, true, true, true, true, true, true, true, true, true, true, true, true, true, true, true, true, true, true, true, true, false, false, false, false, false, false] from rfl) (yv_pv rfl) ?_
                                refine sxb_takeP 23 (.int .i64 x1033) rfl rfl rfl rfl (by kernel_rfl) (by kernel_rfl) (by kernel_rfl) (by kernel_rfl) (by kernel_rfl) rfl (show _ = #[true, true, true, true, true, true, true, true, true, true, true, true, true, true, true, true, true, true, true, true, true, true, true, true, false, false, false, false, false] from rfl) (yv_pv rfl) ?_
                                refine sxb_again (d := 164) (v := .slice (some ⟨b1194, o1195, none⟩) x6.length c8) rfl (by rw [h1196] <;> rfl) ?_
                                refine sxb_takeP 24 (.pointer (some ⟨b1194, (o1195 + x1033.toNat * 1), none⟩)) rfl rfl rfl rfl (by kernel_rfl) (by kernel_rfl) (by kernel_rfl) (by kernel_rfl) (by kernel_rfl) rfl (show _ = #[true, true, true, true, true, true, true, true, true, true, true, true, true, true, true, true, true, true, true, true, true, true, true, true, true, false, false, false, false] from rfl) (yv_idx Try.underlying25 tf3 rfl rfl (idx_get e1193).1 (idx_lt e1193)) ?_
                                refine sxb_again (d := 164) (v := .slice a7 x6.length c8) rfl (by rw [h1196] <;> rfl) ?_
                                refine sxb_take 25 (.int .i64 x1193) [] rfl rfl rfl rfl (by kernel_rfl) (by kernel_rfl) (by kernel_rfl) (by kernel_rfl) (by kernel_rfl) (by kernel_rfl) rfl (show _ = #[true, true, true, true, true, true, true, true, true, true, true, true, true, true, true, true, true, true, true, true, true, true, true, true, true, true, false, false, false] from rfl) (yv_loadF (j := 0) rfl tf3 rfl rfl (fun _ => rfl) rfl) ?_
                                refine sxb_step 26 rfl (by kernel_rfl) (show _ = #[true, true, true, true, true, true, true, true, true, true, true, true, true, true, true, true, true, true, true, true, true, true, true, true, true, true, true, false, false] from rfl) ?_
                                refine sxo_call ent20 rfl rfl rfl (fun x1197 e1197 => C_R_Leads F x1 a2 c3 x1189 x1193 x1197 e1197) (.consF 6 rfl .nil) (fun x1197 e1197 => ?_)
                                intro _
                                refine sxo_nil ?_
                                refine sxq_anyB (.cons 0 rfl .nil) (gk_F 0 rfl (gk_F 1 rfl (gk_F 2 rfl (gk_F 3 rfl (gk_F 4 rfl (gk_F 5 rfl (gk_F 6 rfl gk_nil))))))) ?_
                                refine sxb_takeP 27 (.bool (!x1197)) rfl rfl rfl rfl (by kernel_rfl) (by kernel_rfl) (by kernel_rfl) (by kernel_rfl) (by kernel_rfl) rfl (show _ = #[true, true, true, true, true, true, true, true, true, true, true, true, true, true, true, true, true, true, true, true, true, true, true, true, true, true, true, true, false] from rfl) (yv_pv rfl) ?_
                                refine sxb_takeP 28 (.bool (!x1197)) rfl rfl rfl rfl (by kernel_rfl) (by kernel_rfl) (by kernel_rfl) (by kernel_rfl) (by kernel_rfl) rfl (show _ = #[true, true, true, true, true, true, true, true, true, true, true, true, true, true, true, true, true, true, true, true, true, true, true, true, true, true, true, true, true] from rfl) (yv_pv rfl) ?_
                                refine sxb_done (by kernel_rfl) ?_
                                refine sxq_np ?_ (by intro c h; cases h)
                                exact sxq_meetP ((!x1197), ()) (lk_cons rfl (lk_cons rfl (lk_cons rfl (lk_cons rfl (lk_cons rfl lk_nil))))) (.cons 0 rfl .nil) .nil (fk_cons 4 rfl (fk_cons 5 rfl (fk_cons 6 rfl fk_nil)))
                          · rintro ⟨x1177, _⟩
                            try dsimp only
                            refine sxc_if rfl (fun h1178 => ?_) (fun h1178 => ?_)
                            · refine sxc_seq ?_
                              refine sxc_region ?_
                              refine sxo_assign rfl rfl rfl ?_
                              refine sxo_nil ?_
                              refine sxq_next ?_
                              refine sxc_ret ?_
                              refine sxq_blkR ?_
                              refine sxq_thenR ?_
                              refine sxq_thenR ?_
                              refine sxq_blkR ?_
                              refine sxq_thenR ?_
                              exact sxq_doneP () (.inl rfl) (res1 rfl rfl) (fun h => by subst h; rfl) (fun h => by subst h; exact .nil)
                            · refine sxc_skip ?_
                              refine sxq_blkN ?_
                              refine sxq_next ?_
                              refine sxc_region ?_
                              refine sxo_move rfl rfl rfl ?_
                              refine sxo_add rfl rfl rfl rfl ?_
                              refine sxo_assign rfl rfl rfl ?_
                              refine sxo_nil ?_
                              exact sxq_againP (iadd .i64 x1033 1, ()) (lk_cons rfl (lk_cons rfl (lk_cons rfl (lk_cons rfl lk_nil)))) (.cons 0 rfl .nil) .nil (fk_cons 0 rfl (fk_cons 1 rfl (fk_cons 2 rfl fk_nil)))
                        · refine sxc_exit ?_
                          refine sxq_thenX ?_
                          refine sxq_thenX ?_
                          refine sxq_blkX ?_
                          exact sxq_meetP ((), ()) (lk_cons rfl (lk_cons rfl lk_nil)) .nil .nil (fk_cons 0 rfl (fk_cons 1 rfl fk_nil))
                      · rintro ⟨_, _⟩
                        try dsimp only
                        refine sxc_join (fun ((_, _) : (Unit × Unit)) => []) (fun ((_, _) : (Unit × Unit)) => []) (fun ((_, _) : (Unit × Unit)) => []) (fun ((_, _) : (Unit × Unit)) => []) (fun ((_, _) : (Unit × Unit)) => M_L_WalkWay_j28 F) ?_ ?_
                        · refine sxc_seq ?_
                          refine sxc_region ?_
                          refine sxo_assign rfl rfl rfl ?_
                          refine sxo_nil ?_
                          refine sxq_next ?_
                          refine sxc_block ?_
                          refine sxc_loopP (fun ((x813, _) : (Int × Unit)) => [(3, .slice a7 x6.length c8), (11, .slice a14 x13.1.length c15), (15, .int .i64 x813)]) (fun ((x813, _) : (Int × Unit)) => []) (fun ((x813, _) : (Int × Unit)) => []) (fun ((x813, _) : (Int × Unit)) => [Sl (eI .i64) 1 (.slice a7 x6.length c8) x6, Sl (eI .i64) 1 (.slice a14 x13.1.length c15) x13.1]) (fun k (s : (Int × Unit)) => M_L_WalkWay_l29 F x6 x13 k s.1) (0, ()) F (lk_cons rfl (lk_cons rfl (lk_cons rfl lk_nil))) .nil .nil (fk_cons 0 rfl (fk_cons 1 rfl fk_nil)) (fun _ => rfl) ?_
                          intro k882
                          rintro ⟨x813, _⟩
                          try dsimp only
                          refine sxc_meq (m' := M_L_WalkWay_b29 F x6 x13 (M_L_WalkWay_l29 F x6 x13 k882) x813) rfl ?_
                          refine sxc_seq ?_
                          refine sxc_seq ?_
                          refine sxc_region ?_
                          refine sxo_move rfl rfl rfl ?_
                          refine sxo_move rfl rfl rfl ?_
                          refine sxo_len rfl Try.underlying25 rfl rfl ?_
                          refine sxo_lss rfl rfl rfl rfl ?_
                          refine sxo_nil ?_
                          refine sxq_next ?_
                          refine sxc_if rfl (fun h950 => ?_) (fun h950 => ?_)
                          · refine sxc_skip ?_
                            refine sxq_next ?_
                            refine sxc_seq ?_
                            refine sxc_block ?_
                            refine sxc_seq ?_
                            refine sxc_idxF (j := 1) (eI_ok .i64) (by decide) rfl (fun x925 e925 b926 o927 h928 => ?_)
                            replace h928 : a14 = some ⟨b926, o927, none⟩ := h928
                            refine sxc_idxF (j := 1) (eI_ok .i64) (by decide) rfl (fun x929 e929 b930 o931 h932 => ?_)
                            replace h932 : a7 = some ⟨b930, o931, none⟩ := h932
                            refine sxb_draw mixed [] [] [CellsAt b930 (o931 + x813.toNat * 1) ((eI .i64) x929), CellsAt b926 (o927 + x813.toNat * 1) ((eI .i64) x925), Sl (eI .i64) 1 (.slice a7 x6.length c8) x6, Sl (eI .i64) 1 (.slice a14 x13.1.length c15) x13.1] .nil (gk_F 0 rfl (gk_F 1 rfl (gk_F 2 rfl (gk_F 3 rfl gk_nil)))) 9 rfl ?_
                            refine sxb_takeP 0 (.slice a14 x13.1.length c15) rfl rfl rfl rfl (by kernel_rfl) (by kernel_rfl) (by kernel_rfl) (by kernel_rfl) (by kernel_rfl) rfl (show _ = #[true, false, false, false, false, false, false, false, false] from rfl) (yv_pv rfl) ?_
                            refine sxb_takeP 1 (.int .i64 x813) rfl rfl rfl rfl (by kernel_rfl) (by kernel_rfl) (by kernel_rfl) (by kernel_rfl) (by kernel_rfl) rfl (show _ = #[true, true, false, false, false, false, false, false, false] from rfl) (yv_pv rfl) ?_
                            refine sxb_again (d := 177) (v := .slice (some ⟨b926, o927, none⟩) x13.1.length c15) rfl (by rw [h928] <;> rfl) ?_
                            refine sxb_takeP 2 (.pointer (some ⟨b926, (o927 + x813.toNat * 1), none⟩)) rfl rfl rfl rfl (by kernel_rfl) (by kernel_rfl) (by kernel_rfl) (by kernel_rfl) (by kernel_rfl) rfl (show _ = #[true, true, true, false, false, false, false, false, false] from rfl) (yv_idx Try.underlying25 tf3 rfl rfl (idx_get e925).1 (idx_lt e925)) ?_
                            refine sxb_again (d := 177) (v := .slice a14 x13.1.length c15) rfl (by rw [h928] <;> rfl) ?_
                            refine sxb_take 3 (.int .i64 x925) [] rfl rfl rfl rfl (by kernel_rfl) (by kernel_rfl) (by kernel_rfl) (by kernel_rfl) (by kernel_rfl) (by kernel_rfl) rfl (show _ = #[true, true, true, true, false, false, false, false, false] from rfl) (yv_loadF (j := 1) rfl tf3 rfl rfl (fun _ => rfl) rfl) ?_
                            refine sxb_takeP 4 (.slice a7 x6.length c8) rfl rfl rfl rfl (by kernel_rfl) (by kernel_rfl) (by kernel_rfl) (by kernel_rfl) (by kernel_rfl) rfl (show _ = #[true, true, true, true, true, false, false, false, false] from rfl) (yv_pv rfl) ?_
                            refine sxb_takeP 5 (.int .i64 x813) rfl rfl rfl rfl (by kernel_rfl) (by kernel_rfl) (by kernel_rfl) (by kernel_rfl) (by kernel_rfl) rfl (show _ = #[true, true, true, true, true, true, false, false, false] from rfl) (yv_pv rfl) ?_
                            refine sxb_again (d := 181) (v := .slice (some ⟨b930, o931, none⟩) x6.length c8) rfl (by rw [h932] <;> rfl) ?_
                            refine sxb_takeP 6 (.pointer (some ⟨b930, (o931 + x813.toNat * 1), none⟩)) rfl rfl rfl rfl (by kernel_rfl) (by kernel_rfl) (by kernel_rfl) (by kernel_rfl) (by kernel_rfl) rfl (show _ = #[true, true, true, true, true, true, true, false, false] from rfl) (yv_idx Try.underlying25 tf3 rfl rfl (idx_get e929).1 (idx_lt e929)) ?_
                            refine sxb_again (d := 181) (v := .slice a7 x6.length c8) rfl (by rw [h932] <;> rfl) ?_
                            refine sxb_take 7 (.int .i64 x929) [] rfl rfl rfl rfl (by kernel_rfl) (by kernel_rfl) (by kernel_rfl) (by kernel_rfl) (by kernel_rfl) (by kernel_rfl) rfl (show _ = #[true, true, true, true, true, true, true, true, false] from rfl) (yv_loadF (j := 0) rfl tf3 rfl rfl (fun _ => rfl) rfl) ?_
                            refine sxb_takeP 8 (.bool ((x925 : Int) != x929)) rfl rfl rfl rfl (by kernel_rfl) (by kernel_rfl) (by kernel_rfl) (by kernel_rfl) (by kernel_rfl) rfl (show _ = #[true, true, true, true, true, true, true, true, true] from rfl) (yv_pv rfl) ?_
                            refine sxb_done (by kernel_rfl) ?_
                            refine sxq_np ?_ (by intro c h; cases h)
                            refine sxq_next ?_
                            refine sxc_if rfl (fun h949 => ?_) (fun h949 => ?_)
                            · refine sxc_seq ?_
                              refine sxc_idxF (j := 3) (eI_ok .i64) (by decide) rfl (fun x941 e941 b942 o943 h944 => ?_)
                              replace h944 : a14 = some ⟨b942, o943, none⟩ := h944
                              refine sxc_idxF (j := 3) (eI_ok .i64) (by decide) rfl (fun x945 e945 b946 o947 h948 => ?_)
                              replace h948 : a7 = some ⟨b946, o947, none⟩ := h948
                              refine sxb_draw mixed [] [] [CellsAt b946 (o947 + x813.toNat * 1) ((eI .i64) x945), CellsAt b942 (o943 + x813.toNat * 1) ((eI .i64) x941), CellsAt b930 (o931 + x813.toNat * 1) ((eI .i64) x929), CellsAt b926 (o927 + x813.toNat * 1) ((eI .i64) x925), Sl (eI .i64) 1 (.slice a7 x6.length c8) x6, Sl (eI .i64) 1 (.slice a14 x13.1.length c15) x13.1] .nil (gk_F 0 rfl (gk_F 1 rfl (gk_F 2 rfl (gk_F 3 rfl (gk_F 4 rfl (gk_F 5 rfl gk_nil)))))) 10 rfl ?_
                              refine sxb_takeP 0 (.slice a14 x13.1.length c15) rfl rfl rfl rfl (by kernel_rfl) (by kernel_rfl) (by kernel_rfl) (by kernel_rfl) (by kernel_rfl) rfl (show _ = #[true, false, false, false, false, false, false, false, false, false] from rfl) (yv_pv rfl) ?_
                              refine sxb_takeP 1 (.int .i64 x813) rfl rfl rfl rfl (by kernel_rfl) (by kernel_rfl) (by kernel_rfl) (by kernel_rfl) (by kernel_rfl) rfl (show _ = #[true, true, false, false, false, false, false, false, false, false] from rfl) (yv_pv rfl) ?_
                              refine sxb_again (d := 186) (v := .slice (some ⟨b942, o943, none⟩) x13.1.length c15) rfl (by rw [h944] <;> rfl) ?_
                              refine sxb_takeP 2 (.pointer (some ⟨b942, (o943 + x813.toNat * 1), none⟩)) rfl rfl rfl rfl (by kernel_rfl) (by kernel_rfl) (by kernel_rfl) (by kernel_rfl) (by kernel_rfl) rfl (show _ = #[true, true, true, false, false, false, false, false, false, false] from rfl) (yv_idx Try.underlying25 tf3 rfl rfl (idx_get e941).1 (idx_lt e941)) ?_
                              refine sxb_again (d := 186) (v := .slice a14 x13.1.length c15) rfl (by rw [h944] <;> rfl) ?_
                              refine sxb_take 3 (.int .i64 x941) [] rfl rfl rfl rfl (by kernel_rfl) (by kernel_rfl) (by kernel_rfl) (by kernel_rfl) (by kernel_rfl) (by kernel_rfl) rfl (show _ = #[true, true, true, true, false, false, false, false, false, false] from rfl) (yv_loadF (j := 1) rfl tf3 rfl rfl (fun _ => rfl) rfl) ?_
                              refine sxb_takeP 4 (.slice a7 x6.length c8) rfl rfl rfl rfl (by kernel_rfl) (by kernel_rfl) (by kernel_rfl) (by kernel_rfl) (by kernel_rfl) rfl (show _ = #[true, true, true, true, true, false, false, false, false, false] from rfl) (yv_pv rfl) ?_
                              refine sxb_takeP 5 (.int .i64 x813) rfl rfl rfl rfl (by kernel_rfl) (by kernel_rfl) (by kernel_rfl) (by kernel_rfl) (by kernel_rfl) rfl (show _ = #[true, true, true, true, true, true, false, false, false, false] from rfl) (yv_pv rfl) ?_
                              refine sxb_again (d := 190) (v := .slice (some ⟨b946, o947, none⟩) x6.length c8) rfl (by rw [h948] <;> rfl) ?_
                              refine sxb_takeP 6 (.pointer (some ⟨b946, (o947 + x813.toNat * 1), none⟩)) rfl rfl rfl rfl (by kernel_rfl) (by kernel_rfl) (by kernel_rfl) (by kernel_rfl) (by kernel_rfl) rfl (show _ = #[true, true, true, true, true, true, true, false, false, false] from rfl) (yv_idx Try.underlying25 tf3 rfl rfl (idx_get e945).1 (idx_lt e945)) ?_
                              refine sxb_again (d := 190) (v := .slice a7 x6.length c8) rfl (by rw [h948] <;> rfl) ?_
                              refine sxb_take 7 (.int .i64 x945) [] rfl rfl rfl rfl (by kernel_rfl) (by kernel_rfl) (by kernel_rfl) (by kernel_rfl) (by kernel_rfl) (by kernel_rfl) rfl (show _ = #[true, true, true, true, true, true, true, true, false, false] from rfl) (yv_loadF (j := 0) rfl tf3 rfl rfl (fun _ => rfl) rfl) ?_
                              refine sxb_takeP 8 (.bool (decide (x941 < x945))) rfl rfl rfl rfl (by kernel_rfl) (by kernel_rfl) (by kernel_rfl) (by kernel_rfl) (by kernel_rfl) rfl (show _ = #[true, true, true, true, true, true, true, true, true, false] from rfl) (yv_pv rfl) ?_
                              refine sxb_takeP 9 (.bool (decide (x941 < x945))) rfl rfl rfl rfl (by kernel_rfl) (by kernel_rfl) (by kernel_rfl) (by kernel_rfl) (by kernel_rfl) rfl (show _ = #[true, true, true, true, true, true, true, true, true, true] from rfl) (yv_pv rfl) ?_
                              refine sxb_done (by kernel_rfl) ?_
                              refine sxq_np ?_ (by intro c h; cases h)
                              refine sxq_next ?_
                              refine sxc_ret ?_
                              refine sxq_blkR ?_
                              refine sxq_thenR ?_
                              refine sxq_thenR ?_
                              refine sxq_blkR ?_
                              refine sxq_thenR ?_
                              exact sxq_doneP () (.inl rfl) (res1 rfl rfl) (fun h => by subst h; rfl) (fun h => by subst h; exact .nil)
                            · refine sxc_skip ?_
                              refine sxq_blkN ?_
                              refine sxq_next ?_
                              refine sxc_region ?_
                              refine sxo_move rfl rfl rfl ?_
                              refine sxo_add rfl rfl rfl rfl ?_
                              refine sxo_assign rfl rfl rfl ?_
                              refine sxo_nil ?_
                              exact sxq_againP (iadd .i64 x813 1, ()) (lk_cons rfl (lk_cons rfl (lk_cons rfl lk_nil))) .nil .nil (fk_cons 2 rfl (fk_cons 3 rfl fk_nil))
                          · refine sxc_exit ?_
                            refine sxq_thenX ?_
                            refine sxq_thenX ?_
                            refine sxq_blkX ?_
                            exact sxq_meetP ((), ()) lk_nil .nil .nil fk_nil
                        · rintro ⟨_, _⟩
                          try dsimp only
                          refine sxc_seq ?_
                          refine sxc_region ?_
                          refine sxo_assign rfl rfl rfl ?_
                          refine sxo_nil ?_
                          refine sxq_next ?_
                          refine sxc_ret ?_
                          exact sxq_doneP () (.inl rfl) (res1 rfl rfl) (fun h => by subst h; rfl) (fun h => by subst h; exact .nil)
end Go.Proofs.Ytldpjaphbikjnaa
