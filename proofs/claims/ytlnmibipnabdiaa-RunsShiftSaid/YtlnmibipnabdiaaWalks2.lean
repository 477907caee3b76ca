/- Each Go function of this seat computes what its model says, part 2. -/
import Derived.Test.YtlnmibipnabdiaaWalks
namespace Go.Proofs.Ytlnmibipnabdiaa
open Go SX
set_option maxHeartbeats 4000000 in
theorem C_L_runsBegun (F : Nat)  (r : Bool) (hm : M_L_runsBegun F  = some r) :
    Pure Try.prog 36 [] [] Unit (fun _ => .bool r) (fun _ => []) (fun _ => []) := by
  refine pure_of Try.func36 rfl Try.ntmps36 rfl hm (fun w => ?_)
  refine sxc_env (l' := []) rfl ?_
  refine sxc_seq ?_
  refine sxc_region ?_
  refine sxo_assign rfl rfl rfl ?_
  refine sxo_nil ?_
  refine sxq_next ?_
  refine sxc_seq ?_
  refine sxc_region ?_
  refine sxo_slit (vs := [.int .i64 1, .int .i64 3, .int .i64 4, .int .i64 5, .int .i64 8, .int .i64 9]) (ys := ([1, 3, 4, 5, 8, 9] : List Int)) (eI_ok .i64) (by decide) rfl Try.underlying22 tf3 rfl rfl rfl rfl rfl (by decide) (fun a1 c2 => ?_)
  refine sxo_call ent31 rfl rfl rfl (fun x3 e3 => C_runs_Split F ([1, 3, 4, 5, 8, 9] : List Int) a1 c2 3 x3 e3) (.consR 0 (Ro (eI .i64) 3 1 (.slice a1 ([1, 3, 4, 5, 8, 9] : List Int).length c2) ([1, 3, 4, 5, 8, 9] : List Int)) rfl .nil) (fun x3 e3 => ?_)
  rintro ⟨⟨a4, c5⟩, ⟨a6, c7⟩⟩
  refine sxo_move rfl rfl rfl ?_
  refine sxo_extract rfl rfl rfl rfl ?_
  refine sxo_extract rfl rfl rfl rfl ?_
  refine sxo_extract rfl rfl rfl rfl ?_
  refine sxo_assign rfl rfl rfl ?_
  refine sxo_assign rfl rfl rfl ?_
  refine sxo_assign rfl rfl rfl ?_
  refine sxo_nil ?_
  refine sxq_next ?_
  refine sxc_seq ?_
  refine sxc_region ?_
  refine sxo_move rfl rfl rfl ?_
  refine sxo_move rfl rfl rfl ?_
  refine sxo_call ent32 rfl rfl rfl (fun x8 e8 => C_runs_Merge F x3.1 a4 c5 x3.2.1 a6 c7 x8 e8) (.consR 0 (Ro eS60 60 2 (.slice a4 x3.1.length c5) x3.1) rfl (.consR 1 (Ro (eI .i64) 3 1 (.slice a6 x3.2.1.length c7) x3.2.1) rfl .nil)) (fun x8 e8 => ?_)
  rintro ⟨a9, c10⟩
  refine sxo_move rfl rfl rfl ?_
  refine sxo_extract rfl rfl rfl rfl ?_
  refine sxo_extract rfl rfl rfl rfl ?_
  refine sxo_assign rfl rfl rfl ?_
  refine sxo_assign rfl rfl rfl ?_
  refine sxo_nil ?_
  refine sxq_next ?_
  refine sxc_seq ?_
  refine sxc_region ?_
  refine sxo_move rfl rfl rfl ?_
  refine sxo_call ent33 rfl rfl rfl (fun x11 e11 => C_runs_Count F x3.1 a4 c5 x11 e11) (.consR 1 (Ro eS60 60 2 (.slice a4 x3.1.length c5) x3.1) rfl .nil) (fun x11 e11 => ?_)
  intro _
  refine sxo_move rfl rfl rfl ?_
  refine sxo_extract rfl rfl rfl rfl ?_
  refine sxo_extract rfl rfl rfl rfl ?_
  refine sxo_assign rfl rfl rfl ?_
  refine sxo_assign rfl rfl rfl ?_
  refine sxo_nil ?_
  refine sxq_next ?_
  refine sxc_seq ?_
  refine sxc_region ?_
  refine sxo_build (cells := [.int .i64 3, .int .i64 2]) rfl st60 rfl (by kernel_rfl) rfl ?_
  refine sxo_build (cells := [.int .i64 5, .int .i64 1]) rfl st60 rfl (by kernel_rfl) rfl ?_
  refine sxo_slit (vs := [.agg #[.int .i64 3, .int .i64 2], .agg #[.int .i64 5, .int .i64 1]]) (ys := ([(3, 2), (5, 1)] : List (Int × Int))) eS60_ok (by decide) rfl Try.underlying49 tf60 rfl rfl rfl rfl rfl (by decide) (fun a12 c13 => ?_)
  refine sxo_nilrow' Int (eI .i64) 3 1 ?_
  refine sxo_call ent32 rfl rfl rfl (fun x14 e14 => C_runs_Merge F ([(3, 2), (5, 1)] : List (Int × Int)) a12 c13 ([] : List Int) none 0 x14 e14) (.consR 1 (Ro eS60 60 2 (.slice a12 ([(3, 2), (5, 1)] : List (Int × Int)).length c13) ([(3, 2), (5, 1)] : List (Int × Int))) rfl (.consR 0 (Ro (eI .i64) 3 1 (.slice none ([] : List Int).length 0) ([] : List Int)) rfl .nil)) (fun x14 e14 => ?_)
  rintro ⟨a15, c16⟩
  refine sxo_move rfl rfl rfl ?_
  refine sxo_extract rfl rfl rfl rfl ?_
  refine sxo_extract rfl rfl rfl rfl ?_
  refine sxo_assign rfl rfl rfl ?_
  refine sxo_assign rfl rfl rfl ?_
  refine sxo_nil ?_
  refine sxq_next ?_
  refine sxc_seq ?_
  refine sxc_region ?_
  refine sxo_move rfl rfl rfl ?_
  refine sxo_slit (vs := [.int .i64 4]) (ys := ([4] : List Int)) (eI_ok .i64) (by decide) rfl Try.underlying22 tf3 rfl rfl rfl rfl rfl (by decide) (fun a17 c18 => ?_)
  refine sxo_call ent32 rfl rfl rfl (fun x19 e19 => C_runs_Merge F x3.1 a4 c5 ([4] : List Int) a17 c18 x19 e19) (.consR 5 (Ro eS60 60 2 (.slice a4 x3.1.length c5) x3.1) rfl (.consR 0 (Ro (eI .i64) 3 1 (.slice a17 ([4] : List Int).length c18) ([4] : List Int)) rfl .nil)) (fun x19 e19 => ?_)
  rintro ⟨a20, c21⟩
  refine sxo_move rfl rfl rfl ?_
  refine sxo_extract rfl rfl rfl rfl ?_
  refine sxo_extract rfl rfl rfl rfl ?_
  refine sxo_assign rfl rfl rfl ?_
  refine sxo_assign rfl rfl rfl ?_
  refine sxo_nil ?_
  refine sxq_next ?_
  refine sxc_seq ?_
  refine sxc_region ?_
  refine sxo_move rfl rfl rfl ?_
  refine sxo_build (cells := [.int .i64 3, .int .i64 3]) rfl st60 rfl (by kernel_rfl) rfl ?_
  refine sxo_slit (vs := [.agg #[.int .i64 3, .int .i64 3]]) (ys := ([(3, 3)] : List (Int × Int))) eS60_ok (by decide) rfl Try.underlying49 tf60 rfl rfl rfl rfl rfl (by decide) (fun a22 c23 => ?_)
  refine sxo_call ent37 rfl rfl rfl (fun x24 e24 => C_R_SameRuns F x3.1 a4 c5 ([(3, 3)] : List (Int × Int)) a22 c23 x24 e24) (.consR 7 (Ro eS60 60 2 (.slice a4 x3.1.length c5) x3.1) rfl (.consR 0 (Ro eS60 60 2 (.slice a22 ([(3, 3)] : List (Int × Int)).length c23) ([(3, 3)] : List (Int × Int))) rfl .nil)) (fun x24 e24 => ?_)
  intro _
  refine sxo_move rfl rfl rfl ?_
  refine sxo_join 4 (fun ((x29, _) : (Bool × Unit)) => [(3, .int .i64 x3.2.2), (4, .slice a9 x8.1.length c10), (5, .int .i64 x8.2), (6, .int .i64 x11.1), (7, .int .i64 x11.2), (9, .int .i64 x14.2), (11, .int .i64 x19.2), (50, .bool x29)]) (fun ((x29, _) : (Bool × Unit)) => []) (fun ((x29, _) : (Bool × Unit)) => [Ro (eI .i64) 3 1 (.slice a9 x8.1.length c10) x8.1]) (fun ((x29, _) : (Bool × Unit)) => []) (fun ((x29, _) : (Bool × Unit)) => M_L_runsBegun_j1 F x3 x8 x11 x14 x19 x29) ?_ ?_
  · refine sxo_take (os := _) rfl ?_
    refine sxo_if (fun h25 => ?_) (fun h25 => ?_)
    · refine sxo_isT (k := 46) rfl h25 ?_
      refine sxo_move rfl rfl rfl ?_
      refine sxo_slit (vs := [.int .i64 1, .int .i64 8, .int .i64 9]) (ys := ([1, 8, 9] : List Int)) (eI_ok .i64) (by decide) rfl Try.underlying22 tf3 rfl rfl rfl rfl rfl (by decide) (fun a44 c45 => ?_)
      refine sxo_call ent25 rfl rfl rfl (fun x46 e46 => C_R_SameInts F x3.2.1 a6 c7 ([1, 8, 9] : List Int) a44 c45 x46 e46) (.consR 9 (Ro (eI .i64) 3 1 (.slice a6 x3.2.1.length c7) x3.2.1) rfl (.consR 0 (Ro (eI .i64) 3 1 (.slice a44 ([1, 8, 9] : List Int).length c45) ([1, 8, 9] : List Int)) rfl .nil)) (fun x46 e46 => ?_)
      intro _
      refine sxo_pick (b := true) rfl rfl rfl rfl ?_
      refine sxo_nil ?_
      exact sxq_meetP (x46, ()) (lk_cons rfl (lk_cons rfl (lk_cons rfl (lk_cons rfl (lk_cons rfl (lk_cons rfl (lk_cons rfl (lk_cons rfl lk_nil)))))))) .nil (.cons 7 rfl .nil) fk_nil
    · refine sxo_isF (k := 46) rfl h25 ?_
      refine sxo_skip rfl rfl rfl ?_
      refine sxo_skip rfl rfl rfl ?_
      refine sxo_skip rfl rfl rfl ?_
      refine sxo_pick (b := false) rfl rfl rfl rfl ?_
      refine sxo_nil ?_
      exact sxq_meetP (false, ()) (lk_cons rfl (lk_cons rfl (lk_cons rfl (lk_cons rfl (lk_cons rfl (lk_cons rfl (lk_cons rfl (lk_cons rfl lk_nil)))))))) .nil (.cons 6 rfl .nil) fk_nil
  · rintro ⟨x29, _⟩
    try dsimp only
    refine sxo_take (os := _) rfl ?_
    refine sxo_move rfl rfl rfl ?_
    refine sxo_case 3 x29 [(4, .slice a9 x8.1.length c10), (5, .int .i64 x8.2), (6, .int .i64 x11.1), (7, .int .i64 x11.2), (9, .int .i64 x14.2), (11, .int .i64 x19.2), (54, .bool (x29 && ((x3.2.2 : Int) == 0)))] (fun h30 => ?_) (fun h30 => ?_) ?_
    · refine sxo_take (os := _) rfl ?_
      refine sxo_isT (k := 51) rfl h30 ?_
      refine sxo_move rfl rfl rfl ?_
      refine sxo_eql rfl rfl rfl rfl ?_
      refine sxo_pick (b := true) rfl rfl rfl rfl ?_
      refine sxo_again (d := 54) (v := .bool (x29 && ((x3.2.2 : Int) == 0))) rfl (by rw [h30]; simp only [Bool.true_and]) ?_
      refine sxo_nil ?_
      exact sxq_case (lk_cons rfl (lk_cons rfl (lk_cons rfl (lk_cons rfl (lk_cons rfl (lk_cons rfl (lk_cons rfl lk_nil)))))))
    · refine sxo_take (os := _) rfl ?_
      refine sxo_isF (k := 51) rfl h30 ?_
      refine sxo_skip rfl rfl rfl ?_
      refine sxo_skip rfl rfl rfl ?_
      refine sxo_pick (b := false) rfl rfl rfl rfl ?_
      refine sxo_again (d := 54) (v := .bool (x29 && ((x3.2.2 : Int) == 0))) rfl (by rw [h30]; simp only [Bool.false_and]) ?_
      refine sxo_nil ?_
      exact sxq_case (lk_cons rfl (lk_cons rfl (lk_cons rfl (lk_cons rfl (lk_cons rfl (lk_cons rfl (lk_cons rfl lk_nil)))))))
    refine sxo_take (os := _) rfl ?_
    refine sxo_move rfl rfl rfl ?_
    refine sxo_join 4 (fun ((x35, _) : (Bool × Unit)) => [(5, .int .i64 x8.2), (6, .int .i64 x11.1), (7, .int .i64 x11.2), (9, .int .i64 x14.2), (11, .int .i64 x19.2), (59, .bool x35)]) (fun ((x35, _) : (Bool × Unit)) => []) (fun ((x35, _) : (Bool × Unit)) => []) (fun ((x35, _) : (Bool × Unit)) => []) (fun ((x35, _) : (Bool × Unit)) => M_L_runsBegun_j2 F x8 x11 x14 x19 x35) ?_ ?_
    · refine sxo_take (os := _) rfl ?_
      refine sxo_if (fun h31 => ?_) (fun h31 => ?_)
      · refine sxo_isT (k := 55) rfl h31 ?_
        refine sxo_move rfl rfl rfl ?_
        refine sxo_slit (vs := [.int .i64 1, .int .i64 3, .int .i64 4, .int .i64 5, .int .i64 8, .int .i64 9]) (ys := ([1, 3, 4, 5, 8, 9] : List Int)) (eI_ok .i64) (by decide) rfl Try.underlying22 tf3 rfl rfl rfl rfl rfl (by decide) (fun a41 c42 => ?_)
        refine sxo_call ent25 rfl rfl rfl (fun x43 e43 => C_R_SameInts F x8.1 a9 c10 ([1, 3, 4, 5, 8, 9] : List Int) a41 c42 x43 e43) (.consR 1 (Ro (eI .i64) 3 1 (.slice a9 x8.1.length c10) x8.1) rfl (.consR 0 (Ro (eI .i64) 3 1 (.slice a41 ([1, 3, 4, 5, 8, 9] : List Int).length c42) ([1, 3, 4, 5, 8, 9] : List Int)) rfl .nil)) (fun x43 e43 => ?_)
        intro _
        refine sxo_pick (b := true) rfl rfl rfl rfl ?_
        refine sxo_nil ?_
        exact sxq_meetP (x43, ()) (lk_cons rfl (lk_cons rfl (lk_cons rfl (lk_cons rfl (lk_cons rfl (lk_cons rfl lk_nil)))))) .nil .nil fk_nil
      · refine sxo_isF (k := 55) rfl h31 ?_
        refine sxo_skip rfl rfl rfl ?_
        refine sxo_skip rfl rfl rfl ?_
        refine sxo_skip rfl rfl rfl ?_
        refine sxo_pick (b := false) rfl rfl rfl rfl ?_
        refine sxo_nil ?_
        exact sxq_meetP (false, ()) (lk_cons rfl (lk_cons rfl (lk_cons rfl (lk_cons rfl (lk_cons rfl (lk_cons rfl lk_nil)))))) .nil .nil fk_nil
    · rintro ⟨x35, _⟩
      try dsimp only
      refine sxo_take (os := _) rfl ?_
      refine sxo_move rfl rfl rfl ?_
      refine sxo_case 3 x35 [(6, .int .i64 x11.1), (7, .int .i64 x11.2), (9, .int .i64 x14.2), (11, .int .i64 x19.2), (63, .bool (x35 && ((x8.2 : Int) == 0)))] (fun h36 => ?_) (fun h36 => ?_) ?_
      · refine sxo_take (os := _) rfl ?_
        refine sxo_isT (k := 60) rfl h36 ?_
        refine sxo_move rfl rfl rfl ?_
        refine sxo_eql rfl rfl rfl rfl ?_
        refine sxo_pick (b := true) rfl rfl rfl rfl ?_
        refine sxo_again (d := 63) (v := .bool (x35 && ((x8.2 : Int) == 0))) rfl (by rw [h36]; simp only [Bool.true_and]) ?_
        refine sxo_nil ?_
        exact sxq_case (lk_cons rfl (lk_cons rfl (lk_cons rfl (lk_cons rfl (lk_cons rfl lk_nil)))))
      · refine sxo_take (os := _) rfl ?_
        refine sxo_isF (k := 60) rfl h36 ?_
        refine sxo_skip rfl rfl rfl ?_
        refine sxo_skip rfl rfl rfl ?_
        refine sxo_pick (b := false) rfl rfl rfl rfl ?_
        refine sxo_again (d := 63) (v := .bool (x35 && ((x8.2 : Int) == 0))) rfl (by rw [h36]; simp only [Bool.false_and]) ?_
        refine sxo_nil ?_
        exact sxq_case (lk_cons rfl (lk_cons rfl (lk_cons rfl (lk_cons rfl (lk_cons rfl lk_nil)))))
      refine sxo_take (os := _) rfl ?_
      refine sxo_move rfl rfl rfl ?_
      refine sxo_case 3 (x35 && ((x8.2 : Int) == 0)) [(7, .int .i64 x11.2), (9, .int .i64 x14.2), (11, .int .i64 x19.2), (67, .bool ((x35 && ((x8.2 : Int) == 0)) && ((x11.1 : Int) == 3)))] (fun h37 => ?_) (fun h37 => ?_) ?_
      · refine sxo_take (os := _) rfl ?_
        refine sxo_isT (k := 64) rfl h37 ?_
        refine sxo_move rfl rfl rfl ?_
        refine sxo_eql rfl rfl rfl rfl ?_
        refine sxo_pick (b := true) rfl rfl rfl rfl ?_
        refine sxo_again (d := 67) (v := .bool ((x35 && ((x8.2 : Int) == 0)) && ((x11.1 : Int) == 3))) rfl (by rw [h37]; simp only [Bool.true_and]) ?_
        refine sxo_nil ?_
        exact sxq_case (lk_cons rfl (lk_cons rfl (lk_cons rfl (lk_cons rfl lk_nil))))
      · refine sxo_take (os := _) rfl ?_
        refine sxo_isF (k := 64) rfl h37 ?_
        refine sxo_skip rfl rfl rfl ?_
        refine sxo_skip rfl rfl rfl ?_
        refine sxo_pick (b := false) rfl rfl rfl rfl ?_
        refine sxo_again (d := 67) (v := .bool ((x35 && ((x8.2 : Int) == 0)) && ((x11.1 : Int) == 3))) rfl (by rw [h37]; simp only [Bool.false_and]) ?_
        refine sxo_nil ?_
        exact sxq_case (lk_cons rfl (lk_cons rfl (lk_cons rfl (lk_cons rfl lk_nil))))
      refine sxo_take (os := _) rfl ?_
      refine sxo_move rfl rfl rfl ?_
      refine sxo_case 3 ((x35 && ((x8.2 : Int) == 0)) && ((x11.1 : Int) == 3)) [(9, .int .i64 x14.2), (11, .int .i64 x19.2), (71, .bool (((x35 && ((x8.2 : Int) == 0)) && ((x11.1 : Int) == 3)) && ((x11.2 : Int) == 0)))] (fun h38 => ?_) (fun h38 => ?_) ?_
      · refine sxo_take (os := _) rfl ?_
        refine sxo_isT (k := 68) rfl h38 ?_
        refine sxo_move rfl rfl rfl ?_
        refine sxo_eql rfl rfl rfl rfl ?_
        refine sxo_pick (b := true) rfl rfl rfl rfl ?_
        refine sxo_again (d := 71) (v := .bool (((x35 && ((x8.2 : Int) == 0)) && ((x11.1 : Int) == 3)) && ((x11.2 : Int) == 0))) rfl (by rw [h38]; simp only [Bool.true_and]) ?_
        refine sxo_nil ?_
        exact sxq_case (lk_cons rfl (lk_cons rfl (lk_cons rfl lk_nil)))
      · refine sxo_take (os := _) rfl ?_
        refine sxo_isF (k := 68) rfl h38 ?_
        refine sxo_skip rfl rfl rfl ?_
        refine sxo_skip rfl rfl rfl ?_
        refine sxo_pick (b := false) rfl rfl rfl rfl ?_
        refine sxo_again (d := 71) (v := .bool (((x35 && ((x8.2 : Int) == 0)) && ((x11.1 : Int) == 3)) && ((x11.2 : Int) == 0))) rfl (by rw [h38]; simp only [Bool.false_and]) ?_
        refine sxo_nil ?_
        exact sxq_case (lk_cons rfl (lk_cons rfl (lk_cons rfl lk_nil)))
      refine sxo_take (os := _) rfl ?_
      refine sxo_move rfl rfl rfl ?_
      refine sxo_case 3 (((x35 && ((x8.2 : Int) == 0)) && ((x11.1 : Int) == 3)) && ((x11.2 : Int) == 0)) [(11, .int .i64 x19.2), (75, .bool ((((x35 && ((x8.2 : Int) == 0)) && ((x11.1 : Int) == 3)) && ((x11.2 : Int) == 0)) && ((x14.2 : Int) == 4)))] (fun h39 => ?_) (fun h39 => ?_) ?_
      · refine sxo_take (os := _) rfl ?_
        refine sxo_isT (k := 72) rfl h39 ?_
        refine sxo_move rfl rfl rfl ?_
        refine sxo_eql rfl rfl rfl rfl ?_
        refine sxo_pick (b := true) rfl rfl rfl rfl ?_
        refine sxo_again (d := 75) (v := .bool ((((x35 && ((x8.2 : Int) == 0)) && ((x11.1 : Int) == 3)) && ((x11.2 : Int) == 0)) && ((x14.2 : Int) == 4))) rfl (by rw [h39]; simp only [Bool.true_and]) ?_
        refine sxo_nil ?_
        exact sxq_case (lk_cons rfl (lk_cons rfl lk_nil))
      · refine sxo_take (os := _) rfl ?_
        refine sxo_isF (k := 72) rfl h39 ?_
        refine sxo_skip rfl rfl rfl ?_
        refine sxo_skip rfl rfl rfl ?_
        refine sxo_pick (b := false) rfl rfl rfl rfl ?_
        refine sxo_again (d := 75) (v := .bool ((((x35 && ((x8.2 : Int) == 0)) && ((x11.1 : Int) == 3)) && ((x11.2 : Int) == 0)) && ((x14.2 : Int) == 4))) rfl (by rw [h39]; simp only [Bool.false_and]) ?_
        refine sxo_nil ?_
        exact sxq_case (lk_cons rfl (lk_cons rfl lk_nil))
      refine sxo_take (os := _) rfl ?_
      refine sxo_move rfl rfl rfl ?_
      refine sxo_case 3 ((((x35 && ((x8.2 : Int) == 0)) && ((x11.1 : Int) == 3)) && ((x11.2 : Int) == 0)) && ((x14.2 : Int) == 4)) [(79, .bool (((((x35 && ((x8.2 : Int) == 0)) && ((x11.1 : Int) == 3)) && ((x11.2 : Int) == 0)) && ((x14.2 : Int) == 4)) && ((x19.2 : Int) == 6)))] (fun h40 => ?_) (fun h40 => ?_) ?_
      · refine sxo_take (os := _) rfl ?_
        refine sxo_isT (k := 76) rfl h40 ?_
        refine sxo_move rfl rfl rfl ?_
        refine sxo_eql rfl rfl rfl rfl ?_
        refine sxo_pick (b := true) rfl rfl rfl rfl ?_
        refine sxo_again (d := 79) (v := .bool (((((x35 && ((x8.2 : Int) == 0)) && ((x11.1 : Int) == 3)) && ((x11.2 : Int) == 0)) && ((x14.2 : Int) == 4)) && ((x19.2 : Int) == 6))) rfl (by rw [h40]; simp only [Bool.true_and]) ?_
        refine sxo_nil ?_
        exact sxq_case (lk_cons rfl lk_nil)
      · refine sxo_take (os := _) rfl ?_
        refine sxo_isF (k := 76) rfl h40 ?_
        refine sxo_skip rfl rfl rfl ?_
        refine sxo_skip rfl rfl rfl ?_
        refine sxo_pick (b := false) rfl rfl rfl rfl ?_
        refine sxo_again (d := 79) (v := .bool (((((x35 && ((x8.2 : Int) == 0)) && ((x11.1 : Int) == 3)) && ((x11.2 : Int) == 0)) && ((x14.2 : Int) == 4)) && ((x19.2 : Int) == 6))) rfl (by rw [h40]; simp only [Bool.false_and]) ?_
        refine sxo_nil ?_
        exact sxq_case (lk_cons rfl lk_nil)
      refine sxo_take (os := _) rfl ?_
      refine sxo_assign rfl rfl rfl ?_
      refine sxo_nil ?_
      refine sxq_next ?_
      refine sxc_ret ?_
      exact sxq_doneP () (.inl rfl) (res1 rfl rfl) (fun h => by subst h; rfl) (fun h => by subst h; exact .nil)

set_option maxHeartbeats 4000000 in
theorem C_L_RunsTell (F : Nat) (x1 : List Int) (a2 : Option Addr) (c3 : Nat) (x4 : Int) (x5 : List (Int × Int)) (a6 : Option Addr) (c7 : Nat) (x8 : List Int) (a9 : Option Addr) (c10 : Nat) (r : Bool) (hm : M_L_RunsTell F x1 x4 x5 x8 = some r) :
    Pure Try.prog 9 [.slice a2 x1.length c3, .int .i64 x4, .slice a6 x5.length c7, .slice a9 x8.length c10] [Sl (eI .i64) 1 (.slice a2 x1.length c3) x1, Sl eS60 2 (.slice a6 x5.length c7) x5, Sl (eI .i64) 1 (.slice a9 x8.length c10) x8] Unit (fun _ => .bool r) (fun _ => []) (fun _ => []) := by
  refine pure_of Try.func9 rfl Try.ntmps9 rfl hm (fun w => ?_)
  refine sxc_env (l' := [(0, .slice a2 x1.length c3), (1, .int .i64 x4), (2, .slice a6 x5.length c7), (3, .slice a9 x8.length c10)]) rfl ?_
  refine sxc_seq ?_
  refine sxc_region ?_
  refine sxo_assign rfl rfl rfl ?_
  refine sxo_nil ?_
  refine sxq_next ?_
  refine sxc_seq ?_
  refine sxc_region ?_
  refine sxo_move rfl rfl rfl ?_
  refine sxo_move rfl rfl rfl ?_
  refine sxo_call ent31 rfl rfl rfl (fun x11 e11 => C_runs_Split F x1 a2 c3 x4 x11 e11) (.consF 0 rfl .nil) (fun x11 e11 => ?_)
  rintro ⟨⟨a12, c13⟩, ⟨a14, c15⟩⟩
  refine sxo_move rfl rfl rfl ?_
  refine sxo_extract rfl rfl rfl rfl ?_
  refine sxo_extract rfl rfl rfl rfl ?_
  refine sxo_extract rfl rfl rfl rfl ?_
  refine sxo_assign rfl rfl rfl ?_
  refine sxo_assign rfl rfl rfl ?_
  refine sxo_assign rfl rfl rfl ?_
  refine sxo_nil ?_
  refine sxq_next ?_
  refine sxc_seq ?_
  refine sxc_region ?_
  refine sxo_move rfl rfl rfl ?_
  refine sxo_move rfl rfl rfl ?_
  refine sxo_call ent32 rfl rfl rfl (fun x16 e16 => C_runs_Merge F x5 a6 c7 x8 a9 c10 x16 e16) (.consF 1 rfl (.consF 2 rfl .nil)) (fun x16 e16 => ?_)
  rintro ⟨a17, c18⟩
  refine sxo_move rfl rfl rfl ?_
  refine sxo_extract rfl rfl rfl rfl ?_
  refine sxo_extract rfl rfl rfl rfl ?_
  refine sxo_assign rfl rfl rfl ?_
  refine sxo_assign rfl rfl rfl ?_
  refine sxo_nil ?_
  refine sxq_next ?_
  refine sxc_seq ?_
  refine sxc_region ?_
  refine sxo_move rfl rfl rfl ?_
  refine sxo_call ent33 rfl rfl rfl (fun x19 e19 => C_runs_Count F x5 a6 c7 x19 e19) (.consF 1 rfl .nil) (fun x19 e19 => ?_)
  intro _
  refine sxo_move rfl rfl rfl ?_
  refine sxo_extract rfl rfl rfl rfl ?_
  refine sxo_extract rfl rfl rfl rfl ?_
  refine sxo_assign rfl rfl rfl ?_
  refine sxo_assign rfl rfl rfl ?_
  refine sxo_nil ?_
  refine sxq_next ?_
  refine sxc_seq ?_
  refine sxc_region ?_
  refine sxo_move rfl rfl rfl ?_
  refine sxo_call ent18 rfl rfl rfl (fun x20 e20 => C_R_RisingCheck F x1 a2 c3 x20 e20) (.consF 0 rfl .nil) (fun x20 e20 => ?_)
  intro _
  refine sxo_assign rfl rfl rfl ?_
  refine sxo_nil ?_
  refine sxq_next ?_
  refine sxc_join (fun ((x26, _) : (Int × Unit)) => [(0, .slice a2 x1.length c3), (1, .int .i64 x4), (2, .slice a6 x5.length c7), (3, .slice a9 x8.length c10), (9, .slice a12 x11.1.length c13), (10, .slice a14 x11.2.1.length c15), (11, .int .i64 x11.2.2), (12, .slice a17 x16.1.length c18), (13, .int .i64 x16.2), (14, .int .i64 x19.1), (15, .int .i64 x19.2), (16, .int .i64 x26)]) (fun ((x26, _) : (Int × Unit)) => []) (fun ((x26, _) : (Int × Unit)) => [Ro eS60 60 2 (.slice a12 x11.1.length c13) x11.1, Ro (eI .i64) 3 1 (.slice a14 x11.2.1.length c15) x11.2.1, Ro (eI .i64) 3 1 (.slice a17 x16.1.length c18) x16.1]) (fun ((x26, _) : (Int × Unit)) => [Sl (eI .i64) 1 (.slice a2 x1.length c3) x1, Sl eS60 2 (.slice a6 x5.length c7) x5, Sl (eI .i64) 1 (.slice a9 x8.length c10) x8]) (fun ((x26, _) : (Int × Unit)) => M_L_RunsTell_j2 F x1 x4 x5 x8 x11 x16 x19 x26) ?_ ?_
  · refine sxc_seq ?_
    refine sxc_region ?_
    refine sxo_move rfl rfl rfl ?_
    refine sxo_eql rfl rfl rfl rfl ?_
    refine sxo_move rfl rfl rfl ?_
    refine sxo_join 7 (fun ((x73, _) : (Bool × Unit)) => [(0, .slice a2 x1.length c3), (1, .int .i64 x4), (2, .slice a6 x5.length c7), (3, .slice a9 x8.length c10), (9, .slice a12 x11.1.length c13), (10, .slice a14 x11.2.1.length c15), (11, .int .i64 x11.2.2), (12, .slice a17 x16.1.length c18), (13, .int .i64 x16.2), (14, .int .i64 x19.1), (15, .int .i64 x19.2), (16, .int .i64 x20), (52, .bool x73)]) (fun ((x73, _) : (Bool × Unit)) => []) (fun ((x73, _) : (Bool × Unit)) => [Ro eS60 60 2 (.slice a12 x11.1.length c13) x11.1, Ro (eI .i64) 3 1 (.slice a14 x11.2.1.length c15) x11.2.1, Ro (eI .i64) 3 1 (.slice a17 x16.1.length c18) x16.1]) (fun ((x73, _) : (Bool × Unit)) => [Sl (eI .i64) 1 (.slice a2 x1.length c3) x1, Sl eS60 2 (.slice a6 x5.length c7) x5, Sl (eI .i64) 1 (.slice a9 x8.length c10) x8]) (fun ((x73, _) : (Bool × Unit)) => M_L_RunsTell_j7 F x1 x4 x5 x8 x11 x16 x19 x20 x73) ?_ ?_
    · refine sxo_take (os := _) rfl ?_
      refine sxo_if (fun h71 => ?_) (fun h71 => ?_)
      · refine sxo_isT (k := 45) rfl h71 ?_
        refine sxo_move rfl rfl rfl ?_
        refine sxo_lss rfl rfl rfl rfl ?_
        refine sxo_move rfl rfl rfl ?_
        refine sxo_case 3 (decide (x4 < 2)) [(0, .slice a2 x1.length c3), (1, .int .i64 x4), (2, .slice a6 x5.length c7), (3, .slice a9 x8.length c10), (9, .slice a12 x11.1.length c13), (10, .slice a14 x11.2.1.length c15), (11, .int .i64 x11.2.2), (12, .slice a17 x16.1.length c18), (13, .int .i64 x16.2), (14, .int .i64 x19.1), (15, .int .i64 x19.2), (16, .int .i64 x20), (45, .bool true), (51, .bool ((decide (x4 < 2)) || (decide (300 < x4))))] (fun h75 => ?_) (fun h75 => ?_) ?_
        · refine sxo_take (os := _) rfl ?_
          refine sxo_isT (k := 48) rfl h75 ?_
          refine sxo_skip rfl rfl rfl ?_
          refine sxo_skip rfl rfl rfl ?_
          refine sxo_pick (b := true) rfl rfl rfl rfl ?_
          refine sxo_again (d := 51) (v := .bool ((decide (x4 < 2)) || (decide (300 < x4)))) rfl (by rw [h75]; simp only [Bool.true_or]) ?_
          refine sxo_nil ?_
          exact sxq_case (lk_cons rfl (lk_cons rfl (lk_cons rfl (lk_cons rfl (lk_cons rfl (lk_cons rfl (lk_cons rfl (lk_cons rfl (lk_cons rfl (lk_cons rfl (lk_cons rfl (lk_cons rfl (lk_cons rfl (lk_cons rfl lk_nil))))))))))))))
        · refine sxo_take (os := _) rfl ?_
          refine sxo_isF (k := 48) rfl h75 ?_
          refine sxo_move rfl rfl rfl ?_
          refine sxo_gtr rfl rfl rfl rfl ?_
          refine sxo_pick (b := false) rfl rfl rfl rfl ?_
          refine sxo_again (d := 51) (v := .bool ((decide (x4 < 2)) || (decide (300 < x4)))) rfl (by rw [h75]; simp only [Bool.false_or]) ?_
          refine sxo_nil ?_
          exact sxq_case (lk_cons rfl (lk_cons rfl (lk_cons rfl (lk_cons rfl (lk_cons rfl (lk_cons rfl (lk_cons rfl (lk_cons rfl (lk_cons rfl (lk_cons rfl (lk_cons rfl (lk_cons rfl (lk_cons rfl (lk_cons rfl lk_nil))))))))))))))
        refine sxo_take (os := _) rfl ?_
        refine sxo_pick (b := true) rfl rfl rfl rfl ?_
        refine sxo_nil ?_
        exact sxq_meetP (((decide (x4 < 2)) || (decide (300 < x4))), ()) (lk_cons rfl (lk_cons rfl (lk_cons rfl (lk_cons rfl (lk_cons rfl (lk_cons rfl (lk_cons rfl (lk_cons rfl (lk_cons rfl (lk_cons rfl (lk_cons rfl (lk_cons rfl (lk_cons rfl lk_nil))))))))))))) .nil (.cons 1 rfl (.cons 1 rfl (.cons 0 rfl .nil))) (fk_cons 0 rfl (fk_cons 1 rfl (fk_cons 2 rfl fk_nil)))
      · refine sxo_isF (k := 45) rfl h71 ?_
        refine sxo_skip rfl rfl rfl ?_
        refine sxo_skip rfl rfl rfl ?_
        refine sxo_skip rfl rfl rfl ?_
        refine sxo_skip rfl rfl rfl ?_
        refine sxo_skip rfl rfl rfl ?_
        refine sxo_skip rfl rfl rfl ?_
        refine sxo_pick (b := false) rfl rfl rfl rfl ?_
        refine sxo_nil ?_
        exact sxq_meetP (false, ()) (lk_cons rfl (lk_cons rfl (lk_cons rfl (lk_cons rfl (lk_cons rfl (lk_cons rfl (lk_cons rfl (lk_cons rfl (lk_cons rfl (lk_cons rfl (lk_cons rfl (lk_cons rfl (lk_cons rfl lk_nil))))))))))))) .nil (.cons 1 rfl (.cons 1 rfl (.cons 0 rfl .nil))) (fk_cons 0 rfl (fk_cons 1 rfl (fk_cons 2 rfl fk_nil)))
    · rintro ⟨x73, _⟩
      try dsimp only
      refine sxo_take (os := _) rfl ?_
      refine sxo_nil ?_
      refine sxq_next ?_
      refine sxc_if rfl (fun h74 => ?_) (fun h74 => ?_)
      · refine sxc_region ?_
        refine sxo_assign rfl rfl rfl ?_
        refine sxo_nil ?_
        exact sxq_meetP (3, ()) (lk_cons rfl (lk_cons rfl (lk_cons rfl (lk_cons rfl (lk_cons rfl (lk_cons rfl (lk_cons rfl (lk_cons rfl (lk_cons rfl (lk_cons rfl (lk_cons rfl (lk_cons rfl lk_nil)))))))))))) .nil (.cons 0 rfl (.cons 0 rfl (.cons 0 rfl .nil))) (fk_cons 0 rfl (fk_cons 1 rfl (fk_cons 2 rfl fk_nil)))
      · refine sxc_skip ?_
        exact sxq_meetP (x20, ()) (lk_cons rfl (lk_cons rfl (lk_cons rfl (lk_cons rfl (lk_cons rfl (lk_cons rfl (lk_cons rfl (lk_cons rfl (lk_cons rfl (lk_cons rfl (lk_cons rfl (lk_cons rfl lk_nil)))))))))))) .nil (.cons 0 rfl (.cons 0 rfl (.cons 0 rfl .nil))) (fk_cons 0 rfl (fk_cons 1 rfl (fk_cons 2 rfl fk_nil)))
  · rintro ⟨x26, _⟩
    try dsimp only
    refine sxc_seq ?_
    refine sxc_region ?_
    refine sxo_assign rfl rfl rfl ?_
    refine sxo_nil ?_
    refine sxq_next ?_
    refine sxc_seq ?_
    refine sxc_region ?_
    refine sxo_assign rfl rfl rfl ?_
    refine sxo_nil ?_
    refine sxq_next ?_
    refine sxc_join (fun (((x38, x41), (a36, c37, a39, c40)) : ((List (Int × Int) × List Int) × (Option Addr × Nat × Option Addr × Nat))) => [(2, .slice a6 x5.length c7), (3, .slice a9 x8.length c10), (9, .slice a12 x11.1.length c13), (10, .slice a14 x11.2.1.length c15), (11, .int .i64 x11.2.2), (12, .slice a17 x16.1.length c18), (13, .int .i64 x16.2), (14, .int .i64 x19.1), (15, .int .i64 x19.2), (16, .int .i64 x26), (17, .slice a36 x38.length c37), (18, .slice a39 x41.length c40)]) (fun (((x38, x41), (a36, c37, a39, c40)) : ((List (Int × Int) × List Int) × (Option Addr × Nat × Option Addr × Nat))) => []) (fun (((x38, x41), (a36, c37, a39, c40)) : ((List (Int × Int) × List Int) × (Option Addr × Nat × Option Addr × Nat))) => [Ro eS60 60 2 (.slice a12 x11.1.length c13) x11.1, Ro (eI .i64) 3 1 (.slice a14 x11.2.1.length c15) x11.2.1, Ro (eI .i64) 3 1 (.slice a17 x16.1.length c18) x16.1, Ro eS60 60 2 (.slice a36 x38.length c37) x38, Ro (eI .i64) 3 1 (.slice a39 x41.length c40) x41]) (fun (((x38, x41), (a36, c37, a39, c40)) : ((List (Int × Int) × List Int) × (Option Addr × Nat × Option Addr × Nat))) => [Sl eS60 2 (.slice a6 x5.length c7) x5, Sl (eI .i64) 1 (.slice a9 x8.length c10) x8]) (fun (((x38, x41), _) : ((List (Int × Int) × List Int) × (Option Addr × Nat × Option Addr × Nat))) => M_L_RunsTell_j3 F x5 x8 x11 x16 x19 x26 x38 x41) ?_ ?_
    · refine sxc_seq ?_
      refine sxc_region ?_
      refine sxo_move rfl rfl rfl ?_
      refine sxo_eql rfl rfl rfl rfl ?_
      refine sxo_nil ?_
      refine sxq_next ?_
      refine sxc_if rfl (fun h70 => ?_) (fun h70 => ?_)
      · refine sxc_region ?_
        refine sxo_move rfl rfl rfl ?_
        refine sxo_move rfl rfl rfl ?_
        refine sxo_call ent34 rfl rfl rfl (fun x65 e65 => C_R_RunsSplit F x1 a2 c3 x4 x65 e65) (.consF 0 rfl .nil) (fun x65 e65 => ?_)
        rintro ⟨⟨a66, c67⟩, ⟨a68, c69⟩⟩
        refine sxo_move rfl rfl rfl ?_
        refine sxo_extract rfl rfl rfl rfl ?_
        refine sxo_extract rfl rfl rfl rfl ?_
        refine sxo_assign rfl rfl rfl ?_
        refine sxo_assign rfl rfl rfl ?_
        refine sxo_nil ?_
        exact sxq_meetP ((x65.1, x65.2), (a66, c67, a68, c69)) (lk_cons rfl (lk_cons rfl (lk_cons rfl (lk_cons rfl (lk_cons rfl (lk_cons rfl (lk_cons rfl (lk_cons rfl (lk_cons rfl (lk_cons rfl (lk_cons rfl (lk_cons rfl lk_nil)))))))))))) .nil (.cons 2 rfl (.cons 2 rfl (.cons 2 rfl (.cons 0 rfl (.cons 0 rfl .nil))))) (fk_cons 1 rfl (fk_cons 2 rfl fk_nil))
      · refine sxc_skip ?_
        refine sxq_nilrow (Int × Int) eS60 60 2 ?_
        refine sxq_nilrow Int (eI .i64) 3 1 ?_
        exact sxq_meetP ((([] : List (Int × Int)), ([] : List Int)), (none, 0, none, 0)) (lk_cons rfl (lk_cons rfl (lk_cons rfl (lk_cons rfl (lk_cons rfl (lk_cons rfl (lk_cons rfl (lk_cons rfl (lk_cons rfl (lk_cons rfl (lk_cons rfl (lk_cons rfl lk_nil)))))))))))) .nil (.cons 2 rfl (.cons 2 rfl (.cons 2 rfl (.cons 1 rfl (.cons 0 rfl .nil))))) (fk_cons 1 rfl (fk_cons 2 rfl fk_nil))
    · rintro ⟨⟨x38, x41⟩, ⟨a36, c37, a39, c40⟩⟩
      try dsimp only
      refine sxc_seq ?_
      refine sxc_region ?_
      refine sxo_move rfl rfl rfl ?_
      refine sxo_move rfl rfl rfl ?_
      refine sxo_call ent35 rfl rfl rfl (fun x42 e42 => C_R_RunsMerge F x5 a6 c7 x8 a9 c10 x42 e42) (.consF 0 rfl (.consF 1 rfl .nil)) (fun x42 e42 => ?_)
      rintro ⟨a43, c44⟩
      refine sxo_move rfl rfl rfl ?_
      refine sxo_extract rfl rfl rfl rfl ?_
      refine sxo_extract rfl rfl rfl rfl ?_
      refine sxo_assign rfl rfl rfl ?_
      refine sxo_assign rfl rfl rfl ?_
      refine sxo_nil ?_
      refine sxq_next ?_
      refine sxc_seq ?_
      refine sxc_region ?_
      refine sxo_move rfl rfl rfl ?_
      refine sxo_nilrow' Int (eI .i64) 3 1 ?_
      refine sxo_call ent35 rfl rfl rfl (fun x45 e45 => C_R_RunsMerge F x5 a6 c7 ([] : List Int) none 0 x45 e45) (.consF 0 rfl (.consR 0 (Ro (eI .i64) 3 1 (.slice none ([] : List Int).length 0) ([] : List Int)) rfl .nil)) (fun x45 e45 => ?_)
      rintro ⟨a46, c47⟩
      refine sxo_move rfl rfl rfl ?_
      refine sxo_extract rfl rfl rfl rfl ?_
      refine sxo_extract rfl rfl rfl rfl ?_
      refine sxo_assign rfl rfl rfl ?_
      refine sxo_assign rfl rfl rfl ?_
      refine sxo_nil ?_
      refine sxq_next ?_
      refine sxc_seq ?_
      refine sxc_region ?_
      refine sxo_call ent36 rfl rfl rfl (fun x48 e48 => C_L_runsBegun F  x48 e48) .nil (fun x48 e48 => ?_)
      intro _
      refine sxo_move rfl rfl rfl ?_
      refine sxo_join 4 (fun ((x51, _) : (Bool × Unit)) => [(10, .slice a14 x11.2.1.length c15), (11, .int .i64 x11.2.2), (12, .slice a17 x16.1.length c18), (13, .int .i64 x16.2), (14, .int .i64 x19.1), (15, .int .i64 x19.2), (16, .int .i64 x26), (18, .slice a39 x41.length c40), (19, .slice a43 x42.1.length c44), (20, .int .i64 x42.2), (21, .slice a46 x45.1.length c47), (22, .int .i64 x45.2), (77, .bool x51)]) (fun ((x51, _) : (Bool × Unit)) => []) (fun ((x51, _) : (Bool × Unit)) => [Ro (eI .i64) 3 1 (.slice a14 x11.2.1.length c15) x11.2.1, Ro (eI .i64) 3 1 (.slice a17 x16.1.length c18) x16.1, Ro (eI .i64) 3 1 (.slice a39 x41.length c40) x41, Ro (eI .i64) 3 1 (.slice a43 x42.1.length c44) x42.1, Ro (eI .i64) 3 1 (.slice a46 x45.1.length c47) x45.1]) (fun ((x51, _) : (Bool × Unit)) => []) (fun ((x51, _) : (Bool × Unit)) => M_L_RunsTell_j4 F x11 x16 x19 x26 x41 x42 x45 x51) ?_ ?_
      · refine sxo_take (os := _) rfl ?_
        refine sxo_if (fun h49 => ?_) (fun h49 => ?_)
        · refine sxo_isT (k := 73) rfl h49 ?_
          refine sxo_move rfl rfl rfl ?_
          refine sxo_move rfl rfl rfl ?_
          refine sxo_call ent37 rfl rfl rfl (fun x64 e64 => C_R_SameRuns F x11.1 a12 c13 x38 a36 c37 x64 e64) (.consR 3 (Ro eS60 60 2 (.slice a12 x11.1.length c13) x11.1) rfl (.consR 6 (Ro eS60 60 2 (.slice a36 x38.length c37) x38) rfl .nil)) (fun x64 e64 => ?_)
          intro _
          refine sxo_pick (b := true) rfl rfl rfl rfl ?_
          refine sxo_nil ?_
          exact sxq_meetP (x64, ()) (lk_cons rfl (lk_cons rfl (lk_cons rfl (lk_cons rfl (lk_cons rfl (lk_cons rfl (lk_cons rfl (lk_cons rfl (lk_cons rfl (lk_cons rfl (lk_cons rfl (lk_cons rfl (lk_cons rfl lk_nil))))))))))))) .nil (.cons 4 rfl (.cons 4 rfl (.cons 5 rfl (.cons 2 rfl (.cons 0 rfl .nil))))) fk_nil
        · refine sxo_isF (k := 73) rfl h49 ?_
          refine sxo_skip rfl rfl rfl ?_
          refine sxo_skip rfl rfl rfl ?_
          refine sxo_skip rfl rfl rfl ?_
          refine sxo_pick (b := false) rfl rfl rfl rfl ?_
          refine sxo_nil ?_
          exact sxq_meetP (false, ()) (lk_cons rfl (lk_cons rfl (lk_cons rfl (lk_cons rfl (lk_cons rfl (lk_cons rfl (lk_cons rfl (lk_cons rfl (lk_cons rfl (lk_cons rfl (lk_cons rfl (lk_cons rfl (lk_cons rfl lk_nil))))))))))))) .nil (.cons 4 rfl (.cons 4 rfl (.cons 5 rfl (.cons 2 rfl (.cons 0 rfl .nil))))) fk_nil
      · rintro ⟨x51, _⟩
        try dsimp only
        refine sxo_take (os := _) rfl ?_
        refine sxo_move rfl rfl rfl ?_
        refine sxo_join 4 (fun ((x54, _) : (Bool × Unit)) => [(11, .int .i64 x11.2.2), (12, .slice a17 x16.1.length c18), (13, .int .i64 x16.2), (14, .int .i64 x19.1), (15, .int .i64 x19.2), (16, .int .i64 x26), (19, .slice a43 x42.1.length c44), (20, .int .i64 x42.2), (21, .slice a46 x45.1.length c47), (22, .int .i64 x45.2), (82, .bool x54)]) (fun ((x54, _) : (Bool × Unit)) => []) (fun ((x54, _) : (Bool × Unit)) => [Ro (eI .i64) 3 1 (.slice a17 x16.1.length c18) x16.1, Ro (eI .i64) 3 1 (.slice a43 x42.1.length c44) x42.1, Ro (eI .i64) 3 1 (.slice a46 x45.1.length c47) x45.1]) (fun ((x54, _) : (Bool × Unit)) => []) (fun ((x54, _) : (Bool × Unit)) => M_L_RunsTell_j5 F x11 x16 x19 x26 x42 x45 x54) ?_ ?_
        · refine sxo_take (os := _) rfl ?_
          refine sxo_if (fun h52 => ?_) (fun h52 => ?_)
          · refine sxo_isT (k := 78) rfl h52 ?_
            refine sxo_move rfl rfl rfl ?_
            refine sxo_move rfl rfl rfl ?_
            refine sxo_call ent25 rfl rfl rfl (fun x63 e63 => C_R_SameInts F x11.2.1 a14 c15 x41 a39 c40 x63 e63) (.consR 0 (Ro (eI .i64) 3 1 (.slice a14 x11.2.1.length c15) x11.2.1) rfl (.consR 2 (Ro (eI .i64) 3 1 (.slice a39 x41.length c40) x41) rfl .nil)) (fun x63 e63 => ?_)
            intro _
            refine sxo_pick (b := true) rfl rfl rfl rfl ?_
            refine sxo_nil ?_
            exact sxq_meetP (x63, ()) (lk_cons rfl (lk_cons rfl (lk_cons rfl (lk_cons rfl (lk_cons rfl (lk_cons rfl (lk_cons rfl (lk_cons rfl (lk_cons rfl (lk_cons rfl (lk_cons rfl lk_nil))))))))))) .nil (.cons 1 rfl (.cons 2 rfl (.cons 2 rfl .nil))) fk_nil
          · refine sxo_isF (k := 78) rfl h52 ?_
            refine sxo_skip rfl rfl rfl ?_
            refine sxo_skip rfl rfl rfl ?_
            refine sxo_skip rfl rfl rfl ?_
            refine sxo_pick (b := false) rfl rfl rfl rfl ?_
            refine sxo_nil ?_
            exact sxq_meetP (false, ()) (lk_cons rfl (lk_cons rfl (lk_cons rfl (lk_cons rfl (lk_cons rfl (lk_cons rfl (lk_cons rfl (lk_cons rfl (lk_cons rfl (lk_cons rfl (lk_cons rfl lk_nil))))))))))) .nil (.cons 1 rfl (.cons 2 rfl (.cons 2 rfl .nil))) fk_nil
        · rintro ⟨x54, _⟩
          try dsimp only
          refine sxo_take (os := _) rfl ?_
          refine sxo_move rfl rfl rfl ?_
          refine sxo_case 4 x54 [(12, .slice a17 x16.1.length c18), (13, .int .i64 x16.2), (14, .int .i64 x19.1), (15, .int .i64 x19.2), (19, .slice a43 x42.1.length c44), (20, .int .i64 x42.2), (21, .slice a46 x45.1.length c47), (22, .int .i64 x45.2), (87, .bool (x54 && ((x11.2.2 : Int) == x26)))] (fun h55 => ?_) (fun h55 => ?_) ?_
          · refine sxo_take (os := _) rfl ?_
            refine sxo_isT (k := 83) rfl h55 ?_
            refine sxo_move rfl rfl rfl ?_
            refine sxo_move rfl rfl rfl ?_
            refine sxo_eql rfl rfl rfl rfl ?_
            refine sxo_pick (b := true) rfl rfl rfl rfl ?_
            refine sxo_again (d := 87) (v := .bool (x54 && ((x11.2.2 : Int) == x26))) rfl (by rw [h55]; simp only [Bool.true_and]) ?_
            refine sxo_nil ?_
            exact sxq_case (lk_cons rfl (lk_cons rfl (lk_cons rfl (lk_cons rfl (lk_cons rfl (lk_cons rfl (lk_cons rfl (lk_cons rfl (lk_cons rfl lk_nil)))))))))
          · refine sxo_take (os := _) rfl ?_
            refine sxo_isF (k := 83) rfl h55 ?_
            refine sxo_skip rfl rfl rfl ?_
            refine sxo_skip rfl rfl rfl ?_
            refine sxo_skip rfl rfl rfl ?_
            refine sxo_pick (b := false) rfl rfl rfl rfl ?_
            refine sxo_again (d := 87) (v := .bool (x54 && ((x11.2.2 : Int) == x26))) rfl (by rw [h55]; simp only [Bool.false_and]) ?_
            refine sxo_nil ?_
            exact sxq_case (lk_cons rfl (lk_cons rfl (lk_cons rfl (lk_cons rfl (lk_cons rfl (lk_cons rfl (lk_cons rfl (lk_cons rfl (lk_cons rfl lk_nil)))))))))
          refine sxo_take (os := _) rfl ?_
          refine sxo_move rfl rfl rfl ?_
          refine sxo_join 4 (fun ((x58, _) : (Bool × Unit)) => [(13, .int .i64 x16.2), (14, .int .i64 x19.1), (15, .int .i64 x19.2), (20, .int .i64 x42.2), (21, .slice a46 x45.1.length c47), (22, .int .i64 x45.2), (92, .bool x58)]) (fun ((x58, _) : (Bool × Unit)) => []) (fun ((x58, _) : (Bool × Unit)) => [Ro (eI .i64) 3 1 (.slice a46 x45.1.length c47) x45.1]) (fun ((x58, _) : (Bool × Unit)) => []) (fun ((x58, _) : (Bool × Unit)) => M_L_RunsTell_j6 F x16 x19 x42 x45 x58) ?_ ?_
          · refine sxo_take (os := _) rfl ?_
            refine sxo_if (fun h56 => ?_) (fun h56 => ?_)
            · refine sxo_isT (k := 88) rfl h56 ?_
              refine sxo_move rfl rfl rfl ?_
              refine sxo_move rfl rfl rfl ?_
              refine sxo_call ent25 rfl rfl rfl (fun x62 e62 => C_R_SameInts F x16.1 a17 c18 x42.1 a43 c44 x62 e62) (.consR 0 (Ro (eI .i64) 3 1 (.slice a17 x16.1.length c18) x16.1) rfl (.consR 1 (Ro (eI .i64) 3 1 (.slice a43 x42.1.length c44) x42.1) rfl .nil)) (fun x62 e62 => ?_)
              intro _
              refine sxo_pick (b := true) rfl rfl rfl rfl ?_
              refine sxo_nil ?_
              exact sxq_meetP (x62, ()) (lk_cons rfl (lk_cons rfl (lk_cons rfl (lk_cons rfl (lk_cons rfl (lk_cons rfl (lk_cons rfl lk_nil))))))) .nil (.cons 2 rfl .nil) fk_nil
            · refine sxo_isF (k := 88) rfl h56 ?_
              refine sxo_skip rfl rfl rfl ?_
              refine sxo_skip rfl rfl rfl ?_
              refine sxo_skip rfl rfl rfl ?_
              refine sxo_pick (b := false) rfl rfl rfl rfl ?_
              refine sxo_nil ?_
              exact sxq_meetP (false, ()) (lk_cons rfl (lk_cons rfl (lk_cons rfl (lk_cons rfl (lk_cons rfl (lk_cons rfl (lk_cons rfl lk_nil))))))) .nil (.cons 2 rfl .nil) fk_nil
          · rintro ⟨x58, _⟩
            try dsimp only
            refine sxo_take (os := _) rfl ?_
            refine sxo_move rfl rfl rfl ?_
            refine sxo_case 4 x58 [(14, .int .i64 x19.1), (15, .int .i64 x19.2), (21, .slice a46 x45.1.length c47), (22, .int .i64 x45.2), (97, .bool (x58 && ((x16.2 : Int) == x42.2)))] (fun h59 => ?_) (fun h59 => ?_) ?_
            · refine sxo_take (os := _) rfl ?_
              refine sxo_isT (k := 93) rfl h59 ?_
              refine sxo_move rfl rfl rfl ?_
              refine sxo_move rfl rfl rfl ?_
              refine sxo_eql rfl rfl rfl rfl ?_
              refine sxo_pick (b := true) rfl rfl rfl rfl ?_
              refine sxo_again (d := 97) (v := .bool (x58 && ((x16.2 : Int) == x42.2))) rfl (by rw [h59]; simp only [Bool.true_and]) ?_
              refine sxo_nil ?_
              exact sxq_case (lk_cons rfl (lk_cons rfl (lk_cons rfl (lk_cons rfl (lk_cons rfl lk_nil)))))
            · refine sxo_take (os := _) rfl ?_
              refine sxo_isF (k := 93) rfl h59 ?_
              refine sxo_skip rfl rfl rfl ?_
              refine sxo_skip rfl rfl rfl ?_
              refine sxo_skip rfl rfl rfl ?_
              refine sxo_pick (b := false) rfl rfl rfl rfl ?_
              refine sxo_again (d := 97) (v := .bool (x58 && ((x16.2 : Int) == x42.2))) rfl (by rw [h59]; simp only [Bool.false_and]) ?_
              refine sxo_nil ?_
              exact sxq_case (lk_cons rfl (lk_cons rfl (lk_cons rfl (lk_cons rfl (lk_cons rfl lk_nil)))))
            refine sxo_take (os := _) rfl ?_
            refine sxo_move rfl rfl rfl ?_
            refine sxo_case 5 (x58 && ((x16.2 : Int) == x42.2)) [(15, .int .i64 x19.2), (22, .int .i64 x45.2), (103, .bool ((x58 && ((x16.2 : Int) == x42.2)) && ((x19.1 : Int) == (x45.1.length : Int))))] (fun h60 => ?_) (fun h60 => ?_) ?_
            · refine sxo_take (os := _) rfl ?_
              refine sxo_isT (k := 98) rfl h60 ?_
              refine sxo_move rfl rfl rfl ?_
              refine sxo_move rfl rfl rfl ?_
              refine sxo_len rfl Try.underlying22 rfl rfl ?_
              refine sxo_eql rfl rfl rfl rfl ?_
              refine sxo_pick (b := true) rfl rfl rfl rfl ?_
              refine sxo_again (d := 103) (v := .bool ((x58 && ((x16.2 : Int) == x42.2)) && ((x19.1 : Int) == (x45.1.length : Int)))) rfl (by rw [h60]; simp only [Bool.true_and]) ?_
              refine sxo_nil ?_
              exact sxq_case (lk_cons rfl (lk_cons rfl (lk_cons rfl lk_nil)))
            · refine sxo_take (os := _) rfl ?_
              refine sxo_isF (k := 98) rfl h60 ?_
              refine sxo_skip rfl rfl rfl ?_
              refine sxo_skip rfl rfl rfl ?_
              refine sxo_skip rfl rfl rfl ?_
              refine sxo_skip rfl rfl rfl ?_
              refine sxo_pick (b := false) rfl rfl rfl rfl ?_
              refine sxo_again (d := 103) (v := .bool ((x58 && ((x16.2 : Int) == x42.2)) && ((x19.1 : Int) == (x45.1.length : Int)))) rfl (by rw [h60]; simp only [Bool.false_and]) ?_
              refine sxo_nil ?_
              exact sxq_case (lk_cons rfl (lk_cons rfl (lk_cons rfl lk_nil)))
            refine sxo_take (os := _) rfl ?_
            refine sxo_move rfl rfl rfl ?_
            refine sxo_case 4 ((x58 && ((x16.2 : Int) == x42.2)) && ((x19.1 : Int) == (x45.1.length : Int))) [(108, .bool (((x58 && ((x16.2 : Int) == x42.2)) && ((x19.1 : Int) == (x45.1.length : Int))) && ((x19.2 : Int) == x45.2)))] (fun h61 => ?_) (fun h61 => ?_) ?_
            · refine sxo_take (os := _) rfl ?_
              refine sxo_isT (k := 104) rfl h61 ?_
              refine sxo_move rfl rfl rfl ?_
              refine sxo_move rfl rfl rfl ?_
              refine sxo_eql rfl rfl rfl rfl ?_
              refine sxo_pick (b := true) rfl rfl rfl rfl ?_
              refine sxo_again (d := 108) (v := .bool (((x58 && ((x16.2 : Int) == x42.2)) && ((x19.1 : Int) == (x45.1.length : Int))) && ((x19.2 : Int) == x45.2))) rfl (by rw [h61]; simp only [Bool.true_and]) ?_
              refine sxo_nil ?_
              exact sxq_case (lk_cons rfl lk_nil)
            · refine sxo_take (os := _) rfl ?_
              refine sxo_isF (k := 104) rfl h61 ?_
              refine sxo_skip rfl rfl rfl ?_
              refine sxo_skip rfl rfl rfl ?_
              refine sxo_skip rfl rfl rfl ?_
              refine sxo_pick (b := false) rfl rfl rfl rfl ?_
              refine sxo_again (d := 108) (v := .bool (((x58 && ((x16.2 : Int) == x42.2)) && ((x19.1 : Int) == (x45.1.length : Int))) && ((x19.2 : Int) == x45.2))) rfl (by rw [h61]; simp only [Bool.false_and]) ?_
              refine sxo_nil ?_
              exact sxq_case (lk_cons rfl lk_nil)
            refine sxo_take (os := _) rfl ?_
            refine sxo_assign rfl rfl rfl ?_
            refine sxo_nil ?_
            refine sxq_next ?_
            refine sxc_ret ?_
            exact sxq_doneP () (.inl rfl) (res1 rfl rfl) (fun h => by subst h; rfl) (fun h => by subst h; exact .nil)

set_option maxHeartbeats 4000000 in
theorem C_L_RunsBack (F : Nat) (x1 : List Int) (a2 : Option Addr) (c3 : Nat) (x4 : Int) (r : Bool) (hm : M_L_RunsBack F x1 x4 = some r) :
    Pure Try.prog 10 [.slice a2 x1.length c3, .int .i64 x4] [Sl (eI .i64) 1 (.slice a2 x1.length c3) x1] Unit (fun _ => .bool r) (fun _ => []) (fun _ => []) := by
  refine pure_of Try.func10 rfl Try.ntmps10 rfl hm (fun w => ?_)
  refine sxc_env (l' := [(0, .slice a2 x1.length c3), (1, .int .i64 x4)]) rfl ?_
  refine sxc_seq ?_
  refine sxc_region ?_
  refine sxo_assign rfl rfl rfl ?_
  refine sxo_nil ?_
  refine sxq_next ?_
  refine sxc_seq ?_
  refine sxc_region ?_
  refine sxo_move rfl rfl rfl ?_
  refine sxo_move rfl rfl rfl ?_
  refine sxo_call ent31 rfl rfl rfl (fun x5 e5 => C_runs_Split F x1 a2 c3 x4 x5 e5) (.consF 0 rfl .nil) (fun x5 e5 => ?_)
  rintro ⟨⟨a6, c7⟩, ⟨a8, c9⟩⟩
  refine sxo_move rfl rfl rfl ?_
  refine sxo_extract rfl rfl rfl rfl ?_
  refine sxo_extract rfl rfl rfl rfl ?_
  refine sxo_extract rfl rfl rfl rfl ?_
  refine sxo_assign rfl rfl rfl ?_
  refine sxo_assign rfl rfl rfl ?_
  refine sxo_assign rfl rfl rfl ?_
  refine sxo_nil ?_
  refine sxq_next ?_
  refine sxc_seq ?_
  refine sxc_seq ?_
  refine sxc_region ?_
  refine sxo_call ent36 rfl rfl rfl (fun x12 e12 => C_L_runsBegun F  x12 e12) .nil (fun x12 e12 => ?_)
  intro _
  refine sxo_not rfl rfl rfl ?_
  refine sxo_nil ?_
  refine sxq_next ?_
  refine sxc_if rfl (fun h102 => ?_) (fun h102 => ?_)
  · refine sxc_seq ?_
    refine sxc_region ?_
    refine sxo_assign rfl rfl rfl ?_
    refine sxo_nil ?_
    refine sxq_next ?_
    refine sxc_ret ?_
    refine sxq_thenR ?_
    exact sxq_doneP () (.inl rfl) (res1 rfl rfl) (fun h => by subst h; rfl) (fun h => by subst h; exact .nil)
  · refine sxc_skip ?_
    refine sxq_next ?_
    refine sxc_seq ?_
    refine sxc_seq ?_
    refine sxc_region ?_
    refine sxo_move rfl rfl rfl ?_
    refine sxo_neq rfl rfl rfl rfl ?_
    refine sxo_nil ?_
    refine sxq_next ?_
    refine sxc_if rfl (fun h101 => ?_) (fun h101 => ?_)
    · refine sxc_seq ?_
      refine sxc_region ?_
      refine sxo_move rfl rfl rfl ?_
      refine sxo_len rfl Try.underlying49 rfl rfl ?_
      refine sxo_move rfl rfl rfl ?_
      refine sxo_len rfl Try.underlying22 rfl rfl ?_
      refine sxo_add rfl rfl rfl rfl ?_
      refine sxo_eql rfl rfl rfl rfl ?_
      refine sxo_assign rfl rfl rfl ?_
      refine sxo_nil ?_
      refine sxq_next ?_
      refine sxc_ret ?_
      refine sxq_thenR ?_
      exact sxq_doneP () (.inl rfl) (res1 rfl rfl) (fun h => by subst h; rfl) (fun h => by subst h; exact .nil)
    · refine sxc_skip ?_
      refine sxq_next ?_
      refine sxc_seq ?_
      refine sxc_region ?_
      refine sxo_move rfl rfl rfl ?_
      refine sxo_move rfl rfl rfl ?_
      refine sxo_call ent32 rfl rfl rfl (fun x14 e14 => C_runs_Merge F x5.1 a6 c7 x5.2.1 a8 c9 x14 e14) (.consR 0 (Ro eS60 60 2 (.slice a6 x5.1.length c7) x5.1) rfl (.consR 1 (Ro (eI .i64) 3 1 (.slice a8 x5.2.1.length c9) x5.2.1) rfl .nil)) (fun x14 e14 => ?_)
      rintro ⟨a15, c16⟩
      refine sxo_move rfl rfl rfl ?_
      refine sxo_extract rfl rfl rfl rfl ?_
      refine sxo_extract rfl rfl rfl rfl ?_
      refine sxo_assign rfl rfl rfl ?_
      refine sxo_assign rfl rfl rfl ?_
      refine sxo_nil ?_
      refine sxq_next ?_
      refine sxc_seq ?_
      refine sxc_seq ?_
      refine sxc_region ?_
      refine sxo_move rfl rfl rfl ?_
      refine sxo_neq rfl rfl rfl rfl ?_
      refine sxo_move rfl rfl rfl ?_
      refine sxo_join 5 (fun ((x24, _) : (Bool × Unit)) => [(1, .int .i64 x4), (5, .slice a6 x5.1.length c7), (6, .slice a8 x5.2.1.length c9), (44, .bool x24)]) (fun ((x24, _) : (Bool × Unit)) => []) (fun ((x24, _) : (Bool × Unit)) => [Ro eS60 60 2 (.slice a6 x5.1.length c7) x5.1, Ro (eI .i64) 3 1 (.slice a8 x5.2.1.length c9) x5.2.1]) (fun ((x24, _) : (Bool × Unit)) => []) (fun ((x24, _) : (Bool × Unit)) => M_L_RunsBack_j2 F x4 x5 x24) ?_ ?_
      · refine sxo_take (os := _) rfl ?_
        refine sxo_if (fun h22 => ?_) (fun h22 => ?_)
        · refine sxo_isT (k := 39) rfl h22 ?_
          refine sxo_skip rfl rfl rfl ?_
          refine sxo_skip rfl rfl rfl ?_
          refine sxo_skip rfl rfl rfl ?_
          refine sxo_skip rfl rfl rfl ?_
          refine sxo_pick (b := true) rfl rfl rfl rfl ?_
          refine sxo_nil ?_
          exact sxq_meetP (true, ()) (lk_cons rfl (lk_cons rfl (lk_cons rfl (lk_cons rfl lk_nil)))) .nil (.cons 1 rfl (.cons 1 rfl .nil)) fk_nil
        · refine sxo_isF (k := 39) rfl h22 ?_
          refine sxo_move rfl rfl rfl ?_
          refine sxo_move rfl rfl rfl ?_
          refine sxo_call ent25 rfl rfl rfl (fun x100 e100 => C_R_SameInts F x14.1 a15 c16 x1 a2 c3 x100 e100) (.consR 0 (Ro (eI .i64) 3 1 (.slice a15 x14.1.length c16) x14.1) rfl (.consF 0 rfl .nil)) (fun x100 e100 => ?_)
          intro _
          refine sxo_not rfl rfl rfl ?_
          refine sxo_pick (b := false) rfl rfl rfl rfl ?_
          refine sxo_nil ?_
          exact sxq_meetP ((!x100), ()) (lk_cons rfl (lk_cons rfl (lk_cons rfl (lk_cons rfl lk_nil)))) .nil (.cons 1 rfl (.cons 1 rfl .nil)) fk_nil
      · rintro ⟨x24, _⟩
        try dsimp only
        refine sxo_take (os := _) rfl ?_
        refine sxo_nil ?_
        refine sxq_next ?_
        refine sxc_if rfl (fun h99 => ?_) (fun h99 => ?_)
        · refine sxc_seq ?_
          refine sxc_region ?_
          refine sxo_assign rfl rfl rfl ?_
          refine sxo_nil ?_
          refine sxq_next ?_
          refine sxc_ret ?_
          refine sxq_thenR ?_
          exact sxq_doneP () (.inl rfl) (res1 rfl rfl) (fun h => by subst h; rfl) (fun h => by subst h; exact .nil)
        · refine sxc_skip ?_
          refine sxq_next ?_
          refine sxc_join (fun ((_, _) : (Unit × Unit)) => [(1, .int .i64 x4), (6, .slice a8 x5.2.1.length c9)]) (fun ((_, _) : (Unit × Unit)) => []) (fun ((_, _) : (Unit × Unit)) => [Ro (eI .i64) 3 1 (.slice a8 x5.2.1.length c9) x5.2.1]) (fun ((_, _) : (Unit × Unit)) => []) (fun ((_, _) : (Unit × Unit)) => M_L_RunsBack_j4 F x4 x5) ?_ ?_
          · refine sxc_seq ?_
            refine sxc_region ?_
            refine sxo_assign rfl rfl rfl ?_
            refine sxo_nil ?_
            refine sxq_next ?_
            refine sxc_block ?_
            refine sxc_loopP (fun ((x77, _) : (Int × Unit)) => [(1, .int .i64 x4), (5, .slice a6 x5.1.length c7), (6, .slice a8 x5.2.1.length c9), (10, .int .i64 x77)]) (fun ((x77, _) : (Int × Unit)) => []) (fun ((x77, _) : (Int × Unit)) => [Ro eS60 60 2 (.slice a6 x5.1.length c7) x5.1, Ro (eI .i64) 3 1 (.slice a8 x5.2.1.length c9) x5.2.1]) (fun ((x77, _) : (Int × Unit)) => []) (fun k (s : (Int × Unit)) => M_L_RunsBack_l6 F x4 x5 k s.1) (0, ()) F (lk_cons rfl (lk_cons rfl (lk_cons rfl (lk_cons rfl lk_nil)))) .nil (.cons 0 rfl (.cons 0 rfl .nil)) fk_nil (fun _ => rfl) ?_
            intro k88
            rintro ⟨x77, _⟩
            try dsimp only
            refine sxc_meq (m' := M_L_RunsBack_b6 F x4 x5 (M_L_RunsBack_l6 F x4 x5 k88) x77) rfl ?_
            refine sxc_seq ?_
            refine sxc_seq ?_
            refine sxc_region ?_
            refine sxo_move rfl rfl rfl ?_
            refine sxo_move rfl rfl rfl ?_
            refine sxo_len rfl Try.underlying49 rfl rfl ?_
            refine sxo_lss rfl rfl rfl rfl ?_
            refine sxo_nil ?_
            refine sxq_next ?_
            refine sxc_if rfl (fun h98 => ?_) (fun h98 => ?_)
            · refine sxc_skip ?_
              refine sxq_next ?_
              refine sxc_seq ?_
              refine sxc_block ?_
              refine sxc_seq ?_
              refine sxc_region ?_
              refine sxo_move rfl rfl rfl ?_
              refine sxo_move rfl rfl rfl ?_
              refine sxo_indexR (j := 0) rfl Try.underlying49 tf60 rfl rfl rfl rfl (fun x94 e94 g95 h96 => ?_)
              refine sxo_fieldAddr rfl rfl ff60_1 rfl ?_
              refine sxo_loadRo (j := 0) (y := x94) (off := 1) eS60_ok rfl rfl tf3 rfl h96 (idx_get e94).2.2 rfl (fun _ => rfl) rfl rfl ?_
              refine sxo_move rfl rfl rfl ?_
              refine sxo_lss rfl rfl rfl rfl ?_
              refine sxo_nil ?_
              refine sxq_next ?_
              refine sxc_if rfl (fun h97 => ?_) (fun h97 => ?_)
              · refine sxc_seq ?_
                refine sxc_region ?_
                refine sxo_assign rfl rfl rfl ?_
                refine sxo_nil ?_
                refine sxq_next ?_
                refine sxc_ret ?_
                refine sxq_blkR ?_
                refine sxq_thenR ?_
                refine sxq_thenR ?_
                refine sxq_blkR ?_
                refine sxq_thenR ?_
                exact sxq_doneP () (.inl rfl) (res1 rfl rfl) (fun h => by subst h; rfl) (fun h => by subst h; exact .nil)
              · refine sxc_skip ?_
                refine sxq_blkN ?_
                refine sxq_next ?_
                refine sxc_region ?_
                refine sxo_move rfl rfl rfl ?_
                refine sxo_add rfl rfl rfl rfl ?_
                refine sxo_assign rfl rfl rfl ?_
                refine sxo_nil ?_
                exact sxq_againP (iadd .i64 x77 1, ()) (lk_cons rfl (lk_cons rfl (lk_cons rfl (lk_cons rfl lk_nil)))) .nil (.cons 0 rfl (.cons 0 rfl .nil)) fk_nil
            · refine sxc_exit ?_
              refine sxq_thenX ?_
              refine sxq_thenX ?_
              refine sxq_blkX ?_
              exact sxq_meetP ((), ()) (lk_cons rfl (lk_cons rfl lk_nil)) .nil (.cons 1 rfl .nil) fk_nil
          · rintro ⟨_, _⟩
            try dsimp only
            refine sxc_seq ?_
            refine sxc_region ?_
            refine sxo_move rfl rfl rfl ?_
            refine sxo_move rfl rfl rfl ?_
            refine sxo_call ent31 rfl rfl rfl (fun x57 e57 => C_runs_Split F x5.2.1 a8 c9 x4 x57 e57) (.consR 0 (Ro (eI .i64) 3 1 (.slice a8 x5.2.1.length c9) x5.2.1) rfl .nil) (fun x57 e57 => ?_)
            rintro ⟨⟨a58, c59⟩, ⟨a60, c61⟩⟩
            refine sxo_move rfl rfl rfl ?_
            refine sxo_extract rfl rfl rfl rfl ?_
            refine sxo_extract rfl rfl rfl rfl ?_
            refine sxo_extract rfl rfl rfl rfl ?_
            refine sxo_assign rfl rfl rfl ?_
            refine sxo_assign rfl rfl rfl ?_
            refine sxo_assign rfl rfl rfl ?_
            refine sxo_nil ?_
            refine sxq_next ?_
            refine sxc_seq ?_
            refine sxc_region ?_
            refine sxo_move rfl rfl rfl ?_
            refine sxo_eql rfl rfl rfl rfl ?_
            refine sxo_move rfl rfl rfl ?_
            refine sxo_case 4 ((x57.2.2 : Int) == 0) [(6, .slice a8 x5.2.1.length c9), (12, .slice a60 x57.2.1.length c61), (71, .bool (((x57.2.2 : Int) == 0) && (((x57.1.length : Int) : Int) == 0)))] (fun h62 => ?_) (fun h62 => ?_) ?_
            · refine sxo_take (os := _) rfl ?_
              refine sxo_isT (k := 67) rfl h62 ?_
              refine sxo_move rfl rfl rfl ?_
              refine sxo_len rfl Try.underlying49 rfl rfl ?_
              refine sxo_eql rfl rfl rfl rfl ?_
              refine sxo_pick (b := true) rfl rfl rfl rfl ?_
              refine sxo_again (d := 71) (v := .bool (((x57.2.2 : Int) == 0) && (((x57.1.length : Int) : Int) == 0))) rfl (by rw [h62]; simp only [Bool.true_and]) ?_
              refine sxo_nil ?_
              exact sxq_case (lk_cons rfl (lk_cons rfl (lk_cons rfl lk_nil)))
            · refine sxo_take (os := _) rfl ?_
              refine sxo_isF (k := 67) rfl h62 ?_
              refine sxo_skip rfl rfl rfl ?_
              refine sxo_skip rfl rfl rfl ?_
              refine sxo_skip rfl rfl rfl ?_
              refine sxo_pick (b := false) rfl rfl rfl rfl ?_
              refine sxo_again (d := 71) (v := .bool (((x57.2.2 : Int) == 0) && (((x57.1.length : Int) : Int) == 0))) rfl (by rw [h62]; simp only [Bool.false_and]) ?_
              refine sxo_nil ?_
              exact sxq_case (lk_cons rfl (lk_cons rfl (lk_cons rfl lk_nil)))
            refine sxo_take (os := _) rfl ?_
            refine sxo_move rfl rfl rfl ?_
            refine sxo_join 4 (fun ((x65, _) : (Bool × Unit)) => [(76, .bool x65)]) (fun ((x65, _) : (Bool × Unit)) => []) (fun ((x65, _) : (Bool × Unit)) => []) (fun ((x65, _) : (Bool × Unit)) => []) (fun ((x65, _) : (Bool × Unit)) => M_L_RunsBack_j5 F x65) ?_ ?_
            · refine sxo_take (os := _) rfl ?_
              refine sxo_if (fun h63 => ?_) (fun h63 => ?_)
              · refine sxo_isT (k := 72) rfl h63 ?_
                refine sxo_move rfl rfl rfl ?_
                refine sxo_move rfl rfl rfl ?_
                refine sxo_call ent25 rfl rfl rfl (fun x66 e66 => C_R_SameInts F x57.2.1 a60 c61 x5.2.1 a8 c9 x66 e66) (.consR 1 (Ro (eI .i64) 3 1 (.slice a60 x57.2.1.length c61) x57.2.1) rfl (.consR 2 (Ro (eI .i64) 3 1 (.slice a8 x5.2.1.length c9) x5.2.1) rfl .nil)) (fun x66 e66 => ?_)
                intro _
                refine sxo_pick (b := true) rfl rfl rfl rfl ?_
                refine sxo_nil ?_
                exact sxq_meetP (x66, ()) (lk_cons rfl lk_nil) .nil .nil fk_nil
              · refine sxo_isF (k := 72) rfl h63 ?_
                refine sxo_skip rfl rfl rfl ?_
                refine sxo_skip rfl rfl rfl ?_
                refine sxo_skip rfl rfl rfl ?_
                refine sxo_pick (b := false) rfl rfl rfl rfl ?_
                refine sxo_nil ?_
                exact sxq_meetP (false, ()) (lk_cons rfl lk_nil) .nil .nil fk_nil
            · rintro ⟨x65, _⟩
              try dsimp only
              refine sxo_take (os := _) rfl ?_
              refine sxo_assign rfl rfl rfl ?_
              refine sxo_nil ?_
              refine sxq_next ?_
              refine sxc_ret ?_
              exact sxq_doneP () (.inl rfl) (res1 rfl rfl) (fun h => by subst h; rfl) (fun h => by subst h; exact .nil)

set_option maxHeartbeats 4000000 in
theorem C_L_RunsOnly (F : Nat) (x1 : List (Int × Int)) (a2 : Option Addr) (c3 : Nat) (x4 : List Int) (a5 : Option Addr) (c6 : Nat) (x7 : Int) (r : Bool) (hm : M_L_RunsOnly F x1 x4 x7 = some r) :
    Pure Try.prog 11 [.slice a2 x1.length c3, .slice a5 x4.length c6, .int .i64 x7] [Sl eS60 2 (.slice a2 x1.length c3) x1, Sl (eI .i64) 1 (.slice a5 x4.length c6) x4] Unit (fun _ => .bool r) (fun _ => []) (fun _ => []) := by
  refine pure_of Try.func11 rfl Try.ntmps11 rfl hm (fun w => ?_)
  refine sxc_env (l' := [(0, .slice a2 x1.length c3), (1, .slice a5 x4.length c6), (2, .int .i64 x7)]) rfl ?_
  refine sxc_seq ?_
  refine sxc_region ?_
  refine sxo_assign rfl rfl rfl ?_
  refine sxo_nil ?_
  refine sxq_next ?_
  refine sxc_seq ?_
  refine sxc_region ?_
  refine sxo_move rfl rfl rfl ?_
  refine sxo_move rfl rfl rfl ?_
  refine sxo_call ent32 rfl rfl rfl (fun x8 e8 => C_runs_Merge F x1 a2 c3 x4 a5 c6 x8 e8) (.consF 0 rfl (.consF 1 rfl .nil)) (fun x8 e8 => ?_)
  rintro ⟨a9, c10⟩
  refine sxo_move rfl rfl rfl ?_
  refine sxo_extract rfl rfl rfl rfl ?_
  refine sxo_extract rfl rfl rfl rfl ?_
  refine sxo_assign rfl rfl rfl ?_
  refine sxo_assign rfl rfl rfl ?_
  refine sxo_nil ?_
  refine sxq_next ?_
  refine sxc_seq ?_
  refine sxc_seq ?_
  refine sxc_region ?_
  refine sxo_call ent36 rfl rfl rfl (fun x13 e13 => C_L_runsBegun F  x13 e13) .nil (fun x13 e13 => ?_)
  intro _
  refine sxo_not rfl rfl rfl ?_
  refine sxo_nil ?_
  refine sxq_next ?_
  refine sxc_if rfl (fun h373 => ?_) (fun h373 => ?_)
  · refine sxc_seq ?_
    refine sxc_region ?_
    refine sxo_assign rfl rfl rfl ?_
    refine sxo_nil ?_
    refine sxq_next ?_
    refine sxc_ret ?_
    refine sxq_thenR ?_
    exact sxq_doneP () (.inl rfl) (res1 rfl rfl) (fun h => by subst h; rfl) (fun h => by subst h; exact .nil)
  · refine sxc_skip ?_
    refine sxq_next ?_
    refine sxc_seq ?_
    refine sxc_seq ?_
    refine sxc_region ?_
    refine sxo_move rfl rfl rfl ?_
    refine sxo_neq rfl rfl rfl rfl ?_
    refine sxo_move rfl rfl rfl ?_
    refine sxo_case 3 ((x8.2 : Int) != 0) [(0, .slice a2 x1.length c3), (1, .slice a5 x4.length c6), (2, .int .i64 x7), (7, .slice a9 x8.1.length c10), (28, .bool (((x8.2 : Int) != 0) || (decide (x7 < 2))))] (fun h17 => ?_) (fun h17 => ?_) ?_
    · refine sxo_take (os := _) rfl ?_
      refine sxo_isT (k := 25) rfl h17 ?_
      refine sxo_skip rfl rfl rfl ?_
      refine sxo_skip rfl rfl rfl ?_
      refine sxo_pick (b := true) rfl rfl rfl rfl ?_
      refine sxo_again (d := 28) (v := .bool (((x8.2 : Int) != 0) || (decide (x7 < 2)))) rfl (by rw [h17]; simp only [Bool.true_or]) ?_
      refine sxo_nil ?_
      exact sxq_case (lk_cons rfl (lk_cons rfl (lk_cons rfl (lk_cons rfl (lk_cons rfl lk_nil)))))
    · refine sxo_take (os := _) rfl ?_
      refine sxo_isF (k := 25) rfl h17 ?_
      refine sxo_move rfl rfl rfl ?_
      refine sxo_lss rfl rfl rfl rfl ?_
      refine sxo_pick (b := false) rfl rfl rfl rfl ?_
      refine sxo_again (d := 28) (v := .bool (((x8.2 : Int) != 0) || (decide (x7 < 2)))) rfl (by rw [h17]; simp only [Bool.false_or]) ?_
      refine sxo_nil ?_
      exact sxq_case (lk_cons rfl (lk_cons rfl (lk_cons rfl (lk_cons rfl (lk_cons rfl lk_nil)))))
    refine sxo_take (os := _) rfl ?_
    refine sxo_move rfl rfl rfl ?_
    refine sxo_case 3 (((x8.2 : Int) != 0) || (decide (x7 < 2))) [(0, .slice a2 x1.length c3), (1, .slice a5 x4.length c6), (2, .int .i64 x7), (7, .slice a9 x8.1.length c10), (32, .bool ((((x8.2 : Int) != 0) || (decide (x7 < 2))) || (decide (300 < x7))))] (fun h18 => ?_) (fun h18 => ?_) ?_
    · refine sxo_take (os := _) rfl ?_
      refine sxo_isT (k := 29) rfl h18 ?_
      refine sxo_skip rfl rfl rfl ?_
      refine sxo_skip rfl rfl rfl ?_
      refine sxo_pick (b := true) rfl rfl rfl rfl ?_
      refine sxo_again (d := 32) (v := .bool ((((x8.2 : Int) != 0) || (decide (x7 < 2))) || (decide (300 < x7)))) rfl (by rw [h18]; simp only [Bool.true_or]) ?_
      refine sxo_nil ?_
      exact sxq_case (lk_cons rfl (lk_cons rfl (lk_cons rfl (lk_cons rfl (lk_cons rfl lk_nil)))))
    · refine sxo_take (os := _) rfl ?_
      refine sxo_isF (k := 29) rfl h18 ?_
      refine sxo_move rfl rfl rfl ?_
      refine sxo_gtr rfl rfl rfl rfl ?_
      refine sxo_pick (b := false) rfl rfl rfl rfl ?_
      refine sxo_again (d := 32) (v := .bool ((((x8.2 : Int) != 0) || (decide (x7 < 2))) || (decide (300 < x7)))) rfl (by rw [h18]; simp only [Bool.false_or]) ?_
      refine sxo_nil ?_
      exact sxq_case (lk_cons rfl (lk_cons rfl (lk_cons rfl (lk_cons rfl (lk_cons rfl lk_nil)))))
    refine sxo_take (os := _) rfl ?_
    refine sxo_nil ?_
    refine sxq_next ?_
    refine sxc_if rfl (fun h372 => ?_) (fun h372 => ?_)
    · refine sxc_seq ?_
      refine sxc_region ?_
      refine sxo_assign rfl rfl rfl ?_
      refine sxo_nil ?_
      refine sxq_next ?_
      refine sxc_ret ?_
      refine sxq_thenR ?_
      exact sxq_doneP () (.inl rfl) (res1 rfl rfl) (fun h => by subst h; rfl) (fun h => by subst h; exact .nil)
    · refine sxc_skip ?_
      refine sxq_next ?_
      refine sxc_join (fun ((_, _) : (Unit × Unit)) => [(0, .slice a2 x1.length c3), (1, .slice a5 x4.length c6), (2, .int .i64 x7), (7, .slice a9 x8.1.length c10)]) (fun ((_, _) : (Unit × Unit)) => []) (fun ((_, _) : (Unit × Unit)) => [Ro (eI .i64) 3 1 (.slice a9 x8.1.length c10) x8.1]) (fun ((_, _) : (Unit × Unit)) => [Sl eS60 2 (.slice a2 x1.length c3) x1, Sl (eI .i64) 1 (.slice a5 x4.length c6) x4]) (fun ((_, _) : (Unit × Unit)) => M_L_RunsOnly_j8 F x1 x4 x7 x8) ?_ ?_
      · refine sxc_seq ?_
        refine sxc_region ?_
        refine sxo_assign rfl rfl rfl ?_
        refine sxo_nil ?_
        refine sxq_next ?_
        refine sxc_block ?_
        refine sxc_loopP (fun ((x262, _) : (Int × Unit)) => [(0, .slice a2 x1.length c3), (1, .slice a5 x4.length c6), (2, .int .i64 x7), (7, .slice a9 x8.1.length c10), (9, .int .i64 x262)]) (fun ((x262, _) : (Int × Unit)) => []) (fun ((x262, _) : (Int × Unit)) => [Ro (eI .i64) 3 1 (.slice a9 x8.1.length c10) x8.1]) (fun ((x262, _) : (Int × Unit)) => [Sl eS60 2 (.slice a2 x1.length c3) x1, Sl (eI .i64) 1 (.slice a5 x4.length c6) x4]) (fun k (s : (Int × Unit)) => M_L_RunsOnly_l15 F x1 x4 x7 x8 k s.1) (0, ()) F (lk_cons rfl (lk_cons rfl (lk_cons rfl (lk_cons rfl (lk_cons rfl lk_nil))))) .nil (.cons 0 rfl .nil) (fk_cons 0 rfl (fk_cons 1 rfl fk_nil)) (fun _ => rfl) ?_
        intro k317
        rintro ⟨x262, _⟩
        try dsimp only
        refine sxc_meq (m' := M_L_RunsOnly_b15 F x1 x4 x7 x8 (M_L_RunsOnly_l15 F x1 x4 x7 x8 k317) x262) rfl ?_
        refine sxc_seq ?_
        refine sxc_seq ?_
        refine sxc_region ?_
        refine sxo_move rfl rfl rfl ?_
        refine sxo_move rfl rfl rfl ?_
        refine sxo_len rfl Try.underlying49 rfl rfl ?_
        refine sxo_lss rfl rfl rfl rfl ?_
        refine sxo_nil ?_
        refine sxq_next ?_
        refine sxc_if rfl (fun h371 => ?_) (fun h371 => ?_)
        · refine sxc_skip ?_
          refine sxq_next ?_
          refine sxc_seq ?_
          refine sxc_block ?_
          refine sxc_join (fun ((x357, _) : (Bool × Unit)) => [(0, .slice a2 x1.length c3), (1, .slice a5 x4.length c6), (2, .int .i64 x7), (7, .slice a9 x8.1.length c10), (9, .int .i64 x262), (70, .bool x357)]) (fun ((x357, _) : (Bool × Unit)) => []) (fun ((x357, _) : (Bool × Unit)) => [Ro (eI .i64) 3 1 (.slice a9 x8.1.length c10) x8.1]) (fun ((x357, _) : (Bool × Unit)) => [Sl eS60 2 (.slice a2 x1.length c3) x1, Sl (eI .i64) 1 (.slice a5 x4.length c6) x4]) (fun ((x357, _) : (Bool × Unit)) => M_L_RunsOnly_j17 F (M_L_RunsOnly_l15 F x1 x4 x7 x8 k317) x262 x357) ?_ ?_
          · refine sxc_idxF (j := 0) eS60_ok (by decide) rfl (fun x359 e359 b360 o361 h362 => ?_)
            replace h362 : a2 = some ⟨b360, o361, none⟩ := h362
            refine sxc_split (fun h363 => ?_) (fun h363 => ?_)
            · refine sxb_draw mixed [] [] [CellsAt b360 (o361 + x262.toNat * 2) (eS60 x359), Sl eS60 2 (.slice a2 x1.length c3) x1, Sl (eI .i64) 1 (.slice a5 x4.length c6) x4] .nil (gk_F 0 rfl (gk_F 1 rfl (gk_F 2 rfl gk_nil))) 32 rfl ?_
              refine sxb_takeP 0 (.slice a2 x1.length c3) rfl rfl rfl rfl (by kernel_rfl) (by kernel_rfl) (by kernel_rfl) (by kernel_rfl) (by kernel_rfl) rfl (show _ = #[true, false, false, false, false, false, false, false, false, false, false, false, false, false, false, false, false, false, false, false, false, false, false, false, false, false, false, false, false, false, false, false] from rfl) (yv_pv rfl) ?_
              refine sxb_takeP 1 (.int .i64 x262) rfl rfl rfl rfl (by kernel_rfl) (by kernel_rfl) (by kernel_rfl) (by kernel_rfl) (by kernel_rfl) rfl (show _ = #[true, true, false, false, false, false, false, false, false, false, false, false, false, false, false, false, false, false, false, false, false, false, false, false, false, false, false, false, false, false, false, false] from rfl) (yv_pv rfl) ?_
              refine sxb_again (d := 39) (v := .slice (some ⟨b360, o361, none⟩) x1.length c3) rfl (by rw [h362]) ?_
              refine sxb_takeP 2 (.pointer (some ⟨b360, (o361 + x262.toNat * 2), none⟩)) rfl rfl rfl rfl (by kernel_rfl) (by kernel_rfl) (by kernel_rfl) (by kernel_rfl) (by kernel_rfl) rfl (show _ = #[true, true, true, false, false, false, false, false, false, false, false, false, false, false, false, false, false, false, false, false, false, false, false, false, false, false, false, false, false, false, false, false] from rfl) (yv_idx Try.underlying49 tf60 rfl rfl (idx_get e359).1 (idx_lt e359)) ?_
              refine sxb_again (d := 39) (v := .slice a2 x1.length c3) rfl (by rw [h362]) ?_
              refine sxb_takeP 3 (.pointer (some ⟨b360, (o361 + x262.toNat * 2) + 1, none⟩)) rfl rfl rfl rfl (by kernel_rfl) (by kernel_rfl) (by kernel_rfl) (by kernel_rfl) (by kernel_rfl) rfl (show _ = #[true, true, true, true, false, false, false, false, false, false, false, false, false, false, false, false, false, false, false, false, false, false, false, false, false, false, false, false, false, false, false, false] from rfl) (yv_fieldAddr rfl ff60_1) ?_
              refine sxb_take 4 (.int .i64 x359.2) [] rfl rfl rfl rfl (by kernel_rfl) (by kernel_rfl) (by kernel_rfl) (by kernel_rfl) (by kernel_rfl) (by kernel_rfl) rfl (show _ = #[true, true, true, true, true, false, false, false, false, false, false, false, false, false, false, false, false, false, false, false, false, false, false, false, false, false, false, false, false, false, false, false] from rfl) (yv_loadFo (j := 0) (off := 1) rfl tf3 rfl rfl (fun _ => rfl) rfl) ?_
              refine sxb_takeP 5 (.int .i64 x7) rfl rfl rfl rfl (by kernel_rfl) (by kernel_rfl) (by kernel_rfl) (by kernel_rfl) (by kernel_rfl) rfl (show _ = #[true, true, true, true, true, true, false, false, false, false, false, false, false, false, false, false, false, false, false, false, false, false, false, false, false, false, false, false, false, false, false, false] from rfl) (yv_pv rfl) ?_
              refine sxb_takeP 6 (.bool (decide (x359.2 < x7))) rfl rfl rfl rfl (by kernel_rfl) (by kernel_rfl) (by kernel_rfl) (by kernel_rfl) (by kernel_rfl) rfl (show _ = #[true, true, true, true, true, true, true, false, false, false, false, false, false, false, false, false, false, false, false, false, false, false, false, false, false, false, false, false, false, false, false, false] from rfl) (yv_pv rfl) ?_
              refine sxb_takeP 7 (.bool (decide (x359.2 < x7))) rfl rfl rfl rfl (by kernel_rfl) (by kernel_rfl) (by kernel_rfl) (by kernel_rfl) (by kernel_rfl) rfl (show _ = #[true, true, true, true, true, true, true, true, false, false, false, false, false, false, false, false, false, false, false, false, false, false, false, false, false, false, false, false, false, false, false, false] from rfl) (yv_pv rfl) ?_
              refine sxb_again (d := 46) (v := .bool true) rfl (by rw [h363]) ?_
              refine sxb_skip 8 rfl rfl rfl rfl (by kernel_rfl) (by kernel_rfl) (by kernel_rfl) (by kernel_rfl) (by kernel_rfl) rfl (show _ = #[true, true, true, true, true, true, true, true, true, false, false, false, false, false, false, false, false, false, false, false, false, false, false, false, false, false, false, false, false, false, false, false] from rfl) ?_
              refine sxb_skip 9 rfl rfl rfl rfl (by kernel_rfl) (by kernel_rfl) (by kernel_rfl) (by kernel_rfl) (by kernel_rfl) rfl (show _ = #[true, true, true, true, true, true, true, true, true, true, false, false, false, false, false, false, false, false, false, false, false, false, false, false, false, false, false, false, false, false, false, false] from rfl) ?_
              refine sxb_skip 10 rfl rfl rfl rfl (by kernel_rfl) (by kernel_rfl) (by kernel_rfl) (by kernel_rfl) (by kernel_rfl) rfl (show _ = #[true, true, true, true, true, true, true, true, true, true, true, false, false, false, false, false, false, false, false, false, false, false, false, false, false, false, false, false, false, false, false, false] from rfl) ?_
              refine sxb_skip 11 rfl rfl rfl rfl (by kernel_rfl) (by kernel_rfl) (by kernel_rfl) (by kernel_rfl) (by kernel_rfl) rfl (show _ = #[true, true, true, true, true, true, true, true, true, true, true, true, false, false, false, false, false, false, false, false, false, false, false, false, false, false, false, false, false, false, false, false] from rfl) ?_
              refine sxb_skip 12 rfl rfl rfl rfl (by kernel_rfl) (by kernel_rfl) (by kernel_rfl) (by kernel_rfl) (by kernel_rfl) rfl (show _ = #[true, true, true, true, true, true, true, true, true, true, true, true, true, false, false, false, false, false, false, false, false, false, false, false, false, false, false, false, false, false, false, false] from rfl) ?_
              refine sxb_skip 13 rfl rfl rfl rfl (by kernel_rfl) (by kernel_rfl) (by kernel_rfl) (by kernel_rfl) (by kernel_rfl) rfl (show _ = #[true, true, true, true, true, true, true, true, true, true, true, true, true, true, false, false, false, false, false, false, false, false, false, false, false, false, false, false, false, false, false, false] from rfl) ?_
              refine sxb_skip 14 rfl rfl rfl rfl (by kernel_rfl) (by kernel_rfl) (by kernel_rfl) (by kernel_rfl) (by kernel_rfl) rfl (show _ = #[true, true, true, true, true, true, true, true, true, true, true, true, true, true, true, false, false, false, false, false, false, false, false, false, false, false, false, false, false, false, false, false] from rfl) ?_
              refine sxb_skip 15 rfl rfl rfl rfl (by kernel_rfl) (by kernel_rfl) (by kernel_rfl) (by kernel_rfl) (by kernel_rfl) rfl (show _ = #[true, true, true, true, true, true, true, true, true, true, true, true, true, true, true, true, false, false, false, false, false, false, false, false, false, false, false, false, false, false, false, false] from rfl) ?_
              refine sxb_takeP 16 (.bool true) rfl rfl rfl rfl (by kernel_rfl) (by kernel_rfl) (by kernel_rfl) (by kernel_rfl) (by kernel_rfl) rfl (show _ = #[true, true, true, true, true, true, true, true, true, true, true, true, true, true, true, true, true, false, false, false, false, false, false, false, false, false, false, false, false, false, false, false] from rfl) (yv_pv rfl) ?_
              refine sxb_takeP 17 (.bool true) rfl rfl rfl rfl (by kernel_rfl) (by kernel_rfl) (by kernel_rfl) (by kernel_rfl) (by kernel_rfl) rfl (show _ = #[true, true, true, true, true, true, true, true, true, true, true, true, true, true, true, true, true, true, false, false, false, false, false, false, false, false, false, false, false, false, false, false] from rfl) (yv_pv rfl) ?_
              refine sxb_skip 18 rfl rfl rfl rfl (by kernel_rfl) (by kernel_rfl) (by kernel_rfl) (by kernel_rfl) (by kernel_rfl) rfl (show _ = #[true, true, true, true, true, true, true, true, true, true, true, true, true, true, true, true, true, true, true, false, false, false, false, false, false, false, false, false, false, false, false, false] from rfl) ?_
              refine sxb_skip 19 rfl rfl rfl rfl (by kernel_rfl) (by kernel_rfl) (by kernel_rfl) (by kernel_rfl) (by kernel_rfl) rfl (show _ = #[true, true, true, true, true, true, true, true, true, true, true, true, true, true, true, true, true, true, true, true, false, false, false, false, false, false, false, false, false, false, false, false] from rfl) ?_
              refine sxb_skip 20 rfl rfl rfl rfl (by kernel_rfl) (by kernel_rfl) (by kernel_rfl) (by kernel_rfl) (by kernel_rfl) rfl (show _ = #[true, true, true, true, true, true, true, true, true, true, true, true, true, true, true, true, true, true, true, true, true, false, false, false, false, false, false, false, false, false, false, false] from rfl) ?_
              refine sxb_skip 21 rfl rfl rfl rfl (by kernel_rfl) (by kernel_rfl) (by kernel_rfl) (by kernel_rfl) (by kernel_rfl) rfl (show _ = #[true, true, true, true, true, true, true, true, true, true, true, true, true, true, true, true, true, true, true, true, true, true, false, false, false, false, false, false, false, false, false, false] from rfl) ?_
              refine sxb_skip 22 rfl rfl rfl rfl (by kernel_rfl) (by kernel_rfl) (by kernel_rfl) (by kernel_rfl) (by kernel_rfl) rfl (show _ = #[true, true, true, true, true, true, true, true, true, true, true, true, true, true, true, true, true, true, true, true, true, true, true, false, false, false, false, false, false, false, false, false] from rfl) ?_
              refine sxb_skip 23 rfl rfl rfl rfl (by kernel_rfl) (by kernel_rfl) (by kernel_rfl) (by kernel_rfl) (by kernel_rfl) rfl (show _ = #[true, true, true, true, true, true, true, true, true, true, true, true, true, true, true, true, true, true, true, true, true, true, true, true, false, false, false, false, false, false, false, false] from rfl) ?_
              refine sxb_skip 24 rfl rfl rfl rfl (by kernel_rfl) (by kernel_rfl) (by kernel_rfl) (by kernel_rfl) (by kernel_rfl) rfl (show _ = #[true, true, true, true, true, true, true, true, true, true, true, true, true, true, true, true, true, true, true, true, true, true, true, true, true, false, false, false, false, false, false, false] from rfl) ?_
              refine sxb_skip 25 rfl rfl rfl rfl (by kernel_rfl) (by kernel_rfl) (by kernel_rfl) (by kernel_rfl) (by kernel_rfl) rfl (show _ = #[true, true, true, true, true, true, true, true, true, true, true, true, true, true, true, true, true, true, true, true, true, true, true, true, true, true, false, false, false, false, false, false] from rfl) ?_
              refine sxb_skip 26 rfl rfl rfl rfl (by kernel_rfl) (by kernel_rfl) (by kernel_rfl) (by kernel_rfl) (by kernel_rfl) rfl (show _ = #[true, true, true, true, true, true, true, true, true, true, true, true, true, true, true, true, true, true, true, true, true, true, true, true, true, true, true, false, false, false, false, false] from rfl) ?_
              refine sxb_skip 27 rfl rfl rfl rfl (by kernel_rfl) (by kernel_rfl) (by kernel_rfl) (by kernel_rfl) (by kernel_rfl) rfl (show _ = #[true, true, true, true, true, true, true, true, true, true, true, true, true, true, true, true, true, true, true, true, true, true, true, true, true, true, true, true, false, false, false, false] from rfl) ?_
              refine sxb_skip 28 rfl rfl rfl rfl (by kernel_rfl) (by kernel_rfl) (by kernel_rfl) (by kernel_rfl) (by kernel_rfl) rfl (show _ = #[true, true, true, true, true, true, true, true, true, true, true, true, true, true, true, true, true, true, true, true, true, true, true, true, true, true, true, true, true, false, false, false] from rfl) ?_
              refine sxb_skip 29 rfl rfl rfl rfl (by kernel_rfl) (by kernel_rfl) (by kernel_rfl) (by kernel_rfl) (by kernel_rfl) rfl (show _ = #[true, true, true, true, true, true, true, true, true, true, true, true, true, true, true, true, true, true, true, true, true, true, true, true, true, true, true, true, true, true, false, false] from rfl) ?_
              refine sxb_skip 30 rfl rfl rfl rfl (by kernel_rfl) (by kernel_rfl) (by kernel_rfl) (by kernel_rfl) (by kernel_rfl) rfl (show _ = #[true, true, true, true, true, true, true, true, true, true, true, true, true, true, true, true, true, true, true, true, true, true, true, true, true, true, true, true, true, true, true, false] from rfl) ?_
              refine sxb_takeP 31 (.bool true) rfl rfl rfl rfl (by kernel_rfl) (by kernel_rfl) (by kernel_rfl) (by kernel_rfl) (by kernel_rfl) rfl (show _ = #[true, true, true, true, true, true, true, true, true, true, true, true, true, true, true, true, true, true, true, true, true, true, true, true, true, true, true, true, true, true, true, true] from rfl) (yv_pv rfl) ?_
              refine sxb_done (by kernel_rfl) ?_
              refine sxq_np ?_ (by intro c h; cases h)
              exact sxq_meetP (true, ()) (lk_cons rfl (lk_cons rfl (lk_cons rfl (lk_cons rfl (lk_cons rfl (lk_cons rfl lk_nil)))))) .nil (.cons 0 rfl .nil) (fk_cons 1 rfl (fk_cons 2 rfl fk_nil))
            · refine sxc_idxF (j := 1) eS60_ok (by decide) rfl (fun x364 e364 b365 o366 h367 => ?_)
              replace h367 : a2 = some ⟨b365, o366, none⟩ := h367
              refine sxb_draw mixed [] [] [CellsAt b365 (o366 + x262.toNat * 2) (eS60 x364), CellsAt b360 (o361 + x262.toNat * 2) (eS60 x359), Sl eS60 2 (.slice a2 x1.length c3) x1, Sl (eI .i64) 1 (.slice a5 x4.length c6) x4] .nil (gk_F 0 rfl (gk_F 1 rfl (gk_F 2 rfl (gk_F 3 rfl gk_nil)))) 32 rfl ?_
              refine sxb_takeP 0 (.slice a2 x1.length c3) rfl rfl rfl rfl (by kernel_rfl) (by kernel_rfl) (by kernel_rfl) (by kernel_rfl) (by kernel_rfl) rfl (show _ = #[true, false, false, false, false, false, false, false, false, false, false, false, false, false, false, false, false, false, false, false, false, false, false, false, false, false, false, false, false, false, false, false] from rfl) (yv_pv rfl) ?_
              refine sxb_takeP 1 (.int .i64 x262) rfl rfl rfl rfl (by kernel_rfl) (by kernel_rfl) (by kernel_rfl) (by kernel_rfl) (by kernel_rfl) rfl (show _ = #[true, true, false, false, false, false, false, false, false, false, false, false, false, false, false, false, false, false, false, false, false, false, false, false, false, false, false, false, false, false, false, false] from rfl) (yv_pv rfl) ?_
              refine sxb_again (d := 39) (v := .slice (some ⟨b360, o361, none⟩) x1.length c3) rfl (by rw [h362]) ?_
              refine sxb_takeP 2 (.pointer (some ⟨b360, (o361 + x262.toNat * 2), none⟩)) rfl rfl rfl rfl (by kernel_rfl) (by kernel_rfl) (by kernel_rfl) (by kernel_rfl) (by kernel_rfl) rfl (show _ = #[true, true, true, false, false, false, false, false, false, false, false, false, false, false, false, false, false, false, false, false, false, false, false, false, false, false, false, false, false, false, false, false] from rfl) (yv_idx Try.underlying49 tf60 rfl rfl (idx_get e359).1 (idx_lt e359)) ?_
              refine sxb_again (d := 39) (v := .slice a2 x1.length c3) rfl (by rw [h362]) ?_
              refine sxb_takeP 3 (.pointer (some ⟨b360, (o361 + x262.toNat * 2) + 1, none⟩)) rfl rfl rfl rfl (by kernel_rfl) (by kernel_rfl) (by kernel_rfl) (by kernel_rfl) (by kernel_rfl) rfl (show _ = #[true, true, true, true, false, false, false, false, false, false, false, false, false, false, false, false, false, false, false, false, false, false, false, false, false, false, false, false, false, false, false, false] from rfl) (yv_fieldAddr rfl ff60_1) ?_
              refine sxb_take 4 (.int .i64 x359.2) [] rfl rfl rfl rfl (by kernel_rfl) (by kernel_rfl) (by kernel_rfl) (by kernel_rfl) (by kernel_rfl) (by kernel_rfl) rfl (show _ = #[true, true, true, true, true, false, false, false, false, false, false, false, false, false, false, false, false, false, false, false, false, false, false, false, false, false, false, false, false, false, false, false] from rfl) (yv_loadFo (j := 1) (off := 1) rfl tf3 rfl rfl (fun _ => rfl) rfl) ?_
              refine sxb_takeP 5 (.int .i64 x7) rfl rfl rfl rfl (by kernel_rfl) (by kernel_rfl) (by kernel_rfl) (by kernel_rfl) (by kernel_rfl) rfl (show _ = #[true, true, true, true, true, true, false, false, false, false, false, false, false, false, false, false, false, false, false, false, false, false, false, false, false, false, false, false, false, false, false, false] from rfl) (yv_pv rfl) ?_
              refine sxb_takeP 6 (.bool (decide (x359.2 < x7))) rfl rfl rfl rfl (by kernel_rfl) (by kernel_rfl) (by kernel_rfl) (by kernel_rfl) (by kernel_rfl) rfl (show _ = #[true, true, true, true, true, true, true, false, false, false, false, false, false, false, false, false, false, false, false, false, false, false, false, false, false, false, false, false, false, false, false, false] from rfl) (yv_pv rfl) ?_
              refine sxb_takeP 7 (.bool (decide (x359.2 < x7))) rfl rfl rfl rfl (by kernel_rfl) (by kernel_rfl) (by kernel_rfl) (by kernel_rfl) (by kernel_rfl) rfl (show _ = #[true, true, true, true, true, true, true, true, false, false, false, false, false, false, false, false, false, false, false, false, false, false, false, false, false, false, false, false, false, false, false, false] from rfl) (yv_pv rfl) ?_
              refine sxb_again (d := 46) (v := .bool false) rfl (by rw [h363]) ?_
              refine sxb_takeP 8 (.slice a5 x4.length c6) rfl rfl rfl rfl (by kernel_rfl) (by kernel_rfl) (by kernel_rfl) (by kernel_rfl) (by kernel_rfl) rfl (show _ = #[true, true, true, true, true, true, true, true, true, false, false, false, false, false, false, false, false, false, false, false, false, false, false, false, false, false, false, false, false, false, false, false] from rfl) (yv_pv rfl) ?_
              refine sxb_takeP 9 (.slice a2 x1.length c3) rfl rfl rfl rfl (by kernel_rfl) (by kernel_rfl) (by kernel_rfl) (by kernel_rfl) (by kernel_rfl) rfl (show _ = #[true, true, true, true, true, true, true, true, true, true, false, false, false, false, false, false, false, false, false, false, false, false, false, false, false, false, false, false, false, false, false, false] from rfl) (yv_pv rfl) ?_
              refine sxb_takeP 10 (.int .i64 x262) rfl rfl rfl rfl (by kernel_rfl) (by kernel_rfl) (by kernel_rfl) (by kernel_rfl) (by kernel_rfl) rfl (show _ = #[true, true, true, true, true, true, true, true, true, true, true, false, false, false, false, false, false, false, false, false, false, false, false, false, false, false, false, false, false, false, false, false] from rfl) (yv_pv rfl) ?_
              refine sxb_again (d := 48) (v := .slice (some ⟨b365, o366, none⟩) x1.length c3) rfl (by rw [h367]) ?_
              refine sxb_takeP 11 (.pointer (some ⟨b365, (o366 + x262.toNat * 2), none⟩)) rfl rfl rfl rfl (by kernel_rfl) (by kernel_rfl) (by kernel_rfl) (by kernel_rfl) (by kernel_rfl) rfl (show _ = #[true, true, true, true, true, true, true, true, true, true, true, true, false, false, false, false, false, false, false, false, false, false, false, false, false, false, false, false, false, false, false, false] from rfl) (yv_idx Try.underlying49 tf60 rfl rfl (idx_get e364).1 (idx_lt e364)) ?_
              refine sxb_again (d := 48) (v := .slice a2 x1.length c3) rfl (by rw [h367]) ?_
              refine sxb_takeP 12 (.pointer (some ⟨b365, (o366 + x262.toNat * 2) + 0, none⟩)) rfl rfl rfl rfl (by kernel_rfl) (by kernel_rfl) (by kernel_rfl) (by kernel_rfl) (by kernel_rfl) rfl (show _ = #[true, true, true, true, true, true, true, true, true, true, true, true, true, false, false, false, false, false, false, false, false, false, false, false, false, false, false, false, false, false, false, false] from rfl) (yv_fieldAddr rfl ff60_0) ?_
              refine sxb_take 13 (.int .i64 x364.1) [] rfl rfl rfl rfl (by kernel_rfl) (by kernel_rfl) (by kernel_rfl) (by kernel_rfl) (by kernel_rfl) (by kernel_rfl) rfl (show _ = #[true, true, true, true, true, true, true, true, true, true, true, true, true, true, false, false, false, false, false, false, false, false, false, false, false, false, false, false, false, false, false, false] from rfl) (yv_loadFo (j := 0) (off := 0) rfl tf3 rfl rfl (fun _ => rfl) rfl) ?_
              refine sxb_takeP 14 (.int .i64 (isub .i64 x364.1 1)) rfl rfl rfl rfl (by kernel_rfl) (by kernel_rfl) (by kernel_rfl) (by kernel_rfl) (by kernel_rfl) rfl (show _ = #[true, true, true, true, true, true, true, true, true, true, true, true, true, true, true, false, false, false, false, false, false, false, false, false, false, false, false, false, false, false, false, false] from rfl) (yv_pv rfl) ?_
              refine sxb_step 15 rfl (by kernel_rfl) (show _ = #[true, true, true, true, true, true, true, true, true, true, true, true, true, true, true, true, false, false, false, false, false, false, false, false, false, false, false, false, false, false, false, false] from rfl) ?_
              refine sxo_call ent38 rfl rfl rfl (fun x368 e368 => C_R_HasInt F x4 a5 c6 (isub .i64 x364.1 1) x368 e368) (.consF 3 rfl .nil) (fun x368 e368 => ?_)
              intro _
              refine sxo_nil ?_
              refine sxq_anyB .nil (gk_F 0 rfl (gk_F 1 rfl (gk_F 2 rfl (gk_F 3 rfl gk_nil)))) ?_
              refine sxb_takeP 16 (.bool x368) rfl rfl rfl rfl (by kernel_rfl) (by kernel_rfl) (by kernel_rfl) (by kernel_rfl) (by kernel_rfl) rfl (show _ = #[true, true, true, true, true, true, true, true, true, true, true, true, true, true, true, true, true, false, false, false, false, false, false, false, false, false, false, false, false, false, false, false] from rfl) (yv_pv rfl) ?_
              refine sxb_takeP 17 (.bool x368) rfl rfl rfl rfl (by kernel_rfl) (by kernel_rfl) (by kernel_rfl) (by kernel_rfl) (by kernel_rfl) rfl (show _ = #[true, true, true, true, true, true, true, true, true, true, true, true, true, true, true, true, true, true, false, false, false, false, false, false, false, false, false, false, false, false, false, false] from rfl) (yv_pv rfl) ?_
              refine sxb_if (fun h369 => ?_) (fun h369 => ?_)
              · refine sxb_again (d := 56) (v := .bool true) rfl (by rw [h369]) ?_
                refine sxb_skip 18 rfl rfl rfl rfl (by kernel_rfl) (by kernel_rfl) (by kernel_rfl) (by kernel_rfl) (by kernel_rfl) rfl (show _ = #[true, true, true, true, true, true, true, true, true, true, true, true, true, true, true, true, true, true, true, false, false, false, false, false, false, false, false, false, false, false, false, false] from rfl) ?_
                refine sxb_skip 19 rfl rfl rfl rfl (by kernel_rfl) (by kernel_rfl) (by kernel_rfl) (by kernel_rfl) (by kernel_rfl) rfl (show _ = #[true, true, true, true, true, true, true, true, true, true, true, true, true, true, true, true, true, true, true, true, false, false, false, false, false, false, false, false, false, false, false, false] from rfl) ?_
                refine sxb_skip 20 rfl rfl rfl rfl (by kernel_rfl) (by kernel_rfl) (by kernel_rfl) (by kernel_rfl) (by kernel_rfl) rfl (show _ = #[true, true, true, true, true, true, true, true, true, true, true, true, true, true, true, true, true, true, true, true, true, false, false, false, false, false, false, false, false, false, false, false] from rfl) ?_
                refine sxb_skip 21 rfl rfl rfl rfl (by kernel_rfl) (by kernel_rfl) (by kernel_rfl) (by kernel_rfl) (by kernel_rfl) rfl (show _ = #[true, true, true, true, true, true, true, true, true, true, true, true, true, true, true, true, true, true, true, true, true, true, false, false, false, false, false, false, false, false, false, false] from rfl) ?_
                refine sxb_skip 22 rfl rfl rfl rfl (by kernel_rfl) (by kernel_rfl) (by kernel_rfl) (by kernel_rfl) (by kernel_rfl) rfl (show _ = #[true, true, true, true, true, true, true, true, true, true, true, true, true, true, true, true, true, true, true, true, true, true, true, false, false, false, false, false, false, false, false, false] from rfl) ?_
                refine sxb_skip 23 rfl rfl rfl rfl (by kernel_rfl) (by kernel_rfl) (by kernel_rfl) (by kernel_rfl) (by kernel_rfl) rfl (show _ = #[true, true, true, true, true, true, true, true, true, true, true, true, true, true, true, true, true, true, true, true, true, true, true, true, false, false, false, false, false, false, false, false] from rfl) ?_
                refine sxb_skip 24 rfl rfl rfl rfl (by kernel_rfl) (by kernel_rfl) (by kernel_rfl) (by kernel_rfl) (by kernel_rfl) rfl (show _ = #[true, true, true, true, true, true, true, true, true, true, true, true, true, true, true, true, true, true, true, true, true, true, true, true, true, false, false, false, false, false, false, false] from rfl) ?_
                refine sxb_skip 25 rfl rfl rfl rfl (by kernel_rfl) (by kernel_rfl) (by kernel_rfl) (by kernel_rfl) (by kernel_rfl) rfl (show _ = #[true, true, true, true, true, true, true, true, true, true, true, true, true, true, true, true, true, true, true, true, true, true, true, true, true, true, false, false, false, false, false, false] from rfl) ?_
                refine sxb_skip 26 rfl rfl rfl rfl (by kernel_rfl) (by kernel_rfl) (by kernel_rfl) (by kernel_rfl) (by kernel_rfl) rfl (show _ = #[true, true, true, true, true, true, true, true, true, true, true, true, true, true, true, true, true, true, true, true, true, true, true, true, true, true, true, false, false, false, false, false] from rfl) ?_
                refine sxb_skip 27 rfl rfl rfl rfl (by kernel_rfl) (by kernel_rfl) (by kernel_rfl) (by kernel_rfl) (by kernel_rfl) rfl (show _ = #[true, true, true, true, true, true, true, true, true, true, true, true, true, true, true, true, true, true, true, true, true, true, true, true, true, true, true, true, false, false, false, false] from rfl) ?_
                refine sxb_skip 28 rfl rfl rfl rfl (by kernel_rfl) (by kernel_rfl) (by kernel_rfl) (by kernel_rfl) (by kernel_rfl) rfl (show _ = #[true, true, true, true, true, true, true, true, true, true, true, true, true, true, true, true, true, true, true, true, true, true, true, true, true, true, true, true, true, false, false, false] from rfl) ?_
                refine sxb_skip 29 rfl rfl rfl rfl (by kernel_rfl) (by kernel_rfl) (by kernel_rfl) (by kernel_rfl) (by kernel_rfl) rfl (show _ = #[true, true, true, true, true, true, true, true, true, true, true, true, true, true, true, true, true, true, true, true, true, true, true, true, true, true, true, true, true, true, false, false] from rfl) ?_
                refine sxb_skip 30 rfl rfl rfl rfl (by kernel_rfl) (by kernel_rfl) (by kernel_rfl) (by kernel_rfl) (by kernel_rfl) rfl (show _ = #[true, true, true, true, true, true, true, true, true, true, true, true, true, true, true, true, true, true, true, true, true, true, true, true, true, true, true, true, true, true, true, false] from rfl) ?_
                refine sxb_takeP 31 (.bool true) rfl rfl rfl rfl (by kernel_rfl) (by kernel_rfl) (by kernel_rfl) (by kernel_rfl) (by kernel_rfl) rfl (show _ = #[true, true, true, true, true, true, true, true, true, true, true, true, true, true, true, true, true, true, true, true, true, true, true, true, true, true, true, true, true, true, true, true] from rfl) (yv_pv rfl) ?_
                refine sxb_done (by kernel_rfl) ?_
                refine sxq_np ?_ (by intro c h; cases h)
                exact sxq_meetP (true, ()) (lk_cons rfl (lk_cons rfl (lk_cons rfl (lk_cons rfl (lk_cons rfl (lk_cons rfl lk_nil)))))) .nil (.cons 0 rfl .nil) (fk_cons 2 rfl (fk_cons 3 rfl fk_nil))
              · refine sxb_again (d := 56) (v := .bool false) rfl (by rw [h369]) ?_
                refine sxb_takeP 18 (.slice a5 x4.length c6) rfl rfl rfl rfl (by kernel_rfl) (by kernel_rfl) (by kernel_rfl) (by kernel_rfl) (by kernel_rfl) rfl (show _ = #[true, true, true, true, true, true, true, true, true, true, true, true, true, true, true, true, true, true, true, false, false, false, false, false, false, false, false, false, false, false, false, false] from rfl) (yv_pv rfl) ?_
                refine sxb_takeP 19 (.slice a2 x1.length c3) rfl rfl rfl rfl (by kernel_rfl) (by kernel_rfl) (by kernel_rfl) (by kernel_rfl) (by kernel_rfl) rfl (show _ = #[true, true, true, true, true, true, true, true, true, true, true, true, true, true, true, true, true, true, true, true, false, false, false, false, false, false, false, false, false, false, false, false] from rfl) (yv_pv rfl) ?_
                refine sxb_takeP 20 (.int .i64 x262) rfl rfl rfl rfl (by kernel_rfl) (by kernel_rfl) (by kernel_rfl) (by kernel_rfl) (by kernel_rfl) rfl (show _ = #[true, true, true, true, true, true, true, true, true, true, true, true, true, true, true, true, true, true, true, true, true, false, false, false, false, false, false, false, false, false, false, false] from rfl) (yv_pv rfl) ?_
                refine sxb_again (d := 58) (v := .slice (some ⟨b365, o366, none⟩) x1.length c3) rfl (by rw [h367]) ?_
                refine sxb_takeP 21 (.pointer (some ⟨b365, (o366 + x262.toNat * 2), none⟩)) rfl rfl rfl rfl (by kernel_rfl) (by kernel_rfl) (by kernel_rfl) (by kernel_rfl) (by kernel_rfl) rfl (show _ = #[true, true, true, true, true, true, true, true, true, true, true, true, true, true, true, true, true, true, true, true, true, true, false, false, false, false, false, false, false, false, false, false] from rfl) (yv_idx Try.underlying49 tf60 rfl rfl (idx_get e364).1 (idx_lt e364)) ?_
                refine sxb_again (d := 58) (v := .slice a2 x1.length c3) rfl (by rw [h367]) ?_
                refine sxb_takeP 22 (.pointer (some ⟨b365, (o366 + x262.toNat * 2) + 0, none⟩)) rfl rfl rfl rfl (by kernel_rfl) (by kernel_rfl) (by kernel_rfl) (by kernel_rfl) (by kernel_rfl) rfl (show _ = #[true, true, true, true, true, true, true, true, true, true, true, true, true, true, true, true, true, true, true, true, true, true, true, false, false, false, false, false, false, false, false, false] from rfl) (yv_fieldAddr rfl ff60_0) ?_
                refine sxb_take 23 (.int .i64 x364.1) [] rfl rfl rfl rfl (by kernel_rfl) (by kernel_rfl) (by kernel_rfl) (by kernel_rfl) (by kernel_rfl) (by kernel_rfl) rfl (show _ = #[true, true, true, true, true, true, true, true, true, true, true, true, true, true, true, true, true, true, true, true, true, true, true, true, false, false, false, false, false, false, false, false] from rfl) (yv_loadFo (j := 0) (off := 0) rfl tf3 rfl rfl (fun _ => rfl) rfl) ?_
                refine sxb_takeP 24 (.slice a2 x1.length c3) rfl rfl rfl rfl (by kernel_rfl) (by kernel_rfl) (by kernel_rfl) (by kernel_rfl) (by kernel_rfl) rfl (show _ = #[true, true, true, true, true, true, true, true, true, true, true, true, true, true, true, true, true, true, true, true, true, true, true, true, true, false, false, false, false, false, false, false] from rfl) (yv_pv rfl) ?_
                refine sxb_takeP 25 (.int .i64 x262) rfl rfl rfl rfl (by kernel_rfl) (by kernel_rfl) (by kernel_rfl) (by kernel_rfl) (by kernel_rfl) rfl (show _ = #[true, true, true, true, true, true, true, true, true, true, true, true, true, true, true, true, true, true, true, true, true, true, true, true, true, true, false, false, false, false, false, false] from rfl) (yv_pv rfl) ?_
                refine sxb_again (d := 63) (v := .slice (some ⟨b365, o366, none⟩) x1.length c3) rfl (by rw [h367]) ?_
                refine sxb_takeP 26 (.pointer (some ⟨b365, (o366 + x262.toNat * 2), none⟩)) rfl rfl rfl rfl (by kernel_rfl) (by kernel_rfl) (by kernel_rfl) (by kernel_rfl) (by kernel_rfl) rfl (show _ = #[true, true, true, true, true, true, true, true, true, true, true, true, true, true, true, true, true, true, true, true, true, true, true, true, true, true, true, false, false, false, false, false] from rfl) (yv_idx Try.underlying49 tf60 rfl rfl (idx_get e364).1 (idx_lt e364)) ?_
                refine sxb_again (d := 63) (v := .slice a2 x1.length c3) rfl (by rw [h367]) ?_
                refine sxb_takeP 27 (.pointer (some ⟨b365, (o366 + x262.toNat * 2) + 1, none⟩)) rfl rfl rfl rfl (by kernel_rfl) (by kernel_rfl) (by kernel_rfl) (by kernel_rfl) (by kernel_rfl) rfl (show _ = #[true, true, true, true, true, true, true, true, true, true, true, true, true, true, true, true, true, true, true, true, true, true, true, true, true, true, true, true, false, false, false, false] from rfl) (yv_fieldAddr rfl ff60_1) ?_
                refine sxb_take 28 (.int .i64 x364.2) [] rfl rfl rfl rfl (by kernel_rfl) (by kernel_rfl) (by kernel_rfl) (by kernel_rfl) (by kernel_rfl) (by kernel_rfl) rfl (show _ = #[true, true, true, true, true, true, true, true, true, true, true, true, true, true, true, true, true, true, true, true, true, true, true, true, true, true, true, true, true, false, false, false] from rfl) (yv_loadFo (j := 0) (off := 1) rfl tf3 rfl rfl (fun _ => rfl) rfl) ?_
                refine sxb_takeP 29 (.int .i64 (iadd .i64 x364.1 x364.2)) rfl rfl rfl rfl (by kernel_rfl) (by kernel_rfl) (by kernel_rfl) (by kernel_rfl) (by kernel_rfl) rfl (show _ = #[true, true, true, true, true, true, true, true, true, true, true, true, true, true, true, true, true, true, true, true, true, true, true, true, true, true, true, true, true, true, false, false] from rfl) (yv_pv rfl) ?_
                refine sxb_step 30 rfl (by kernel_rfl) (show _ = #[true, true, true, true, true, true, true, true, true, true, true, true, true, true, true, true, true, true, true, true, true, true, true, true, true, true, true, true, true, true, true, false] from rfl) ?_
                refine sxo_call ent38 rfl rfl rfl (fun x370 e370 => C_R_HasInt F x4 a5 c6 (iadd .i64 x364.1 x364.2) x370 e370) (.consF 3 rfl .nil) (fun x370 e370 => ?_)
                intro _
                refine sxo_nil ?_
                refine sxq_anyB .nil (gk_F 0 rfl (gk_F 1 rfl (gk_F 2 rfl (gk_F 3 rfl gk_nil)))) ?_
                refine sxb_takeP 31 (.bool x370) rfl rfl rfl rfl (by kernel_rfl) (by kernel_rfl) (by kernel_rfl) (by kernel_rfl) (by kernel_rfl) rfl (show _ = #[true, true, true, true, true, true, true, true, true, true, true, true, true, true, true, true, true, true, true, true, true, true, true, true, true, true, true, true, true, true, true, true] from rfl) (yv_pv rfl) ?_
                refine sxb_done (by kernel_rfl) ?_
                refine sxq_np ?_ (by intro c h; cases h)
                exact sxq_meetP (x370, ()) (lk_cons rfl (lk_cons rfl (lk_cons rfl (lk_cons rfl (lk_cons rfl (lk_cons rfl lk_nil)))))) .nil (.cons 0 rfl .nil) (fk_cons 2 rfl (fk_cons 3 rfl fk_nil))
          · rintro ⟨x357, _⟩
            try dsimp only
            refine sxc_if rfl (fun h358 => ?_) (fun h358 => ?_)
            · refine sxc_seq ?_
              refine sxc_region ?_
              refine sxo_assign rfl rfl rfl ?_
              refine sxo_nil ?_
              refine sxq_next ?_
              refine sxc_ret ?_
              refine sxq_blkR ?_
              refine sxq_thenR ?_
              refine sxq_thenR ?_
              refine sxq_blkR ?_
              refine sxq_thenR ?_
              exact sxq_doneP () (.inl rfl) (res1 rfl rfl) (fun h => by subst h; rfl) (fun h => by subst h; exact .nil)
            · refine sxc_skip ?_
              refine sxq_blkN ?_
              refine sxq_next ?_
              refine sxc_region ?_
              refine sxo_move rfl rfl rfl ?_
              refine sxo_add rfl rfl rfl rfl ?_
              refine sxo_assign rfl rfl rfl ?_
              refine sxo_nil ?_
              exact sxq_againP (iadd .i64 x262 1, ()) (lk_cons rfl (lk_cons rfl (lk_cons rfl (lk_cons rfl (lk_cons rfl lk_nil))))) .nil (.cons 0 rfl .nil) (fk_cons 0 rfl (fk_cons 1 rfl fk_nil))
        · refine sxc_exit ?_
          refine sxq_thenX ?_
          refine sxq_thenX ?_
          refine sxq_blkX ?_
          exact sxq_meetP ((), ()) (lk_cons rfl (lk_cons rfl (lk_cons rfl (lk_cons rfl lk_nil)))) .nil (.cons 0 rfl .nil) (fk_cons 0 rfl (fk_cons 1 rfl fk_nil))
      · rintro ⟨_, _⟩
        try dsimp only
        refine sxc_seq ?_
        refine sxc_seq ?_
        refine sxc_region ?_
        refine sxo_move rfl rfl rfl ?_
        refine sxo_move rfl rfl rfl ?_
        refine sxo_call ent34 rfl rfl rfl (fun x189 e189 => C_R_RunsSplit F x4 a5 c6 x7 x189 e189) (.consF 1 rfl .nil) (fun x189 e189 => ?_)
        rintro ⟨⟨a190, c191⟩, ⟨a192, c193⟩⟩
        refine sxo_move rfl rfl rfl ?_
        refine sxo_extract rfl rfl rfl rfl ?_
        refine sxo_extract rfl rfl rfl rfl ?_
        refine sxo_assign rfl rfl rfl ?_
        refine sxo_assign rfl rfl rfl ?_
        refine sxo_nil ?_
        refine sxq_next ?_
        refine sxc_seq ?_
        refine sxc_region ?_
        refine sxo_move rfl rfl rfl ?_
        refine sxo_len rfl Try.underlying49 rfl rfl ?_
        refine sxo_gtr rfl rfl rfl rfl ?_
        refine sxo_nil ?_
        refine sxq_next ?_
        refine sxc_if rfl (fun h207 => ?_) (fun h207 => ?_)
        · refine sxc_seq ?_
          refine sxc_region ?_
          refine sxo_assign rfl rfl rfl ?_
          refine sxo_nil ?_
          refine sxq_next ?_
          refine sxc_ret ?_
          refine sxq_thenR ?_
          exact sxq_doneP () (.inl rfl) (res1 rfl rfl) (fun h => by subst h; rfl) (fun h => by subst h; exact .nil)
        · refine sxc_skip ?_
          refine sxq_next ?_
          refine sxc_seq ?_
          refine sxc_region ?_
          refine sxo_move rfl rfl rfl ?_
          refine sxo_move rfl rfl rfl ?_
          refine sxo_call ent31 rfl rfl rfl (fun x194 e194 => C_runs_Split F x8.1 a9 c10 x7 x194 e194) (.consR 2 (Ro (eI .i64) 3 1 (.slice a9 x8.1.length c10) x8.1) rfl .nil) (fun x194 e194 => ?_)
          rintro ⟨⟨a195, c196⟩, ⟨a197, c198⟩⟩
          refine sxo_move rfl rfl rfl ?_
          refine sxo_extract rfl rfl rfl rfl ?_
          refine sxo_extract rfl rfl rfl rfl ?_
          refine sxo_extract rfl rfl rfl rfl ?_
          refine sxo_assign rfl rfl rfl ?_
          refine sxo_assign rfl rfl rfl ?_
          refine sxo_assign rfl rfl rfl ?_
          refine sxo_nil ?_
          refine sxq_next ?_
          refine sxc_seq ?_
          refine sxc_region ?_
          refine sxo_move rfl rfl rfl ?_
          refine sxo_eql rfl rfl rfl rfl ?_
          refine sxo_move rfl rfl rfl ?_
          refine sxo_join 4 (fun ((x201, _) : (Bool × Unit)) => [(1, .slice a5 x4.length c6), (13, .slice a197 x194.2.1.length c198), (93, .bool x201)]) (fun ((x201, _) : (Bool × Unit)) => []) (fun ((x201, _) : (Bool × Unit)) => [Ro (eI .i64) 3 1 (.slice a197 x194.2.1.length c198) x194.2.1]) (fun ((x201, _) : (Bool × Unit)) => [Sl (eI .i64) 1 (.slice a5 x4.length c6) x4]) (fun ((x201, _) : (Bool × Unit)) => M_L_RunsOnly_j9 F x4 x194 x201) ?_ ?_
          · refine sxo_take (os := _) rfl ?_
            refine sxo_if (fun h199 => ?_) (fun h199 => ?_)
            · refine sxo_isT (k := 89) rfl h199 ?_
              refine sxo_move rfl rfl rfl ?_
              refine sxo_move rfl rfl rfl ?_
              refine sxo_call ent37 rfl rfl rfl (fun x206 e206 => C_R_SameRuns F x194.1 a195 c196 x1 a2 c3 x206 e206) (.consR 0 (Ro eS60 60 2 (.slice a195 x194.1.length c196) x194.1) rfl (.consF 0 rfl .nil)) (fun x206 e206 => ?_)
              intro _
              refine sxo_pick (b := true) rfl rfl rfl rfl ?_
              refine sxo_nil ?_
              exact sxq_meetP (x206, ()) (lk_cons rfl (lk_cons rfl (lk_cons rfl lk_nil))) .nil (.cons 1 rfl .nil) (fk_cons 1 rfl fk_nil)
            · refine sxo_isF (k := 89) rfl h199 ?_
              refine sxo_skip rfl rfl rfl ?_
              refine sxo_skip rfl rfl rfl ?_
              refine sxo_skip rfl rfl rfl ?_
              refine sxo_pick (b := false) rfl rfl rfl rfl ?_
              refine sxo_nil ?_
              exact sxq_meetP (false, ()) (lk_cons rfl (lk_cons rfl (lk_cons rfl lk_nil))) .nil (.cons 1 rfl .nil) (fk_cons 1 rfl fk_nil)
          · rintro ⟨x201, _⟩
            try dsimp only
            refine sxo_take (os := _) rfl ?_
            refine sxo_move rfl rfl rfl ?_
            refine sxo_join 4 (fun ((x204, _) : (Bool × Unit)) => [(98, .bool x204)]) (fun ((x204, _) : (Bool × Unit)) => []) (fun ((x204, _) : (Bool × Unit)) => []) (fun ((x204, _) : (Bool × Unit)) => []) (fun ((x204, _) : (Bool × Unit)) => M_L_RunsOnly_j10 F x204) ?_ ?_
            · refine sxo_take (os := _) rfl ?_
              refine sxo_if (fun h202 => ?_) (fun h202 => ?_)
              · refine sxo_isT (k := 94) rfl h202 ?_
                refine sxo_move rfl rfl rfl ?_
                refine sxo_move rfl rfl rfl ?_
                refine sxo_call ent25 rfl rfl rfl (fun x205 e205 => C_R_SameInts F x194.2.1 a197 c198 x4 a5 c6 x205 e205) (.consR 0 (Ro (eI .i64) 3 1 (.slice a197 x194.2.1.length c198) x194.2.1) rfl (.consF 0 rfl .nil)) (fun x205 e205 => ?_)
                intro _
                refine sxo_pick (b := true) rfl rfl rfl rfl ?_
                refine sxo_nil ?_
                exact sxq_meetP (x205, ()) (lk_cons rfl lk_nil) .nil .nil fk_nil
              · refine sxo_isF (k := 94) rfl h202 ?_
                refine sxo_skip rfl rfl rfl ?_
                refine sxo_skip rfl rfl rfl ?_
                refine sxo_skip rfl rfl rfl ?_
                refine sxo_pick (b := false) rfl rfl rfl rfl ?_
                refine sxo_nil ?_
                exact sxq_meetP (false, ()) (lk_cons rfl lk_nil) .nil .nil fk_nil
            · rintro ⟨x204, _⟩
              try dsimp only
              refine sxo_take (os := _) rfl ?_
              refine sxo_assign rfl rfl rfl ?_
              refine sxo_nil ?_
              refine sxq_next ?_
              refine sxc_ret ?_
              exact sxq_doneP () (.inl rfl) (res1 rfl rfl) (fun h => by subst h; rfl) (fun h => by subst h; exact .nil)

set_option maxHeartbeats 4000000 in
theorem C_L_RunsMore (F : Nat) (x1 : List Int) (a2 : Option Addr) (c3 : Nat) (x4 : Int) (r : Bool) (hm : M_L_RunsMore F x1 x4 = some r) :
    Pure Try.prog 12 [.slice a2 x1.length c3, .int .i64 x4] [Sl (eI .i64) 1 (.slice a2 x1.length c3) x1] Unit (fun _ => .bool r) (fun _ => []) (fun _ => []) := by
  refine pure_of Try.func12 rfl Try.ntmps12 rfl hm (fun w => ?_)
  refine sxc_env (l' := [(0, .slice a2 x1.length c3), (1, .int .i64 x4)]) rfl ?_
  refine sxc_seq ?_
  refine sxc_region ?_
  refine sxo_assign rfl rfl rfl ?_
  refine sxo_nil ?_
  refine sxq_next ?_
  refine sxc_seq ?_
  refine sxc_region ?_
  refine sxo_move rfl rfl rfl ?_
  refine sxo_move rfl rfl rfl ?_
  refine sxo_call ent31 rfl rfl rfl (fun x5 e5 => C_runs_Split F x1 a2 c3 x4 x5 e5) (.consF 0 rfl .nil) (fun x5 e5 => ?_)
  rintro ⟨⟨a6, c7⟩, ⟨a8, c9⟩⟩
  refine sxo_move rfl rfl rfl ?_
  refine sxo_extract rfl rfl rfl rfl ?_
  refine sxo_extract rfl rfl rfl rfl ?_
  refine sxo_extract rfl rfl rfl rfl ?_
  refine sxo_assign rfl rfl rfl ?_
  refine sxo_assign rfl rfl rfl ?_
  refine sxo_assign rfl rfl rfl ?_
  refine sxo_nil ?_
  refine sxq_next ?_
  refine sxc_seq ?_
  refine sxc_region ?_
  refine sxo_move rfl rfl rfl ?_
  refine sxo_move rfl rfl rfl ?_
  refine sxo_add rfl rfl rfl rfl ?_
  refine sxo_call ent31 rfl rfl rfl (fun x10 e10 => C_runs_Split F x1 a2 c3 (iadd .i64 x4 1) x10 e10) (.consF 0 rfl .nil) (fun x10 e10 => ?_)
  rintro ⟨⟨a11, c12⟩, ⟨a13, c14⟩⟩
  refine sxo_move rfl rfl rfl ?_
  refine sxo_extract rfl rfl rfl rfl ?_
  refine sxo_extract rfl rfl rfl rfl ?_
  refine sxo_extract rfl rfl rfl rfl ?_
  refine sxo_assign rfl rfl rfl ?_
  refine sxo_assign rfl rfl rfl ?_
  refine sxo_assign rfl rfl rfl ?_
  refine sxo_nil ?_
  refine sxq_next ?_
  refine sxc_seq ?_
  refine sxc_seq ?_
  refine sxc_region ?_
  refine sxo_call ent36 rfl rfl rfl (fun x17 e17 => C_L_runsBegun F  x17 e17) .nil (fun x17 e17 => ?_)
  intro _
  refine sxo_not rfl rfl rfl ?_
  refine sxo_nil ?_
  refine sxq_next ?_
  refine sxc_if rfl (fun h3003 => ?_) (fun h3003 => ?_)
  · refine sxc_seq ?_
    refine sxc_region ?_
    refine sxo_assign rfl rfl rfl ?_
    refine sxo_nil ?_
    refine sxq_next ?_
    refine sxc_ret ?_
    refine sxq_thenR ?_
    exact sxq_doneP () (.inl rfl) (res1 rfl rfl) (fun h => by subst h; rfl) (fun h => by subst h; exact .nil)
  · refine sxc_skip ?_
    refine sxq_next ?_
    refine sxc_seq ?_
    refine sxc_seq ?_
    refine sxc_region ?_
    refine sxo_move rfl rfl rfl ?_
    refine sxo_neq rfl rfl rfl rfl ?_
    refine sxo_nil ?_
    refine sxq_next ?_
    refine sxc_if rfl (fun h3002 => ?_) (fun h3002 => ?_)
    · refine sxc_seq ?_
      refine sxc_region ?_
      refine sxo_assign rfl rfl rfl ?_
      refine sxo_nil ?_
      refine sxq_next ?_
      refine sxc_ret ?_
      refine sxq_thenR ?_
      exact sxq_doneP () (.inl rfl) (res1 rfl rfl) (fun h => by subst h; rfl) (fun h => by subst h; exact .nil)
    · refine sxc_skip ?_
      refine sxq_next ?_
      refine sxc_seq ?_
      refine sxc_region ?_
      refine sxo_move rfl rfl rfl ?_
      refine sxo_call ent33 rfl rfl rfl (fun x19 e19 => C_runs_Count F x5.1 a6 c7 x19 e19) (.consR 2 (Ro eS60 60 2 (.slice a6 x5.1.length c7) x5.1) rfl .nil) (fun x19 e19 => ?_)
      intro _
      refine sxo_move rfl rfl rfl ?_
      refine sxo_extract rfl rfl rfl rfl ?_
      refine sxo_extract rfl rfl rfl rfl ?_
      refine sxo_assign rfl rfl rfl ?_
      refine sxo_assign rfl rfl rfl ?_
      refine sxo_nil ?_
      refine sxq_next ?_
      refine sxc_seq ?_
      refine sxc_seq ?_
      refine sxc_region ?_
      refine sxo_move rfl rfl rfl ?_
      refine sxo_neq rfl rfl rfl rfl ?_
      refine sxo_move rfl rfl rfl ?_
      refine sxo_case 8 ((x19.2 : Int) != 0) [(5, .slice a6 x5.1.length c7), (8, .slice a11 x10.1.length c12), (10, .int .i64 x10.2.2), (49, .bool (((x19.2 : Int) != 0) || (((iadd .i64 x19.1 (x5.2.1.length : Int)) : Int) != (x1.length : Int))))] (fun h22 => ?_) (fun h22 => ?_) ?_
      · refine sxo_take (os := _) rfl ?_
        refine sxo_isT (k := 41) rfl h22 ?_
        refine sxo_skip rfl rfl rfl ?_
        refine sxo_skip rfl rfl rfl ?_
        refine sxo_skip rfl rfl rfl ?_
        refine sxo_skip rfl rfl rfl ?_
        refine sxo_skip rfl rfl rfl ?_
        refine sxo_skip rfl rfl rfl ?_
        refine sxo_skip rfl rfl rfl ?_
        refine sxo_pick (b := true) rfl rfl rfl rfl ?_
        refine sxo_again (d := 49) (v := .bool (((x19.2 : Int) != 0) || (((iadd .i64 x19.1 (x5.2.1.length : Int)) : Int) != (x1.length : Int)))) rfl (by rw [h22]; simp only [Bool.true_or]) ?_
        refine sxo_nil ?_
        exact sxq_case (lk_cons rfl (lk_cons rfl (lk_cons rfl (lk_cons rfl lk_nil))))
      · refine sxo_take (os := _) rfl ?_
        refine sxo_isF (k := 41) rfl h22 ?_
        refine sxo_move rfl rfl rfl ?_
        refine sxo_move rfl rfl rfl ?_
        refine sxo_len rfl Try.underlying22 rfl rfl ?_
        refine sxo_add rfl rfl rfl rfl ?_
        refine sxo_move rfl rfl rfl ?_
        refine sxo_len rfl Try.underlying22 rfl rfl ?_
        refine sxo_neq rfl rfl rfl rfl ?_
        refine sxo_pick (b := false) rfl rfl rfl rfl ?_
        refine sxo_again (d := 49) (v := .bool (((x19.2 : Int) != 0) || (((iadd .i64 x19.1 (x5.2.1.length : Int)) : Int) != (x1.length : Int)))) rfl (by rw [h22]; simp only [Bool.false_or]) ?_
        refine sxo_nil ?_
        exact sxq_case (lk_cons rfl (lk_cons rfl (lk_cons rfl (lk_cons rfl lk_nil))))
      refine sxo_take (os := _) rfl ?_
      refine sxo_nil ?_
      refine sxq_next ?_
      refine sxc_if rfl (fun h3001 => ?_) (fun h3001 => ?_)
      · refine sxc_seq ?_
        refine sxc_region ?_
        refine sxo_assign rfl rfl rfl ?_
        refine sxo_nil ?_
        refine sxq_next ?_
        refine sxc_ret ?_
        refine sxq_thenR ?_
        exact sxq_doneP () (.inl rfl) (res1 rfl rfl) (fun h => by subst h; rfl) (fun h => by subst h; exact .nil)
      · refine sxc_skip ?_
        refine sxq_next ?_
        refine sxc_seq ?_
        refine sxc_seq ?_
        refine sxc_region ?_
        refine sxo_move rfl rfl rfl ?_
        refine sxo_neq rfl rfl rfl rfl ?_
        refine sxo_nil ?_
        refine sxq_next ?_
        refine sxc_if rfl (fun h3000 => ?_) (fun h3000 => ?_)
        · refine sxc_seq ?_
          refine sxc_region ?_
          refine sxo_move rfl rfl rfl ?_
          refine sxo_eql rfl rfl rfl rfl ?_
          refine sxo_assign rfl rfl rfl ?_
          refine sxo_nil ?_
          refine sxq_next ?_
          refine sxc_ret ?_
          refine sxq_thenR ?_
          exact sxq_doneP () (.inl rfl) (res1 rfl rfl) (fun h => by subst h; rfl) (fun h => by subst h; exact .nil)
        · refine sxc_skip ?_
          refine sxq_next ?_
          refine sxc_seq ?_
          refine sxc_region ?_
          refine sxo_assign rfl rfl rfl ?_
          refine sxo_nil ?_
          refine sxq_next ?_
          refine sxc_join (fun ((_, _) : (Unit × Unit)) => [(5, .slice a6 x5.1.length c7), (8, .slice a11 x10.1.length c12)]) (fun ((_, _) : (Unit × Unit)) => []) (fun ((_, _) : (Unit × Unit)) => [Ro eS60 60 2 (.slice a6 x5.1.length c7) x5.1, Ro eS60 60 2 (.slice a11 x10.1.length c12) x10.1]) (fun ((_, _) : (Unit × Unit)) => []) (fun ((_, _) : (Unit × Unit)) => M_L_RunsMore_j95 F x5 x10) ?_ ?_
          · refine sxc_seq ?_
            refine sxc_region ?_
            refine sxo_assign rfl rfl rfl ?_
            refine sxo_nil ?_
            refine sxq_next ?_
            refine sxc_block ?_
            refine sxc_loopP (fun (((x2007, x2008), _) : ((Int × Int) × Unit)) => [(5, .slice a6 x5.1.length c7), (8, .slice a11 x10.1.length c12), (13, .int .i64 x2007), (14, .int .i64 x2008)]) (fun (((x2007, x2008), _) : ((Int × Int) × Unit)) => []) (fun (((x2007, x2008), _) : ((Int × Int) × Unit)) => [Ro eS60 60 2 (.slice a6 x5.1.length c7) x5.1, Ro eS60 60 2 (.slice a11 x10.1.length c12) x10.1]) (fun (((x2007, x2008), _) : ((Int × Int) × Unit)) => []) (fun k (s : ((Int × Int) × Unit)) => M_L_RunsMore_l158 F x5 x10 k s.1) ((0, 0), ()) F (lk_cons rfl (lk_cons rfl (lk_cons rfl (lk_cons rfl lk_nil)))) .nil (.cons 2 rfl (.cons 0 rfl .nil)) fk_nil (fun _ => rfl) ?_
            intro k2504
            rintro ⟨⟨x2007, x2008⟩, _⟩
            try dsimp only
            refine sxc_meq (m' := M_L_RunsMore_b158 F x5 x10 (M_L_RunsMore_l158 F x5 x10 k2504) x2007 x2008) rfl ?_
            refine sxc_seq ?_
            refine sxc_seq ?_
            refine sxc_region ?_
            refine sxo_move rfl rfl rfl ?_
            refine sxo_move rfl rfl rfl ?_
            refine sxo_len rfl Try.underlying49 rfl rfl ?_
            refine sxo_lss rfl rfl rfl rfl ?_
            refine sxo_nil ?_
            refine sxq_next ?_
            refine sxc_if rfl (fun h2999 => ?_) (fun h2999 => ?_)
            · refine sxc_skip ?_
              refine sxq_next ?_
              refine sxc_join (fun ((x2752, _) : (Int × Unit)) => [(5, .slice a6 x5.1.length c7), (8, .slice a11 x10.1.length c12), (13, .int .i64 x2752), (14, .int .i64 x2008)]) (fun ((x2752, _) : (Int × Unit)) => []) (fun ((x2752, _) : (Int × Unit)) => [Ro eS60 60 2 (.slice a6 x5.1.length c7) x5.1, Ro eS60 60 2 (.slice a11 x10.1.length c12) x10.1]) (fun ((x2752, _) : (Int × Unit)) => []) (fun ((x2752, _) : (Int × Unit)) => M_L_RunsMore_j174 F (M_L_RunsMore_l158 F x5 x10 k2504) x2008 x2752) ?_ ?_
              · refine sxc_block ?_
                refine sxc_join (fun ((x2875, _) : (Int × Unit)) => [(5, .slice a6 x5.1.length c7), (8, .slice a11 x10.1.length c12), (13, .int .i64 x2875), (14, .int .i64 x2008)]) (fun ((x2875, _) : (Int × Unit)) => []) (fun ((x2875, _) : (Int × Unit)) => [Ro eS60 60 2 (.slice a6 x5.1.length c7) x5.1, Ro eS60 60 2 (.slice a11 x10.1.length c12) x10.1]) (fun ((x2875, _) : (Int × Unit)) => []) (fun ((x2875, _) : (Int × Unit)) => M_L_RunsMore_j182 F (M_L_RunsMore_l158 F x5 x10 k2504) x5 x2008 x2875) ?_ ?_
                · refine sxc_block ?_
                  refine sxc_loopP (fun ((x2917, _) : (Int × Unit)) => [(5, .slice a6 x5.1.length c7), (8, .slice a11 x10.1.length c12), (13, .int .i64 x2917), (14, .int .i64 x2008)]) (fun ((x2917, _) : (Int × Unit)) => []) (fun ((x2917, _) : (Int × Unit)) => [Ro eS60 60 2 (.slice a6 x5.1.length c7) x5.1, Ro eS60 60 2 (.slice a11 x10.1.length c12) x10.1]) (fun ((x2917, _) : (Int × Unit)) => []) (fun k (s : (Int × Unit)) => M_L_RunsMore_l187 F (M_L_RunsMore_l158 F x5 x10 k2504) x5 x10 x2008 k s.1) (x2007, ()) F (lk_cons rfl (lk_cons rfl (lk_cons rfl (lk_cons rfl lk_nil)))) .nil (.cons 0 rfl (.cons 0 rfl .nil)) fk_nil (fun _ => rfl) ?_
                  intro k2958
                  rintro ⟨x2917, _⟩
                  try dsimp only
                  refine sxc_meq (m' := M_L_RunsMore_b187 F (M_L_RunsMore_l158 F x5 x10 k2504) x5 x10 x2008 (M_L_RunsMore_l187 F (M_L_RunsMore_l158 F x5 x10 k2504) x5 x10 x2008 k2958) x2917) rfl ?_
                  refine sxc_seq ?_
                  refine sxc_join (fun ((x2988, _) : (Bool × Unit)) => [(5, .slice a6 x5.1.length c7), (8, .slice a11 x10.1.length c12), (13, .int .i64 x2917), (14, .int .i64 x2008), (74, .bool x2988)]) (fun ((x2988, _) : (Bool × Unit)) => []) (fun ((x2988, _) : (Bool × Unit)) => [Ro eS60 60 2 (.slice a6 x5.1.length c7) x5.1, Ro eS60 60 2 (.slice a11 x10.1.length c12) x10.1]) (fun ((x2988, _) : (Bool × Unit)) => []) (fun ((x2988, _) : (Bool × Unit)) => M_L_RunsMore_j189 F (M_L_RunsMore_l158 F x5 x10 k2504) (M_L_RunsMore_l187 F (M_L_RunsMore_l158 F x5 x10 k2504) x5 x10 x2008 k2958) x5 x2008 x2917 x2988) ?_ ?_
                  · refine sxc_split (fun h2990 => ?_) (fun h2990 => ?_)
                    · refine sxc_idxO (j := 0) rfl (fun x2991 e2991 g2992 h2993 => ?_)
                      replace h2993 : a6 = some ⟨g2992, 0, none⟩ := h2993
                      have h2994 := own_of (k := x5.1.length) (c := c7) h2993
                      refine sxc_idxO (j := 1) rfl (fun x2995 e2995 g2996 h2997 => ?_)
                      replace h2997 : a11 = some ⟨g2996, 0, none⟩ := h2997
                      have h2998 := own_of (k := x10.1.length) (c := c12) h2997
                      refine sxb_draw mixed [] [] [CellsAt g2992 (x2917.toNat * 2) (eS60 x2991), CellsAt g2996 (x2008.toNat * 2) (eS60 x2995)] .nil (gk_R 0 rfl (at_row eS60_ok e2991 h2993) (gk_R 1 rfl (at_row eS60_ok e2995 h2997) gk_nil)) 15 rfl ?_
                      refine sxb_takeP 0 (.int .i64 x2917) rfl rfl rfl rfl (by kernel_rfl) (by kernel_rfl) (by kernel_rfl) (by kernel_rfl) (by kernel_rfl) rfl (show _ = #[true, false, false, false, false, false, false, false, false, false, false, false, false, false, false] from rfl) (yv_pv rfl) ?_
                      refine sxb_takeP 1 (.slice a6 x5.1.length c7) rfl rfl rfl rfl (by kernel_rfl) (by kernel_rfl) (by kernel_rfl) (by kernel_rfl) (by kernel_rfl) rfl (show _ = #[true, true, false, false, false, false, false, false, false, false, false, false, false, false, false] from rfl) (yv_pv rfl) ?_
                      refine sxb_takeP 2 (.int .i64 (x5.1.length : Int)) rfl rfl rfl rfl (by kernel_rfl) (by kernel_rfl) (by kernel_rfl) (by kernel_rfl) (by kernel_rfl) rfl (show _ = #[true, true, true, false, false, false, false, false, false, false, false, false, false, false, false] from rfl) (yv_len Try.underlying49 rfl) ?_
                      refine sxb_takeP 3 (.bool (decide (x2917 < (x5.1.length : Int)))) rfl rfl rfl rfl (by kernel_rfl) (by kernel_rfl) (by kernel_rfl) (by kernel_rfl) (by kernel_rfl) rfl (show _ = #[true, true, true, true, false, false, false, false, false, false, false, false, false, false, false] from rfl) (yv_pv rfl) ?_
                      refine sxb_takeP 4 (.bool (decide (x2917 < (x5.1.length : Int)))) rfl rfl rfl rfl (by kernel_rfl) (by kernel_rfl) (by kernel_rfl) (by kernel_rfl) (by kernel_rfl) rfl (show _ = #[true, true, true, true, true, false, false, false, false, false, false, false, false, false, false] from rfl) (yv_pv rfl) ?_
                      refine sxb_again (d := 64) (v := .bool true) rfl (by rw [h2990]) ?_
                      refine sxb_takeP 5 (.slice a6 x5.1.length c7) rfl rfl rfl rfl (by kernel_rfl) (by kernel_rfl) (by kernel_rfl) (by kernel_rfl) (by kernel_rfl) rfl (show _ = #[true, true, true, true, true, true, false, false, false, false, false, false, false, false, false] from rfl) (yv_pv rfl) ?_
                      refine sxb_takeP 6 (.int .i64 x2917) rfl rfl rfl rfl (by kernel_rfl) (by kernel_rfl) (by kernel_rfl) (by kernel_rfl) (by kernel_rfl) rfl (show _ = #[true, true, true, true, true, true, true, false, false, false, false, false, false, false, false] from rfl) (yv_pv rfl) ?_
                      refine sxb_again (d := 65) (v := .slice (some ⟨g2992, 0, none⟩) x5.1.length c7) rfl (by rw [h2993]) ?_
                      refine sxb_takeP 7 (.pointer (some ⟨g2992, x2917.toNat * 2, none⟩)) rfl rfl rfl rfl (by kernel_rfl) (by kernel_rfl) (by kernel_rfl) (by kernel_rfl) (by kernel_rfl) rfl (show _ = #[true, true, true, true, true, true, true, true, false, false, false, false, false, false, false] from rfl) (yv_idxO Try.underlying49 tf60 rfl rfl (idx_get e2991).1 (idx_lt e2991)) ?_
                      refine sxb_again (d := 65) (v := .slice a6 x5.1.length c7) rfl (by rw [h2993]) ?_
                      refine sxb_take 8 (.agg #[.int .i64 x2991.1, .int .i64 x2991.2]) [] rfl rfl rfl rfl (by kernel_rfl) (by kernel_rfl) (by kernel_rfl) (by kernel_rfl) (by kernel_rfl) (by kernel_rfl) rfl (show _ = #[true, true, true, true, true, true, true, true, true, false, false, false, false, false, false] from rfl) (yv_loadF (j := 0) rfl tf60 rfl rfl (by simp) rfl) ?_
                      refine sxb_takeP 9 (.slice a11 x10.1.length c12) rfl rfl rfl rfl (by kernel_rfl) (by kernel_rfl) (by kernel_rfl) (by kernel_rfl) (by kernel_rfl) rfl (show _ = #[true, true, true, true, true, true, true, true, true, true, false, false, false, false, false] from rfl) (yv_pv rfl) ?_
                      refine sxb_takeP 10 (.int .i64 x2008) rfl rfl rfl rfl (by kernel_rfl) (by kernel_rfl) (by kernel_rfl) (by kernel_rfl) (by kernel_rfl) rfl (show _ = #[true, true, true, true, true, true, true, true, true, true, true, false, false, false, false] from rfl) (yv_pv rfl) ?_
                      refine sxb_again (d := 69) (v := .slice (some ⟨g2996, 0, none⟩) x10.1.length c12) rfl (by rw [h2997]) ?_
                      refine sxb_takeP 11 (.pointer (some ⟨g2996, x2008.toNat * 2, none⟩)) rfl rfl rfl rfl (by kernel_rfl) (by kernel_rfl) (by kernel_rfl) (by kernel_rfl) (by kernel_rfl) rfl (show _ = #[true, true, true, true, true, true, true, true, true, true, true, true, false, false, false] from rfl) (yv_idxO Try.underlying49 tf60 rfl rfl (idx_get e2995).1 (idx_lt e2995)) ?_
                      refine sxb_again (d := 69) (v := .slice a11 x10.1.length c12) rfl (by rw [h2997]) ?_
                      refine sxb_take 12 (.agg #[.int .i64 x2995.1, .int .i64 x2995.2]) [] rfl rfl rfl rfl (by kernel_rfl) (by kernel_rfl) (by kernel_rfl) (by kernel_rfl) (by kernel_rfl) (by kernel_rfl) rfl (show _ = #[true, true, true, true, true, true, true, true, true, true, true, true, true, false, false] from rfl) (yv_loadF (j := 1) rfl tf60 rfl rfl (by simp) rfl) ?_
                      refine sxb_takeP 13 (.bool (!(((x2991.1 : Int) == x2995.1) && ((x2991.2 : Int) == x2995.2)))) rfl rfl rfl rfl (by kernel_rfl) (by kernel_rfl) (by kernel_rfl) (by kernel_rfl) (by kernel_rfl) rfl (show _ = #[true, true, true, true, true, true, true, true, true, true, true, true, true, true, false] from rfl) (yv_neq2 rfl rfl se60) ?_
                      refine sxb_takeP 14 (.bool (!(((x2991.1 : Int) == x2995.1) && ((x2991.2 : Int) == x2995.2)))) rfl rfl rfl rfl (by kernel_rfl) (by kernel_rfl) (by kernel_rfl) (by kernel_rfl) (by kernel_rfl) rfl (show _ = #[true, true, true, true, true, true, true, true, true, true, true, true, true, true, true] from rfl) (yv_pv rfl) ?_
                      refine sxb_done (by kernel_rfl) ?_
                      refine sxq_np ?_ (by intro c h; cases h)
                      exact sxq_meetP ((!(((x2991.1 : Int) == x2995.1) && ((x2991.2 : Int) == x2995.2))), ()) (lk_cons rfl (lk_cons rfl (lk_cons rfl (lk_cons rfl (lk_cons rfl lk_nil))))) .nil (.cons 0 rfl (.cons 0 rfl .nil)) fk_nil
                    · refine sxb_draw mixed [] [] [] .nil gk_nil 15 rfl ?_
                      refine sxb_takeP 0 (.int .i64 x2917) rfl rfl rfl rfl (by kernel_rfl) (by kernel_rfl) (by kernel_rfl) (by kernel_rfl) (by kernel_rfl) rfl (show _ = #[true, false, false, false, false, false, false, false, false, false, false, false, false, false, false] from rfl) (yv_pv rfl) ?_
                      refine sxb_takeP 1 (.slice a6 x5.1.length c7) rfl rfl rfl rfl (by kernel_rfl) (by kernel_rfl) (by kernel_rfl) (by kernel_rfl) (by kernel_rfl) rfl (show _ = #[true, true, false, false, false, false, false, false, false, false, false, false, false, false, false] from rfl) (yv_pv rfl) ?_
                      refine sxb_takeP 2 (.int .i64 (x5.1.length : Int)) rfl rfl rfl rfl (by kernel_rfl) (by kernel_rfl) (by kernel_rfl) (by kernel_rfl) (by kernel_rfl) rfl (show _ = #[true, true, true, false, false, false, false, false, false, false, false, false, false, false, false] from rfl) (yv_len Try.underlying49 rfl) ?_
                      refine sxb_takeP 3 (.bool (decide (x2917 < (x5.1.length : Int)))) rfl rfl rfl rfl (by kernel_rfl) (by kernel_rfl) (by kernel_rfl) (by kernel_rfl) (by kernel_rfl) rfl (show _ = #[true, true, true, true, false, false, false, false, false, false, false, false, false, false, false] from rfl) (yv_pv rfl) ?_
                      refine sxb_takeP 4 (.bool (decide (x2917 < (x5.1.length : Int)))) rfl rfl rfl rfl (by kernel_rfl) (by kernel_rfl) (by kernel_rfl) (by kernel_rfl) (by kernel_rfl) rfl (show _ = #[true, true, true, true, true, false, false, false, false, false, false, false, false, false, false] from rfl) (yv_pv rfl) ?_
                      refine sxb_again (d := 64) (v := .bool false) rfl (by rw [h2990]) ?_
                      refine sxb_skip 5 rfl rfl rfl rfl (by kernel_rfl) (by kernel_rfl) (by kernel_rfl) (by kernel_rfl) (by kernel_rfl) rfl (show _ = #[true, true, true, true, true, true, false, false, false, false, false, false, false, false, false] from rfl) ?_
                      refine sxb_skip 6 rfl rfl rfl rfl (by kernel_rfl) (by kernel_rfl) (by kernel_rfl) (by kernel_rfl) (by kernel_rfl) rfl (show _ = #[true, true, true, true, true, true, true, false, false, false, false, false, false, false, false] from rfl) ?_
                      refine sxb_skip 7 rfl rfl rfl rfl (by kernel_rfl) (by kernel_rfl) (by kernel_rfl) (by kernel_rfl) (by kernel_rfl) rfl (show _ = #[true, true, true, true, true, true, true, true, false, false, false, false, false, false, false] from rfl) ?_
                      refine sxb_skip 8 rfl rfl rfl rfl (by kernel_rfl) (by kernel_rfl) (by kernel_rfl) (by kernel_rfl) (by kernel_rfl) rfl (show _ = #[true, true, true, true, true, true, true, true, true, false, false, false, false, false, false] from rfl) ?_
                      refine sxb_skip 9 rfl rfl rfl rfl (by kernel_rfl) (by kernel_rfl) (by kernel_rfl) (by kernel_rfl) (by kernel_rfl) rfl (show _ = #[true, true, true, true, true, true, true, true, true, true, false, false, false, false, false] from rfl) ?_
                      refine sxb_skip 10 rfl rfl rfl rfl (by kernel_rfl) (by kernel_rfl) (by kernel_rfl) (by kernel_rfl) (by kernel_rfl) rfl (show _ = #[true, true, true, true, true, true, true, true, true, true, true, false, false, false, false] from rfl) ?_
                      refine sxb_skip 11 rfl rfl rfl rfl (by kernel_rfl) (by kernel_rfl) (by kernel_rfl) (by kernel_rfl) (by kernel_rfl) rfl (show _ = #[true, true, true, true, true, true, true, true, true, true, true, true, false, false, false] from rfl) ?_
                      refine sxb_skip 12 rfl rfl rfl rfl (by kernel_rfl) (by kernel_rfl) (by kernel_rfl) (by kernel_rfl) (by kernel_rfl) rfl (show _ = #[true, true, true, true, true, true, true, true, true, true, true, true, true, false, false] from rfl) ?_
                      refine sxb_skip 13 rfl rfl rfl rfl (by kernel_rfl) (by kernel_rfl) (by kernel_rfl) (by kernel_rfl) (by kernel_rfl) rfl (show _ = #[true, true, true, true, true, true, true, true, true, true, true, true, true, true, false] from rfl) ?_
                      refine sxb_takeP 14 (.bool false) rfl rfl rfl rfl (by kernel_rfl) (by kernel_rfl) (by kernel_rfl) (by kernel_rfl) (by kernel_rfl) rfl (show _ = #[true, true, true, true, true, true, true, true, true, true, true, true, true, true, true] from rfl) (yv_pv rfl) ?_
                      refine sxb_done (by kernel_rfl) ?_
                      refine sxq_np ?_ (by intro c h; cases h)
                      exact sxq_meetP (false, ()) (lk_cons rfl (lk_cons rfl (lk_cons rfl (lk_cons rfl (lk_cons rfl lk_nil))))) .nil (.cons 0 rfl (.cons 0 rfl .nil)) fk_nil
                  · rintro ⟨x2988, _⟩
                    try dsimp only
                    refine sxc_if rfl (fun h2989 => ?_) (fun h2989 => ?_)
                    · refine sxc_skip ?_
                      refine sxq_next ?_
                      refine sxc_block ?_
                      refine sxc_region ?_
                      refine sxo_move rfl rfl rfl ?_
                      refine sxo_add rfl rfl rfl rfl ?_
                      refine sxo_assign rfl rfl rfl ?_
                      refine sxo_nil ?_
                      refine sxq_blkN ?_
                      exact sxq_againP (iadd .i64 x2917 1, ()) (lk_cons rfl (lk_cons rfl (lk_cons rfl (lk_cons rfl lk_nil)))) .nil (.cons 0 rfl (.cons 0 rfl .nil)) fk_nil
                    · refine sxc_exit ?_
                      refine sxq_thenX ?_
                      refine sxq_thenX ?_
                      refine sxq_blkX ?_
                      exact sxq_meetP (x2917, ()) (lk_cons rfl (lk_cons rfl (lk_cons rfl (lk_cons rfl lk_nil)))) .nil (.cons 0 rfl (.cons 0 rfl .nil)) fk_nil
                · rintro ⟨x2875, _⟩
                  try dsimp only
                  refine sxc_seq ?_
                  refine sxc_region ?_
                  refine sxo_move rfl rfl rfl ?_
                  refine sxo_move rfl rfl rfl ?_
                  refine sxo_len rfl Try.underlying49 rfl rfl ?_
                  refine sxo_geq rfl rfl rfl rfl ?_
                  refine sxo_nil ?_
                  refine sxq_next ?_
                  refine sxc_if rfl (fun h2876 => ?_) (fun h2876 => ?_)
                  · refine sxc_seq ?_
                    refine sxc_region ?_
                    refine sxo_assign rfl rfl rfl ?_
                    refine sxo_nil ?_
                    refine sxq_next ?_
                    refine sxc_ret ?_
                    refine sxq_blkR ?_
                    refine sxq_thenR ?_
                    refine sxq_thenR ?_
                    refine sxq_blkR ?_
                    refine sxq_thenR ?_
                    exact sxq_doneP () (.inl rfl) (res1 rfl rfl) (fun h => by subst h; rfl) (fun h => by subst h; exact .nil)
                  · refine sxc_skip ?_
                    refine sxq_blkN ?_
                    exact sxq_meetP (x2875, ()) (lk_cons rfl (lk_cons rfl (lk_cons rfl (lk_cons rfl lk_nil)))) .nil (.cons 0 rfl (.cons 0 rfl .nil)) fk_nil
              · rintro ⟨x2752, _⟩
                try dsimp only
                refine sxc_region ?_
                refine sxo_move rfl rfl rfl ?_
                refine sxo_add rfl rfl rfl rfl ?_
                refine sxo_assign rfl rfl rfl ?_
                refine sxo_nil ?_
                exact sxq_againP ((x2752, iadd .i64 x2008 1), ()) (lk_cons rfl (lk_cons rfl (lk_cons rfl (lk_cons rfl lk_nil)))) .nil (.cons 0 rfl (.cons 0 rfl .nil)) fk_nil
            · refine sxc_exit ?_
              refine sxq_thenX ?_
              refine sxq_thenX ?_
              refine sxq_blkX ?_
              exact sxq_meetP ((), ()) (lk_cons rfl (lk_cons rfl lk_nil)) .nil (.cons 0 rfl (.cons 0 rfl .nil)) fk_nil
          · rintro ⟨_, _⟩
            try dsimp only
            refine sxc_seq ?_
            refine sxc_region ?_
            refine sxo_move rfl rfl rfl ?_
            refine sxo_len rfl Try.underlying49 rfl rfl ?_
            refine sxo_move rfl rfl rfl ?_
            refine sxo_len rfl Try.underlying49 rfl rfl ?_
            refine sxo_leq rfl rfl rfl rfl ?_
            refine sxo_assign rfl rfl rfl ?_
            refine sxo_nil ?_
            refine sxq_next ?_
            refine sxc_ret ?_
            exact sxq_doneP () (.inl rfl) (res1 rfl rfl) (fun h => by subst h; rfl) (fun h => by subst h; exact .nil)

set_option maxHeartbeats 4000000 in
theorem C_L_RunsShift (F : Nat) (x1 : List Int) (a2 : Option Addr) (c3 : Nat) (x4 : Int) (x5 : Int) (r : Bool) (hm : M_L_RunsShift F x1 x4 x5 = some r) :
    Pure Try.prog 13 [.slice a2 x1.length c3, .int .i64 x4, .int .i64 x5] [Sl (eI .i64) 1 (.slice a2 x1.length c3) x1] Unit (fun _ => .bool r) (fun _ => []) (fun _ => []) := by
  refine pure_of Try.func13 rfl Try.ntmps13 rfl hm (fun w => ?_)
  refine sxc_env (l' := [(0, .slice a2 x1.length c3), (1, .int .i64 x4), (2, .int .i64 x5)]) rfl ?_
  refine sxc_seq ?_
  refine sxc_region ?_
  refine sxo_assign rfl rfl rfl ?_
  refine sxo_nil ?_
  refine sxq_next ?_
  refine sxc_seq ?_
  refine sxc_region ?_
  refine sxo_move rfl rfl rfl ?_
  refine sxo_move rfl rfl rfl ?_
  refine sxo_call ent31 rfl rfl rfl (fun x6 e6 => C_runs_Split F x1 a2 c3 x4 x6 e6) (.consF 0 rfl .nil) (fun x6 e6 => ?_)
  rintro ⟨⟨a7, c8⟩, ⟨a9, c10⟩⟩
  refine sxo_move rfl rfl rfl ?_
  refine sxo_extract rfl rfl rfl rfl ?_
  refine sxo_extract rfl rfl rfl rfl ?_
  refine sxo_extract rfl rfl rfl rfl ?_
  refine sxo_assign rfl rfl rfl ?_
  refine sxo_assign rfl rfl rfl ?_
  refine sxo_assign rfl rfl rfl ?_
  refine sxo_nil ?_
  refine sxq_next ?_
  refine sxc_seq ?_
  refine sxc_seq ?_
  refine sxc_region ?_
  refine sxo_call ent36 rfl rfl rfl (fun x13 e13 => C_L_runsBegun F  x13 e13) .nil (fun x13 e13 => ?_)
  intro _
  refine sxo_not rfl rfl rfl ?_
  refine sxo_nil ?_
  refine sxq_next ?_
  refine sxc_if rfl (fun h877 => ?_) (fun h877 => ?_)
  · refine sxc_seq ?_
    refine sxc_region ?_
    refine sxo_assign rfl rfl rfl ?_
    refine sxo_nil ?_
    refine sxq_next ?_
    refine sxc_ret ?_
    refine sxq_thenR ?_
    exact sxq_doneP () (.inl rfl) (res1 rfl rfl) (fun h => by subst h; rfl) (fun h => by subst h; exact .nil)
  · refine sxc_skip ?_
    refine sxq_next ?_
    refine sxc_seq ?_
    refine sxc_seq ?_
    refine sxc_region ?_
    refine sxo_move rfl rfl rfl ?_
    refine sxo_neq rfl rfl rfl rfl ?_
    refine sxo_move rfl rfl rfl ?_
    refine sxo_case 3 ((x6.2.2 : Int) != 0) [(0, .slice a2 x1.length c3), (1, .int .i64 x4), (2, .int .i64 x5), (7, .slice a7 x6.1.length c8), (8, .slice a9 x6.2.1.length c10), (31, .bool (((x6.2.2 : Int) != 0) || (decide (x5 < (-1048576)))))] (fun h17 => ?_) (fun h17 => ?_) ?_
    · refine sxo_take (os := _) rfl ?_
      refine sxo_isT (k := 28) rfl h17 ?_
      refine sxo_skip rfl rfl rfl ?_
      refine sxo_skip rfl rfl rfl ?_
      refine sxo_pick (b := true) rfl rfl rfl rfl ?_
      refine sxo_again (d := 31) (v := .bool (((x6.2.2 : Int) != 0) || (decide (x5 < (-1048576))))) rfl (by rw [h17]; simp only [Bool.true_or]) ?_
      refine sxo_nil ?_
      exact sxq_case (lk_cons rfl (lk_cons rfl (lk_cons rfl (lk_cons rfl (lk_cons rfl (lk_cons rfl lk_nil))))))
    · refine sxo_take (os := _) rfl ?_
      refine sxo_isF (k := 28) rfl h17 ?_
      refine sxo_move rfl rfl rfl ?_
      refine sxo_lss rfl rfl rfl rfl ?_
      refine sxo_pick (b := false) rfl rfl rfl rfl ?_
      refine sxo_again (d := 31) (v := .bool (((x6.2.2 : Int) != 0) || (decide (x5 < (-1048576))))) rfl (by rw [h17]; simp only [Bool.false_or]) ?_
      refine sxo_nil ?_
      exact sxq_case (lk_cons rfl (lk_cons rfl (lk_cons rfl (lk_cons rfl (lk_cons rfl (lk_cons rfl lk_nil))))))
    refine sxo_take (os := _) rfl ?_
    refine sxo_move rfl rfl rfl ?_
    refine sxo_case 3 (((x6.2.2 : Int) != 0) || (decide (x5 < (-1048576)))) [(0, .slice a2 x1.length c3), (1, .int .i64 x4), (2, .int .i64 x5), (7, .slice a7 x6.1.length c8), (8, .slice a9 x6.2.1.length c10), (35, .bool ((((x6.2.2 : Int) != 0) || (decide (x5 < (-1048576)))) || (decide (1048576 < x5))))] (fun h18 => ?_) (fun h18 => ?_) ?_
    · refine sxo_take (os := _) rfl ?_
      refine sxo_isT (k := 32) rfl h18 ?_
      refine sxo_skip rfl rfl rfl ?_
      refine sxo_skip rfl rfl rfl ?_
      refine sxo_pick (b := true) rfl rfl rfl rfl ?_
      refine sxo_again (d := 35) (v := .bool ((((x6.2.2 : Int) != 0) || (decide (x5 < (-1048576)))) || (decide (1048576 < x5)))) rfl (by rw [h18]; simp only [Bool.true_or]) ?_
      refine sxo_nil ?_
      exact sxq_case (lk_cons rfl (lk_cons rfl (lk_cons rfl (lk_cons rfl (lk_cons rfl (lk_cons rfl lk_nil))))))
    · refine sxo_take (os := _) rfl ?_
      refine sxo_isF (k := 32) rfl h18 ?_
      refine sxo_move rfl rfl rfl ?_
      refine sxo_gtr rfl rfl rfl rfl ?_
      refine sxo_pick (b := false) rfl rfl rfl rfl ?_
      refine sxo_again (d := 35) (v := .bool ((((x6.2.2 : Int) != 0) || (decide (x5 < (-1048576)))) || (decide (1048576 < x5)))) rfl (by rw [h18]; simp only [Bool.false_or]) ?_
      refine sxo_nil ?_
      exact sxq_case (lk_cons rfl (lk_cons rfl (lk_cons rfl (lk_cons rfl (lk_cons rfl (lk_cons rfl lk_nil))))))
    refine sxo_take (os := _) rfl ?_
    refine sxo_nil ?_
    refine sxq_next ?_
    refine sxc_if rfl (fun h876 => ?_) (fun h876 => ?_)
    · refine sxc_seq ?_
      refine sxc_region ?_
      refine sxo_assign rfl rfl rfl ?_
      refine sxo_nil ?_
      refine sxq_next ?_
      refine sxc_ret ?_
      refine sxq_thenR ?_
      exact sxq_doneP () (.inl rfl) (res1 rfl rfl) (fun h => by subst h; rfl) (fun h => by subst h; exact .nil)
    · refine sxc_skip ?_
      refine sxq_next ?_
      refine sxc_seq ?_
      refine sxc_region ?_
      refine sxo_assign rfl rfl rfl ?_
      refine sxo_nil ?_
      refine sxq_next ?_
      refine sxc_join (fun ((x80, (a78, c79)) : (List Int × (Option Addr × Nat))) => [(1, .int .i64 x4), (2, .int .i64 x5), (7, .slice a7 x6.1.length c8), (8, .slice a9 x6.2.1.length c10), (10, .slice a78 x80.length c79)]) (fun ((x80, (a78, c79)) : (List Int × (Option Addr × Nat))) => []) (fun ((x80, (a78, c79)) : (List Int × (Option Addr × Nat))) => [Ro eS60 60 2 (.slice a7 x6.1.length c8) x6.1, Ro (eI .i64) 3 1 (.slice a9 x6.2.1.length c10) x6.2.1, Ro (eI .i64) 3 1 (.slice a78 x80.length c79) x80]) (fun ((x80, (a78, c79)) : (List Int × (Option Addr × Nat))) => []) (fun ((x80, _) : (List Int × (Option Addr × Nat))) => M_L_RunsShift_j2 F x4 x5 x6 x80) ?_ ?_
      · refine sxc_seq ?_
        refine sxc_region ?_
        refine sxo_assign rfl rfl rfl ?_
        refine sxo_nil ?_
        refine sxq_next ?_
        refine sxc_block ?_
        refine sxc_nilrow Int (eI .i64) 3 1 ?_
        refine sxc_loopP (fun (((x837, x838), (a835, c836)) : ((List Int × Int) × (Option Addr × Nat))) => [(0, .slice a2 x1.length c3), (1, .int .i64 x4), (2, .int .i64 x5), (7, .slice a7 x6.1.length c8), (8, .slice a9 x6.2.1.length c10), (10, .slice a835 x837.length c836), (11, .int .i64 x838)]) (fun (((x837, x838), (a835, c836)) : ((List Int × Int) × (Option Addr × Nat))) => []) (fun (((x837, x838), (a835, c836)) : ((List Int × Int) × (Option Addr × Nat))) => [Ro eS60 60 2 (.slice a7 x6.1.length c8) x6.1, Ro (eI .i64) 3 1 (.slice a9 x6.2.1.length c10) x6.2.1, Ro (eI .i64) 3 1 (.slice a835 x837.length c836) x837]) (fun (((x837, x838), (a835, c836)) : ((List Int × Int) × (Option Addr × Nat))) => [Sl (eI .i64) 1 (.slice a2 x1.length c3) x1]) (fun k (s : ((List Int × Int) × (Option Addr × Nat))) => M_L_RunsShift_l33 F x1 x4 x5 x6 k s.1) ((([] : List Int), 0), (none, 0)) F (lk_cons rfl (lk_cons rfl (lk_cons rfl (lk_cons rfl (lk_cons rfl (lk_cons rfl (lk_cons rfl lk_nil))))))) .nil (.cons 1 rfl (.cons 1 rfl (.cons 0 rfl .nil))) (fk_cons 0 rfl fk_nil) (fun _ => rfl) ?_
        intro k857
        rintro ⟨⟨x837, x838⟩, ⟨a835, c836⟩⟩
        try dsimp only
        refine sxc_meq (m' := M_L_RunsShift_b33 F x1 x4 x5 x6 (M_L_RunsShift_l33 F x1 x4 x5 x6 k857) x837 x838) rfl ?_
        refine sxc_seq ?_
        refine sxc_seq ?_
        refine sxc_region ?_
        refine sxo_move rfl rfl rfl ?_
        refine sxo_move rfl rfl rfl ?_
        refine sxo_len rfl Try.underlying22 rfl rfl ?_
        refine sxo_lss rfl rfl rfl rfl ?_
        refine sxo_nil ?_
        refine sxq_next ?_
        refine sxc_if rfl (fun h875 => ?_) (fun h875 => ?_)
        · refine sxc_skip ?_
          refine sxq_next ?_
          refine sxc_seq ?_
          refine sxc_block ?_
          refine sxc_region ?_
          refine sxo_move rfl rfl rfl ?_
          refine sxo_move rfl rfl rfl ?_
          refine sxo_move rfl rfl rfl ?_
          refine sxo_indexF (j := 0) (eI_ok .i64) (by decide) rfl Try.underlying22 tf3 rfl rfl rfl rfl (fun x867 e867 b868 o869 => ?_)
          refine sxo_loadF (j := 0) rfl rfl tf3 rfl rfl (fun _ => rfl) rfl rfl ?_
          refine sxo_move rfl rfl rfl ?_
          refine sxo_add rfl rfl rfl rfl ?_
          refine sxo_slit (vs := [.int .i64 (iadd .i64 x867 x5)]) (ys := ([iadd .i64 x867 x5] : List Int)) (eI_ok .i64) (by decide) rfl Try.underlying22 tf3 rfl rfl rfl rfl rfl (by decide) (fun a870 c871 => ?_)
          refine sxo_app 3 (eI_ok .i64) rfl Try.underlying22 tf3 rfl rfl rfl rfl rfl (.inl ⟨0, _, rfl⟩) rfl rfl (fun x872 e872 a873 c874 => ?_)
          refine sxo_assign rfl rfl rfl ?_
          refine sxo_nil ?_
          refine sxq_blkN ?_
          refine sxq_next ?_
          refine sxc_region ?_
          refine sxo_move rfl rfl rfl ?_
          refine sxo_add rfl rfl rfl rfl ?_
          refine sxo_assign rfl rfl rfl ?_
          refine sxo_nil ?_
          exact sxq_againP ((x872, iadd .i64 x838 1), (a873, c874)) (lk_cons rfl (lk_cons rfl (lk_cons rfl (lk_cons rfl (lk_cons rfl (lk_cons rfl (lk_cons rfl lk_nil))))))) .nil (.cons 2 rfl (.cons 2 rfl (.cons 0 rfl .nil))) (fk_cons 1 rfl fk_nil)
        · refine sxc_exit ?_
          refine sxq_thenX ?_
          refine sxq_thenX ?_
          refine sxq_blkX ?_
          exact sxq_meetP (x837, (a835, c836)) (lk_cons rfl (lk_cons rfl (lk_cons rfl (lk_cons rfl (lk_cons rfl lk_nil))))) .nil (.cons 0 rfl (.cons 0 rfl (.cons 0 rfl .nil))) fk_nil
      · rintro ⟨x80, ⟨a78, c79⟩⟩
        try dsimp only
        refine sxc_seq ?_
        refine sxc_region ?_
        refine sxo_move rfl rfl rfl ?_
        refine sxo_move rfl rfl rfl ?_
        refine sxo_call ent31 rfl rfl rfl (fun x81 e81 => C_runs_Split F x80 a78 c79 x4 x81 e81) (.consR 2 (Ro (eI .i64) 3 1 (.slice a78 x80.length c79) x80) rfl .nil) (fun x81 e81 => ?_)
        rintro ⟨⟨a82, c83⟩, ⟨a84, c85⟩⟩
        refine sxo_move rfl rfl rfl ?_
        refine sxo_extract rfl rfl rfl rfl ?_
        refine sxo_extract rfl rfl rfl rfl ?_
        refine sxo_extract rfl rfl rfl rfl ?_
        refine sxo_assign rfl rfl rfl ?_
        refine sxo_assign rfl rfl rfl ?_
        refine sxo_assign rfl rfl rfl ?_
        refine sxo_nil ?_
        refine sxq_next ?_
        refine sxc_seq ?_
        refine sxc_seq ?_
        refine sxc_region ?_
        refine sxo_move rfl rfl rfl ?_
        refine sxo_neq rfl rfl rfl rfl ?_
        refine sxo_nil ?_
        refine sxq_next ?_
        refine sxc_if rfl (fun h816 => ?_) (fun h816 => ?_)
        · refine sxc_seq ?_
          refine sxc_region ?_
          refine sxo_move rfl rfl rfl ?_
          refine sxo_eql rfl rfl rfl rfl ?_
          refine sxo_assign rfl rfl rfl ?_
          refine sxo_nil ?_
          refine sxq_next ?_
          refine sxc_ret ?_
          refine sxq_thenR ?_
          exact sxq_doneP () (.inl rfl) (res1 rfl rfl) (fun h => by subst h; rfl) (fun h => by subst h; exact .nil)
        · refine sxc_skip ?_
          refine sxq_next ?_
          refine sxc_join (fun ((_, _) : (Unit × Unit)) => [(2, .int .i64 x5), (7, .slice a7 x6.1.length c8), (8, .slice a9 x6.2.1.length c10), (12, .slice a82 x81.1.length c83), (13, .slice a84 x81.2.1.length c85)]) (fun ((_, _) : (Unit × Unit)) => []) (fun ((_, _) : (Unit × Unit)) => [Ro (eI .i64) 3 1 (.slice a9 x6.2.1.length c10) x6.2.1, Ro (eI .i64) 3 1 (.slice a84 x81.2.1.length c85) x81.2.1]) (fun ((_, _) : (Unit × Unit)) => [Sl eS60 2 (.slice a7 x6.1.length c8) x6.1, Sl eS60 2 (.slice a82 x81.1.length c83) x81.1]) (fun ((_, _) : (Unit × Unit)) => M_L_RunsShift_j10 F x5 x6 x81) ?_ ?_
          · refine sxc_seq ?_
            refine sxc_region ?_
            refine sxo_assign rfl rfl rfl ?_
            refine sxo_nil ?_
            refine sxq_next ?_
            refine sxc_block ?_
            refine sxc_freeze 2 rfl ?_
            refine sxc_freeze 0 rfl ?_
            refine sxc_loopP (fun ((x658, _) : (Int × Unit)) => [(2, .int .i64 x5), (7, .slice a7 x6.1.length c8), (8, .slice a9 x6.2.1.length c10), (12, .slice a82 x81.1.length c83), (13, .slice a84 x81.2.1.length c85), (15, .int .i64 x658)]) (fun ((x658, _) : (Int × Unit)) => []) (fun ((x658, _) : (Int × Unit)) => [Ro (eI .i64) 3 1 (.slice a9 x6.2.1.length c10) x6.2.1, Ro (eI .i64) 3 1 (.slice a84 x81.2.1.length c85) x81.2.1]) (fun ((x658, _) : (Int × Unit)) => [Sl eS60 2 (.slice a7 x6.1.length c8) x6.1, Sl eS60 2 (.slice a82 x81.1.length c83) x81.1]) (fun k (s : (Int × Unit)) => M_L_RunsShift_l30 F x5 x6 x81 k s.1) (0, ()) F (lk_cons rfl (lk_cons rfl (lk_cons rfl (lk_cons rfl (lk_cons rfl (lk_cons rfl lk_nil)))))) .nil (.cons 1 rfl (.cons 0 rfl .nil)) (fk_cons 1 rfl (fk_cons 0 rfl fk_nil)) (fun _ => rfl) ?_
            intro k737
            rintro ⟨x658, _⟩
            try dsimp only
            refine sxc_meq (m' := M_L_RunsShift_b30 F x5 x6 x81 (M_L_RunsShift_l30 F x5 x6 x81 k737) x658) rfl ?_
            refine sxc_seq ?_
            refine sxc_seq ?_
            refine sxc_region ?_
            refine sxo_move rfl rfl rfl ?_
            refine sxo_move rfl rfl rfl ?_
            refine sxo_len rfl Try.underlying49 rfl rfl ?_
            refine sxo_lss rfl rfl rfl rfl ?_
            refine sxo_nil ?_
            refine sxq_next ?_
            refine sxc_if rfl (fun h815 => ?_) (fun h815 => ?_)
            · refine sxc_skip ?_
              refine sxq_next ?_
              refine sxc_seq ?_
              refine sxc_block ?_
              refine sxc_join (fun ((x795, _) : (Bool × Unit)) => [(2, .int .i64 x5), (7, .slice a7 x6.1.length c8), (8, .slice a9 x6.2.1.length c10), (12, .slice a82 x81.1.length c83), (13, .slice a84 x81.2.1.length c85), (15, .int .i64 x658), (99, .bool x795)]) (fun ((x795, _) : (Bool × Unit)) => []) (fun ((x795, _) : (Bool × Unit)) => [Ro (eI .i64) 3 1 (.slice a9 x6.2.1.length c10) x6.2.1, Ro (eI .i64) 3 1 (.slice a84 x81.2.1.length c85) x81.2.1]) (fun ((x795, _) : (Bool × Unit)) => [Sl eS60 2 (.slice a7 x6.1.length c8) x6.1, Sl eS60 2 (.slice a82 x81.1.length c83) x81.1]) (fun ((x795, _) : (Bool × Unit)) => M_L_RunsShift_j32 F (M_L_RunsShift_l30 F x5 x6 x81 k737) x658 x795) ?_ ?_
              · refine sxc_split (fun h797 => ?_) (fun h797 => ?_)
                · refine sxb_draw mixed [] [] [Sl eS60 2 (.slice a7 x6.1.length c8) x6.1, Sl eS60 2 (.slice a82 x81.1.length c83) x81.1] .nil (gk_F 0 rfl (gk_F 1 rfl gk_nil)) 32 rfl ?_
                  refine sxb_takeP 0 (.int .i64 x658) rfl rfl rfl rfl (by kernel_rfl) (by kernel_rfl) (by kernel_rfl) (by kernel_rfl) (by kernel_rfl) rfl (show _ = #[true, false, false, false, false, false, false, false, false, false, false, false, false, false, false, false, false, false, false, false, false, false, false, false, false, false, false, false, false, false, false, false] from rfl) (yv_pv rfl) ?_
                  refine sxb_takeP 1 (.slice a82 x81.1.length c83) rfl rfl rfl rfl (by kernel_rfl) (by kernel_rfl) (by kernel_rfl) (by kernel_rfl) (by kernel_rfl) rfl (show _ = #[true, true, false, false, false, false, false, false, false, false, false, false, false, false, false, false, false, false, false, false, false, false, false, false, false, false, false, false, false, false, false, false] from rfl) (yv_pv rfl) ?_
                  refine sxb_takeP 2 (.int .i64 (x81.1.length : Int)) rfl rfl rfl rfl (by kernel_rfl) (by kernel_rfl) (by kernel_rfl) (by kernel_rfl) (by kernel_rfl) rfl (show _ = #[true, true, true, false, false, false, false, false, false, false, false, false, false, false, false, false, false, false, false, false, false, false, false, false, false, false, false, false, false, false, false, false] from rfl) (yv_len Try.underlying49 rfl) ?_
                  refine sxb_takeP 3 (.bool (decide ((x81.1.length : Int) ≤ x658))) rfl rfl rfl rfl (by kernel_rfl) (by kernel_rfl) (by kernel_rfl) (by kernel_rfl) (by kernel_rfl) rfl (show _ = #[true, true, true, true, false, false, false, false, false, false, false, false, false, false, false, false, false, false, false, false, false, false, false, false, false, false, false, false, false, false, false, false] from rfl) (yv_pv rfl) ?_
                  refine sxb_takeP 4 (.bool (decide ((x81.1.length : Int) ≤ x658))) rfl rfl rfl rfl (by kernel_rfl) (by kernel_rfl) (by kernel_rfl) (by kernel_rfl) (by kernel_rfl) rfl (show _ = #[true, true, true, true, true, false, false, false, false, false, false, false, false, false, false, false, false, false, false, false, false, false, false, false, false, false, false, false, false, false, false, false] from rfl) (yv_pv rfl) ?_
                  refine sxb_again (d := 72) (v := .bool true) rfl (by rw [h797]) ?_
                  refine sxb_skip 5 rfl rfl rfl rfl (by kernel_rfl) (by kernel_rfl) (by kernel_rfl) (by kernel_rfl) (by kernel_rfl) rfl (show _ = #[true, true, true, true, true, true, false, false, false, false, false, false, false, false, false, false, false, false, false, false, false, false, false, false, false, false, false, false, false, false, false, false] from rfl) ?_
                  refine sxb_skip 6 rfl rfl rfl rfl (by kernel_rfl) (by kernel_rfl) (by kernel_rfl) (by kernel_rfl) (by kernel_rfl) rfl (show _ = #[true, true, true, true, true, true, true, false, false, false, false, false, false, false, false, false, false, false, false, false, false, false, false, false, false, false, false, false, false, false, false, false] from rfl) ?_
                  refine sxb_skip 7 rfl rfl rfl rfl (by kernel_rfl) (by kernel_rfl) (by kernel_rfl) (by kernel_rfl) (by kernel_rfl) rfl (show _ = #[true, true, true, true, true, true, true, true, false, false, false, false, false, false, false, false, false, false, false, false, false, false, false, false, false, false, false, false, false, false, false, false] from rfl) ?_
                  refine sxb_skip 8 rfl rfl rfl rfl (by kernel_rfl) (by kernel_rfl) (by kernel_rfl) (by kernel_rfl) (by kernel_rfl) rfl (show _ = #[true, true, true, true, true, true, true, true, true, false, false, false, false, false, false, false, false, false, false, false, false, false, false, false, false, false, false, false, false, false, false, false] from rfl) ?_
                  refine sxb_skip 9 rfl rfl rfl rfl (by kernel_rfl) (by kernel_rfl) (by kernel_rfl) (by kernel_rfl) (by kernel_rfl) rfl (show _ = #[true, true, true, true, true, true, true, true, true, true, false, false, false, false, false, false, false, false, false, false, false, false, false, false, false, false, false, false, false, false, false, false] from rfl) ?_
                  refine sxb_skip 10 rfl rfl rfl rfl (by kernel_rfl) (by kernel_rfl) (by kernel_rfl) (by kernel_rfl) (by kernel_rfl) rfl (show _ = #[true, true, true, true, true, true, true, true, true, true, true, false, false, false, false, false, false, false, false, false, false, false, false, false, false, false, false, false, false, false, false, false] from rfl) ?_
                  refine sxb_skip 11 rfl rfl rfl rfl (by kernel_rfl) (by kernel_rfl) (by kernel_rfl) (by kernel_rfl) (by kernel_rfl) rfl (show _ = #[true, true, true, true, true, true, true, true, true, true, true, true, false, false, false, false, false, false, false, false, false, false, false, false, false, false, false, false, false, false, false, false] from rfl) ?_
                  refine sxb_skip 12 rfl rfl rfl rfl (by kernel_rfl) (by kernel_rfl) (by kernel_rfl) (by kernel_rfl) (by kernel_rfl) rfl (show _ = #[true, true, true, true, true, true, true, true, true, true, true, true, true, false, false, false, false, false, false, false, false, false, false, false, false, false, false, false, false, false, false, false] from rfl) ?_
                  refine sxb_skip 13 rfl rfl rfl rfl (by kernel_rfl) (by kernel_rfl) (by kernel_rfl) (by kernel_rfl) (by kernel_rfl) rfl (show _ = #[true, true, true, true, true, true, true, true, true, true, true, true, true, true, false, false, false, false, false, false, false, false, false, false, false, false, false, false, false, false, false, false] from rfl) ?_
                  refine sxb_skip 14 rfl rfl rfl rfl (by kernel_rfl) (by kernel_rfl) (by kernel_rfl) (by kernel_rfl) (by kernel_rfl) rfl (show _ = #[true, true, true, true, true, true, true, true, true, true, true, true, true, true, true, false, false, false, false, false, false, false, false, false, false, false, false, false, false, false, false, false] from rfl) ?_
                  refine sxb_skip 15 rfl rfl rfl rfl (by kernel_rfl) (by kernel_rfl) (by kernel_rfl) (by kernel_rfl) (by kernel_rfl) rfl (show _ = #[true, true, true, true, true, true, true, true, true, true, true, true, true, true, true, true, false, false, false, false, false, false, false, false, false, false, false, false, false, false, false, false] from rfl) ?_
                  refine sxb_skip 16 rfl rfl rfl rfl (by kernel_rfl) (by kernel_rfl) (by kernel_rfl) (by kernel_rfl) (by kernel_rfl) rfl (show _ = #[true, true, true, true, true, true, true, true, true, true, true, true, true, true, true, true, true, false, false, false, false, false, false, false, false, false, false, false, false, false, false, false] from rfl) ?_
                  refine sxb_skip 17 rfl rfl rfl rfl (by kernel_rfl) (by kernel_rfl) (by kernel_rfl) (by kernel_rfl) (by kernel_rfl) rfl (show _ = #[true, true, true, true, true, true, true, true, true, true, true, true, true, true, true, true, true, true, false, false, false, false, false, false, false, false, false, false, false, false, false, false] from rfl) ?_
                  refine sxb_takeP 18 (.bool true) rfl rfl rfl rfl (by kernel_rfl) (by kernel_rfl) (by kernel_rfl) (by kernel_rfl) (by kernel_rfl) rfl (show _ = #[true, true, true, true, true, true, true, true, true, true, true, true, true, true, true, true, true, true, true, false, false, false, false, false, false, false, false, false, false, false, false, false] from rfl) (yv_pv rfl) ?_
                  refine sxb_takeP 19 (.bool true) rfl rfl rfl rfl (by kernel_rfl) (by kernel_rfl) (by kernel_rfl) (by kernel_rfl) (by kernel_rfl) rfl (show _ = #[true, true, true, true, true, true, true, true, true, true, true, true, true, true, true, true, true, true, true, true, false, false, false, false, false, false, false, false, false, false, false, false] from rfl) (yv_pv rfl) ?_
                  refine sxb_skip 20 rfl rfl rfl rfl (by kernel_rfl) (by kernel_rfl) (by kernel_rfl) (by kernel_rfl) (by kernel_rfl) rfl (show _ = #[true, true, true, true, true, true, true, true, true, true, true, true, true, true, true, true, true, true, true, true, true, false, false, false, false, false, false, false, false, false, false, false] from rfl) ?_
                  refine sxb_skip 21 rfl rfl rfl rfl (by kernel_rfl) (by kernel_rfl) (by kernel_rfl) (by kernel_rfl) (by kernel_rfl) rfl (show _ = #[true, true, true, true, true, true, true, true, true, true, true, true, true, true, true, true, true, true, true, true, true, true, false, false, false, false, false, false, false, false, false, false] from rfl) ?_
                  refine sxb_skip 22 rfl rfl rfl rfl (by kernel_rfl) (by kernel_rfl) (by kernel_rfl) (by kernel_rfl) (by kernel_rfl) rfl (show _ = #[true, true, true, true, true, true, true, true, true, true, true, true, true, true, true, true, true, true, true, true, true, true, true, false, false, false, false, false, false, false, false, false] from rfl) ?_
                  refine sxb_skip 23 rfl rfl rfl rfl (by kernel_rfl) (by kernel_rfl) (by kernel_rfl) (by kernel_rfl) (by kernel_rfl) rfl (show _ = #[true, true, true, true, true, true, true, true, true, true, true, true, true, true, true, true, true, true, true, true, true, true, true, true, false, false, false, false, false, false, false, false] from rfl) ?_
                  refine sxb_skip 24 rfl rfl rfl rfl (by kernel_rfl) (by kernel_rfl) (by kernel_rfl) (by kernel_rfl) (by kernel_rfl) rfl (show _ = #[true, true, true, true, true, true, true, true, true, true, true, true, true, true, true, true, true, true, true, true, true, true, true, true, true, false, false, false, false, false, false, false] from rfl) ?_
                  refine sxb_skip 25 rfl rfl rfl rfl (by kernel_rfl) (by kernel_rfl) (by kernel_rfl) (by kernel_rfl) (by kernel_rfl) rfl (show _ = #[true, true, true, true, true, true, true, true, true, true, true, true, true, true, true, true, true, true, true, true, true, true, true, true, true, true, false, false, false, false, false, false] from rfl) ?_
                  refine sxb_skip 26 rfl rfl rfl rfl (by kernel_rfl) (by kernel_rfl) (by kernel_rfl) (by kernel_rfl) (by kernel_rfl) rfl (show _ = #[true, true, true, true, true, true, true, true, true, true, true, true, true, true, true, true, true, true, true, true, true, true, true, true, true, true, true, false, false, false, false, false] from rfl) ?_
                  refine sxb_skip 27 rfl rfl rfl rfl (by kernel_rfl) (by kernel_rfl) (by kernel_rfl) (by kernel_rfl) (by kernel_rfl) rfl (show _ = #[true, true, true, true, true, true, true, true, true, true, true, true, true, true, true, true, true, true, true, true, true, true, true, true, true, true, true, true, false, false, false, false] from rfl) ?_
                  refine sxb_skip 28 rfl rfl rfl rfl (by kernel_rfl) (by kernel_rfl) (by kernel_rfl) (by kernel_rfl) (by kernel_rfl) rfl (show _ = #[true, true, true, true, true, true, true, true, true, true, true, true, true, true, true, true, true, true, true, true, true, true, true, true, true, true, true, true, true, false, false, false] from rfl) ?_
                  refine sxb_skip 29 rfl rfl rfl rfl (by kernel_rfl) (by kernel_rfl) (by kernel_rfl) (by kernel_rfl) (by kernel_rfl) rfl (show _ = #[true, true, true, true, true, true, true, true, true, true, true, true, true, true, true, true, true, true, true, true, true, true, true, true, true, true, true, true, true, true, false, false] from rfl) ?_
                  refine sxb_skip 30 rfl rfl rfl rfl (by kernel_rfl) (by kernel_rfl) (by kernel_rfl) (by kernel_rfl) (by kernel_rfl) rfl (show _ = #[true, true, true, true, true, true, true, true, true, true, true, true, true, true, true, true, true, true, true, true, true, true, true, true, true, true, true, true, true, true, true, false] from rfl) ?_
                  refine sxb_takeP 31 (.bool true) rfl rfl rfl rfl (by kernel_rfl) (by kernel_rfl) (by kernel_rfl) (by kernel_rfl) (by kernel_rfl) rfl (show _ = #[true, true, true, true, true, true, true, true, true, true, true, true, true, true, true, true, true, true, true, true, true, true, true, true, true, true, true, true, true, true, true, true] from rfl) (yv_pv rfl) ?_
                  refine sxb_done (by kernel_rfl) ?_
                  refine sxq_np ?_ (by intro c h; cases h)
                  exact sxq_meetP (true, ()) (lk_cons rfl (lk_cons rfl (lk_cons rfl (lk_cons rfl (lk_cons rfl (lk_cons rfl (lk_cons rfl lk_nil))))))) .nil (.cons 0 rfl (.cons 0 rfl .nil)) (fk_cons 0 rfl (fk_cons 1 rfl fk_nil))
                · refine sxc_idxF (j := 1) eS60_ok (by decide) rfl (fun x798 e798 b799 o800 h801 => ?_)
                  replace h801 : a82 = some ⟨b799, o800, none⟩ := h801
                  refine sxc_idxF (j := 1) eS60_ok (by decide) rfl (fun x802 e802 b803 o804 h805 => ?_)
                  replace h805 : a7 = some ⟨b803, o804, none⟩ := h805
                  refine sxc_split (fun h806 => ?_) (fun h806 => ?_)
                  · refine sxb_draw mixed [] [] [CellsAt b803 (o804 + x658.toNat * 2) (eS60 x802), CellsAt b799 (o800 + x658.toNat * 2) (eS60 x798), Sl eS60 2 (.slice a7 x6.1.length c8) x6.1, Sl eS60 2 (.slice a82 x81.1.length c83) x81.1] .nil (gk_F 0 rfl (gk_F 1 rfl (gk_F 2 rfl (gk_F 3 rfl gk_nil)))) 32 rfl ?_
                    refine sxb_takeP 0 (.int .i64 x658) rfl rfl rfl rfl (by kernel_rfl) (by kernel_rfl) (by kernel_rfl) (by kernel_rfl) (by kernel_rfl) rfl (show _ = #[true, false, false, false, false, false, false, false, false, false, false, false, false, false, false, false, false, false, false, false, false, false, false, false, false, false, false, false, false, false, false, false] from rfl) (yv_pv rfl) ?_
                    refine sxb_takeP 1 (.slice a82 x81.1.length c83) rfl rfl rfl rfl (by kernel_rfl) (by kernel_rfl) (by kernel_rfl) (by kernel_rfl) (by kernel_rfl) rfl (show _ = #[true, true, false, false, false, false, false, false, false, false, false, false, false, false, false, false, false, false, false, false, false, false, false, false, false, false, false, false, false, false, false, false] from rfl) (yv_pv rfl) ?_
                    refine sxb_takeP 2 (.int .i64 (x81.1.length : Int)) rfl rfl rfl rfl (by kernel_rfl) (by kernel_rfl) (by kernel_rfl) (by kernel_rfl) (by kernel_rfl) rfl (show _ = #[true, true, true, false, false, false, false, false, false, false, false, false, false, false, false, false, false, false, false, false, false, false, false, false, false, false, false, false, false, false, false, false] from rfl) (yv_len Try.underlying49 rfl) ?_
                    refine sxb_takeP 3 (.bool (decide ((x81.1.length : Int) ≤ x658))) rfl rfl rfl rfl (by kernel_rfl) (by kernel_rfl) (by kernel_rfl) (by kernel_rfl) (by kernel_rfl) rfl (show _ = #[true, true, true, true, false, false, false, false, false, false, false, false, false, false, false, false, false, false, false, false, false, false, false, false, false, false, false, false, false, false, false, false] from rfl) (yv_pv rfl) ?_
                    refine sxb_takeP 4 (.bool (decide ((x81.1.length : Int) ≤ x658))) rfl rfl rfl rfl (by kernel_rfl) (by kernel_rfl) (by kernel_rfl) (by kernel_rfl) (by kernel_rfl) rfl (show _ = #[true, true, true, true, true, false, false, false, false, false, false, false, false, false, false, false, false, false, false, false, false, false, false, false, false, false, false, false, false, false, false, false] from rfl) (yv_pv rfl) ?_
                    refine sxb_again (d := 72) (v := .bool false) rfl (by rw [h797]) ?_
                    refine sxb_takeP 5 (.slice a82 x81.1.length c83) rfl rfl rfl rfl (by kernel_rfl) (by kernel_rfl) (by kernel_rfl) (by kernel_rfl) (by kernel_rfl) rfl (show _ = #[true, true, true, true, true, true, false, false, false, false, false, false, false, false, false, false, false, false, false, false, false, false, false, false, false, false, false, false, false, false, false, false] from rfl) (yv_pv rfl) ?_
                    refine sxb_takeP 6 (.int .i64 x658) rfl rfl rfl rfl (by kernel_rfl) (by kernel_rfl) (by kernel_rfl) (by kernel_rfl) (by kernel_rfl) rfl (show _ = #[true, true, true, true, true, true, true, false, false, false, false, false, false, false, false, false, false, false, false, false, false, false, false, false, false, false, false, false, false, false, false, false] from rfl) (yv_pv rfl) ?_
                    refine sxb_again (d := 73) (v := .slice (some ⟨b799, o800, none⟩) x81.1.length c83) rfl (by rw [h801]) ?_
                    refine sxb_takeP 7 (.pointer (some ⟨b799, (o800 + x658.toNat * 2), none⟩)) rfl rfl rfl rfl (by kernel_rfl) (by kernel_rfl) (by kernel_rfl) (by kernel_rfl) (by kernel_rfl) rfl (show _ = #[true, true, true, true, true, true, true, true, false, false, false, false, false, false, false, false, false, false, false, false, false, false, false, false, false, false, false, false, false, false, false, false] from rfl) (yv_idx Try.underlying49 tf60 rfl rfl (idx_get e798).1 (idx_lt e798)) ?_
                    refine sxb_again (d := 73) (v := .slice a82 x81.1.length c83) rfl (by rw [h801]) ?_
                    refine sxb_takeP 8 (.pointer (some ⟨b799, (o800 + x658.toNat * 2) + 0, none⟩)) rfl rfl rfl rfl (by kernel_rfl) (by kernel_rfl) (by kernel_rfl) (by kernel_rfl) (by kernel_rfl) rfl (show _ = #[true, true, true, true, true, true, true, true, true, false, false, false, false, false, false, false, false, false, false, false, false, false, false, false, false, false, false, false, false, false, false, false] from rfl) (yv_fieldAddr rfl ff60_0) ?_
                    refine sxb_take 9 (.int .i64 x798.1) [] rfl rfl rfl rfl (by kernel_rfl) (by kernel_rfl) (by kernel_rfl) (by kernel_rfl) (by kernel_rfl) (by kernel_rfl) rfl (show _ = #[true, true, true, true, true, true, true, true, true, true, false, false, false, false, false, false, false, false, false, false, false, false, false, false, false, false, false, false, false, false, false, false] from rfl) (yv_loadFo (j := 1) (off := 0) rfl tf3 rfl rfl (fun _ => rfl) rfl) ?_
                    refine sxb_takeP 10 (.slice a7 x6.1.length c8) rfl rfl rfl rfl (by kernel_rfl) (by kernel_rfl) (by kernel_rfl) (by kernel_rfl) (by kernel_rfl) rfl (show _ = #[true, true, true, true, true, true, true, true, true, true, true, false, false, false, false, false, false, false, false, false, false, false, false, false, false, false, false, false, false, false, false, false] from rfl) (yv_pv rfl) ?_
                    refine sxb_takeP 11 (.int .i64 x658) rfl rfl rfl rfl (by kernel_rfl) (by kernel_rfl) (by kernel_rfl) (by kernel_rfl) (by kernel_rfl) rfl (show _ = #[true, true, true, true, true, true, true, true, true, true, true, true, false, false, false, false, false, false, false, false, false, false, false, false, false, false, false, false, false, false, false, false] from rfl) (yv_pv rfl) ?_
                    refine sxb_again (d := 78) (v := .slice (some ⟨b803, o804, none⟩) x6.1.length c8) rfl (by rw [h805]) ?_
                    refine sxb_takeP 12 (.pointer (some ⟨b803, (o804 + x658.toNat * 2), none⟩)) rfl rfl rfl rfl (by kernel_rfl) (by kernel_rfl) (by kernel_rfl) (by kernel_rfl) (by kernel_rfl) rfl (show _ = #[true, true, true, true, true, true, true, true, true, true, true, true, true, false, false, false, false, false, false, false, false, false, false, false, false, false, false, false, false, false, false, false] from rfl) (yv_idx Try.underlying49 tf60 rfl rfl (idx_get e802).1 (idx_lt e802)) ?_
                    refine sxb_again (d := 78) (v := .slice a7 x6.1.length c8) rfl (by rw [h805]) ?_
                    refine sxb_takeP 13 (.pointer (some ⟨b803, (o804 + x658.toNat * 2) + 0, none⟩)) rfl rfl rfl rfl (by kernel_rfl) (by kernel_rfl) (by kernel_rfl) (by kernel_rfl) (by kernel_rfl) rfl (show _ = #[true, true, true, true, true, true, true, true, true, true, true, true, true, true, false, false, false, false, false, false, false, false, false, false, false, false, false, false, false, false, false, false] from rfl) (yv_fieldAddr rfl ff60_0) ?_
                    refine sxb_take 14 (.int .i64 x802.1) [] rfl rfl rfl rfl (by kernel_rfl) (by kernel_rfl) (by kernel_rfl) (by kernel_rfl) (by kernel_rfl) (by kernel_rfl) rfl (show _ = #[true, true, true, true, true, true, true, true, true, true, true, true, true, true, true, false, false, false, false, false, false, false, false, false, false, false, false, false, false, false, false, false] from rfl) (yv_loadFo (j := 0) (off := 0) rfl tf3 rfl rfl (fun _ => rfl) rfl) ?_
                    refine sxb_takeP 15 (.int .i64 x5) rfl rfl rfl rfl (by kernel_rfl) (by kernel_rfl) (by kernel_rfl) (by kernel_rfl) (by kernel_rfl) rfl (show _ = #[true, true, true, true, true, true, true, true, true, true, true, true, true, true, true, true, false, false, false, false, false, false, false, false, false, false, false, false, false, false, false, false] from rfl) (yv_pv rfl) ?_
                    refine sxb_takeP 16 (.int .i64 (iadd .i64 x802.1 x5)) rfl rfl rfl rfl (by kernel_rfl) (by kernel_rfl) (by kernel_rfl) (by kernel_rfl) (by kernel_rfl) rfl (show _ = #[true, true, true, true, true, true, true, true, true, true, true, true, true, true, true, true, true, false, false, false, false, false, false, false, false, false, false, false, false, false, false, false] from rfl) (yv_pv rfl) ?_
                    refine sxb_takeP 17 (.bool ((x798.1 : Int) != (iadd .i64 x802.1 x5))) rfl rfl rfl rfl (by kernel_rfl) (by kernel_rfl) (by kernel_rfl) (by kernel_rfl) (by kernel_rfl) rfl (show _ = #[true, true, true, true, true, true, true, true, true, true, true, true, true, true, true, true, true, true, false, false, false, false, false, false, false, false, false, false, false, false, false, false] from rfl) (yv_pv rfl) ?_
                    refine sxb_takeP 18 (.bool ((x798.1 : Int) != (iadd .i64 x802.1 x5))) rfl rfl rfl rfl (by kernel_rfl) (by kernel_rfl) (by kernel_rfl) (by kernel_rfl) (by kernel_rfl) rfl (show _ = #[true, true, true, true, true, true, true, true, true, true, true, true, true, true, true, true, true, true, true, false, false, false, false, false, false, false, false, false, false, false, false, false] from rfl) (yv_pv rfl) ?_
                    refine sxb_takeP 19 (.bool ((x798.1 : Int) != (iadd .i64 x802.1 x5))) rfl rfl rfl rfl (by kernel_rfl) (by kernel_rfl) (by kernel_rfl) (by kernel_rfl) (by kernel_rfl) rfl (show _ = #[true, true, true, true, true, true, true, true, true, true, true, true, true, true, true, true, true, true, true, true, false, false, false, false, false, false, false, false, false, false, false, false] from rfl) (yv_pv rfl) ?_
                    refine sxb_again (d := 87) (v := .bool true) rfl (by rw [h806]) ?_
                    refine sxb_skip 20 rfl rfl rfl rfl (by kernel_rfl) (by kernel_rfl) (by kernel_rfl) (by kernel_rfl) (by kernel_rfl) rfl (show _ = #[true, true, true, true, true, true, true, true, true, true, true, true, true, true, true, true, true, true, true, true, true, false, false, false, false, false, false, false, false, false, false, false] from rfl) ?_
                    refine sxb_skip 21 rfl rfl rfl rfl (by kernel_rfl) (by kernel_rfl) (by kernel_rfl) (by kernel_rfl) (by kernel_rfl) rfl (show _ = #[true, true, true, true, true, true, true, true, true, true, true, true, true, true, true, true, true, true, true, true, true, true, false, false, false, false, false, false, false, false, false, false] from rfl) ?_
                    refine sxb_skip 22 rfl rfl rfl rfl (by kernel_rfl) (by kernel_rfl) (by kernel_rfl) (by kernel_rfl) (by kernel_rfl) rfl (show _ = #[true, true, true, true, true, true, true, true, true, true, true, true, true, true, true, true, true, true, true, true, true, true, true, false, false, false, false, false, false, false, false, false] from rfl) ?_
                    refine sxb_skip 23 rfl rfl rfl rfl (by kernel_rfl) (by kernel_rfl) (by kernel_rfl) (by kernel_rfl) (by kernel_rfl) rfl (show _ = #[true, true, true, true, true, true, true, true, true, true, true, true, true, true, true, true, true, true, true, true, true, true, true, true, false, false, false, false, false, false, false, false] from rfl) ?_
                    refine sxb_skip 24 rfl rfl rfl rfl (by kernel_rfl) (by kernel_rfl) (by kernel_rfl) (by kernel_rfl) (by kernel_rfl) rfl (show _ = #[true, true, true, true, true, true, true, true, true, true, true, true, true, true, true, true, true, true, true, true, true, true, true, true, true, false, false, false, false, false, false, false] from rfl) ?_
                    refine sxb_skip 25 rfl rfl rfl rfl (by kernel_rfl) (by kernel_rfl) (by kernel_rfl) (by kernel_rfl) (by kernel_rfl) rfl (show _ = #[true, true, true, true, true, true, true, true, true, true, true, true, true, true, true, true, true, true, true, true, true, true, true, true, true, true, false, false, false, false, false, false] from rfl) ?_
                    refine sxb_skip 26 rfl rfl rfl rfl (by kernel_rfl) (by kernel_rfl) (by kernel_rfl) (by kernel_rfl) (by kernel_rfl) rfl (show _ = #[true, true, true, true, true, true, true, true, true, true, true, true, true, true, true, true, true, true, true, true, true, true, true, true, true, true, true, false, false, false, false, false] from rfl) ?_
                    refine sxb_skip 27 rfl rfl rfl rfl (by kernel_rfl) (by kernel_rfl) (by kernel_rfl) (by kernel_rfl) (by kernel_rfl) rfl (show _ = #[true, true, true, true, true, true, true, true, true, true, true, true, true, true, true, true, true, true, true, true, true, true, true, true, true, true, true, true, false, false, false, false] from rfl) ?_
                    refine sxb_skip 28 rfl rfl rfl rfl (by kernel_rfl) (by kernel_rfl) (by kernel_rfl) (by kernel_rfl) (by kernel_rfl) rfl (show _ = #[true, true, true, true, true, true, true, true, true, true, true, true, true, true, true, true, true, true, true, true, true, true, true, true, true, true, true, true, true, false, false, false] from rfl) ?_
                    refine sxb_skip 29 rfl rfl rfl rfl (by kernel_rfl) (by kernel_rfl) (by kernel_rfl) (by kernel_rfl) (by kernel_rfl) rfl (show _ = #[true, true, true, true, true, true, true, true, true, true, true, true, true, true, true, true, true, true, true, true, true, true, true, true, true, true, true, true, true, true, false, false] from rfl) ?_
                    refine sxb_skip 30 rfl rfl rfl rfl (by kernel_rfl) (by kernel_rfl) (by kernel_rfl) (by kernel_rfl) (by kernel_rfl) rfl (show _ = #[true, true, true, true, true, true, true, true, true, true, true, true, true, true, true, true, true, true, true, true, true, true, true, true, true, true, true, true, true, true, true, false] from rfl) ?_
                    refine sxb_takeP 31 (.bool true) rfl rfl rfl rfl (by kernel_rfl) (by kernel_rfl) (by kernel_rfl) (by kernel_rfl) (by kernel_rfl) rfl (show _ = #[true, true, true, true, true, true, true, true, true, true, true, true, true, true, true, true, true, true, true, true, true, true, true, true, true, true, true, true, true, true, true, true] from rfl) (yv_pv rfl) ?_
                    refine sxb_done (by kernel_rfl) ?_
                    refine sxq_np ?_ (by intro c h; cases h)
                    exact sxq_meetP (true, ()) (lk_cons rfl (lk_cons rfl (lk_cons rfl (lk_cons rfl (lk_cons rfl (lk_cons rfl (lk_cons rfl lk_nil))))))) .nil (.cons 0 rfl (.cons 0 rfl .nil)) (fk_cons 2 rfl (fk_cons 3 rfl fk_nil))
                  · refine sxc_idxF (j := 3) eS60_ok (by decide) rfl (fun x807 e807 b808 o809 h810 => ?_)
                    replace h810 : a82 = some ⟨b808, o809, none⟩ := h810
                    refine sxc_idxF (j := 3) eS60_ok (by decide) rfl (fun x811 e811 b812 o813 h814 => ?_)
                    replace h814 : a7 = some ⟨b812, o813, none⟩ := h814
                    refine sxb_draw mixed [] [] [CellsAt b812 (o813 + x658.toNat * 2) (eS60 x811), CellsAt b808 (o809 + x658.toNat * 2) (eS60 x807), CellsAt b803 (o804 + x658.toNat * 2) (eS60 x802), CellsAt b799 (o800 + x658.toNat * 2) (eS60 x798), Sl eS60 2 (.slice a7 x6.1.length c8) x6.1, Sl eS60 2 (.slice a82 x81.1.length c83) x81.1] .nil (gk_F 0 rfl (gk_F 1 rfl (gk_F 2 rfl (gk_F 3 rfl (gk_F 4 rfl (gk_F 5 rfl gk_nil)))))) 32 rfl ?_
                    refine sxb_takeP 0 (.int .i64 x658) rfl rfl rfl rfl (by kernel_rfl) (by kernel_rfl) (by kernel_rfl) (by kernel_rfl) (by kernel_rfl) rfl (show _ = #[true, false, false, false, false, false, false, false, false, false, false, false, false, false, false, false, false, false, false, false, false, false, false, false, false, false, false, false, false, false, false, false] from rfl) (yv_pv rfl) ?_
                    refine sxb_takeP 1 (.slice a82 x81.1.length c83) rfl rfl rfl rfl (by kernel_rfl) (by kernel_rfl) (by kernel_rfl) (by kernel_rfl) (by kernel_rfl) rfl (show _ = #[true, true, false, false, false, false, false, false, false, false, false, false, false, false, false, false, false, false, false, false, false, false, false, false, false, false, false, false, false, false, false, false] from rfl) (yv_pv rfl) ?_
                    refine sxb_takeP 2 (.int .i64 (x81.1.length : Int)) rfl rfl rfl rfl (by kernel_rfl) (by kernel_rfl) (by kernel_rfl) (by kernel_rfl) (by kernel_rfl) rfl (show _ = #[true, true, true, false, false, false, false, false, false, false, false, false, false, false, false, false, false, false, false, false, false, false, false, false, false, false, false, false, false, false, false, false] from rfl) (yv_len Try.underlying49 rfl) ?_
                    refine sxb_takeP 3 (.bool (decide ((x81.1.length : Int) ≤ x658))) rfl rfl rfl rfl (by kernel_rfl) (by kernel_rfl) (by kernel_rfl) (by kernel_rfl) (by kernel_rfl) rfl (show _ = #[true, true, true, true, false, false, false, false, false, false, false, false, false, false, false, false, false, false, false, false, false, false, false, false, false, false, false, false, false, false, false, false] from rfl) (yv_pv rfl) ?_
                    refine sxb_takeP 4 (.bool (decide ((x81.1.length : Int) ≤ x658))) rfl rfl rfl rfl (by kernel_rfl) (by kernel_rfl) (by kernel_rfl) (by kernel_rfl) (by kernel_rfl) rfl (show _ = #[true, true, true, true, true, false, false, false, false, false, false, false, false, false, false, false, false, false, false, false, false, false, false, false, false, false, false, false, false, false, false, false] from rfl) (yv_pv rfl) ?_
                    refine sxb_again (d := 72) (v := .bool false) rfl (by rw [h797]) ?_
                    refine sxb_takeP 5 (.slice a82 x81.1.length c83) rfl rfl rfl rfl (by kernel_rfl) (by kernel_rfl) (by kernel_rfl) (by kernel_rfl) (by kernel_rfl) rfl (show _ = #[true, true, true, true, true, true, false, false, false, false, false, false, false, false, false, false, false, false, false, false, false, false, false, false, false, false, false, false, false, false, false, false] from rfl) (yv_pv rfl) ?_
                    refine sxb_takeP 6 (.int .i64 x658) rfl rfl rfl rfl (by kernel_rfl) (by kernel_rfl) (by kernel_rfl) (by kernel_rfl) (by kernel_rfl) rfl (show _ = #[true, true, true, true, true, true, true, false, false, false, false, false, false, false, false, false, false, false, false, false, false, false, false, false, false, false, false, false, false, false, false, false] from rfl) (yv_pv rfl) ?_
                    refine sxb_again (d := 73) (v := .slice (some ⟨b799, o800, none⟩) x81.1.length c83) rfl (by rw [h801]) ?_
                    refine sxb_takeP 7 (.pointer (some ⟨b799, (o800 + x658.toNat * 2), none⟩)) rfl rfl rfl rfl (by kernel_rfl) (by kernel_rfl) (by kernel_rfl) (by kernel_rfl) (by kernel_rfl) rfl (show _ = #[true, true, true, true, true, true, true, true, false, false, false, false, false, false, false, false, false, false, false, false, false, false, false, false, false, false, false, false, false, false, false, false] from rfl) (yv_idx Try.underlying49 tf60 rfl rfl (idx_get e798).1 (idx_lt e798)) ?_
                    refine sxb_again (d := 73) (v := .slice a82 x81.1.length c83) rfl (by rw [h801]) ?_
                    refine sxb_takeP 8 (.pointer (some ⟨b799, (o800 + x658.toNat * 2) + 0, none⟩)) rfl rfl rfl rfl (by kernel_rfl) (by kernel_rfl) (by kernel_rfl) (by kernel_rfl) (by kernel_rfl) rfl (show _ = #[true, true, true, true, true, true, true, true, true, false, false, false, false, false, false, false, false, false, false, false, false, false, false, false, false, false, false, false, false, false, false, false] from rfl) (yv_fieldAddr rfl ff60_0) ?_
                    refine sxb_take 9 (.int .i64 x798.1) [] rfl rfl rfl rfl (by kernel_rfl) (by kernel_rfl) (by kernel_rfl) (by kernel_rfl) (by kernel_rfl) (by kernel_rfl) rfl (show _ = #[true, true, true, true, true, true, true, true, true, true, false, false, false, false, false, false, false, false, false, false, false, false, false, false, false, false, false, false, false, false, false, false] from rfl) (yv_loadFo (j := 3) (off := 0) rfl tf3 rfl rfl (fun _ => rfl) rfl) ?_
                    refine sxb_takeP 10 (.slice a7 x6.1.length c8) rfl rfl rfl rfl (by kernel_rfl) (by kernel_rfl) (by kernel_rfl) (by kernel_rfl) (by kernel_rfl) rfl (show _ = #[true, true, true, true, true, true, true, true, true, true, true, false, false, false, false, false, false, false, false, false, false, false, false, false, false, false, false, false, false, false, false, false] from rfl) (yv_pv rfl) ?_
                    refine sxb_takeP 11 (.int .i64 x658) rfl rfl rfl rfl (by kernel_rfl) (by kernel_rfl) (by kernel_rfl) (by kernel_rfl) (by kernel_rfl) rfl (show _ = #[true, true, true, true, true, true, true, true, true, true, true, true, false, false, false, false, false, false, false, false, false, false, false, false, false, false, false, false, false, false, false, false] from rfl) (yv_pv rfl) ?_
                    refine sxb_again (d := 78) (v := .slice (some ⟨b803, o804, none⟩) x6.1.length c8) rfl (by rw [h805]) ?_
                    refine sxb_takeP 12 (.pointer (some ⟨b803, (o804 + x658.toNat * 2), none⟩)) rfl rfl rfl rfl (by kernel_rfl) (by kernel_rfl) (by kernel_rfl) (by kernel_rfl) (by kernel_rfl) rfl (show _ = #[true, true, true, true, true, true, true, true, true, true, true, true, true, false, false, false, false, false, false, false, false, false, false, false, false, false, false, false, false, false, false, false] from rfl) (yv_idx Try.underlying49 tf60 rfl rfl (idx_get e802).1 (idx_lt e802)) ?_
                    refine sxb_again (d := 78) (v := .slice a7 x6.1.length c8) rfl (by rw [h805]) ?_
                    refine sxb_takeP 13 (.pointer (some ⟨b803, (o804 + x658.toNat * 2) + 0, none⟩)) rfl rfl rfl rfl (by kernel_rfl) (by kernel_rfl) (by kernel_rfl) (by kernel_rfl) (by kernel_rfl) rfl (show _ = #[true, true, true, true, true, true, true, true, true, true, true, true, true, true, false, false, false, false, false, false, false, false, false, false, false, false, false, false, false, false, false, false] from rfl) (yv_fieldAddr rfl ff60_0) ?_
                    refine sxb_take 14 (.int .i64 x802.1) [] rfl rfl rfl rfl (by kernel_rfl) (by kernel_rfl) (by kernel_rfl) (by kernel_rfl) (by kernel_rfl) (by kernel_rfl) rfl (show _ = #[true, true, true, true, true, true, true, true, true, true, true, true, true, true, true, false, false, false, false, false, false, false, false, false, false, false, false, false, false, false, false, false] from rfl) (yv_loadFo (j := 2) (off := 0) rfl tf3 rfl rfl (fun _ => rfl) rfl) ?_
                    refine sxb_takeP 15 (.int .i64 x5) rfl rfl rfl rfl (by kernel_rfl) (by kernel_rfl) (by kernel_rfl) (by kernel_rfl) (by kernel_rfl) rfl (show _ = #[true, true, true, true, true, true, true, true, true, true, true, true, true, true, true, true, false, false, false, false, false, false, false, false, false, false, false, false, false, false, false, false] from rfl) (yv_pv rfl) ?_
                    refine sxb_takeP 16 (.int .i64 (iadd .i64 x802.1 x5)) rfl rfl rfl rfl (by kernel_rfl) (by kernel_rfl) (by kernel_rfl) (by kernel_rfl) (by kernel_rfl) rfl (show _ = #[true, true, true, true, true, true, true, true, true, true, true, true, true, true, true, true, true, false, false, false, false, false, false, false, false, false, false, false, false, false, false, false] from rfl) (yv_pv rfl) ?_
                    refine sxb_takeP 17 (.bool ((x798.1 : Int) != (iadd .i64 x802.1 x5))) rfl rfl rfl rfl (by kernel_rfl) (by kernel_rfl) (by kernel_rfl) (by kernel_rfl) (by kernel_rfl) rfl (show _ = #[true, true, true, true, true, true, true, true, true, true, true, true, true, true, true, true, true, true, false, false, false, false, false, false, false, false, false, false, false, false, false, false] from rfl) (yv_pv rfl) ?_
                    refine sxb_takeP 18 (.bool ((x798.1 : Int) != (iadd .i64 x802.1 x5))) rfl rfl rfl rfl (by kernel_rfl) (by kernel_rfl) (by kernel_rfl) (by kernel_rfl) (by kernel_rfl) rfl (show _ = #[true, true, true, true, true, true, true, true, true, true, true, true, true, true, true, true, true, true, true, false, false, false, false, false, false, false, false, false, false, false, false, false] from rfl) (yv_pv rfl) ?_
                    refine sxb_takeP 19 (.bool ((x798.1 : Int) != (iadd .i64 x802.1 x5))) rfl rfl rfl rfl (by kernel_rfl) (by kernel_rfl) (by kernel_rfl) (by kernel_rfl) (by kernel_rfl) rfl (show _ = #[true, true, true, true, true, true, true, true, true, true, true, true, true, true, true, true, true, true, true, true, false, false, false, false, false, false, false, false, false, false, false, false] from rfl) (yv_pv rfl) ?_
                    refine sxb_again (d := 87) (v := .bool false) rfl (by rw [h806]) ?_
                    refine sxb_takeP 20 (.slice a82 x81.1.length c83) rfl rfl rfl rfl (by kernel_rfl) (by kernel_rfl) (by kernel_rfl) (by kernel_rfl) (by kernel_rfl) rfl (show _ = #[true, true, true, true, true, true, true, true, true, true, true, true, true, true, true, true, true, true, true, true, true, false, false, false, false, false, false, false, false, false, false, false] from rfl) (yv_pv rfl) ?_
                    refine sxb_takeP 21 (.int .i64 x658) rfl rfl rfl rfl (by kernel_rfl) (by kernel_rfl) (by kernel_rfl) (by kernel_rfl) (by kernel_rfl) rfl (show _ = #[true, true, true, true, true, true, true, true, true, true, true, true, true, true, true, true, true, true, true, true, true, true, false, false, false, false, false, false, false, false, false, false] from rfl) (yv_pv rfl) ?_
                    refine sxb_again (d := 88) (v := .slice (some ⟨b808, o809, none⟩) x81.1.length c83) rfl (by rw [h810]) ?_
                    refine sxb_takeP 22 (.pointer (some ⟨b808, (o809 + x658.toNat * 2), none⟩)) rfl rfl rfl rfl (by kernel_rfl) (by kernel_rfl) (by kernel_rfl) (by kernel_rfl) (by kernel_rfl) rfl (show _ = #[true, true, true, true, true, true, true, true, true, true, true, true, true, true, true, true, true, true, true, true, true, true, true, false, false, false, false, false, false, false, false, false] from rfl) (yv_idx Try.underlying49 tf60 rfl rfl (idx_get e807).1 (idx_lt e807)) ?_
                    refine sxb_again (d := 88) (v := .slice a82 x81.1.length c83) rfl (by rw [h810]) ?_
                    refine sxb_takeP 23 (.pointer (some ⟨b808, (o809 + x658.toNat * 2) + 1, none⟩)) rfl rfl rfl rfl (by kernel_rfl) (by kernel_rfl) (by kernel_rfl) (by kernel_rfl) (by kernel_rfl) rfl (show _ = #[true, true, true, true, true, true, true, true, true, true, true, true, true, true, true, true, true, true, true, true, true, true, true, true, false, false, false, false, false, false, false, false] from rfl) (yv_fieldAddr rfl ff60_1) ?_
                    refine sxb_take 24 (.int .i64 x807.2) [] rfl rfl rfl rfl (by kernel_rfl) (by kernel_rfl) (by kernel_rfl) (by kernel_rfl) (by kernel_rfl) (by kernel_rfl) rfl (show _ = #[true, true, true, true, true, true, true, true, true, true, true, true, true, true, true, true, true, true, true, true, true, true, true, true, true, false, false, false, false, false, false, false] from rfl) (yv_loadFo (j := 1) (off := 1) rfl tf3 rfl rfl (fun _ => rfl) rfl) ?_
                    refine sxb_takeP 25 (.slice a7 x6.1.length c8) rfl rfl rfl rfl (by kernel_rfl) (by kernel_rfl) (by kernel_rfl) (by kernel_rfl) (by kernel_rfl) rfl (show _ = #[true, true, true, true, true, true, true, true, true, true, true, true, true, true, true, true, true, true, true, true, true, true, true, true, true, true, false, false, false, false, false, false] from rfl) (yv_pv rfl) ?_
                    refine sxb_takeP 26 (.int .i64 x658) rfl rfl rfl rfl (by kernel_rfl) (by kernel_rfl) (by kernel_rfl) (by kernel_rfl) (by kernel_rfl) rfl (show _ = #[true, true, true, true, true, true, true, true, true, true, true, true, true, true, true, true, true, true, true, true, true, true, true, true, true, true, true, false, false, false, false, false] from rfl) (yv_pv rfl) ?_
                    refine sxb_again (d := 93) (v := .slice (some ⟨b812, o813, none⟩) x6.1.length c8) rfl (by rw [h814]) ?_
                    refine sxb_takeP 27 (.pointer (some ⟨b812, (o813 + x658.toNat * 2), none⟩)) rfl rfl rfl rfl (by kernel_rfl) (by kernel_rfl) (by kernel_rfl) (by kernel_rfl) (by kernel_rfl) rfl (show _ = #[true, true, true, true, true, true, true, true, true, true, true, true, true, true, true, true, true, true, true, true, true, true, true, true, true, true, true, true, false, false, false, false] from rfl) (yv_idx Try.underlying49 tf60 rfl rfl (idx_get e811).1 (idx_lt e811)) ?_
                    refine sxb_again (d := 93) (v := .slice a7 x6.1.length c8) rfl (by rw [h814]) ?_
                    refine sxb_takeP 28 (.pointer (some ⟨b812, (o813 + x658.toNat * 2) + 1, none⟩)) rfl rfl rfl rfl (by kernel_rfl) (by kernel_rfl) (by kernel_rfl) (by kernel_rfl) (by kernel_rfl) rfl (show _ = #[true, true, true, true, true, true, true, true, true, true, true, true, true, true, true, true, true, true, true, true, true, true, true, true, true, true, true, true, true, false, false, false] from rfl) (yv_fieldAddr rfl ff60_1) ?_
                    refine sxb_take 29 (.int .i64 x811.2) [] rfl rfl rfl rfl (by kernel_rfl) (by kernel_rfl) (by kernel_rfl) (by kernel_rfl) (by kernel_rfl) (by kernel_rfl) rfl (show _ = #[true, true, true, true, true, true, true, true, true, true, true, true, true, true, true, true, true, true, true, true, true, true, true, true, true, true, true, true, true, true, false, false] from rfl) (yv_loadFo (j := 0) (off := 1) rfl tf3 rfl rfl (fun _ => rfl) rfl) ?_
                    refine sxb_takeP 30 (.bool ((x807.2 : Int) != x811.2)) rfl rfl rfl rfl (by kernel_rfl) (by kernel_rfl) (by kernel_rfl) (by kernel_rfl) (by kernel_rfl) rfl (show _ = #[true, true, true, true, true, true, true, true, true, true, true, true, true, true, true, true, true, true, true, true, true, true, true, true, true, true, true, true, true, true, true, false] from rfl) (yv_pv rfl) ?_
                    refine sxb_takeP 31 (.bool ((x807.2 : Int) != x811.2)) rfl rfl rfl rfl (by kernel_rfl) (by kernel_rfl) (by kernel_rfl) (by kernel_rfl) (by kernel_rfl) rfl (show _ = #[true, true, true, true, true, true, true, true, true, true, true, true, true, true, true, true, true, true, true, true, true, true, true, true, true, true, true, true, true, true, true, true] from rfl) (yv_pv rfl) ?_
                    refine sxb_done (by kernel_rfl) ?_
                    refine sxq_np ?_ (by intro c h; cases h)
                    exact sxq_meetP (((x807.2 : Int) != x811.2), ()) (lk_cons rfl (lk_cons rfl (lk_cons rfl (lk_cons rfl (lk_cons rfl (lk_cons rfl (lk_cons rfl lk_nil))))))) .nil (.cons 0 rfl (.cons 0 rfl .nil)) (fk_cons 4 rfl (fk_cons 5 rfl fk_nil))
              · rintro ⟨x795, _⟩
                try dsimp only
                refine sxc_if rfl (fun h796 => ?_) (fun h796 => ?_)
                · refine sxc_seq ?_
                  refine sxc_region ?_
                  refine sxo_assign rfl rfl rfl ?_
                  refine sxo_nil ?_
                  refine sxq_next ?_
                  refine sxc_ret ?_
                  refine sxq_blkR ?_
                  refine sxq_thenR ?_
                  refine sxq_thenR ?_
                  refine sxq_blkR ?_
                  refine sxq_thenR ?_
                  exact sxq_doneP () (.inl rfl) (res1 rfl rfl) (fun h => by subst h; rfl) (fun h => by subst h; exact .nil)
                · refine sxc_skip ?_
                  refine sxq_blkN ?_
                  refine sxq_next ?_
                  refine sxc_region ?_
                  refine sxo_move rfl rfl rfl ?_
                  refine sxo_add rfl rfl rfl rfl ?_
                  refine sxo_assign rfl rfl rfl ?_
                  refine sxo_nil ?_
                  exact sxq_againP (iadd .i64 x658 1, ()) (lk_cons rfl (lk_cons rfl (lk_cons rfl (lk_cons rfl (lk_cons rfl (lk_cons rfl lk_nil)))))) .nil (.cons 0 rfl (.cons 0 rfl .nil)) (fk_cons 0 rfl (fk_cons 1 rfl fk_nil))
            · refine sxc_exit ?_
              refine sxq_thenX ?_
              refine sxq_thenX ?_
              refine sxq_blkX ?_
              exact sxq_meetP ((), ()) (lk_cons rfl (lk_cons rfl (lk_cons rfl (lk_cons rfl (lk_cons rfl lk_nil))))) .nil (.cons 0 rfl (.cons 0 rfl .nil)) (fk_cons 0 rfl (fk_cons 1 rfl fk_nil))
          · rintro ⟨_, _⟩
            try dsimp only
            refine sxc_join (fun ((_, _) : (Unit × Unit)) => [(7, .slice a7 x6.1.length c8), (8, .slice a9 x6.2.1.length c10), (12, .slice a82 x81.1.length c83), (13, .slice a84 x81.2.1.length c85)]) (fun ((_, _) : (Unit × Unit)) => []) (fun ((_, _) : (Unit × Unit)) => [Ro (eI .i64) 3 1 (.slice a9 x6.2.1.length c10) x6.2.1, Ro (eI .i64) 3 1 (.slice a84 x81.2.1.length c85) x81.2.1]) (fun ((_, _) : (Unit × Unit)) => [Sl eS60 2 (.slice a7 x6.1.length c8) x6.1, Sl eS60 2 (.slice a82 x81.1.length c83) x81.1]) (fun ((_, _) : (Unit × Unit)) => M_L_RunsShift_j18 F x6 x81) ?_ ?_
            · refine sxc_seq ?_
              refine sxc_region ?_
              refine sxo_assign rfl rfl rfl ?_
              refine sxo_nil ?_
              refine sxq_next ?_
              refine sxc_block ?_
              refine sxc_loopP (fun ((x494, _) : (Int × Unit)) => [(2, .int .i64 x5), (7, .slice a7 x6.1.length c8), (8, .slice a9 x6.2.1.length c10), (12, .slice a82 x81.1.length c83), (13, .slice a84 x81.2.1.length c85), (16, .int .i64 x494)]) (fun ((x494, _) : (Int × Unit)) => []) (fun ((x494, _) : (Int × Unit)) => [Ro (eI .i64) 3 1 (.slice a9 x6.2.1.length c10) x6.2.1, Ro (eI .i64) 3 1 (.slice a84 x81.2.1.length c85) x81.2.1]) (fun ((x494, _) : (Int × Unit)) => [Sl eS60 2 (.slice a7 x6.1.length c8) x6.1, Sl eS60 2 (.slice a82 x81.1.length c83) x81.1]) (fun k (s : (Int × Unit)) => M_L_RunsShift_l23 F x5 x6 x81 k s.1) (0, ()) F (lk_cons rfl (lk_cons rfl (lk_cons rfl (lk_cons rfl (lk_cons rfl (lk_cons rfl lk_nil)))))) .nil (.cons 0 rfl (.cons 0 rfl .nil)) (fk_cons 0 rfl (fk_cons 1 rfl fk_nil)) (fun _ => rfl) ?_
              intro k537
              rintro ⟨x494, _⟩
              try dsimp only
              refine sxc_meq (m' := M_L_RunsShift_b23 F x5 x6 x81 (M_L_RunsShift_l23 F x5 x6 x81 k537) x494) rfl ?_
              refine sxc_seq ?_
              refine sxc_seq ?_
              refine sxc_region ?_
              refine sxo_move rfl rfl rfl ?_
              refine sxo_move rfl rfl rfl ?_
              refine sxo_len rfl Try.underlying22 rfl rfl ?_
              refine sxo_lss rfl rfl rfl rfl ?_
              refine sxo_nil ?_
              refine sxq_next ?_
              refine sxc_if rfl (fun h579 => ?_) (fun h579 => ?_)
              · refine sxc_skip ?_
                refine sxq_next ?_
                refine sxc_seq ?_
                refine sxc_block ?_
                refine sxc_join (fun ((x568, _) : (Bool × Unit)) => [(2, .int .i64 x5), (7, .slice a7 x6.1.length c8), (8, .slice a9 x6.2.1.length c10), (12, .slice a82 x81.1.length c83), (13, .slice a84 x81.2.1.length c85), (16, .int .i64 x494), (122, .bool x568)]) (fun ((x568, _) : (Bool × Unit)) => []) (fun ((x568, _) : (Bool × Unit)) => [Ro (eI .i64) 3 1 (.slice a9 x6.2.1.length c10) x6.2.1, Ro (eI .i64) 3 1 (.slice a84 x81.2.1.length c85) x81.2.1]) (fun ((x568, _) : (Bool × Unit)) => [Sl eS60 2 (.slice a7 x6.1.length c8) x6.1, Sl eS60 2 (.slice a82 x81.1.length c83) x81.1]) (fun ((x568, _) : (Bool × Unit)) => M_L_RunsShift_j25 F (M_L_RunsShift_l23 F x5 x6 x81 k537) x494 x568) ?_ ?_
                · refine sxc_split (fun h570 => ?_) (fun h570 => ?_)
                  · refine sxb_draw mixed [] [] [Sl eS60 2 (.slice a7 x6.1.length c8) x6.1, Sl eS60 2 (.slice a82 x81.1.length c83) x81.1] .nil (gk_F 0 rfl (gk_F 1 rfl gk_nil)) 17 rfl ?_
                    refine sxb_takeP 0 (.int .i64 x494) rfl rfl rfl rfl (by kernel_rfl) (by kernel_rfl) (by kernel_rfl) (by kernel_rfl) (by kernel_rfl) rfl (show _ = #[true, false, false, false, false, false, false, false, false, false, false, false, false, false, false, false, false] from rfl) (yv_pv rfl) ?_
                    refine sxb_takeP 1 (.slice a84 x81.2.1.length c85) rfl rfl rfl rfl (by kernel_rfl) (by kernel_rfl) (by kernel_rfl) (by kernel_rfl) (by kernel_rfl) rfl (show _ = #[true, true, false, false, false, false, false, false, false, false, false, false, false, false, false, false, false] from rfl) (yv_pv rfl) ?_
                    refine sxb_takeP 2 (.int .i64 (x81.2.1.length : Int)) rfl rfl rfl rfl (by kernel_rfl) (by kernel_rfl) (by kernel_rfl) (by kernel_rfl) (by kernel_rfl) rfl (show _ = #[true, true, true, false, false, false, false, false, false, false, false, false, false, false, false, false, false] from rfl) (yv_len Try.underlying22 rfl) ?_
                    refine sxb_takeP 3 (.bool (decide ((x81.2.1.length : Int) ≤ x494))) rfl rfl rfl rfl (by kernel_rfl) (by kernel_rfl) (by kernel_rfl) (by kernel_rfl) (by kernel_rfl) rfl (show _ = #[true, true, true, true, false, false, false, false, false, false, false, false, false, false, false, false, false] from rfl) (yv_pv rfl) ?_
                    refine sxb_takeP 4 (.bool (decide ((x81.2.1.length : Int) ≤ x494))) rfl rfl rfl rfl (by kernel_rfl) (by kernel_rfl) (by kernel_rfl) (by kernel_rfl) (by kernel_rfl) rfl (show _ = #[true, true, true, true, true, false, false, false, false, false, false, false, false, false, false, false, false] from rfl) (yv_pv rfl) ?_
                    refine sxb_again (d := 110) (v := .bool true) rfl (by rw [h570]) ?_
                    refine sxb_skip 5 rfl rfl rfl rfl (by kernel_rfl) (by kernel_rfl) (by kernel_rfl) (by kernel_rfl) (by kernel_rfl) rfl (show _ = #[true, true, true, true, true, true, false, false, false, false, false, false, false, false, false, false, false] from rfl) ?_
                    refine sxb_skip 6 rfl rfl rfl rfl (by kernel_rfl) (by kernel_rfl) (by kernel_rfl) (by kernel_rfl) (by kernel_rfl) rfl (show _ = #[true, true, true, true, true, true, true, false, false, false, false, false, false, false, false, false, false] from rfl) ?_
                    refine sxb_skip 7 rfl rfl rfl rfl (by kernel_rfl) (by kernel_rfl) (by kernel_rfl) (by kernel_rfl) (by kernel_rfl) rfl (show _ = #[true, true, true, true, true, true, true, true, false, false, false, false, false, false, false, false, false] from rfl) ?_
                    refine sxb_skip 8 rfl rfl rfl rfl (by kernel_rfl) (by kernel_rfl) (by kernel_rfl) (by kernel_rfl) (by kernel_rfl) rfl (show _ = #[true, true, true, true, true, true, true, true, true, false, false, false, false, false, false, false, false] from rfl) ?_
                    refine sxb_skip 9 rfl rfl rfl rfl (by kernel_rfl) (by kernel_rfl) (by kernel_rfl) (by kernel_rfl) (by kernel_rfl) rfl (show _ = #[true, true, true, true, true, true, true, true, true, true, false, false, false, false, false, false, false] from rfl) ?_
                    refine sxb_skip 10 rfl rfl rfl rfl (by kernel_rfl) (by kernel_rfl) (by kernel_rfl) (by kernel_rfl) (by kernel_rfl) rfl (show _ = #[true, true, true, true, true, true, true, true, true, true, true, false, false, false, false, false, false] from rfl) ?_
                    refine sxb_skip 11 rfl rfl rfl rfl (by kernel_rfl) (by kernel_rfl) (by kernel_rfl) (by kernel_rfl) (by kernel_rfl) rfl (show _ = #[true, true, true, true, true, true, true, true, true, true, true, true, false, false, false, false, false] from rfl) ?_
                    refine sxb_skip 12 rfl rfl rfl rfl (by kernel_rfl) (by kernel_rfl) (by kernel_rfl) (by kernel_rfl) (by kernel_rfl) rfl (show _ = #[true, true, true, true, true, true, true, true, true, true, true, true, true, false, false, false, false] from rfl) ?_
                    refine sxb_skip 13 rfl rfl rfl rfl (by kernel_rfl) (by kernel_rfl) (by kernel_rfl) (by kernel_rfl) (by kernel_rfl) rfl (show _ = #[true, true, true, true, true, true, true, true, true, true, true, true, true, true, false, false, false] from rfl) ?_
                    refine sxb_skip 14 rfl rfl rfl rfl (by kernel_rfl) (by kernel_rfl) (by kernel_rfl) (by kernel_rfl) (by kernel_rfl) rfl (show _ = #[true, true, true, true, true, true, true, true, true, true, true, true, true, true, true, false, false] from rfl) ?_
                    refine sxb_skip 15 rfl rfl rfl rfl (by kernel_rfl) (by kernel_rfl) (by kernel_rfl) (by kernel_rfl) (by kernel_rfl) rfl (show _ = #[true, true, true, true, true, true, true, true, true, true, true, true, true, true, true, true, false] from rfl) ?_
                    refine sxb_takeP 16 (.bool true) rfl rfl rfl rfl (by kernel_rfl) (by kernel_rfl) (by kernel_rfl) (by kernel_rfl) (by kernel_rfl) rfl (show _ = #[true, true, true, true, true, true, true, true, true, true, true, true, true, true, true, true, true] from rfl) (yv_pv rfl) ?_
                    refine sxb_done (by kernel_rfl) ?_
                    refine sxq_np ?_ (by intro c h; cases h)
                    exact sxq_meetP (true, ()) (lk_cons rfl (lk_cons rfl (lk_cons rfl (lk_cons rfl (lk_cons rfl (lk_cons rfl (lk_cons rfl lk_nil))))))) .nil (.cons 0 rfl (.cons 0 rfl .nil)) (fk_cons 0 rfl (fk_cons 1 rfl fk_nil))
                  · refine sxc_idxO (j := 1) rfl (fun x571 e571 g572 h573 => ?_)
                    replace h573 : a84 = some ⟨g572, 0, none⟩ := h573
                    have h574 := own_of (k := x81.2.1.length) (c := c85) h573
                    refine sxc_idxO (j := 0) rfl (fun x575 e575 g576 h577 => ?_)
                    replace h577 : a9 = some ⟨g576, 0, none⟩ := h577
                    have h578 := own_of (k := x6.2.1.length) (c := c10) h577
                    refine sxb_draw mixed [] [] [Sl eS60 2 (.slice a7 x6.1.length c8) x6.1, Sl eS60 2 (.slice a82 x81.1.length c83) x81.1, CellsAt g572 (x494.toNat * 1) ((eI .i64) x571), CellsAt g576 (x494.toNat * 1) ((eI .i64) x575)] .nil (gk_F 0 rfl (gk_F 1 rfl (gk_R 1 rfl (at_row (eI_ok .i64) e571 h573) (gk_R 0 rfl (at_row (eI_ok .i64) e575 h577) gk_nil)))) 17 rfl ?_
                    refine sxb_takeP 0 (.int .i64 x494) rfl rfl rfl rfl (by kernel_rfl) (by kernel_rfl) (by kernel_rfl) (by kernel_rfl) (by kernel_rfl) rfl (show _ = #[true, false, false, false, false, false, false, false, false, false, false, false, false, false, false, false, false] from rfl) (yv_pv rfl) ?_
                    refine sxb_takeP 1 (.slice a84 x81.2.1.length c85) rfl rfl rfl rfl (by kernel_rfl) (by kernel_rfl) (by kernel_rfl) (by kernel_rfl) (by kernel_rfl) rfl (show _ = #[true, true, false, false, false, false, false, false, false, false, false, false, false, false, false, false, false] from rfl) (yv_pv rfl) ?_
                    refine sxb_takeP 2 (.int .i64 (x81.2.1.length : Int)) rfl rfl rfl rfl (by kernel_rfl) (by kernel_rfl) (by kernel_rfl) (by kernel_rfl) (by kernel_rfl) rfl (show _ = #[true, true, true, false, false, false, false, false, false, false, false, false, false, false, false, false, false] from rfl) (yv_len Try.underlying22 rfl) ?_
                    refine sxb_takeP 3 (.bool (decide ((x81.2.1.length : Int) ≤ x494))) rfl rfl rfl rfl (by kernel_rfl) (by kernel_rfl) (by kernel_rfl) (by kernel_rfl) (by kernel_rfl) rfl (show _ = #[true, true, true, true, false, false, false, false, false, false, false, false, false, false, false, false, false] from rfl) (yv_pv rfl) ?_
                    refine sxb_takeP 4 (.bool (decide ((x81.2.1.length : Int) ≤ x494))) rfl rfl rfl rfl (by kernel_rfl) (by kernel_rfl) (by kernel_rfl) (by kernel_rfl) (by kernel_rfl) rfl (show _ = #[true, true, true, true, true, false, false, false, false, false, false, false, false, false, false, false, false] from rfl) (yv_pv rfl) ?_
                    refine sxb_again (d := 110) (v := .bool false) rfl (by rw [h570]) ?_
                    refine sxb_takeP 5 (.slice a84 x81.2.1.length c85) rfl rfl rfl rfl (by kernel_rfl) (by kernel_rfl) (by kernel_rfl) (by kernel_rfl) (by kernel_rfl) rfl (show _ = #[true, true, true, true, true, true, false, false, false, false, false, false, false, false, false, false, false] from rfl) (yv_pv rfl) ?_
                    refine sxb_takeP 6 (.int .i64 x494) rfl rfl rfl rfl (by kernel_rfl) (by kernel_rfl) (by kernel_rfl) (by kernel_rfl) (by kernel_rfl) rfl (show _ = #[true, true, true, true, true, true, true, false, false, false, false, false, false, false, false, false, false] from rfl) (yv_pv rfl) ?_
                    refine sxb_again (d := 111) (v := .slice (some ⟨g572, 0, none⟩) x81.2.1.length c85) rfl (by rw [h573]) ?_
                    refine sxb_takeP 7 (.pointer (some ⟨g572, x494.toNat * 1, none⟩)) rfl rfl rfl rfl (by kernel_rfl) (by kernel_rfl) (by kernel_rfl) (by kernel_rfl) (by kernel_rfl) rfl (show _ = #[true, true, true, true, true, true, true, true, false, false, false, false, false, false, false, false, false] from rfl) (yv_idxO Try.underlying22 tf3 rfl rfl (idx_get e571).1 (idx_lt e571)) ?_
                    refine sxb_again (d := 111) (v := .slice a84 x81.2.1.length c85) rfl (by rw [h573]) ?_
                    refine sxb_take 8 (.int .i64 x571) [] rfl rfl rfl rfl (by kernel_rfl) (by kernel_rfl) (by kernel_rfl) (by kernel_rfl) (by kernel_rfl) (by kernel_rfl) rfl (show _ = #[true, true, true, true, true, true, true, true, true, false, false, false, false, false, false, false, false] from rfl) (yv_loadF (j := 2) rfl tf3 rfl rfl (fun _ => rfl) rfl) ?_
                    refine sxb_takeP 9 (.slice a9 x6.2.1.length c10) rfl rfl rfl rfl (by kernel_rfl) (by kernel_rfl) (by kernel_rfl) (by kernel_rfl) (by kernel_rfl) rfl (show _ = #[true, true, true, true, true, true, true, true, true, true, false, false, false, false, false, false, false] from rfl) (yv_pv rfl) ?_
                    refine sxb_takeP 10 (.int .i64 x494) rfl rfl rfl rfl (by kernel_rfl) (by kernel_rfl) (by kernel_rfl) (by kernel_rfl) (by kernel_rfl) rfl (show _ = #[true, true, true, true, true, true, true, true, true, true, true, false, false, false, false, false, false] from rfl) (yv_pv rfl) ?_
                    refine sxb_again (d := 115) (v := .slice (some ⟨g576, 0, none⟩) x6.2.1.length c10) rfl (by rw [h577]) ?_
                    refine sxb_takeP 11 (.pointer (some ⟨g576, x494.toNat * 1, none⟩)) rfl rfl rfl rfl (by kernel_rfl) (by kernel_rfl) (by kernel_rfl) (by kernel_rfl) (by kernel_rfl) rfl (show _ = #[true, true, true, true, true, true, true, true, true, true, true, true, false, false, false, false, false] from rfl) (yv_idxO Try.underlying22 tf3 rfl rfl (idx_get e575).1 (idx_lt e575)) ?_
                    refine sxb_again (d := 115) (v := .slice a9 x6.2.1.length c10) rfl (by rw [h577]) ?_
                    refine sxb_take 12 (.int .i64 x575) [] rfl rfl rfl rfl (by kernel_rfl) (by kernel_rfl) (by kernel_rfl) (by kernel_rfl) (by kernel_rfl) (by kernel_rfl) rfl (show _ = #[true, true, true, true, true, true, true, true, true, true, true, true, true, false, false, false, false] from rfl) (yv_loadF (j := 3) rfl tf3 rfl rfl (fun _ => rfl) rfl) ?_
                    refine sxb_takeP 13 (.int .i64 x5) rfl rfl rfl rfl (by kernel_rfl) (by kernel_rfl) (by kernel_rfl) (by kernel_rfl) (by kernel_rfl) rfl (show _ = #[true, true, true, true, true, true, true, true, true, true, true, true, true, true, false, false, false] from rfl) (yv_pv rfl) ?_
                    refine sxb_takeP 14 (.int .i64 (iadd .i64 x575 x5)) rfl rfl rfl rfl (by kernel_rfl) (by kernel_rfl) (by kernel_rfl) (by kernel_rfl) (by kernel_rfl) rfl (show _ = #[true, true, true, true, true, true, true, true, true, true, true, true, true, true, true, false, false] from rfl) (yv_pv rfl) ?_
                    refine sxb_takeP 15 (.bool ((x571 : Int) != (iadd .i64 x575 x5))) rfl rfl rfl rfl (by kernel_rfl) (by kernel_rfl) (by kernel_rfl) (by kernel_rfl) (by kernel_rfl) rfl (show _ = #[true, true, true, true, true, true, true, true, true, true, true, true, true, true, true, true, false] from rfl) (yv_pv rfl) ?_
                    refine sxb_takeP 16 (.bool ((x571 : Int) != (iadd .i64 x575 x5))) rfl rfl rfl rfl (by kernel_rfl) (by kernel_rfl) (by kernel_rfl) (by kernel_rfl) (by kernel_rfl) rfl (show _ = #[true, true, true, true, true, true, true, true, true, true, true, true, true, true, true, true, true] from rfl) (yv_pv rfl) ?_
                    refine sxb_done (by kernel_rfl) ?_
                    refine sxq_np ?_ (by intro c h; cases h)
                    exact sxq_meetP (((x571 : Int) != (iadd .i64 x575 x5)), ()) (lk_cons rfl (lk_cons rfl (lk_cons rfl (lk_cons rfl (lk_cons rfl (lk_cons rfl (lk_cons rfl lk_nil))))))) .nil (.cons 0 rfl (.cons 0 rfl .nil)) (fk_cons 0 rfl (fk_cons 1 rfl fk_nil))
                · rintro ⟨x568, _⟩
                  try dsimp only
                  refine sxc_if rfl (fun h569 => ?_) (fun h569 => ?_)
                  · refine sxc_seq ?_
                    refine sxc_region ?_
                    refine sxo_assign rfl rfl rfl ?_
                    refine sxo_nil ?_
                    refine sxq_next ?_
                    refine sxc_ret ?_
                    refine sxq_blkR ?_
                    refine sxq_thenR ?_
                    refine sxq_thenR ?_
                    refine sxq_blkR ?_
                    refine sxq_thenR ?_
                    exact sxq_doneP () (.inl rfl) (res1 rfl rfl) (fun h => by subst h; rfl) (fun h => by subst h; exact .nil)
                  · refine sxc_skip ?_
                    refine sxq_blkN ?_
                    refine sxq_next ?_
                    refine sxc_region ?_
                    refine sxo_move rfl rfl rfl ?_
                    refine sxo_add rfl rfl rfl rfl ?_
                    refine sxo_assign rfl rfl rfl ?_
                    refine sxo_nil ?_
                    exact sxq_againP (iadd .i64 x494 1, ()) (lk_cons rfl (lk_cons rfl (lk_cons rfl (lk_cons rfl (lk_cons rfl (lk_cons rfl lk_nil)))))) .nil (.cons 0 rfl (.cons 0 rfl .nil)) (fk_cons 0 rfl (fk_cons 1 rfl fk_nil))
              · refine sxc_exit ?_
                refine sxq_thenX ?_
                refine sxq_thenX ?_
                refine sxq_blkX ?_
                exact sxq_meetP ((), ()) (lk_cons rfl (lk_cons rfl (lk_cons rfl (lk_cons rfl lk_nil)))) .nil (.cons 0 rfl (.cons 0 rfl .nil)) (fk_cons 0 rfl (fk_cons 1 rfl fk_nil))
            · rintro ⟨_, _⟩
              try dsimp only
              refine sxc_seq ?_
              refine sxc_region ?_
              refine sxo_move rfl rfl rfl ?_
              refine sxo_len rfl Try.underlying49 rfl rfl ?_
              refine sxo_move rfl rfl rfl ?_
              refine sxo_len rfl Try.underlying49 rfl rfl ?_
              refine sxo_eql rfl rfl rfl rfl ?_
              refine sxo_move rfl rfl rfl ?_
              refine sxo_case 6 (((x81.1.length : Int) : Int) == (x6.1.length : Int)) [(134, .bool ((((x81.1.length : Int) : Int) == (x6.1.length : Int)) && (((x81.2.1.length : Int) : Int) == (x6.2.1.length : Int))))] (fun h451 => ?_) (fun h451 => ?_) ?_
              · refine sxo_take (os := _) rfl ?_
                refine sxo_isT (k := 128) rfl h451 ?_
                refine sxo_move rfl rfl rfl ?_
                refine sxo_len rfl Try.underlying22 rfl rfl ?_
                refine sxo_move rfl rfl rfl ?_
                refine sxo_len rfl Try.underlying22 rfl rfl ?_
                refine sxo_eql rfl rfl rfl rfl ?_
                refine sxo_pick (b := true) rfl rfl rfl rfl ?_
                refine sxo_again (d := 134) (v := .bool ((((x81.1.length : Int) : Int) == (x6.1.length : Int)) && (((x81.2.1.length : Int) : Int) == (x6.2.1.length : Int)))) rfl (by rw [h451]; simp only [Bool.true_and]) ?_
                refine sxo_nil ?_
                exact sxq_case (lk_cons rfl lk_nil)
              · refine sxo_take (os := _) rfl ?_
                refine sxo_isF (k := 128) rfl h451 ?_
                refine sxo_skip rfl rfl rfl ?_
                refine sxo_skip rfl rfl rfl ?_
                refine sxo_skip rfl rfl rfl ?_
                refine sxo_skip rfl rfl rfl ?_
                refine sxo_skip rfl rfl rfl ?_
                refine sxo_pick (b := false) rfl rfl rfl rfl ?_
                refine sxo_again (d := 134) (v := .bool ((((x81.1.length : Int) : Int) == (x6.1.length : Int)) && (((x81.2.1.length : Int) : Int) == (x6.2.1.length : Int)))) rfl (by rw [h451]; simp only [Bool.false_and]) ?_
                refine sxo_nil ?_
                exact sxq_case (lk_cons rfl lk_nil)
              refine sxo_take (os := _) rfl ?_
              refine sxo_assign rfl rfl rfl ?_
              refine sxo_nil ?_
              refine sxq_next ?_
              refine sxc_ret ?_
              exact sxq_doneP () (.inl rfl) (res1 rfl rfl) (fun h => by subst h; rfl) (fun h => by subst h; exact .nil)

set_option maxHeartbeats 4000000 in
theorem C_L_RunsWhole (F : Nat) (x1 : Int) (x2 : Int) (x3 : Int) (r : Bool) (hm : M_L_RunsWhole F x1 x2 x3 = some r) :
    Pure Try.prog 14 [.int .i64 x1, .int .i64 x2, .int .i64 x3] [] Unit (fun _ => .bool r) (fun _ => []) (fun _ => []) := by
  refine pure_of Try.func14 rfl Try.ntmps14 rfl hm (fun w => ?_)
  refine sxc_env (l' := [(0, .int .i64 x1), (1, .int .i64 x2), (2, .int .i64 x3)]) rfl ?_
  refine sxc_seq ?_
  refine sxc_region ?_
  refine sxo_assign rfl rfl rfl ?_
  refine sxo_nil ?_
  refine sxq_next ?_
  refine sxc_seq ?_
  refine sxc_seq ?_
  refine sxc_region ?_
  refine sxo_call ent36 rfl rfl rfl (fun x6 e6 => C_L_runsBegun F  x6 e6) .nil (fun x6 e6 => ?_)
  intro _
  refine sxo_not rfl rfl rfl ?_
  refine sxo_nil ?_
  refine sxq_next ?_
  refine sxc_if rfl (fun h140 => ?_) (fun h140 => ?_)
  · refine sxc_seq ?_
    refine sxc_region ?_
    refine sxo_assign rfl rfl rfl ?_
    refine sxo_nil ?_
    refine sxq_next ?_
    refine sxc_ret ?_
    refine sxq_thenR ?_
    exact sxq_doneP () (.inl rfl) (res1 rfl rfl) (fun h => by subst h; rfl) (fun h => by subst h; exact .nil)
  · refine sxc_skip ?_
    refine sxq_next ?_
    refine sxc_seq ?_
    refine sxc_seq ?_
    refine sxc_region ?_
    refine sxo_move rfl rfl rfl ?_
    refine sxo_lss rfl rfl rfl rfl ?_
    refine sxo_move rfl rfl rfl ?_
    refine sxo_case 3 (decide (x1 < 0)) [(0, .int .i64 x1), (1, .int .i64 x2), (2, .int .i64 x3), (21, .bool ((decide (x1 < 0)) || (decide (x2 < 1))))] (fun h13 => ?_) (fun h13 => ?_) ?_
    · refine sxo_take (os := _) rfl ?_
      refine sxo_isT (k := 18) rfl h13 ?_
      refine sxo_skip rfl rfl rfl ?_
      refine sxo_skip rfl rfl rfl ?_
      refine sxo_pick (b := true) rfl rfl rfl rfl ?_
      refine sxo_again (d := 21) (v := .bool ((decide (x1 < 0)) || (decide (x2 < 1)))) rfl (by rw [h13]; simp only [Bool.true_or]) ?_
      refine sxo_nil ?_
      exact sxq_case (lk_cons rfl (lk_cons rfl (lk_cons rfl (lk_cons rfl lk_nil))))
    · refine sxo_take (os := _) rfl ?_
      refine sxo_isF (k := 18) rfl h13 ?_
      refine sxo_move rfl rfl rfl ?_
      refine sxo_lss rfl rfl rfl rfl ?_
      refine sxo_pick (b := false) rfl rfl rfl rfl ?_
      refine sxo_again (d := 21) (v := .bool ((decide (x1 < 0)) || (decide (x2 < 1)))) rfl (by rw [h13]; simp only [Bool.false_or]) ?_
      refine sxo_nil ?_
      exact sxq_case (lk_cons rfl (lk_cons rfl (lk_cons rfl (lk_cons rfl lk_nil))))
    refine sxo_take (os := _) rfl ?_
    refine sxo_move rfl rfl rfl ?_
    refine sxo_case 3 ((decide (x1 < 0)) || (decide (x2 < 1))) [(0, .int .i64 x1), (1, .int .i64 x2), (2, .int .i64 x3), (25, .bool (((decide (x1 < 0)) || (decide (x2 < 1))) || (decide (300 < x2))))] (fun h14 => ?_) (fun h14 => ?_) ?_
    · refine sxo_take (os := _) rfl ?_
      refine sxo_isT (k := 22) rfl h14 ?_
      refine sxo_skip rfl rfl rfl ?_
      refine sxo_skip rfl rfl rfl ?_
      refine sxo_pick (b := true) rfl rfl rfl rfl ?_
      refine sxo_again (d := 25) (v := .bool (((decide (x1 < 0)) || (decide (x2 < 1))) || (decide (300 < x2)))) rfl (by rw [h14]; simp only [Bool.true_or]) ?_
      refine sxo_nil ?_
      exact sxq_case (lk_cons rfl (lk_cons rfl (lk_cons rfl (lk_cons rfl lk_nil))))
    · refine sxo_take (os := _) rfl ?_
      refine sxo_isF (k := 22) rfl h14 ?_
      refine sxo_move rfl rfl rfl ?_
      refine sxo_gtr rfl rfl rfl rfl ?_
      refine sxo_pick (b := false) rfl rfl rfl rfl ?_
      refine sxo_again (d := 25) (v := .bool (((decide (x1 < 0)) || (decide (x2 < 1))) || (decide (300 < x2)))) rfl (by rw [h14]; simp only [Bool.false_or]) ?_
      refine sxo_nil ?_
      exact sxq_case (lk_cons rfl (lk_cons rfl (lk_cons rfl (lk_cons rfl lk_nil))))
    refine sxo_take (os := _) rfl ?_
    refine sxo_move rfl rfl rfl ?_
    refine sxo_case 6 (((decide (x1 < 0)) || (decide (x2 < 1))) || (decide (300 < x2))) [(0, .int .i64 x1), (1, .int .i64 x2), (2, .int .i64 x3), (32, .bool ((((decide (x1 < 0)) || (decide (x2 < 1))) || (decide (300 < x2))) || (decide ((iadd .i64 (isub .i64 1048576 x2) 1) < x1))))] (fun h15 => ?_) (fun h15 => ?_) ?_
    · refine sxo_take (os := _) rfl ?_
      refine sxo_isT (k := 26) rfl h15 ?_
      refine sxo_skip rfl rfl rfl ?_
      refine sxo_skip rfl rfl rfl ?_
      refine sxo_skip rfl rfl rfl ?_
      refine sxo_skip rfl rfl rfl ?_
      refine sxo_skip rfl rfl rfl ?_
      refine sxo_pick (b := true) rfl rfl rfl rfl ?_
      refine sxo_again (d := 32) (v := .bool ((((decide (x1 < 0)) || (decide (x2 < 1))) || (decide (300 < x2))) || (decide ((iadd .i64 (isub .i64 1048576 x2) 1) < x1)))) rfl (by rw [h15]; simp only [Bool.true_or]) ?_
      refine sxo_nil ?_
      exact sxq_case (lk_cons rfl (lk_cons rfl (lk_cons rfl (lk_cons rfl lk_nil))))
    · refine sxo_take (os := _) rfl ?_
      refine sxo_isF (k := 26) rfl h15 ?_
      refine sxo_move rfl rfl rfl ?_
      refine sxo_move rfl rfl rfl ?_
      refine sxo_sub rfl rfl rfl rfl ?_
      refine sxo_add rfl rfl rfl rfl ?_
      refine sxo_gtr rfl rfl rfl rfl ?_
      refine sxo_pick (b := false) rfl rfl rfl rfl ?_
      refine sxo_again (d := 32) (v := .bool ((((decide (x1 < 0)) || (decide (x2 < 1))) || (decide (300 < x2))) || (decide ((iadd .i64 (isub .i64 1048576 x2) 1) < x1)))) rfl (by rw [h15]; simp only [Bool.false_or]) ?_
      refine sxo_nil ?_
      exact sxq_case (lk_cons rfl (lk_cons rfl (lk_cons rfl (lk_cons rfl lk_nil))))
    refine sxo_take (os := _) rfl ?_
    refine sxo_move rfl rfl rfl ?_
    refine sxo_case 3 ((((decide (x1 < 0)) || (decide (x2 < 1))) || (decide (300 < x2))) || (decide ((iadd .i64 (isub .i64 1048576 x2) 1) < x1))) [(0, .int .i64 x1), (1, .int .i64 x2), (2, .int .i64 x3), (36, .bool (((((decide (x1 < 0)) || (decide (x2 < 1))) || (decide (300 < x2))) || (decide ((iadd .i64 (isub .i64 1048576 x2) 1) < x1))) || (decide (x3 < 2))))] (fun h16 => ?_) (fun h16 => ?_) ?_
    · refine sxo_take (os := _) rfl ?_
      refine sxo_isT (k := 33) rfl h16 ?_
      refine sxo_skip rfl rfl rfl ?_
      refine sxo_skip rfl rfl rfl ?_
      refine sxo_pick (b := true) rfl rfl rfl rfl ?_
      refine sxo_again (d := 36) (v := .bool (((((decide (x1 < 0)) || (decide (x2 < 1))) || (decide (300 < x2))) || (decide ((iadd .i64 (isub .i64 1048576 x2) 1) < x1))) || (decide (x3 < 2)))) rfl (by rw [h16]; simp only [Bool.true_or]) ?_
      refine sxo_nil ?_
      exact sxq_case (lk_cons rfl (lk_cons rfl (lk_cons rfl (lk_cons rfl lk_nil))))
    · refine sxo_take (os := _) rfl ?_
      refine sxo_isF (k := 33) rfl h16 ?_
      refine sxo_move rfl rfl rfl ?_
      refine sxo_lss rfl rfl rfl rfl ?_
      refine sxo_pick (b := false) rfl rfl rfl rfl ?_
      refine sxo_again (d := 36) (v := .bool (((((decide (x1 < 0)) || (decide (x2 < 1))) || (decide (300 < x2))) || (decide ((iadd .i64 (isub .i64 1048576 x2) 1) < x1))) || (decide (x3 < 2)))) rfl (by rw [h16]; simp only [Bool.false_or]) ?_
      refine sxo_nil ?_
      exact sxq_case (lk_cons rfl (lk_cons rfl (lk_cons rfl (lk_cons rfl lk_nil))))
    refine sxo_take (os := _) rfl ?_
    refine sxo_move rfl rfl rfl ?_
    refine sxo_case 3 (((((decide (x1 < 0)) || (decide (x2 < 1))) || (decide (300 < x2))) || (decide ((iadd .i64 (isub .i64 1048576 x2) 1) < x1))) || (decide (x3 < 2))) [(0, .int .i64 x1), (1, .int .i64 x2), (2, .int .i64 x3), (40, .bool ((((((decide (x1 < 0)) || (decide (x2 < 1))) || (decide (300 < x2))) || (decide ((iadd .i64 (isub .i64 1048576 x2) 1) < x1))) || (decide (x3 < 2))) || (decide (300 < x3))))] (fun h17 => ?_) (fun h17 => ?_) ?_
    · refine sxo_take (os := _) rfl ?_
      refine sxo_isT (k := 37) rfl h17 ?_
      refine sxo_skip rfl rfl rfl ?_
      refine sxo_skip rfl rfl rfl ?_
      refine sxo_pick (b := true) rfl rfl rfl rfl ?_
      refine sxo_again (d := 40) (v := .bool ((((((decide (x1 < 0)) || (decide (x2 < 1))) || (decide (300 < x2))) || (decide ((iadd .i64 (isub .i64 1048576 x2) 1) < x1))) || (decide (x3 < 2))) || (decide (300 < x3)))) rfl (by rw [h17]; simp only [Bool.true_or]) ?_
      refine sxo_nil ?_
      exact sxq_case (lk_cons rfl (lk_cons rfl (lk_cons rfl (lk_cons rfl lk_nil))))
    · refine sxo_take (os := _) rfl ?_
      refine sxo_isF (k := 37) rfl h17 ?_
      refine sxo_move rfl rfl rfl ?_
      refine sxo_gtr rfl rfl rfl rfl ?_
      refine sxo_pick (b := false) rfl rfl rfl rfl ?_
      refine sxo_again (d := 40) (v := .bool ((((((decide (x1 < 0)) || (decide (x2 < 1))) || (decide (300 < x2))) || (decide ((iadd .i64 (isub .i64 1048576 x2) 1) < x1))) || (decide (x3 < 2))) || (decide (300 < x3)))) rfl (by rw [h17]; simp only [Bool.false_or]) ?_
      refine sxo_nil ?_
      exact sxq_case (lk_cons rfl (lk_cons rfl (lk_cons rfl (lk_cons rfl lk_nil))))
    refine sxo_take (os := _) rfl ?_
    refine sxo_nil ?_
    refine sxq_next ?_
    refine sxc_if rfl (fun h139 => ?_) (fun h139 => ?_)
    · refine sxc_seq ?_
      refine sxc_region ?_
      refine sxo_assign rfl rfl rfl ?_
      refine sxo_nil ?_
      refine sxq_next ?_
      refine sxc_ret ?_
      refine sxq_thenR ?_
      exact sxq_doneP () (.inl rfl) (res1 rfl rfl) (fun h => by subst h; rfl) (fun h => by subst h; exact .nil)
    · refine sxc_skip ?_
      refine sxq_next ?_
      refine sxc_seq ?_
      refine sxc_region ?_
      refine sxo_assign rfl rfl rfl ?_
      refine sxo_nil ?_
      refine sxq_next ?_
      refine sxc_join (fun ((x61, (a59, c60)) : (List Int × (Option Addr × Nat))) => [(0, .int .i64 x1), (1, .int .i64 x2), (2, .int .i64 x3), (7, .slice a59 x61.length c60)]) (fun ((x61, (a59, c60)) : (List Int × (Option Addr × Nat))) => []) (fun ((x61, (a59, c60)) : (List Int × (Option Addr × Nat))) => [Ro (eI .i64) 3 1 (.slice a59 x61.length c60) x61]) (fun ((x61, (a59, c60)) : (List Int × (Option Addr × Nat))) => []) (fun ((x61, _) : (List Int × (Option Addr × Nat))) => M_L_RunsWhole_j2 F x1 x2 x3 x61) ?_ ?_
      · refine sxc_seq ?_
        refine sxc_region ?_
        refine sxo_assign rfl rfl rfl ?_
        refine sxo_nil ?_
        refine sxq_next ?_
        refine sxc_block ?_
        refine sxc_nilrow Int (eI .i64) 3 1 ?_
        refine sxc_loopP (fun (((x112, x113), (a110, c111)) : ((List Int × Int) × (Option Addr × Nat))) => [(0, .int .i64 x1), (1, .int .i64 x2), (2, .int .i64 x3), (7, .slice a110 x112.length c111), (8, .int .i64 x113)]) (fun (((x112, x113), (a110, c111)) : ((List Int × Int) × (Option Addr × Nat))) => []) (fun (((x112, x113), (a110, c111)) : ((List Int × Int) × (Option Addr × Nat))) => [Ro (eI .i64) 3 1 (.slice a110 x112.length c111) x112]) (fun (((x112, x113), (a110, c111)) : ((List Int × Int) × (Option Addr × Nat))) => []) (fun k (s : ((List Int × Int) × (Option Addr × Nat))) => M_L_RunsWhole_l7 F x1 x2 x3 k s.1) ((([] : List Int), 0), (none, 0)) F (lk_cons rfl (lk_cons rfl (lk_cons rfl (lk_cons rfl (lk_cons rfl lk_nil))))) .nil (.cons 0 rfl .nil) fk_nil (fun _ => rfl) ?_
        intro k126
        rintro ⟨⟨x112, x113⟩, ⟨a110, c111⟩⟩
        try dsimp only
        refine sxc_meq (m' := M_L_RunsWhole_b7 F x1 x2 x3 (M_L_RunsWhole_l7 F x1 x2 x3 k126) x112 x113) rfl ?_
        refine sxc_seq ?_
        refine sxc_seq ?_
        refine sxc_region ?_
        refine sxo_move rfl rfl rfl ?_
        refine sxo_move rfl rfl rfl ?_
        refine sxo_lss rfl rfl rfl rfl ?_
        refine sxo_nil ?_
        refine sxq_next ?_
        refine sxc_if rfl (fun h138 => ?_) (fun h138 => ?_)
        · refine sxc_skip ?_
          refine sxq_next ?_
          refine sxc_seq ?_
          refine sxc_block ?_
          refine sxc_region ?_
          refine sxo_move rfl rfl rfl ?_
          refine sxo_move rfl rfl rfl ?_
          refine sxo_move rfl rfl rfl ?_
          refine sxo_add rfl rfl rfl rfl ?_
          refine sxo_slit (vs := [.int .i64 (iadd .i64 x1 x113)]) (ys := ([iadd .i64 x1 x113] : List Int)) (eI_ok .i64) (by decide) rfl Try.underlying22 tf3 rfl rfl rfl rfl rfl (by decide) (fun a133 c134 => ?_)
          refine sxo_app 1 (eI_ok .i64) rfl Try.underlying22 tf3 rfl rfl rfl rfl rfl (.inl ⟨0, _, rfl⟩) rfl rfl (fun x135 e135 a136 c137 => ?_)
          refine sxo_assign rfl rfl rfl ?_
          refine sxo_nil ?_
          refine sxq_blkN ?_
          refine sxq_next ?_
          refine sxc_region ?_
          refine sxo_move rfl rfl rfl ?_
          refine sxo_add rfl rfl rfl rfl ?_
          refine sxo_assign rfl rfl rfl ?_
          refine sxo_nil ?_
          exact sxq_againP ((x135, iadd .i64 x113 1), (a136, c137)) (lk_cons rfl (lk_cons rfl (lk_cons rfl (lk_cons rfl (lk_cons rfl lk_nil))))) .nil (.cons 0 rfl .nil) fk_nil
        · refine sxc_exit ?_
          refine sxq_thenX ?_
          refine sxq_thenX ?_
          refine sxq_blkX ?_
          exact sxq_meetP (x112, (a110, c111)) (lk_cons rfl (lk_cons rfl (lk_cons rfl (lk_cons rfl lk_nil)))) .nil (.cons 0 rfl .nil) fk_nil
      · rintro ⟨x61, ⟨a59, c60⟩⟩
        try dsimp only
        refine sxc_seq ?_
        refine sxc_region ?_
        refine sxo_move rfl rfl rfl ?_
        refine sxo_move rfl rfl rfl ?_
        refine sxo_call ent31 rfl rfl rfl (fun x62 e62 => C_runs_Split F x61 a59 c60 x3 x62 e62) (.consR 0 (Ro (eI .i64) 3 1 (.slice a59 x61.length c60) x61) rfl .nil) (fun x62 e62 => ?_)
        rintro ⟨⟨a63, c64⟩, ⟨a65, c66⟩⟩
        refine sxo_move rfl rfl rfl ?_
        refine sxo_extract rfl rfl rfl rfl ?_
        refine sxo_extract rfl rfl rfl rfl ?_
        refine sxo_extract rfl rfl rfl rfl ?_
        refine sxo_assign rfl rfl rfl ?_
        refine sxo_assign rfl rfl rfl ?_
        refine sxo_assign rfl rfl rfl ?_
        refine sxo_nil ?_
        refine sxq_next ?_
        refine sxc_seq ?_
        refine sxc_region ?_
        refine sxo_move rfl rfl rfl ?_
        refine sxo_move rfl rfl rfl ?_
        refine sxo_build (cells := [.int .i64 x1, .int .i64 x2]) rfl st60 rfl (by kernel_rfl) rfl ?_
        refine sxo_slit (vs := [.agg #[.int .i64 x1, .int .i64 x2]]) (ys := ([(x1, x2)] : List (Int × Int))) eS60_ok (by decide) rfl Try.underlying49 tf60 rfl rfl rfl rfl rfl (by decide) (fun a67 c68 => ?_)
        refine sxo_nilrow' Int (eI .i64) 3 1 ?_
        refine sxo_call ent32 rfl rfl rfl (fun x69 e69 => C_runs_Merge F ([(x1, x2)] : List (Int × Int)) a67 c68 ([] : List Int) none 0 x69 e69) (.consR 1 (Ro eS60 60 2 (.slice a67 ([(x1, x2)] : List (Int × Int)).length c68) ([(x1, x2)] : List (Int × Int))) rfl (.consR 0 (Ro (eI .i64) 3 1 (.slice none ([] : List Int).length 0) ([] : List Int)) rfl .nil)) (fun x69 e69 => ?_)
        rintro ⟨a70, c71⟩
        refine sxo_move rfl rfl rfl ?_
        refine sxo_extract rfl rfl rfl rfl ?_
        refine sxo_extract rfl rfl rfl rfl ?_
        refine sxo_assign rfl rfl rfl ?_
        refine sxo_assign rfl rfl rfl ?_
        refine sxo_nil ?_
        refine sxq_next ?_
        refine sxc_seq ?_
        refine sxc_seq ?_
        refine sxc_region ?_
        refine sxo_move rfl rfl rfl ?_
        refine sxo_neq rfl rfl rfl rfl ?_
        refine sxo_move rfl rfl rfl ?_
        refine sxo_case 3 ((x62.2.2 : Int) != 0) [(0, .int .i64 x1), (1, .int .i64 x2), (2, .int .i64 x3), (7, .slice a59 x61.length c60), (9, .slice a63 x62.1.length c64), (10, .slice a65 x62.2.1.length c66), (12, .slice a70 x69.1.length c71), (72, .bool (((x62.2.2 : Int) != 0) || ((x69.2 : Int) != 0)))] (fun h78 => ?_) (fun h78 => ?_) ?_
        · refine sxo_take (os := _) rfl ?_
          refine sxo_isT (k := 69) rfl h78 ?_
          refine sxo_skip rfl rfl rfl ?_
          refine sxo_skip rfl rfl rfl ?_
          refine sxo_pick (b := true) rfl rfl rfl rfl ?_
          refine sxo_again (d := 72) (v := .bool (((x62.2.2 : Int) != 0) || ((x69.2 : Int) != 0))) rfl (by rw [h78]; simp only [Bool.true_or]) ?_
          refine sxo_nil ?_
          exact sxq_case (lk_cons rfl (lk_cons rfl (lk_cons rfl (lk_cons rfl (lk_cons rfl (lk_cons rfl (lk_cons rfl (lk_cons rfl lk_nil))))))))
        · refine sxo_take (os := _) rfl ?_
          refine sxo_isF (k := 69) rfl h78 ?_
          refine sxo_move rfl rfl rfl ?_
          refine sxo_neq rfl rfl rfl rfl ?_
          refine sxo_pick (b := false) rfl rfl rfl rfl ?_
          refine sxo_again (d := 72) (v := .bool (((x62.2.2 : Int) != 0) || ((x69.2 : Int) != 0))) rfl (by rw [h78]; simp only [Bool.false_or]) ?_
          refine sxo_nil ?_
          exact sxq_case (lk_cons rfl (lk_cons rfl (lk_cons rfl (lk_cons rfl (lk_cons rfl (lk_cons rfl (lk_cons rfl (lk_cons rfl lk_nil))))))))
        refine sxo_take (os := _) rfl ?_
        refine sxo_move rfl rfl rfl ?_
        refine sxo_join 5 (fun ((x81, _) : (Bool × Unit)) => [(0, .int .i64 x1), (1, .int .i64 x2), (2, .int .i64 x3), (7, .slice a59 x61.length c60), (9, .slice a63 x62.1.length c64), (10, .slice a65 x62.2.1.length c66), (78, .bool x81)]) (fun ((x81, _) : (Bool × Unit)) => []) (fun ((x81, _) : (Bool × Unit)) => [Ro (eI .i64) 3 1 (.slice a59 x61.length c60) x61, Ro eS60 60 2 (.slice a63 x62.1.length c64) x62.1, Ro (eI .i64) 3 1 (.slice a65 x62.2.1.length c66) x62.2.1]) (fun ((x81, _) : (Bool × Unit)) => []) (fun ((x81, _) : (Bool × Unit)) => M_L_RunsWhole_j4 F x1 x2 x3 x61 x62 x81) ?_ ?_
        · refine sxo_take (os := _) rfl ?_
          refine sxo_if (fun h79 => ?_) (fun h79 => ?_)
          · refine sxo_isT (k := 73) rfl h79 ?_
            refine sxo_skip rfl rfl rfl ?_
            refine sxo_skip rfl rfl rfl ?_
            refine sxo_skip rfl rfl rfl ?_
            refine sxo_skip rfl rfl rfl ?_
            refine sxo_pick (b := true) rfl rfl rfl rfl ?_
            refine sxo_nil ?_
            exact sxq_meetP (true, ()) (lk_cons rfl (lk_cons rfl (lk_cons rfl (lk_cons rfl (lk_cons rfl (lk_cons rfl (lk_cons rfl lk_nil))))))) .nil (.cons 5 rfl (.cons 3 rfl (.cons 3 rfl .nil))) fk_nil
          · refine sxo_isF (k := 73) rfl h79 ?_
            refine sxo_move rfl rfl rfl ?_
            refine sxo_move rfl rfl rfl ?_
            refine sxo_call ent25 rfl rfl rfl (fun x97 e97 => C_R_SameInts F x69.1 a70 c71 x61 a59 c60 x97 e97) (.consR 0 (Ro (eI .i64) 3 1 (.slice a70 x69.1.length c71) x69.1) rfl (.consR 5 (Ro (eI .i64) 3 1 (.slice a59 x61.length c60) x61) rfl .nil)) (fun x97 e97 => ?_)
            intro _
            refine sxo_not rfl rfl rfl ?_
            refine sxo_pick (b := false) rfl rfl rfl rfl ?_
            refine sxo_nil ?_
            exact sxq_meetP ((!x97), ()) (lk_cons rfl (lk_cons rfl (lk_cons rfl (lk_cons rfl (lk_cons rfl (lk_cons rfl (lk_cons rfl lk_nil))))))) .nil (.cons 5 rfl (.cons 3 rfl (.cons 3 rfl .nil))) fk_nil
        · rintro ⟨x81, _⟩
          try dsimp only
          refine sxo_take (os := _) rfl ?_
          refine sxo_nil ?_
          refine sxq_next ?_
          refine sxc_if rfl (fun h96 => ?_) (fun h96 => ?_)
          · refine sxc_seq ?_
            refine sxc_region ?_
            refine sxo_assign rfl rfl rfl ?_
            refine sxo_nil ?_
            refine sxq_next ?_
            refine sxc_ret ?_
            refine sxq_thenR ?_
            exact sxq_doneP () (.inl rfl) (res1 rfl rfl) (fun h => by subst h; rfl) (fun h => by subst h; exact .nil)
          · refine sxc_skip ?_
            refine sxq_next ?_
            refine sxc_seq ?_
            refine sxc_seq ?_
            refine sxc_region ?_
            refine sxo_move rfl rfl rfl ?_
            refine sxo_move rfl rfl rfl ?_
            refine sxo_lss rfl rfl rfl rfl ?_
            refine sxo_nil ?_
            refine sxq_next ?_
            refine sxc_if rfl (fun h95 => ?_) (fun h95 => ?_)
            · refine sxc_seq ?_
              refine sxc_region ?_
              refine sxo_move rfl rfl rfl ?_
              refine sxo_len rfl Try.underlying49 rfl rfl ?_
              refine sxo_eql rfl rfl rfl rfl ?_
              refine sxo_move rfl rfl rfl ?_
              refine sxo_join 4 (fun ((x89, _) : (Bool × Unit)) => [(89, .bool x89)]) (fun ((x89, _) : (Bool × Unit)) => []) (fun ((x89, _) : (Bool × Unit)) => []) (fun ((x89, _) : (Bool × Unit)) => []) (fun ((x89, _) : (Bool × Unit)) => M_L_RunsWhole_j6 F x89) ?_ ?_
              · refine sxo_take (os := _) rfl ?_
                refine sxo_if (fun h87 => ?_) (fun h87 => ?_)
                · refine sxo_isT (k := 85) rfl h87 ?_
                  refine sxo_move rfl rfl rfl ?_
                  refine sxo_move rfl rfl rfl ?_
                  refine sxo_call ent25 rfl rfl rfl (fun x90 e90 => C_R_SameInts F x62.2.1 a65 c66 x61 a59 c60 x90 e90) (.consR 2 (Ro (eI .i64) 3 1 (.slice a65 x62.2.1.length c66) x62.2.1) rfl (.consR 0 (Ro (eI .i64) 3 1 (.slice a59 x61.length c60) x61) rfl .nil)) (fun x90 e90 => ?_)
                  intro _
                  refine sxo_pick (b := true) rfl rfl rfl rfl ?_
                  refine sxo_nil ?_
                  exact sxq_meetP (x90, ()) (lk_cons rfl lk_nil) .nil .nil fk_nil
                · refine sxo_isF (k := 85) rfl h87 ?_
                  refine sxo_skip rfl rfl rfl ?_
                  refine sxo_skip rfl rfl rfl ?_
                  refine sxo_skip rfl rfl rfl ?_
                  refine sxo_pick (b := false) rfl rfl rfl rfl ?_
                  refine sxo_nil ?_
                  exact sxq_meetP (false, ()) (lk_cons rfl lk_nil) .nil .nil fk_nil
              · rintro ⟨x89, _⟩
                try dsimp only
                refine sxo_take (os := _) rfl ?_
                refine sxo_assign rfl rfl rfl ?_
                refine sxo_nil ?_
                refine sxq_next ?_
                refine sxc_ret ?_
                refine sxq_thenR ?_
                exact sxq_doneP () (.inl rfl) (res1 rfl rfl) (fun h => by subst h; rfl) (fun h => by subst h; exact .nil)
            · refine sxc_skip ?_
              refine sxq_next ?_
              refine sxc_seq ?_
              refine sxc_region ?_
              refine sxo_move rfl rfl rfl ?_
              refine sxo_move rfl rfl rfl ?_
              refine sxo_move rfl rfl rfl ?_
              refine sxo_build (cells := [.int .i64 x1, .int .i64 x2]) rfl st60 rfl (by kernel_rfl) rfl ?_
              refine sxo_slit (vs := [.agg #[.int .i64 x1, .int .i64 x2]]) (ys := ([(x1, x2)] : List (Int × Int))) eS60_ok (by decide) rfl Try.underlying49 tf60 rfl rfl rfl rfl rfl (by decide) (fun a91 c92 => ?_)
              refine sxo_call ent37 rfl rfl rfl (fun x93 e93 => C_R_SameRuns F x62.1 a63 c64 ([(x1, x2)] : List (Int × Int)) a91 c92 x93 e93) (.consR 2 (Ro eS60 60 2 (.slice a63 x62.1.length c64) x62.1) rfl (.consR 0 (Ro eS60 60 2 (.slice a91 ([(x1, x2)] : List (Int × Int)).length c92) ([(x1, x2)] : List (Int × Int))) rfl .nil)) (fun x93 e93 => ?_)
              intro _
              refine sxo_move rfl rfl rfl ?_
              refine sxo_case 4 x93 [(100, .bool (x93 && (((x62.2.1.length : Int) : Int) == 0)))] (fun h94 => ?_) (fun h94 => ?_) ?_
              · refine sxo_take (os := _) rfl ?_
                refine sxo_isT (k := 96) rfl h94 ?_
                refine sxo_move rfl rfl rfl ?_
                refine sxo_len rfl Try.underlying22 rfl rfl ?_
                refine sxo_eql rfl rfl rfl rfl ?_
                refine sxo_pick (b := true) rfl rfl rfl rfl ?_
                refine sxo_again (d := 100) (v := .bool (x93 && (((x62.2.1.length : Int) : Int) == 0))) rfl (by rw [h94]; simp only [Bool.true_and]) ?_
                refine sxo_nil ?_
                exact sxq_case (lk_cons rfl lk_nil)
              · refine sxo_take (os := _) rfl ?_
                refine sxo_isF (k := 96) rfl h94 ?_
                refine sxo_skip rfl rfl rfl ?_
                refine sxo_skip rfl rfl rfl ?_
                refine sxo_skip rfl rfl rfl ?_
                refine sxo_pick (b := false) rfl rfl rfl rfl ?_
                refine sxo_again (d := 100) (v := .bool (x93 && (((x62.2.1.length : Int) : Int) == 0))) rfl (by rw [h94]; simp only [Bool.false_and]) ?_
                refine sxo_nil ?_
                exact sxq_case (lk_cons rfl lk_nil)
              refine sxo_take (os := _) rfl ?_
              refine sxo_assign rfl rfl rfl ?_
              refine sxo_nil ?_
              refine sxq_next ?_
              refine sxc_ret ?_
              exact sxq_doneP () (.inl rfl) (res1 rfl rfl) (fun h => by subst h; rfl) (fun h => by subst h; exact .nil)
end Go.Proofs.Ytlnmibipnabdiaa
