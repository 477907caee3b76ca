/- Each Go function of this seat computes what its model says, part 3. -/
import Derived.Test.YtlnmibipnabdiaaWalks2
namespace Go.Proofs.Ytlnmibipnabdiaa
open Go SX
set_option maxHeartbeats 4000000 in
theorem C_L_GapsAhead (F : Nat) (x1 : List Int) (a2 : Option Addr) (c3 : Nat) (x4 : Int) (x5 : Int) (r : Bool) (hm : M_L_GapsAhead F x1 x4 x5 = some r) :
    Pure Try.prog 7 [.slice a2 x1.length c3, .int .i64 x4, .int .i64 x5] [Sl (eI .i64) 1 (.slice a2 x1.length c3) x1] Unit (fun _ => .bool r) (fun _ => []) (fun _ => []) := by
  refine pure_of Try.func7 rfl Try.ntmps7 rfl hm (fun w => ?_)
  refine sxc_env (l' := [(0, .slice a2 x1.length c3), (1, .int .i64 x4), (2, .int .i64 x5)]) rfl ?_
  refine sxc_seq ?_
  refine sxc_region ?_
  refine sxo_assign rfl rfl rfl ?_
  refine sxo_nil ?_
  refine sxq_next ?_
  refine sxc_seq ?_
  refine sxc_region ?_
  refine sxo_move rfl rfl rfl ?_
  refine sxo_move rfl rfl rfl ?_
  refine sxo_call ent15 rfl rfl rfl (fun x6 e6 => C_gaps_Gaps F x1 a2 c3 x4 x6 e6) (.consF 0 rfl .nil) (fun x6 e6 => ?_)
  rintro ⟨a7, c8⟩
  refine sxo_move rfl rfl rfl ?_
  refine sxo_extract rfl rfl rfl rfl ?_
  refine sxo_extract rfl rfl rfl rfl ?_
  refine sxo_assign rfl rfl rfl ?_
  refine sxo_assign rfl rfl rfl ?_
  refine sxo_nil ?_
  refine sxq_next ?_
  refine sxc_seq ?_
  refine sxc_seq ?_
  refine sxc_region ?_
  refine sxo_call ent22 rfl rfl rfl (fun x11 e11 => C_L_gapsBegun F  x11 e11) .nil (fun x11 e11 => ?_)
  intro _
  refine sxo_not rfl rfl rfl ?_
  refine sxo_nil ?_
  refine sxq_next ?_
  refine sxc_if rfl (fun h115 => ?_) (fun h115 => ?_)
  · refine sxc_seq ?_
    refine sxc_region ?_
    refine sxo_assign rfl rfl rfl ?_
    refine sxo_nil ?_
    refine sxq_next ?_
    refine sxc_ret ?_
    refine sxq_thenR ?_
    exact sxq_doneP () (.inl rfl) (res1 rfl rfl) (fun h => by subst h; rfl) (fun h => by subst h; exact .nil)
  · refine sxc_skip ?_
    refine sxq_next ?_
    refine sxc_seq ?_
    refine sxc_seq ?_
    refine sxc_region ?_
    refine sxo_move rfl rfl rfl ?_
    refine sxo_neq rfl rfl rfl rfl ?_
    refine sxo_move rfl rfl rfl ?_
    refine sxo_case 3 ((x6.2 : Int) != 0) [(0, .slice a2 x1.length c3), (1, .int .i64 x4), (2, .int .i64 x5), (7, .slice a7 x6.1.length c8), (26, .bool (((x6.2 : Int) != 0) || (decide (x5 < 1))))] (fun h15 => ?_) (fun h15 => ?_) ?_
    · refine sxo_take (os := _) rfl ?_
      refine sxo_isT (k := 23) rfl h15 ?_
      refine sxo_skip rfl rfl rfl ?_
      refine sxo_skip rfl rfl rfl ?_
      refine sxo_pick (b := true) rfl rfl rfl rfl ?_
      refine sxo_again (d := 26) (v := .bool (((x6.2 : Int) != 0) || (decide (x5 < 1)))) rfl (by rw [h15]; simp only [Bool.true_or]) ?_
      refine sxo_nil ?_
      exact sxq_case (lk_cons rfl (lk_cons rfl (lk_cons rfl (lk_cons rfl (lk_cons rfl lk_nil)))))
    · refine sxo_take (os := _) rfl ?_
      refine sxo_isF (k := 23) rfl h15 ?_
      refine sxo_move rfl rfl rfl ?_
      refine sxo_lss rfl rfl rfl rfl ?_
      refine sxo_pick (b := false) rfl rfl rfl rfl ?_
      refine sxo_again (d := 26) (v := .bool (((x6.2 : Int) != 0) || (decide (x5 < 1)))) rfl (by rw [h15]; simp only [Bool.false_or]) ?_
      refine sxo_nil ?_
      exact sxq_case (lk_cons rfl (lk_cons rfl (lk_cons rfl (lk_cons rfl (lk_cons rfl lk_nil)))))
    refine sxo_take (os := _) rfl ?_
    refine sxo_move rfl rfl rfl ?_
    refine sxo_case 5 (((x6.2 : Int) != 0) || (decide (x5 < 1))) [(0, .slice a2 x1.length c3), (1, .int .i64 x4), (2, .int .i64 x5), (7, .slice a7 x6.1.length c8), (32, .bool ((((x6.2 : Int) != 0) || (decide (x5 < 1))) || (decide ((x1.length : Int) ≤ x5))))] (fun h16 => ?_) (fun h16 => ?_) ?_
    · refine sxo_take (os := _) rfl ?_
      refine sxo_isT (k := 27) rfl h16 ?_
      refine sxo_skip rfl rfl rfl ?_
      refine sxo_skip rfl rfl rfl ?_
      refine sxo_skip rfl rfl rfl ?_
      refine sxo_skip rfl rfl rfl ?_
      refine sxo_pick (b := true) rfl rfl rfl rfl ?_
      refine sxo_again (d := 32) (v := .bool ((((x6.2 : Int) != 0) || (decide (x5 < 1))) || (decide ((x1.length : Int) ≤ x5)))) rfl (by rw [h16]; simp only [Bool.true_or]) ?_
      refine sxo_nil ?_
      exact sxq_case (lk_cons rfl (lk_cons rfl (lk_cons rfl (lk_cons rfl (lk_cons rfl lk_nil)))))
    · refine sxo_take (os := _) rfl ?_
      refine sxo_isF (k := 27) rfl h16 ?_
      refine sxo_move rfl rfl rfl ?_
      refine sxo_move rfl rfl rfl ?_
      refine sxo_len rfl Try.underlying22 rfl rfl ?_
      refine sxo_geq rfl rfl rfl rfl ?_
      refine sxo_pick (b := false) rfl rfl rfl rfl ?_
      refine sxo_again (d := 32) (v := .bool ((((x6.2 : Int) != 0) || (decide (x5 < 1))) || (decide ((x1.length : Int) ≤ x5)))) rfl (by rw [h16]; simp only [Bool.false_or]) ?_
      refine sxo_nil ?_
      exact sxq_case (lk_cons rfl (lk_cons rfl (lk_cons rfl (lk_cons rfl (lk_cons rfl lk_nil)))))
    refine sxo_take (os := _) rfl ?_
    refine sxo_nil ?_
    refine sxq_next ?_
    refine sxc_if rfl (fun h114 => ?_) (fun h114 => ?_)
    · refine sxc_seq ?_
      refine sxc_region ?_
      refine sxo_assign rfl rfl rfl ?_
      refine sxo_nil ?_
      refine sxq_next ?_
      refine sxc_ret ?_
      refine sxq_thenR ?_
      exact sxq_doneP () (.inl rfl) (res1 rfl rfl) (fun h => by subst h; rfl) (fun h => by subst h; exact .nil)
    · refine sxc_skip ?_
      refine sxq_next ?_
      refine sxc_seq ?_
      refine sxc_region ?_
      refine sxo_move rfl rfl rfl ?_
      refine sxo_move rfl rfl rfl ?_
      refine sxo_cut (j := 0) (eI_ok .i64) rfl Try.underlying22 tf3 rfl rfl rfl rfl rfl (fun x17 e17 a18 c19 => ?_)
      refine sxo_move rfl rfl rfl ?_
      refine sxo_call ent15 rfl rfl rfl (fun x20 e20 => C_gaps_Gaps F x17 a18 c19 x4 x20 e20) (.consF 0 rfl .nil) (fun x20 e20 => ?_)
      rintro ⟨a21, c22⟩
      refine sxo_move rfl rfl rfl ?_
      refine sxo_extract rfl rfl rfl rfl ?_
      refine sxo_extract rfl rfl rfl rfl ?_
      refine sxo_assign rfl rfl rfl ?_
      refine sxo_assign rfl rfl rfl ?_
      refine sxo_nil ?_
      refine sxq_next ?_
      refine sxc_seq ?_
      refine sxc_cutH 1 (eI_ok .i64) rfl (fun x35 e35 a36 c37 h38 h39 => ?_)
      refine sxc_idxF (j := 2) (eI_ok .i64) (by decide) rfl (fun x40 e40 b41 o42 h43 => ?_)
      replace h43 : a2 = some ⟨b41, o42, none⟩ := h43
      refine sxb_draw mixed [] [] [CellsAt b41 (o42 + (isub .i64 x5 1).toNat * 1) ((eI .i64) x40), Sl (eI .i64) 1 (.slice a36 x35.length c37) x35, Sl (eI .i64) 1 (.slice a18 x17.length c19) x17, Sl (eI .i64) 1 (.slice a2 x1.length c3) x1] .nil (gk_F 0 rfl (gk_F 1 rfl (gk_F 2 rfl (gk_F 3 rfl gk_nil)))) 14 rfl ?_
      refine sxb_takeP 0 (.slice a2 x1.length c3) rfl rfl rfl rfl (by kernel_rfl) (by kernel_rfl) (by kernel_rfl) (by kernel_rfl) (by kernel_rfl) rfl (show _ = #[true, false, false, false, false, false, false, false, false, false, false, false, false, false] from rfl) (yv_pv rfl) ?_
      refine sxb_takeP 1 (.int .i64 x5) rfl rfl rfl rfl (by kernel_rfl) (by kernel_rfl) (by kernel_rfl) (by kernel_rfl) (by kernel_rfl) rfl (show _ = #[true, true, false, false, false, false, false, false, false, false, false, false, false, false] from rfl) (yv_pv rfl) ?_
      refine sxb_takeP 2 (.slice a36 x35.length c37) rfl rfl rfl rfl (by kernel_rfl) (by kernel_rfl) (by kernel_rfl) (by kernel_rfl) (by kernel_rfl) rfl (show _ = #[true, true, true, false, false, false, false, false, false, false, false, false, false, false] from rfl) (yv_cut Try.underlying22 tf3 rfl rfl rfl e35 h39 h38) ?_
      refine sxb_takeP 3 (.slice a2 x1.length c3) rfl rfl rfl rfl (by kernel_rfl) (by kernel_rfl) (by kernel_rfl) (by kernel_rfl) (by kernel_rfl) rfl (show _ = #[true, true, true, true, false, false, false, false, false, false, false, false, false, false] from rfl) (yv_pv rfl) ?_
      refine sxb_takeP 4 (.int .i64 x5) rfl rfl rfl rfl (by kernel_rfl) (by kernel_rfl) (by kernel_rfl) (by kernel_rfl) (by kernel_rfl) rfl (show _ = #[true, true, true, true, true, false, false, false, false, false, false, false, false, false] from rfl) (yv_pv rfl) ?_
      refine sxb_takeP 5 (.int .i64 (isub .i64 x5 1)) rfl rfl rfl rfl (by kernel_rfl) (by kernel_rfl) (by kernel_rfl) (by kernel_rfl) (by kernel_rfl) rfl (show _ = #[true, true, true, true, true, true, false, false, false, false, false, false, false, false] from rfl) (yv_pv rfl) ?_
      refine sxb_again (d := 45) (v := .slice (some ⟨b41, o42, none⟩) x1.length c3) rfl (by rw [h43]) ?_
      refine sxb_takeP 6 (.pointer (some ⟨b41, (o42 + (isub .i64 x5 1).toNat * 1), none⟩)) rfl rfl rfl rfl (by kernel_rfl) (by kernel_rfl) (by kernel_rfl) (by kernel_rfl) (by kernel_rfl) rfl (show _ = #[true, true, true, true, true, true, true, false, false, false, false, false, false, false] from rfl) (yv_idx Try.underlying22 tf3 rfl rfl (idx_get e40).1 (idx_lt e40)) ?_
      refine sxb_again (d := 45) (v := .slice a2 x1.length c3) rfl (by rw [h43]) ?_
      refine sxb_take 7 (.int .i64 x40) [] rfl rfl rfl rfl (by kernel_rfl) (by kernel_rfl) (by kernel_rfl) (by kernel_rfl) (by kernel_rfl) (by kernel_rfl) rfl (show _ = #[true, true, true, true, true, true, true, true, false, false, false, false, false, false] from rfl) (yv_loadF (j := 0) rfl tf3 rfl rfl (fun _ => rfl) rfl) ?_
      refine sxb_step 8 rfl (by kernel_rfl) (show _ = #[true, true, true, true, true, true, true, true, true, false, false, false, false, false] from rfl) ?_
      refine sxo_call ent15 rfl rfl rfl (fun x44 e44 => C_gaps_Gaps F x35 a36 c37 x40 x44 e44) (.consF 1 rfl .nil) (fun x44 e44 => ?_)
      rintro ⟨a45, c46⟩
      refine sxo_nil ?_
      refine sxq_anyB .nil (gk_F 0 rfl (gk_F 1 rfl (gk_F 2 rfl (gk_F 3 rfl gk_nil)))) ?_
      refine sxb_takeP 9 (.tuple #[.slice a45 x44.1.length c46, .int .i64 x44.2]) rfl rfl rfl rfl (by kernel_rfl) (by kernel_rfl) (by kernel_rfl) (by kernel_rfl) (by kernel_rfl) rfl (show _ = #[true, true, true, true, true, true, true, true, true, true, false, false, false, false] from rfl) (yv_pv rfl) ?_
      refine sxb_takeP 10 (.slice a45 x44.1.length c46) rfl rfl rfl rfl (by kernel_rfl) (by kernel_rfl) (by kernel_rfl) (by kernel_rfl) (by kernel_rfl) rfl (show _ = #[true, true, true, true, true, true, true, true, true, true, true, false, false, false] from rfl) (yv_pv rfl) ?_
      refine sxb_takeP 11 (.int .i64 x44.2) rfl rfl rfl rfl (by kernel_rfl) (by kernel_rfl) (by kernel_rfl) (by kernel_rfl) (by kernel_rfl) rfl (show _ = #[true, true, true, true, true, true, true, true, true, true, true, true, false, false] from rfl) (yv_pv rfl) ?_
      refine sxb_takeP 12 (.slice a45 x44.1.length c46) rfl rfl rfl rfl (by kernel_rfl) (by kernel_rfl) (by kernel_rfl) (by kernel_rfl) (by kernel_rfl) rfl (show _ = #[true, true, true, true, true, true, true, true, true, true, true, true, true, false] from rfl) (yv_pv rfl) ?_
      refine sxb_takeP 13 (.int .i64 x44.2) rfl rfl rfl rfl (by kernel_rfl) (by kernel_rfl) (by kernel_rfl) (by kernel_rfl) (by kernel_rfl) rfl (show _ = #[true, true, true, true, true, true, true, true, true, true, true, true, true, true] from rfl) (yv_pv rfl) ?_
      refine sxb_done (by kernel_rfl) ?_
      refine sxq_np ?_ (by intro c h; cases h)
      refine sxq_next ?_
      refine sxc_seq ?_
      refine sxc_seq ?_
      refine sxc_region ?_
      refine sxo_move rfl rfl rfl ?_
      refine sxo_neq rfl rfl rfl rfl ?_
      refine sxo_move rfl rfl rfl ?_
      refine sxo_case 3 ((x20.2 : Int) != 0) [(0, .slice a2 x1.length c3), (2, .int .i64 x5), (7, .slice a7 x6.1.length c8), (9, .slice a21 x20.1.length c22), (11, .slice a45 x44.1.length c46), (58, .bool (((x20.2 : Int) != 0) || ((x44.2 : Int) != 0)))] (fun h60 => ?_) (fun h60 => ?_) ?_
      · refine sxo_take (os := _) rfl ?_
        refine sxo_isT (k := 55) rfl h60 ?_
        refine sxo_skip rfl rfl rfl ?_
        refine sxo_skip rfl rfl rfl ?_
        refine sxo_pick (b := true) rfl rfl rfl rfl ?_
        refine sxo_again (d := 58) (v := .bool (((x20.2 : Int) != 0) || ((x44.2 : Int) != 0))) rfl (by rw [h60]; simp only [Bool.true_or]) ?_
        refine sxo_nil ?_
        exact sxq_case (lk_cons rfl (lk_cons rfl (lk_cons rfl (lk_cons rfl (lk_cons rfl (lk_cons rfl lk_nil))))))
      · refine sxo_take (os := _) rfl ?_
        refine sxo_isF (k := 55) rfl h60 ?_
        refine sxo_move rfl rfl rfl ?_
        refine sxo_neq rfl rfl rfl rfl ?_
        refine sxo_pick (b := false) rfl rfl rfl rfl ?_
        refine sxo_again (d := 58) (v := .bool (((x20.2 : Int) != 0) || ((x44.2 : Int) != 0))) rfl (by rw [h60]; simp only [Bool.false_or]) ?_
        refine sxo_nil ?_
        exact sxq_case (lk_cons rfl (lk_cons rfl (lk_cons rfl (lk_cons rfl (lk_cons rfl (lk_cons rfl lk_nil))))))
      refine sxo_take (os := _) rfl ?_
      refine sxo_move rfl rfl rfl ?_
      refine sxo_join 7 (fun ((x66, _) : (Bool × Unit)) => [(0, .slice a2 x1.length c3), (2, .int .i64 x5), (7, .slice a7 x6.1.length c8), (11, .slice a45 x44.1.length c46), (66, .bool x66)]) (fun ((x66, _) : (Bool × Unit)) => []) (fun ((x66, _) : (Bool × Unit)) => [Ro (eI .u64) 46 1 (.slice a45 x44.1.length c46) x44.1]) (fun ((x66, _) : (Bool × Unit)) => [Sl (eI .i64) 1 (.slice a2 x1.length c3) x1, Sl (eI .u64) 1 (.slice a7 x6.1.length c8) x6.1]) (fun ((x66, _) : (Bool × Unit)) => M_L_GapsAhead_j2 F x1 x5 x6 x44 x66) ?_ ?_
      · refine sxo_take (os := _) rfl ?_
        refine sxo_if (fun h61 => ?_) (fun h61 => ?_)
        · refine sxo_isT (k := 59) rfl h61 ?_
          refine sxo_skip rfl rfl rfl ?_
          refine sxo_skip rfl rfl rfl ?_
          refine sxo_skip rfl rfl rfl ?_
          refine sxo_skip rfl rfl rfl ?_
          refine sxo_skip rfl rfl rfl ?_
          refine sxo_skip rfl rfl rfl ?_
          refine sxo_pick (b := true) rfl rfl rfl rfl ?_
          refine sxo_nil ?_
          refine sxq_freeze 2 rfl ?_
          exact sxq_meetP (true, ()) (lk_cons rfl (lk_cons rfl (lk_cons rfl (lk_cons rfl (lk_cons rfl lk_nil))))) .nil (.cons 0 rfl .nil) (fk_cons 4 rfl (fk_cons 0 rfl fk_nil))
        · refine sxo_isF (k := 59) rfl h61 ?_
          refine sxo_move rfl rfl rfl ?_
          refine sxo_move rfl rfl rfl ?_
          refine sxo_move rfl rfl rfl ?_
          refine sxo_freeze 2 rfl ?_
          refine sxo_cut (j := 0) (eI_ok .u64) rfl Try.underlying23 tf46 rfl rfl rfl rfl rfl (fun x110 e110 a111 c112 => ?_)
          refine sxo_call ent24 rfl rfl rfl (fun x113 e113 => C_R_SameNums F x20.1 a21 c22 x110 a111 c112 x113 e113) (.consR 1 (Ro (eI .u64) 46 1 (.slice a21 x20.1.length c22) x20.1) rfl (.consF 0 rfl .nil)) (fun x113 e113 => ?_)
          intro _
          refine sxo_not rfl rfl rfl ?_
          refine sxo_pick (b := false) rfl rfl rfl rfl ?_
          refine sxo_nil ?_
          exact sxq_meetP ((!x113), ()) (lk_cons rfl (lk_cons rfl (lk_cons rfl (lk_cons rfl (lk_cons rfl lk_nil))))) .nil (.cons 0 rfl .nil) (fk_cons 5 rfl (fk_cons 1 rfl fk_nil))
      · rintro ⟨x66, _⟩
        try dsimp only
        refine sxo_take (os := _) rfl ?_
        refine sxo_move rfl rfl rfl ?_
        refine sxo_case 8 x66 [(2, .int .i64 x5), (7, .slice a7 x6.1.length c8), (11, .slice a45 x44.1.length c46), (75, .bool (x66 || (((x44.1.length : Int) : Int) != (isub .i64 (x1.length : Int) x5))))] (fun h67 => ?_) (fun h67 => ?_) ?_
        · refine sxo_take (os := _) rfl ?_
          refine sxo_isT (k := 67) rfl h67 ?_
          refine sxo_skip rfl rfl rfl ?_
          refine sxo_skip rfl rfl rfl ?_
          refine sxo_skip rfl rfl rfl ?_
          refine sxo_skip rfl rfl rfl ?_
          refine sxo_skip rfl rfl rfl ?_
          refine sxo_skip rfl rfl rfl ?_
          refine sxo_skip rfl rfl rfl ?_
          refine sxo_pick (b := true) rfl rfl rfl rfl ?_
          refine sxo_again (d := 75) (v := .bool (x66 || (((x44.1.length : Int) : Int) != (isub .i64 (x1.length : Int) x5)))) rfl (by rw [h67]; simp only [Bool.true_or]) ?_
          refine sxo_nil ?_
          exact sxq_case (lk_cons rfl (lk_cons rfl (lk_cons rfl (lk_cons rfl lk_nil))))
        · refine sxo_take (os := _) rfl ?_
          refine sxo_isF (k := 67) rfl h67 ?_
          refine sxo_move rfl rfl rfl ?_
          refine sxo_len rfl Try.underlying23 rfl rfl ?_
          refine sxo_move rfl rfl rfl ?_
          refine sxo_len rfl Try.underlying22 rfl rfl ?_
          refine sxo_move rfl rfl rfl ?_
          refine sxo_sub rfl rfl rfl rfl ?_
          refine sxo_neq rfl rfl rfl rfl ?_
          refine sxo_pick (b := false) rfl rfl rfl rfl ?_
          refine sxo_again (d := 75) (v := .bool (x66 || (((x44.1.length : Int) : Int) != (isub .i64 (x1.length : Int) x5)))) rfl (by rw [h67]; simp only [Bool.false_or]) ?_
          refine sxo_nil ?_
          exact sxq_case (lk_cons rfl (lk_cons rfl (lk_cons rfl (lk_cons rfl lk_nil))))
        refine sxo_take (os := _) rfl ?_
        refine sxo_nil ?_
        refine sxq_next ?_
        refine sxc_if rfl (fun h109 => ?_) (fun h109 => ?_)
        · refine sxc_seq ?_
          refine sxc_region ?_
          refine sxo_assign rfl rfl rfl ?_
          refine sxo_nil ?_
          refine sxq_next ?_
          refine sxc_ret ?_
          refine sxq_thenR ?_
          exact sxq_doneP () (.inl rfl) (res1 rfl rfl) (fun h => by subst h; rfl) (fun h => by subst h; exact .nil)
        · refine sxc_skip ?_
          refine sxq_next ?_
          refine sxc_join (fun ((x88, _) : (Bool × Unit)) => [(6, .bool x88)]) (fun ((x88, _) : (Bool × Unit)) => []) (fun ((x88, _) : (Bool × Unit)) => []) (fun ((x88, _) : (Bool × Unit)) => []) (fun ((x88, _) : (Bool × Unit)) => M_L_GapsAhead_j3 F x88) ?_ ?_
          · refine sxc_freeze 0 rfl ?_
            refine sxc_idxF (j := 0) (eI_ok .u64) (by decide) rfl (fun x89 e89 b90 o91 h92 => ?_)
            replace h92 : a45 = some ⟨b90, o91, none⟩ := h92
            refine sxc_idxF (j := 3) (eI_ok .u64) (by decide) rfl (fun x93 e93 b94 o95 h96 => ?_)
            replace h96 : a7 = some ⟨b94, o95, none⟩ := h96
            refine sxc_split (fun h97 => ?_) (fun h97 => ?_)
            · refine sxc_cutH 2 (eI_ok .u64) rfl (fun x98 e98 a99 c100 h101 h102 => ?_)
              refine sxc_cutH 5 (eI_ok .u64) rfl (fun x103 e103 a104 c105 h106 h107 => ?_)
              refine sxb_draw mixed [] [] [Sl (eI .u64) 1 (.slice a104 x103.length c105) x103, Sl (eI .u64) 1 (.slice a99 x98.length c100) x98, CellsAt b94 (o95 + x5.toNat * 1) ((eI .u64) x93), CellsAt b90 (o91 + (0 : Int).toNat * 1) ((eI .u64) x89), Sl (eI .u64) 1 (.slice a45 x44.1.length c46) x44.1, Sl (eI .i64) 1 (.slice a2 x1.length c3) x1, Sl (eI .u64) 1 (.slice a7 x6.1.length c8) x6.1] .nil (gk_F 0 rfl (gk_F 1 rfl (gk_F 2 rfl (gk_F 3 rfl (gk_F 4 rfl (gk_F 5 rfl (gk_F 6 rfl gk_nil))))))) 20 rfl ?_
              refine sxb_takeP 0 (.slice a45 x44.1.length c46) rfl rfl rfl rfl (by kernel_rfl) (by kernel_rfl) (by kernel_rfl) (by kernel_rfl) (by kernel_rfl) rfl (show _ = #[true, false, false, false, false, false, false, false, false, false, false, false, false, false, false, false, false, false, false, false] from rfl) (yv_pv rfl) ?_
              refine sxb_again (d := 76) (v := .slice (some ⟨b90, o91, none⟩) x44.1.length c46) rfl (by rw [h92]) ?_
              refine sxb_takeP 1 (.pointer (some ⟨b90, (o91 + (0 : Int).toNat * 1), none⟩)) rfl rfl rfl rfl (by kernel_rfl) (by kernel_rfl) (by kernel_rfl) (by kernel_rfl) (by kernel_rfl) rfl (show _ = #[true, true, false, false, false, false, false, false, false, false, false, false, false, false, false, false, false, false, false, false] from rfl) (yv_idx Try.underlying23 tf46 rfl rfl (idx_get e89).1 (idx_lt e89)) ?_
              refine sxb_again (d := 76) (v := .slice a45 x44.1.length c46) rfl (by rw [h92]) ?_
              refine sxb_take 2 (.int .u64 x89) [] rfl rfl rfl rfl (by kernel_rfl) (by kernel_rfl) (by kernel_rfl) (by kernel_rfl) (by kernel_rfl) (by kernel_rfl) rfl (show _ = #[true, true, true, false, false, false, false, false, false, false, false, false, false, false, false, false, false, false, false, false] from rfl) (yv_loadF (j := 3) rfl tf46 rfl rfl (fun _ => rfl) rfl) ?_
              refine sxb_takeP 3 (.slice a7 x6.1.length c8) rfl rfl rfl rfl (by kernel_rfl) (by kernel_rfl) (by kernel_rfl) (by kernel_rfl) (by kernel_rfl) rfl (show _ = #[true, true, true, true, false, false, false, false, false, false, false, false, false, false, false, false, false, false, false, false] from rfl) (yv_pv rfl) ?_
              refine sxb_takeP 4 (.int .i64 x5) rfl rfl rfl rfl (by kernel_rfl) (by kernel_rfl) (by kernel_rfl) (by kernel_rfl) (by kernel_rfl) rfl (show _ = #[true, true, true, true, true, false, false, false, false, false, false, false, false, false, false, false, false, false, false, false] from rfl) (yv_pv rfl) ?_
              refine sxb_again (d := 79) (v := .slice (some ⟨b94, o95, none⟩) x6.1.length c8) rfl (by rw [h96]) ?_
              refine sxb_takeP 5 (.pointer (some ⟨b94, (o95 + x5.toNat * 1), none⟩)) rfl rfl rfl rfl (by kernel_rfl) (by kernel_rfl) (by kernel_rfl) (by kernel_rfl) (by kernel_rfl) rfl (show _ = #[true, true, true, true, true, true, false, false, false, false, false, false, false, false, false, false, false, false, false, false] from rfl) (yv_idx Try.underlying23 tf46 rfl rfl (idx_get e93).1 (idx_lt e93)) ?_
              refine sxb_again (d := 79) (v := .slice a7 x6.1.length c8) rfl (by rw [h96]) ?_
              refine sxb_take 6 (.int .u64 x93) [] rfl rfl rfl rfl (by kernel_rfl) (by kernel_rfl) (by kernel_rfl) (by kernel_rfl) (by kernel_rfl) (by kernel_rfl) rfl (show _ = #[true, true, true, true, true, true, true, false, false, false, false, false, false, false, false, false, false, false, false, false] from rfl) (yv_loadF (j := 2) rfl tf46 rfl rfl (fun _ => rfl) rfl) ?_
              refine sxb_takeP 7 (.int .u64 (iadd .u64 x93 1)) rfl rfl rfl rfl (by kernel_rfl) (by kernel_rfl) (by kernel_rfl) (by kernel_rfl) (by kernel_rfl) rfl (show _ = #[true, true, true, true, true, true, true, true, false, false, false, false, false, false, false, false, false, false, false, false] from rfl) (yv_pv rfl) ?_
              refine sxb_takeP 8 (.int .u64 (imul .u64 2 (iadd .u64 x93 1))) rfl rfl rfl rfl (by kernel_rfl) (by kernel_rfl) (by kernel_rfl) (by kernel_rfl) (by kernel_rfl) rfl (show _ = #[true, true, true, true, true, true, true, true, true, false, false, false, false, false, false, false, false, false, false, false] from rfl) (yv_pv rfl) ?_
              refine sxb_takeP 9 (.bool ((x89 : Int) == (imul .u64 2 (iadd .u64 x93 1)))) rfl rfl rfl rfl (by kernel_rfl) (by kernel_rfl) (by kernel_rfl) (by kernel_rfl) (by kernel_rfl) rfl (show _ = #[true, true, true, true, true, true, true, true, true, true, false, false, false, false, false, false, false, false, false, false] from rfl) (yv_pv rfl) ?_
              refine sxb_takeP 10 (.bool ((x89 : Int) == (imul .u64 2 (iadd .u64 x93 1)))) rfl rfl rfl rfl (by kernel_rfl) (by kernel_rfl) (by kernel_rfl) (by kernel_rfl) (by kernel_rfl) rfl (show _ = #[true, true, true, true, true, true, true, true, true, true, true, false, false, false, false, false, false, false, false, false] from rfl) (yv_pv rfl) ?_
              refine sxb_again (d := 86) (v := .bool true) rfl (by rw [h97]) ?_
              refine sxb_takeP 11 (.slice a45 x44.1.length c46) rfl rfl rfl rfl (by kernel_rfl) (by kernel_rfl) (by kernel_rfl) (by kernel_rfl) (by kernel_rfl) rfl (show _ = #[true, true, true, true, true, true, true, true, true, true, true, true, false, false, false, false, false, false, false, false] from rfl) (yv_pv rfl) ?_
              refine sxb_takeP 12 (.slice a99 x98.length c100) rfl rfl rfl rfl (by kernel_rfl) (by kernel_rfl) (by kernel_rfl) (by kernel_rfl) (by kernel_rfl) rfl (show _ = #[true, true, true, true, true, true, true, true, true, true, true, true, true, false, false, false, false, false, false, false] from rfl) (yv_cut Try.underlying23 tf46 rfl rfl rfl e98 h102 h101) ?_
              refine sxb_takeP 13 (.slice a7 x6.1.length c8) rfl rfl rfl rfl (by kernel_rfl) (by kernel_rfl) (by kernel_rfl) (by kernel_rfl) (by kernel_rfl) rfl (show _ = #[true, true, true, true, true, true, true, true, true, true, true, true, true, true, false, false, false, false, false, false] from rfl) (yv_pv rfl) ?_
              refine sxb_takeP 14 (.int .i64 x5) rfl rfl rfl rfl (by kernel_rfl) (by kernel_rfl) (by kernel_rfl) (by kernel_rfl) (by kernel_rfl) rfl (show _ = #[true, true, true, true, true, true, true, true, true, true, true, true, true, true, true, false, false, false, false, false] from rfl) (yv_pv rfl) ?_
              refine sxb_takeP 15 (.int .i64 (iadd .i64 x5 1)) rfl rfl rfl rfl (by kernel_rfl) (by kernel_rfl) (by kernel_rfl) (by kernel_rfl) (by kernel_rfl) rfl (show _ = #[true, true, true, true, true, true, true, true, true, true, true, true, true, true, true, true, false, false, false, false] from rfl) (yv_pv rfl) ?_
              refine sxb_takeP 16 (.slice a104 x103.length c105) rfl rfl rfl rfl (by kernel_rfl) (by kernel_rfl) (by kernel_rfl) (by kernel_rfl) (by kernel_rfl) rfl (show _ = #[true, true, true, true, true, true, true, true, true, true, true, true, true, true, true, true, true, false, false, false] from rfl) (yv_cut Try.underlying23 tf46 rfl rfl rfl e103 h107 h106) ?_
              refine sxb_step 17 rfl (by kernel_rfl) (show _ = #[true, true, true, true, true, true, true, true, true, true, true, true, true, true, true, true, true, true, false, false] from rfl) ?_
              refine sxo_call ent24 rfl rfl rfl (fun x108 e108 => C_R_SameNums F x98 a99 c100 x103 a104 c105 x108 e108) (.consF 1 rfl (.consF 0 rfl .nil)) (fun x108 e108 => ?_)
              intro _
              refine sxo_nil ?_
              refine sxq_anyB .nil (gk_F 0 rfl (gk_F 1 rfl (gk_F 2 rfl (gk_F 3 rfl (gk_F 4 rfl (gk_F 5 rfl (gk_F 6 rfl gk_nil))))))) ?_
              refine sxb_takeP 18 (.bool x108) rfl rfl rfl rfl (by kernel_rfl) (by kernel_rfl) (by kernel_rfl) (by kernel_rfl) (by kernel_rfl) rfl (show _ = #[true, true, true, true, true, true, true, true, true, true, true, true, true, true, true, true, true, true, true, false] from rfl) (yv_pv rfl) ?_
              refine sxb_takeP 19 (.bool x108) rfl rfl rfl rfl (by kernel_rfl) (by kernel_rfl) (by kernel_rfl) (by kernel_rfl) (by kernel_rfl) rfl (show _ = #[true, true, true, true, true, true, true, true, true, true, true, true, true, true, true, true, true, true, true, true] from rfl) (yv_pv rfl) ?_
              refine sxb_done (by kernel_rfl) ?_
              refine sxq_np ?_ (by intro c h; cases h)
              exact sxq_meetP (x108, ()) (lk_cons rfl lk_nil) .nil .nil fk_nil
            · refine sxb_draw mixed [] [] [CellsAt b94 (o95 + x5.toNat * 1) ((eI .u64) x93), CellsAt b90 (o91 + (0 : Int).toNat * 1) ((eI .u64) x89), Sl (eI .u64) 1 (.slice a45 x44.1.length c46) x44.1, Sl (eI .i64) 1 (.slice a2 x1.length c3) x1, Sl (eI .u64) 1 (.slice a7 x6.1.length c8) x6.1] .nil (gk_F 0 rfl (gk_F 1 rfl (gk_F 2 rfl (gk_F 3 rfl (gk_F 4 rfl gk_nil))))) 20 rfl ?_
              refine sxb_takeP 0 (.slice a45 x44.1.length c46) rfl rfl rfl rfl (by kernel_rfl) (by kernel_rfl) (by kernel_rfl) (by kernel_rfl) (by kernel_rfl) rfl (show _ = #[true, false, false, false, false, false, false, false, false, false, false, false, false, false, false, false, false, false, false, false] from rfl) (yv_pv rfl) ?_
              refine sxb_again (d := 76) (v := .slice (some ⟨b90, o91, none⟩) x44.1.length c46) rfl (by rw [h92]) ?_
              refine sxb_takeP 1 (.pointer (some ⟨b90, (o91 + (0 : Int).toNat * 1), none⟩)) rfl rfl rfl rfl (by kernel_rfl) (by kernel_rfl) (by kernel_rfl) (by kernel_rfl) (by kernel_rfl) rfl (show _ = #[true, true, false, false, false, false, false, false, false, false, false, false, false, false, false, false, false, false, false, false] from rfl) (yv_idx Try.underlying23 tf46 rfl rfl (idx_get e89).1 (idx_lt e89)) ?_
              refine sxb_again (d := 76) (v := .slice a45 x44.1.length c46) rfl (by rw [h92]) ?_
              refine sxb_take 2 (.int .u64 x89) [] rfl rfl rfl rfl (by kernel_rfl) (by kernel_rfl) (by kernel_rfl) (by kernel_rfl) (by kernel_rfl) (by kernel_rfl) rfl (show _ = #[true, true, true, false, false, false, false, false, false, false, false, false, false, false, false, false, false, false, false, false] from rfl) (yv_loadF (j := 1) rfl tf46 rfl rfl (fun _ => rfl) rfl) ?_
              refine sxb_takeP 3 (.slice a7 x6.1.length c8) rfl rfl rfl rfl (by kernel_rfl) (by kernel_rfl) (by kernel_rfl) (by kernel_rfl) (by kernel_rfl) rfl (show _ = #[true, true, true, true, false, false, false, false, false, false, false, false, false, false, false, false, false, false, false, false] from rfl) (yv_pv rfl) ?_
              refine sxb_takeP 4 (.int .i64 x5) rfl rfl rfl rfl (by kernel_rfl) (by kernel_rfl) (by kernel_rfl) (by kernel_rfl) (by kernel_rfl) rfl (show _ = #[true, true, true, true, true, false, false, false, false, false, false, false, false, false, false, false, false, false, false, false] from rfl) (yv_pv rfl) ?_
              refine sxb_again (d := 79) (v := .slice (some ⟨b94, o95, none⟩) x6.1.length c8) rfl (by rw [h96]) ?_
              refine sxb_takeP 5 (.pointer (some ⟨b94, (o95 + x5.toNat * 1), none⟩)) rfl rfl rfl rfl (by kernel_rfl) (by kernel_rfl) (by kernel_rfl) (by kernel_rfl) (by kernel_rfl) rfl (show _ = #[true, true, true, true, true, true, false, false, false, false, false, false, false, false, false, false, false, false, false, false] from rfl) (yv_idx Try.underlying23 tf46 rfl rfl (idx_get e93).1 (idx_lt e93)) ?_
              refine sxb_again (d := 79) (v := .slice a7 x6.1.length c8) rfl (by rw [h96]) ?_
              refine sxb_take 6 (.int .u64 x93) [] rfl rfl rfl rfl (by kernel_rfl) (by kernel_rfl) (by kernel_rfl) (by kernel_rfl) (by kernel_rfl) (by kernel_rfl) rfl (show _ = #[true, true, true, true, true, true, true, false, false, false, false, false, false, false, false, false, false, false, false, false] from rfl) (yv_loadF (j := 0) rfl tf46 rfl rfl (fun _ => rfl) rfl) ?_
              refine sxb_takeP 7 (.int .u64 (iadd .u64 x93 1)) rfl rfl rfl rfl (by kernel_rfl) (by kernel_rfl) (by kernel_rfl) (by kernel_rfl) (by kernel_rfl) rfl (show _ = #[true, true, true, true, true, true, true, true, false, false, false, false, false, false, false, false, false, false, false, false] from rfl) (yv_pv rfl) ?_
              refine sxb_takeP 8 (.int .u64 (imul .u64 2 (iadd .u64 x93 1))) rfl rfl rfl rfl (by kernel_rfl) (by kernel_rfl) (by kernel_rfl) (by kernel_rfl) (by kernel_rfl) rfl (show _ = #[true, true, true, true, true, true, true, true, true, false, false, false, false, false, false, false, false, false, false, false] from rfl) (yv_pv rfl) ?_
              refine sxb_takeP 9 (.bool ((x89 : Int) == (imul .u64 2 (iadd .u64 x93 1)))) rfl rfl rfl rfl (by kernel_rfl) (by kernel_rfl) (by kernel_rfl) (by kernel_rfl) (by kernel_rfl) rfl (show _ = #[true, true, true, true, true, true, true, true, true, true, false, false, false, false, false, false, false, false, false, false] from rfl) (yv_pv rfl) ?_
              refine sxb_takeP 10 (.bool ((x89 : Int) == (imul .u64 2 (iadd .u64 x93 1)))) rfl rfl rfl rfl (by kernel_rfl) (by kernel_rfl) (by kernel_rfl) (by kernel_rfl) (by kernel_rfl) rfl (show _ = #[true, true, true, true, true, true, true, true, true, true, true, false, false, false, false, false, false, false, false, false] from rfl) (yv_pv rfl) ?_
              refine sxb_again (d := 86) (v := .bool false) rfl (by rw [h97]) ?_
              refine sxb_skip 11 rfl rfl rfl rfl (by kernel_rfl) (by kernel_rfl) (by kernel_rfl) (by kernel_rfl) (by kernel_rfl) rfl (show _ = #[true, true, true, true, true, true, true, true, true, true, true, true, false, false, false, false, false, false, false, false] from rfl) ?_
              refine sxb_skip 12 rfl rfl rfl rfl (by kernel_rfl) (by kernel_rfl) (by kernel_rfl) (by kernel_rfl) (by kernel_rfl) rfl (show _ = #[true, true, true, true, true, true, true, true, true, true, true, true, true, false, false, false, false, false, false, false] from rfl) ?_
              refine sxb_skip 13 rfl rfl rfl rfl (by kernel_rfl) (by kernel_rfl) (by kernel_rfl) (by kernel_rfl) (by kernel_rfl) rfl (show _ = #[true, true, true, true, true, true, true, true, true, true, true, true, true, true, false, false, false, false, false, false] from rfl) ?_
              refine sxb_skip 14 rfl rfl rfl rfl (by kernel_rfl) (by kernel_rfl) (by kernel_rfl) (by kernel_rfl) (by kernel_rfl) rfl (show _ = #[true, true, true, true, true, true, true, true, true, true, true, true, true, true, true, false, false, false, false, false] from rfl) ?_
              refine sxb_skip 15 rfl rfl rfl rfl (by kernel_rfl) (by kernel_rfl) (by kernel_rfl) (by kernel_rfl) (by kernel_rfl) rfl (show _ = #[true, true, true, true, true, true, true, true, true, true, true, true, true, true, true, true, false, false, false, false] from rfl) ?_
              refine sxb_skip 16 rfl rfl rfl rfl (by kernel_rfl) (by kernel_rfl) (by kernel_rfl) (by kernel_rfl) (by kernel_rfl) rfl (show _ = #[true, true, true, true, true, true, true, true, true, true, true, true, true, true, true, true, true, false, false, false] from rfl) ?_
              refine sxb_skip 17 rfl rfl rfl rfl (by kernel_rfl) (by kernel_rfl) (by kernel_rfl) (by kernel_rfl) (by kernel_rfl) rfl (show _ = #[true, true, true, true, true, true, true, true, true, true, true, true, true, true, true, true, true, true, false, false] from rfl) ?_
              refine sxb_takeP 18 (.bool false) rfl rfl rfl rfl (by kernel_rfl) (by kernel_rfl) (by kernel_rfl) (by kernel_rfl) (by kernel_rfl) rfl (show _ = #[true, true, true, true, true, true, true, true, true, true, true, true, true, true, true, true, true, true, true, false] from rfl) (yv_pv rfl) ?_
              refine sxb_takeP 19 (.bool false) rfl rfl rfl rfl (by kernel_rfl) (by kernel_rfl) (by kernel_rfl) (by kernel_rfl) (by kernel_rfl) rfl (show _ = #[true, true, true, true, true, true, true, true, true, true, true, true, true, true, true, true, true, true, true, true] from rfl) (yv_pv rfl) ?_
              refine sxb_done (by kernel_rfl) ?_
              refine sxq_np ?_ (by intro c h; cases h)
              exact sxq_meetP (false, ()) (lk_cons rfl lk_nil) .nil .nil fk_nil
          · rintro ⟨x88, _⟩
            try dsimp only
            refine sxc_ret ?_
            exact sxq_doneP () (.inl rfl) (res1 rfl rfl) (fun h => by subst h; rfl) (fun h => by subst h; exact .nil)
end Go.Proofs.Ytlnmibipnabdiaa
