/- Each Go function of this seat computes what its model says, part 2. -/
import Derived.Test.YtecangnmnkejfaaWalks
namespace Go.Proofs.Ytecangnmnkejfaa
open Go SX
theorem C_R_FanoErr (F : Nat) (x1 : List Int) (a2 : Option Addr) (c3 : Nat) (x4 : Int) (r : Int) (hm : M_R_FanoErr F x1 x4 = some r) :
    Pure Try.prog 60 [.slice a2 x1.length c3, .int .i64 x4] [Sl (eI .i64) 1 (.slice a2 x1.length c3) x1] Unit (fun _ => .int .i64 r) (fun _ => []) (fun _ => []) := by
  refine pure_of Try.func60 rfl Try.ntmps60 rfl hm (fun w => ?_)
  refine sxc_env (l' := [(0, .slice a2 x1.length c3), (1, .int .i64 x4)]) rfl ?_
  refine sxc_seq ?_
  refine sxc_region ?_
  refine sxo_assign rfl rfl rfl ?_
  refine sxo_nil ?_
  refine sxq_next ?_
  refine sxc_seq ?_
  refine sxc_seq ?_
  refine sxc_region ?_
  refine sxo_move rfl rfl rfl ?_
  refine sxo_call ent52 rfl rfl rfl (fun x7 e7 => C_R_between F x4 0 1048576 x7 e7) .nil (fun x7 e7 => ?_)
  intro _
  refine sxo_not rfl rfl rfl ?_
  refine sxo_nil ?_
  refine sxq_next ?_
  refine sxc_if rfl (fun h386 => ?_) (fun h386 => ?_)
  · refine sxc_seq ?_
    refine sxc_region ?_
    refine sxo_assign rfl rfl rfl ?_
    refine sxo_nil ?_
    refine sxq_next ?_
    refine sxc_ret ?_
    refine sxq_thenR ?_
    exact sxq_doneP () (.inl rfl) (res1 rfl rfl) (fun h => by subst h; rfl) (fun h => by subst h; exact .nil)
  · refine sxc_skip ?_
    refine sxq_next ?_
    refine sxc_seq ?_
    refine sxc_seq ?_
    refine sxc_region ?_
    refine sxo_move rfl rfl rfl ?_
    refine sxo_len rfl Try.underlying23 rfl rfl ?_
    refine sxo_gtr rfl rfl rfl rfl ?_
    refine sxo_nil ?_
    refine sxq_next ?_
    refine sxc_if rfl (fun h385 => ?_) (fun h385 => ?_)
    · refine sxc_seq ?_
      refine sxc_region ?_
      refine sxo_assign rfl rfl rfl ?_
      refine sxo_nil ?_
      refine sxq_next ?_
      refine sxc_ret ?_
      refine sxq_thenR ?_
      exact sxq_doneP () (.inl rfl) (res1 rfl rfl) (fun h => by subst h; rfl) (fun h => by subst h; exact .nil)
    · refine sxc_skip ?_
      refine sxq_next ?_
      refine sxc_join (fun ((_, _) : (Unit × Unit)) => []) (fun ((_, _) : (Unit × Unit)) => []) (fun ((_, _) : (Unit × Unit)) => []) (fun ((_, _) : (Unit × Unit)) => []) (fun ((_, _) : (Unit × Unit)) => M_R_FanoErr_j8 F) ?_ ?_
      · refine sxc_seq ?_
        refine sxc_region ?_
        refine sxo_assign rfl rfl rfl ?_
        refine sxo_nil ?_
        refine sxq_next ?_
        refine sxc_block ?_
        refine sxc_loopP (fun ((x259, _) : (Int × Unit)) => [(0, .slice a2 x1.length c3), (1, .int .i64 x4), (5, .int .i64 x259)]) (fun ((x259, _) : (Int × Unit)) => []) (fun ((x259, _) : (Int × Unit)) => []) (fun ((x259, _) : (Int × Unit)) => [Sl (eI .i64) 1 (.slice a2 x1.length c3) x1]) (fun k (s : (Int × Unit)) => M_R_FanoErr_l13 F x1 x4 k s.1) (0, ()) F (lk_cons rfl (lk_cons rfl (lk_cons rfl lk_nil))) .nil .nil (fk_cons 0 rfl fk_nil) (fun _ => rfl) ?_
        intro k322
        rintro ⟨x259, _⟩
        try dsimp only
        refine sxc_meq (m' := M_R_FanoErr_b13 F x1 x4 (M_R_FanoErr_l13 F x1 x4 k322) x259) rfl ?_
        refine sxc_seq ?_
        refine sxc_seq ?_
        refine sxc_region ?_
        refine sxo_move rfl rfl rfl ?_
        refine sxo_move rfl rfl rfl ?_
        refine sxo_len rfl Try.underlying23 rfl rfl ?_
        refine sxo_lss rfl rfl rfl rfl ?_
        refine sxo_nil ?_
        refine sxq_next ?_
        refine sxc_if rfl (fun h384 => ?_) (fun h384 => ?_)
        · refine sxc_skip ?_
          refine sxq_next ?_
          refine sxc_seq ?_
          refine sxc_block ?_
          refine sxc_seq ?_
          refine sxc_seq ?_
          refine sxc_region ?_
          refine sxo_move rfl rfl rfl ?_
          refine sxo_move rfl rfl rfl ?_
          refine sxo_indexF (j := 0) (eI_ok .i64) (by decide) rfl Try.underlying23 tf3 rfl rfl rfl rfl (fun x359 e359 b360 o361 => ?_)
          refine sxo_loadF (j := 0) rfl rfl tf3 rfl rfl (fun _ => rfl) rfl rfl ?_
          refine sxo_move rfl rfl rfl ?_
          refine sxo_call ent52 rfl rfl rfl (fun x362 e362 => C_R_between F x359 0 x4 x362 e362) .nil (fun x362 e362 => ?_)
          intro _
          refine sxo_not rfl rfl rfl ?_
          refine sxo_nil ?_
          refine sxq_next ?_
          refine sxc_if rfl (fun h383 => ?_) (fun h383 => ?_)
          · refine sxc_seq ?_
            refine sxc_region ?_
            refine sxo_assign rfl rfl rfl ?_
            refine sxo_nil ?_
            refine sxq_next ?_
            refine sxc_ret ?_
            refine sxq_thenR ?_
            refine sxq_blkR ?_
            refine sxq_thenR ?_
            refine sxq_thenR ?_
            refine sxq_blkR ?_
            refine sxq_thenR ?_
            exact sxq_doneP () (.inl rfl) (res1 rfl rfl) (fun h => by subst h; rfl) (fun h => by subst h; exact .nil)
          · refine sxc_skip ?_
            refine sxq_next ?_
            refine sxc_join (fun ((x372, _) : (Bool × Unit)) => [(0, .slice a2 x1.length c3), (1, .int .i64 x4), (5, .int .i64 x259), (38, .bool x372)]) (fun ((x372, _) : (Bool × Unit)) => []) (fun ((x372, _) : (Bool × Unit)) => []) (fun ((x372, _) : (Bool × Unit)) => [Sl (eI .i64) 1 (.slice a2 x1.length c3) x1]) (fun ((x372, _) : (Bool × Unit)) => M_R_FanoErr_j15 F (M_R_FanoErr_l13 F x1 x4 k322) x259 x372) ?_ ?_
            · refine sxc_split (fun h374 => ?_) (fun h374 => ?_)
              · refine sxc_idxF (j := 1) (eI_ok .i64) (by decide) rfl (fun x375 e375 b376 o377 h378 => ?_)
                replace h378 : a2 = some ⟨b376, o377, none⟩ := h378
                refine sxc_idxF (j := 2) (eI_ok .i64) (by decide) rfl (fun x379 e379 b380 o381 h382 => ?_)
                replace h382 : a2 = some ⟨b380, o381, none⟩ := h382
                refine sxb_draw mixed [] [] [CellsAt b380 (o381 + (isub .i64 x259 1).toNat * 1) ((eI .i64) x379), CellsAt b376 (o377 + x259.toNat * 1) ((eI .i64) x375), CellsAt b360 o361 ((eI .i64) x359), Sl (eI .i64) 1 (.slice a2 x1.length c3) x1] .nil (gk_F 0 rfl (gk_F 1 rfl (gk_F 2 rfl (gk_F 3 rfl gk_nil)))) 14 rfl ?_
                refine sxb_takeP 0 (.int .i64 x259) rfl rfl rfl rfl (by kernel_rfl) (by kernel_rfl) (by kernel_rfl) (by kernel_rfl) (by kernel_rfl) rfl (show _ = #[true, false, false, false, false, false, false, false, false, false, false, false, false, false] from rfl) (yv_pv rfl) ?_
                refine sxb_takeP 1 (.bool (decide (0 < x259))) rfl rfl rfl rfl (by kernel_rfl) (by kernel_rfl) (by kernel_rfl) (by kernel_rfl) (by kernel_rfl) rfl (show _ = #[true, true, false, false, false, false, false, false, false, false, false, false, false, false] from rfl) (yv_pv rfl) ?_
                refine sxb_takeP 2 (.bool (decide (0 < x259))) rfl rfl rfl rfl (by kernel_rfl) (by kernel_rfl) (by kernel_rfl) (by kernel_rfl) (by kernel_rfl) rfl (show _ = #[true, true, true, false, false, false, false, false, false, false, false, false, false, false] from rfl) (yv_pv rfl) ?_
                refine sxb_again (d := 27) (v := .bool true) rfl (by rw [h374]) ?_
                refine sxb_takeP 3 (.slice a2 x1.length c3) rfl rfl rfl rfl (by kernel_rfl) (by kernel_rfl) (by kernel_rfl) (by kernel_rfl) (by kernel_rfl) rfl (show _ = #[true, true, true, true, false, false, false, false, false, false, false, false, false, false] from rfl) (yv_pv rfl) ?_
                refine sxb_takeP 4 (.int .i64 x259) rfl rfl rfl rfl (by kernel_rfl) (by kernel_rfl) (by kernel_rfl) (by kernel_rfl) (by kernel_rfl) rfl (show _ = #[true, true, true, true, true, false, false, false, false, false, false, false, false, false] from rfl) (yv_pv rfl) ?_
                refine sxb_again (d := 28) (v := .slice (some ⟨b376, o377, none⟩) x1.length c3) rfl (by rw [h378]) ?_
                refine sxb_takeP 5 (.pointer (some ⟨b376, (o377 + x259.toNat * 1), none⟩)) rfl rfl rfl rfl (by kernel_rfl) (by kernel_rfl) (by kernel_rfl) (by kernel_rfl) (by kernel_rfl) rfl (show _ = #[true, true, true, true, true, true, false, false, false, false, false, false, false, false] from rfl) (yv_idx Try.underlying23 tf3 rfl rfl (idx_get e375).1 (idx_lt e375)) ?_
                refine sxb_again (d := 28) (v := .slice a2 x1.length c3) rfl (by rw [h378]) ?_
                refine sxb_take 6 (.int .i64 x375) [] rfl rfl rfl rfl (by kernel_rfl) (by kernel_rfl) (by kernel_rfl) (by kernel_rfl) (by kernel_rfl) (by kernel_rfl) rfl (show _ = #[true, true, true, true, true, true, true, false, false, false, false, false, false, false] from rfl) (yv_loadF (j := 1) rfl tf3 rfl rfl (fun _ => rfl) rfl) ?_
                refine sxb_takeP 7 (.slice a2 x1.length c3) rfl rfl rfl rfl (by kernel_rfl) (by kernel_rfl) (by kernel_rfl) (by kernel_rfl) (by kernel_rfl) rfl (show _ = #[true, true, true, true, true, true, true, true, false, false, false, false, false, false] from rfl) (yv_pv rfl) ?_
                refine sxb_takeP 8 (.int .i64 x259) rfl rfl rfl rfl (by kernel_rfl) (by kernel_rfl) (by kernel_rfl) (by kernel_rfl) (by kernel_rfl) rfl (show _ = #[true, true, true, true, true, true, true, true, true, false, false, false, false, false] from rfl) (yv_pv rfl) ?_
                refine sxb_takeP 9 (.int .i64 (isub .i64 x259 1)) rfl rfl rfl rfl (by kernel_rfl) (by kernel_rfl) (by kernel_rfl) (by kernel_rfl) (by kernel_rfl) rfl (show _ = #[true, true, true, true, true, true, true, true, true, true, false, false, false, false] from rfl) (yv_pv rfl) ?_
                refine sxb_again (d := 32) (v := .slice (some ⟨b380, o381, none⟩) x1.length c3) rfl (by rw [h382]) ?_
                refine sxb_takeP 10 (.pointer (some ⟨b380, (o381 + (isub .i64 x259 1).toNat * 1), none⟩)) rfl rfl rfl rfl (by kernel_rfl) (by kernel_rfl) (by kernel_rfl) (by kernel_rfl) (by kernel_rfl) rfl (show _ = #[true, true, true, true, true, true, true, true, true, true, true, false, false, false] from rfl) (yv_idx Try.underlying23 tf3 rfl rfl (idx_get e379).1 (idx_lt e379)) ?_
                refine sxb_again (d := 32) (v := .slice a2 x1.length c3) rfl (by rw [h382]) ?_
                refine sxb_take 11 (.int .i64 x379) [] rfl rfl rfl rfl (by kernel_rfl) (by kernel_rfl) (by kernel_rfl) (by kernel_rfl) (by kernel_rfl) (by kernel_rfl) rfl (show _ = #[true, true, true, true, true, true, true, true, true, true, true, true, false, false] from rfl) (yv_loadF (j := 0) rfl tf3 rfl rfl (fun _ => rfl) rfl) ?_
                refine sxb_takeP 12 (.bool (decide (x375 < x379))) rfl rfl rfl rfl (by kernel_rfl) (by kernel_rfl) (by kernel_rfl) (by kernel_rfl) (by kernel_rfl) rfl (show _ = #[true, true, true, true, true, true, true, true, true, true, true, true, true, false] from rfl) (yv_pv rfl) ?_
                refine sxb_takeP 13 (.bool (decide (x375 < x379))) rfl rfl rfl rfl (by kernel_rfl) (by kernel_rfl) (by kernel_rfl) (by kernel_rfl) (by kernel_rfl) rfl (show _ = #[true, true, true, true, true, true, true, true, true, true, true, true, true, true] from rfl) (yv_pv rfl) ?_
                refine sxb_done (by kernel_rfl) ?_
                refine sxq_np ?_ (by intro c h; cases h)
                exact sxq_meetP ((decide (x375 < x379)), ()) (lk_cons rfl (lk_cons rfl (lk_cons rfl (lk_cons rfl lk_nil)))) .nil .nil (fk_cons 3 rfl fk_nil)
              · refine sxb_draw mixed [] [] [CellsAt b360 o361 ((eI .i64) x359), Sl (eI .i64) 1 (.slice a2 x1.length c3) x1] .nil (gk_F 0 rfl (gk_F 1 rfl gk_nil)) 14 rfl ?_
                refine sxb_takeP 0 (.int .i64 x259) rfl rfl rfl rfl (by kernel_rfl) (by kernel_rfl) (by kernel_rfl) (by kernel_rfl) (by kernel_rfl) rfl (show _ = #[true, false, false, false, false, false, false, false, false, false, false, false, false, false] from rfl) (yv_pv rfl) ?_
                refine sxb_takeP 1 (.bool (decide (0 < x259))) rfl rfl rfl rfl (by kernel_rfl) (by kernel_rfl) (by kernel_rfl) (by kernel_rfl) (by kernel_rfl) rfl (show _ = #[true, true, false, false, false, false, false, false, false, false, false, false, false, false] from rfl) (yv_pv rfl) ?_
                refine sxb_takeP 2 (.bool (decide (0 < x259))) rfl rfl rfl rfl (by kernel_rfl) (by kernel_rfl) (by kernel_rfl) (by kernel_rfl) (by kernel_rfl) rfl (show _ = #[true, true, true, false, false, false, false, false, false, false, false, false, false, false] from rfl) (yv_pv rfl) ?_
                refine sxb_again (d := 27) (v := .bool false) rfl (by rw [h374]) ?_
                refine sxb_skip 3 rfl rfl rfl rfl (by kernel_rfl) (by kernel_rfl) (by kernel_rfl) (by kernel_rfl) (by kernel_rfl) rfl (show _ = #[true, true, true, true, false, false, false, false, false, false, false, false, false, false] from rfl) ?_
                refine sxb_skip 4 rfl rfl rfl rfl (by kernel_rfl) (by kernel_rfl) (by kernel_rfl) (by kernel_rfl) (by kernel_rfl) rfl (show _ = #[true, true, true, true, true, false, false, false, false, false, false, false, false, false] from rfl) ?_
                refine sxb_skip 5 rfl rfl rfl rfl (by kernel_rfl) (by kernel_rfl) (by kernel_rfl) (by kernel_rfl) (by kernel_rfl) rfl (show _ = #[true, true, true, true, true, true, false, false, false, false, false, false, false, false] from rfl) ?_
                refine sxb_skip 6 rfl rfl rfl rfl (by kernel_rfl) (by kernel_rfl) (by kernel_rfl) (by kernel_rfl) (by kernel_rfl) rfl (show _ = #[true, true, true, true, true, true, true, false, false, false, false, false, false, false] from rfl) ?_
                refine sxb_skip 7 rfl rfl rfl rfl (by kernel_rfl) (by kernel_rfl) (by kernel_rfl) (by kernel_rfl) (by kernel_rfl) rfl (show _ = #[true, true, true, true, true, true, true, true, false, false, false, false, false, false] from rfl) ?_
                refine sxb_skip 8 rfl rfl rfl rfl (by kernel_rfl) (by kernel_rfl) (by kernel_rfl) (by kernel_rfl) (by kernel_rfl) rfl (show _ = #[true, true, true, true, true, true, true, true, true, false, false, false, false, false] from rfl) ?_
                refine sxb_skip 9 rfl rfl rfl rfl (by kernel_rfl) (by kernel_rfl) (by kernel_rfl) (by kernel_rfl) (by kernel_rfl) rfl (show _ = #[true, true, true, true, true, true, true, true, true, true, false, false, false, false] from rfl) ?_
                refine sxb_skip 10 rfl rfl rfl rfl (by kernel_rfl) (by kernel_rfl) (by kernel_rfl) (by kernel_rfl) (by kernel_rfl) rfl (show _ = #[true, true, true, true, true, true, true, true, true, true, true, false, false, false] from rfl) ?_
                refine sxb_skip 11 rfl rfl rfl rfl (by kernel_rfl) (by kernel_rfl) (by kernel_rfl) (by kernel_rfl) (by kernel_rfl) rfl (show _ = #[true, true, true, true, true, true, true, true, true, true, true, true, false, false] from rfl) ?_
                refine sxb_skip 12 rfl rfl rfl rfl (by kernel_rfl) (by kernel_rfl) (by kernel_rfl) (by kernel_rfl) (by kernel_rfl) rfl (show _ = #[true, true, true, true, true, true, true, true, true, true, true, true, true, false] from rfl) ?_
                refine sxb_takeP 13 (.bool false) rfl rfl rfl rfl (by kernel_rfl) (by kernel_rfl) (by kernel_rfl) (by kernel_rfl) (by kernel_rfl) rfl (show _ = #[true, true, true, true, true, true, true, true, true, true, true, true, true, true] from rfl) (yv_pv rfl) ?_
                refine sxb_done (by kernel_rfl) ?_
                refine sxq_np ?_ (by intro c h; cases h)
                exact sxq_meetP (false, ()) (lk_cons rfl (lk_cons rfl (lk_cons rfl (lk_cons rfl lk_nil)))) .nil .nil (fk_cons 1 rfl fk_nil)
            · rintro ⟨x372, _⟩
              try dsimp only
              refine sxc_if rfl (fun h373 => ?_) (fun h373 => ?_)
              · refine sxc_seq ?_
                refine sxc_region ?_
                refine sxo_assign rfl rfl rfl ?_
                refine sxo_nil ?_
                refine sxq_next ?_
                refine sxc_ret ?_
                refine sxq_blkR ?_
                refine sxq_thenR ?_
                refine sxq_thenR ?_
                refine sxq_blkR ?_
                refine sxq_thenR ?_
                exact sxq_doneP () (.inl rfl) (res1 rfl rfl) (fun h => by subst h; rfl) (fun h => by subst h; exact .nil)
              · refine sxc_skip ?_
                refine sxq_blkN ?_
                refine sxq_next ?_
                refine sxc_region ?_
                refine sxo_move rfl rfl rfl ?_
                refine sxo_add rfl rfl rfl rfl ?_
                refine sxo_assign rfl rfl rfl ?_
                refine sxo_nil ?_
                exact sxq_againP (iadd .i64 x259 1, ()) (lk_cons rfl (lk_cons rfl (lk_cons rfl lk_nil))) .nil .nil (fk_cons 0 rfl fk_nil)
        · refine sxc_exit ?_
          refine sxq_thenX ?_
          refine sxq_thenX ?_
          refine sxq_blkX ?_
          exact sxq_meetP ((), ()) lk_nil .nil .nil fk_nil
      · rintro ⟨_, _⟩
        try dsimp only
        refine sxc_seq ?_
        refine sxc_region ?_
        refine sxo_assign rfl rfl rfl ?_
        refine sxo_nil ?_
        refine sxq_next ?_
        refine sxc_ret ?_
        exact sxq_doneP () (.inl rfl) (res1 rfl rfl) (fun h => by subst h; rfl) (fun h => by subst h; exact .nil)

theorem C_R_FanoWidth (F : Nat) (x1 : Int) (x2 : Int) (r : Int) (hm : M_R_FanoWidth F x1 x2 = some r) :
    Pure Try.prog 61 [.int .i64 x1, .int .i64 x2] [] Unit (fun _ => .int .i64 r) (fun _ => []) (fun _ => []) := by
  refine pure_of Try.func61 rfl Try.ntmps61 rfl hm (fun w => ?_)
  refine sxc_env (l' := [(0, .int .i64 x1), (1, .int .i64 x2)]) rfl ?_
  refine sxc_seq ?_
  refine sxc_region ?_
  refine sxo_assign rfl rfl rfl ?_
  refine sxo_nil ?_
  refine sxq_next ?_
  refine sxc_seq ?_
  refine sxc_seq ?_
  refine sxc_region ?_
  refine sxo_move rfl rfl rfl ?_
  refine sxo_eql rfl rfl rfl rfl ?_
  refine sxo_nil ?_
  refine sxq_next ?_
  refine sxc_if rfl (fun h23 => ?_) (fun h23 => ?_)
  · refine sxc_seq ?_
    refine sxc_region ?_
    refine sxo_assign rfl rfl rfl ?_
    refine sxo_nil ?_
    refine sxq_next ?_
    refine sxc_ret ?_
    refine sxq_thenR ?_
    exact sxq_doneP () (.inl rfl) (res1 rfl rfl) (fun h => by subst h; rfl) (fun h => by subst h; exact .nil)
  · refine sxc_skip ?_
    refine sxq_next ?_
    refine sxc_seq ?_
    refine sxc_region ?_
    refine sxo_assign rfl rfl rfl ?_
    refine sxo_nil ?_
    refine sxq_next ?_
    refine sxc_seq ?_
    refine sxc_region ?_
    refine sxo_assign rfl rfl rfl ?_
    refine sxo_nil ?_
    refine sxq_next ?_
    refine sxc_join (fun ((x13, _) : (Int × Unit)) => [(5, .int .i64 x13)]) (fun ((x13, _) : (Int × Unit)) => []) (fun ((x13, _) : (Int × Unit)) => []) (fun ((x13, _) : (Int × Unit)) => []) (fun ((x13, _) : (Int × Unit)) => M_R_FanoWidth_j2 F x13) ?_ ?_
    · refine sxc_block ?_
      refine sxc_loopP (fun (((x16, x17), _) : ((Int × Int) × Unit)) => [(0, .int .i64 x1), (1, .int .i64 x2), (5, .int .i64 x16), (6, .int .i64 x17)]) (fun (((x16, x17), _) : ((Int × Int) × Unit)) => []) (fun (((x16, x17), _) : ((Int × Int) × Unit)) => []) (fun (((x16, x17), _) : ((Int × Int) × Unit)) => []) (fun k (s : ((Int × Int) × Unit)) => M_R_FanoWidth_l3 F x1 x2 k s.1) ((0, 2), ()) F (lk_cons rfl (lk_cons rfl (lk_cons rfl (lk_cons rfl lk_nil)))) .nil .nil fk_nil (fun _ => rfl) ?_
      intro k20
      rintro ⟨⟨x16, x17⟩, _⟩
      try dsimp only
      refine sxc_meq (m' := M_R_FanoWidth_b3 F x1 x2 (M_R_FanoWidth_l3 F x1 x2 k20) x16 x17) rfl ?_
      refine sxc_seq ?_
      refine sxc_seq ?_
      refine sxc_region ?_
      refine sxo_move rfl rfl rfl ?_
      refine sxo_move rfl rfl rfl ?_
      refine sxo_mul rfl rfl rfl rfl ?_
      refine sxo_move rfl rfl rfl ?_
      refine sxo_add rfl rfl rfl rfl ?_
      refine sxo_leq rfl rfl rfl rfl ?_
      refine sxo_nil ?_
      refine sxq_next ?_
      refine sxc_if rfl (fun h22 => ?_) (fun h22 => ?_)
      · refine sxc_skip ?_
        refine sxq_next ?_
        refine sxc_block ?_
        refine sxc_seq ?_
        refine sxc_region ?_
        refine sxo_move rfl rfl rfl ?_
        refine sxo_add rfl rfl rfl rfl ?_
        refine sxo_assign rfl rfl rfl ?_
        refine sxo_nil ?_
        refine sxq_next ?_
        refine sxc_region ?_
        refine sxo_move rfl rfl rfl ?_
        refine sxo_mul rfl rfl rfl rfl ?_
        refine sxo_assign rfl rfl rfl ?_
        refine sxo_nil ?_
        refine sxq_blkN ?_
        exact sxq_againP ((iadd .i64 x16 1, imul .i64 2 x17), ()) (lk_cons rfl (lk_cons rfl (lk_cons rfl (lk_cons rfl lk_nil)))) .nil .nil fk_nil
      · refine sxc_exit ?_
        refine sxq_thenX ?_
        refine sxq_thenX ?_
        refine sxq_blkX ?_
        exact sxq_meetP (x16, ()) (lk_cons rfl lk_nil) .nil .nil fk_nil
    · rintro ⟨x13, _⟩
      try dsimp only
      refine sxc_seq ?_
      refine sxc_region ?_
      refine sxo_move rfl rfl rfl ?_
      refine sxo_assign rfl rfl rfl ?_
      refine sxo_nil ?_
      refine sxq_next ?_
      refine sxc_ret ?_
      exact sxq_doneP () (.inl rfl) (res1 rfl rfl) (fun h => by subst h; rfl) (fun h => by subst h; exact .nil)

theorem C_R_NumBits (F : Nat) (x1 : Int) (x2 : Int) (r : List Int) (hm : M_R_NumBits F x1 x2 = some r) :
    Pure Try.prog 62 [.int .u64 x1, .int .i64 x2] [] (Option Addr × Nat) (fun g => .slice g.1 r.length g.2) (fun g => [Ro (eI .i64) 3 1 (.slice g.1 r.length g.2) r]) (fun _ => []) := by
  refine pure_of Try.func62 rfl Try.ntmps62 rfl hm (fun w => ?_)
  refine sxc_env (l' := [(0, .int .u64 x1), (1, .int .i64 x2)]) rfl ?_
  refine sxc_seq ?_
  refine sxc_region ?_
  refine sxo_assign rfl rfl rfl ?_
  refine sxo_nil ?_
  refine sxq_next ?_
  refine sxc_seq ?_
  refine sxc_region ?_
  refine sxo_move rfl rfl rfl ?_
  refine sxo_mk (eI_ok .i64) rfl Try.underlying23 tf3 rfl rfl rfl rfl rfl rfl rfl (fun x3 e3 a4 c5 => ?_)
  refine sxo_assign rfl rfl rfl ?_
  refine sxo_nil ?_
  refine sxq_next ?_
  refine sxc_join (fun ((x56, (a54, c55)) : (List Int × (Option Addr × Nat))) => [(5, .slice a54 x56.length c55)]) (fun ((x56, (a54, c55)) : (List Int × (Option Addr × Nat))) => []) (fun ((x56, (a54, c55)) : (List Int × (Option Addr × Nat))) => [Ro (eI .i64) 3 1 (.slice a54 x56.length c55) x56]) (fun ((x56, (a54, c55)) : (List Int × (Option Addr × Nat))) => []) (fun ((x56, _) : (List Int × (Option Addr × Nat))) => M_R_NumBits_j2 F x56) ?_ ?_
  · refine sxc_seq ?_
    refine sxc_region ?_
    refine sxo_move rfl rfl rfl ?_
    refine sxo_sub rfl rfl rfl rfl ?_
    refine sxo_assign rfl rfl rfl ?_
    refine sxo_nil ?_
    refine sxq_next ?_
    refine sxc_block ?_
    refine sxc_loopP (fun (((x71, x74, x75), (a72, c73)) : ((Int × List Int × Int) × (Option Addr × Nat))) => [(0, .int .u64 x71), (5, .slice a72 x74.length c73), (6, .int .i64 x75)]) (fun (((x71, x74, x75), (a72, c73)) : ((Int × List Int × Int) × (Option Addr × Nat))) => []) (fun (((x71, x74, x75), (a72, c73)) : ((Int × List Int × Int) × (Option Addr × Nat))) => [Ro (eI .i64) 3 1 (.slice a72 x74.length c73) x74]) (fun (((x71, x74, x75), (a72, c73)) : ((Int × List Int × Int) × (Option Addr × Nat))) => []) (fun k (s : ((Int × List Int × Int) × (Option Addr × Nat))) => M_R_NumBits_l3 F k s.1) ((x1, x3, isub .i64 x2 1), (a4, c5)) F (lk_cons rfl (lk_cons rfl (lk_cons rfl lk_nil))) .nil (.cons 0 rfl .nil) fk_nil (fun _ => rfl) ?_
    intro k90
    rintro ⟨⟨x71, x74, x75⟩, ⟨a72, c73⟩⟩
    try dsimp only
    refine sxc_meq (m' := M_R_NumBits_b3 F (M_R_NumBits_l3 F k90) x71 x74 x75) rfl ?_
    refine sxc_seq ?_
    refine sxc_seq ?_
    refine sxc_region ?_
    refine sxo_move rfl rfl rfl ?_
    refine sxo_geq rfl rfl rfl rfl ?_
    refine sxo_nil ?_
    refine sxq_next ?_
    refine sxc_if rfl (fun h104 => ?_) (fun h104 => ?_)
    · refine sxc_skip ?_
      refine sxq_next ?_
      refine sxc_seq ?_
      refine sxc_block ?_
      refine sxc_seq ?_
      refine sxc_region ?_
      refine sxo_move rfl rfl rfl ?_
      refine sxo_move rfl rfl rfl ?_
      refine sxo_move rfl rfl rfl ?_
      refine sxo_rem rfl rfl rfl rfl rfl ?_
      refine sxo_conv rfl Try.underlying22 Try.underlying3 rfl rfl ?_
      refine sxo_indexR (j := 0) rfl Try.underlying23 tf3 rfl rfl rfl rfl (fun x98 e98 g99 h100 => ?_)
      refine sxo_storeL (j := 0) (y' := iconv .i64 (irem x71 2)) (eI_ok .i64) rfl rfl rfl tf3 rfl h100 (idx_get e98).2.1 rfl (fun x101 e101 h102 => ?_)
      have h103 : x101.length = x74.length := by rw [← e101, List.length_set]
      refine sxo_again (d := 5) (v := .slice a72 x101.length c73) rfl h102 ?_
      refine sxo_again (d := 15) (v := .slice a72 x101.length c73) rfl h102 ?_
      refine sxo_nil ?_
      refine sxq_next ?_
      refine sxc_region ?_
      refine sxo_move rfl rfl rfl ?_
      refine sxo_quo rfl rfl rfl rfl rfl ?_
      refine sxo_assign rfl rfl rfl ?_
      refine sxo_nil ?_
      refine sxq_blkN ?_
      refine sxq_next ?_
      refine sxc_region ?_
      refine sxo_move rfl rfl rfl ?_
      refine sxo_sub rfl rfl rfl rfl ?_
      refine sxo_assign rfl rfl rfl ?_
      refine sxo_nil ?_
      exact sxq_againP ((iquo .u64 x71 2, x101, isub .i64 x75 1), (a72, c73)) (lk_cons rfl (lk_cons rfl (lk_cons rfl lk_nil))) .nil (.cons 0 rfl .nil) fk_nil
    · refine sxc_exit ?_
      refine sxq_thenX ?_
      refine sxq_thenX ?_
      refine sxq_blkX ?_
      exact sxq_meetP (x74, (a72, c73)) (lk_cons rfl lk_nil) .nil (.cons 0 rfl .nil) fk_nil
  · rintro ⟨x56, ⟨a54, c55⟩⟩
    try dsimp only
    refine sxc_seq ?_
    refine sxc_region ?_
    refine sxo_move rfl rfl rfl ?_
    refine sxo_assign rfl rfl rfl ?_
    refine sxo_nil ?_
    refine sxq_next ?_
    refine sxc_ret ?_
    exact sxq_doneP (a54, c55) (.inl rfl) (res1 rfl rfl) (fun h => by subst h; rfl) (fun h => by subst h; exact (.cons 0 rfl .nil))

set_option maxHeartbeats 4000000 in
theorem C_R_FanoWrite (F : Nat) (x1 : List Int) (a2 : Option Addr) (c3 : Nat) (x4 : Int) (r : (Int × Int × Int × Int × List Int × Int × List Int × Int)) (hm : M_R_FanoWrite F x1 x4 = some r) :
    Pure Try.prog 35 [.slice a2 x1.length c3, .int .i64 x4] [Sl (eI .i64) 1 (.slice a2 x1.length c3) x1] ((Option Addr × Nat) × (Option Addr × Nat)) (fun g => .tuple #[.agg #[.int .i64 r.1, .int .i64 r.2.1, .int .i64 r.2.2.1, .int .i64 r.2.2.2.1, .slice g.1.1 r.2.2.2.2.1.length g.1.2, .int .i64 r.2.2.2.2.2.1, .slice g.2.1 r.2.2.2.2.2.2.1.length g.2.2], .int .i64 r.2.2.2.2.2.2.2]) (fun g => [Ro (eI .u8) 5 1 (.slice g.1.1 r.2.2.2.2.1.length g.1.2) r.2.2.2.2.1, Ro (eI .u8) 5 1 (.slice g.2.1 r.2.2.2.2.2.2.1.length g.2.2) r.2.2.2.2.2.2.1]) (fun _ => []) := by
  refine pure_of Try.func35 rfl Try.ntmps35 rfl hm (fun w => ?_)
  refine sxc_env (l' := [(0, .slice a2 x1.length c3), (1, .int .i64 x4)]) rfl ?_
  refine sxc_seq ?_
  refine sxc_region ?_
  refine sxo_alloc rfl tf51 rfl (fun g5 => ?_)
  refine sxo_assign rfl rfl rfl ?_
  refine sxo_nil ?_
  refine sxq_next ?_
  refine sxc_seq ?_
  refine sxc_region ?_
  refine sxo_move rfl rfl rfl ?_
  refine sxo_move rfl rfl rfl ?_
  refine sxo_call ent60 rfl rfl rfl (fun x6 e6 => C_R_FanoErr F x1 a2 c3 x4 x6 e6) (.consF 0 rfl .nil) (fun x6 e6 => ?_)
  intro _
  refine sxo_assign rfl rfl rfl ?_
  refine sxo_nil ?_
  refine sxq_next ?_
  refine sxc_seq ?_
  refine sxc_seq ?_
  refine sxc_region ?_
  refine sxo_move rfl rfl rfl ?_
  refine sxo_neq rfl rfl rfl rfl ?_
  refine sxo_nil ?_
  refine sxq_next ?_
  refine sxc_if rfl (fun h2260 => ?_) (fun h2260 => ?_)
  · refine sxc_seq ?_
    refine sxc_region ?_
    refine sxo_build (cells := [.int .i64 0, .int .i64 0, .int .i64 0, .int .i64 0, .slice none 0 0, .int .i64 0, .slice none 0 0]) rfl st51 rfl (by kernel_rfl) rfl ?_
    refine sxo_move rfl rfl rfl ?_
    refine sxo_storeB (i := 0) rfl rfl rfl tf51 rfl rfl rfl rfl rfl ?_
    refine sxo_assign rfl rfl rfl ?_
    refine sxo_nil ?_
    refine sxq_next ?_
    refine sxc_ret ?_
    refine sxq_thenR ?_
    refine sxq_nilrow Int (eI .u8) 5 1 ?_
    refine sxq_nilrow Int (eI .u8) 5 1 ?_
    exact sxq_doneP ((none, 0), (none, 0)) (.inl rfl) (resL (rs := [.cell 4 51, .tmp 5]) rfl (.cell (i := 0) rfl tf51 rfl rfl (by simp) rfl (.tmp rfl ResOk.nil)) rfl) (fun h => by subst h; rfl) (fun h => by subst h; exact (.cons 0 rfl (.cons 0 rfl .nil)))
  · refine sxc_skip ?_
    refine sxq_next ?_
    refine sxc_seq ?_
    refine sxc_region ?_
    refine sxo_move rfl rfl rfl ?_
    refine sxo_len rfl Try.underlying23 rfl rfl ?_
    refine sxo_move rfl rfl rfl ?_
    refine sxo_call ent61 rfl rfl rfl (fun x8 e8 => C_R_FanoWidth F (x1.length : Int) x4 x8 e8) .nil (fun x8 e8 => ?_)
    intro _
    refine sxo_assign rfl rfl rfl ?_
    refine sxo_nil ?_
    refine sxq_next ?_
    refine sxc_seq ?_
    refine sxc_region ?_
    refine sxo_assign rfl rfl rfl ?_
    refine sxo_nil ?_
    refine sxq_next ?_
    refine sxc_join (fun ((x18, _) : (Int × Unit)) => [(0, .slice a2 x1.length c3), (1, .int .i64 x4), (4, .pointer (some ⟨g5, 0, none⟩)), (7, .int .i64 x8), (8, .int .i64 x18)]) (fun ((x18, _) : (Int × Unit)) => [⟨g5, 51, [.int .i64 0, .int .i64 0, .int .i64 0, .int .i64 0, .slice none 0 0, .int .i64 0, .slice none 0 0]⟩]) (fun ((x18, _) : (Int × Unit)) => []) (fun ((x18, _) : (Int × Unit)) => [Sl (eI .i64) 1 (.slice a2 x1.length c3) x1]) (fun ((x18, _) : (Int × Unit)) => M_R_FanoWrite_j2 F x1 x4 x8 x18) ?_ ?_
    · refine sxc_seq ?_
      refine sxc_region ?_
      refine sxo_assign rfl rfl rfl ?_
      refine sxo_nil ?_
      refine sxq_next ?_
      refine sxc_block ?_
      refine sxc_loopP (fun (((x2253, x2254), _) : ((Int × Int) × Unit)) => [(0, .slice a2 x1.length c3), (1, .int .i64 x4), (4, .pointer (some ⟨g5, 0, none⟩)), (7, .int .i64 x8), (8, .int .i64 x2253), (9, .int .i64 x2254)]) (fun (((x2253, x2254), _) : ((Int × Int) × Unit)) => [⟨g5, 51, [.int .i64 0, .int .i64 0, .int .i64 0, .int .i64 0, .slice none 0 0, .int .i64 0, .slice none 0 0]⟩]) (fun (((x2253, x2254), _) : ((Int × Int) × Unit)) => []) (fun (((x2253, x2254), _) : ((Int × Int) × Unit)) => [Sl (eI .i64) 1 (.slice a2 x1.length c3) x1]) (fun k (s : ((Int × Int) × Unit)) => M_R_FanoWrite_l125 F x1 x4 x8 k s.1) ((1, 0), ()) F (lk_cons rfl (lk_cons rfl (lk_cons rfl (lk_cons rfl (lk_cons rfl (lk_cons rfl lk_nil)))))) (.cons 0 rfl .nil) .nil (fk_cons 0 rfl fk_nil) (fun _ => rfl) ?_
      intro k2257
      rintro ⟨⟨x2253, x2254⟩, _⟩
      try dsimp only
      refine sxc_meq (m' := M_R_FanoWrite_b125 F x1 x4 x8 (M_R_FanoWrite_l125 F x1 x4 x8 k2257) x2253 x2254) rfl ?_
      refine sxc_seq ?_
      refine sxc_seq ?_
      refine sxc_region ?_
      refine sxo_move rfl rfl rfl ?_
      refine sxo_move rfl rfl rfl ?_
      refine sxo_lss rfl rfl rfl rfl ?_
      refine sxo_nil ?_
      refine sxq_next ?_
      refine sxc_if rfl (fun h2259 => ?_) (fun h2259 => ?_)
      · refine sxc_skip ?_
        refine sxq_next ?_
        refine sxc_seq ?_
        refine sxc_block ?_
        refine sxc_region ?_
        refine sxo_move rfl rfl rfl ?_
        refine sxo_mul rfl rfl rfl rfl ?_
        refine sxo_assign rfl rfl rfl ?_
        refine sxo_nil ?_
        refine sxq_blkN ?_
        refine sxq_next ?_
        refine sxc_region ?_
        refine sxo_move rfl rfl rfl ?_
        refine sxo_add rfl rfl rfl rfl ?_
        refine sxo_assign rfl rfl rfl ?_
        refine sxo_nil ?_
        exact sxq_againP ((imul .i64 2 x2253, iadd .i64 x2254 1), ()) (lk_cons rfl (lk_cons rfl (lk_cons rfl (lk_cons rfl (lk_cons rfl (lk_cons rfl lk_nil)))))) (.cons 0 rfl .nil) .nil (fk_cons 0 rfl fk_nil)
      · refine sxc_exit ?_
        refine sxq_thenX ?_
        refine sxq_thenX ?_
        refine sxq_blkX ?_
        exact sxq_meetP (x2253, ()) (lk_cons rfl (lk_cons rfl (lk_cons rfl (lk_cons rfl (lk_cons rfl lk_nil))))) (.cons 0 rfl .nil) .nil (fk_cons 0 rfl fk_nil)
    · rintro ⟨x18, _⟩
      try dsimp only
      refine sxc_seq ?_
      refine sxc_seq ?_
      refine sxc_region ?_
      refine sxo_move rfl rfl rfl ?_
      refine sxo_len rfl Try.underlying23 rfl rfl ?_
      refine sxo_move rfl rfl rfl ?_
      refine sxo_mul rfl rfl rfl rfl ?_
      refine sxo_gtr rfl rfl rfl rfl ?_
      refine sxo_move rfl rfl rfl ?_
      refine sxo_join 9 (fun ((x26, _) : (Bool × Unit)) => [(0, .slice a2 x1.length c3), (1, .int .i64 x4), (4, .pointer (some ⟨g5, 0, none⟩)), (7, .int .i64 x8), (8, .int .i64 x18), (47, .bool x26)]) (fun ((x26, _) : (Bool × Unit)) => [⟨g5, 51, [.int .i64 0, .int .i64 0, .int .i64 0, .int .i64 0, .slice none 0 0, .int .i64 0, .slice none 0 0]⟩]) (fun ((x26, _) : (Bool × Unit)) => []) (fun ((x26, _) : (Bool × Unit)) => [Sl (eI .i64) 1 (.slice a2 x1.length c3) x1]) (fun ((x26, _) : (Bool × Unit)) => M_R_FanoWrite_j4 F x1 x4 x8 x18 x26) ?_ ?_
      · refine sxo_take (os := _) rfl ?_
        refine sxo_if (fun h24 => ?_) (fun h24 => ?_)
        · refine sxo_isT (k := 38) rfl h24 ?_
          refine sxo_skip rfl rfl rfl ?_
          refine sxo_skip rfl rfl rfl ?_
          refine sxo_skip rfl rfl rfl ?_
          refine sxo_skip rfl rfl rfl ?_
          refine sxo_skip rfl rfl rfl ?_
          refine sxo_skip rfl rfl rfl ?_
          refine sxo_skip rfl rfl rfl ?_
          refine sxo_skip rfl rfl rfl ?_
          refine sxo_pick (b := true) rfl rfl rfl rfl ?_
          refine sxo_nil ?_
          exact sxq_meetP (true, ()) (lk_cons rfl (lk_cons rfl (lk_cons rfl (lk_cons rfl (lk_cons rfl (lk_cons rfl lk_nil)))))) (.cons 0 rfl .nil) .nil (fk_cons 0 rfl fk_nil)
        · refine sxo_isF (k := 38) rfl h24 ?_
          refine sxo_move rfl rfl rfl ?_
          refine sxo_len rfl Try.underlying23 rfl rfl ?_
          refine sxo_move rfl rfl rfl ?_
          refine sxo_move rfl rfl rfl ?_
          refine sxo_chk (fun h2250 => ?_)
          refine sxo_quo rfl rfl rfl rfl h2250 ?_
          refine sxo_add rfl rfl rfl rfl ?_
          refine sxo_add rfl rfl rfl rfl ?_
          refine sxo_gtr rfl rfl rfl rfl ?_
          refine sxo_pick (b := false) rfl rfl rfl rfl ?_
          refine sxo_nil ?_
          exact sxq_meetP ((decide (8192 < (iadd .i64 (iadd .i64 (x1.length : Int) (iquo .i64 x4 x18)) 1))), ()) (lk_cons rfl (lk_cons rfl (lk_cons rfl (lk_cons rfl (lk_cons rfl (lk_cons rfl lk_nil)))))) (.cons 0 rfl .nil) .nil (fk_cons 0 rfl fk_nil)
      · rintro ⟨x26, _⟩
        try dsimp only
        refine sxo_take (os := _) rfl ?_
        refine sxo_nil ?_
        refine sxq_next ?_
        refine sxc_if rfl (fun h2249 => ?_) (fun h2249 => ?_)
        · refine sxc_seq ?_
          refine sxc_region ?_
          refine sxo_build (cells := [.int .i64 0, .int .i64 0, .int .i64 0, .int .i64 0, .slice none 0 0, .int .i64 0, .slice none 0 0]) rfl st51 rfl (by kernel_rfl) rfl ?_
          refine sxo_storeB (i := 0) rfl rfl rfl tf51 rfl rfl rfl rfl rfl ?_
          refine sxo_assign rfl rfl rfl ?_
          refine sxo_nil ?_
          refine sxq_next ?_
          refine sxc_ret ?_
          refine sxq_thenR ?_
          refine sxq_nilrow Int (eI .u8) 5 1 ?_
          refine sxq_nilrow Int (eI .u8) 5 1 ?_
          exact sxq_doneP ((none, 0), (none, 0)) (.inl rfl) (resL (rs := [.cell 4 51, .tmp 5]) rfl (.cell (i := 0) rfl tf51 rfl rfl (by simp) rfl (.tmp rfl ResOk.nil)) rfl) (fun h => by subst h; rfl) (fun h => by subst h; exact (.cons 0 rfl (.cons 0 rfl .nil)))
        · refine sxc_skip ?_
          refine sxq_next ?_
          refine sxc_seq ?_
          refine sxc_region ?_
          refine sxo_assign rfl rfl rfl ?_
          refine sxo_assign rfl rfl rfl ?_
          refine sxo_nil ?_
          refine sxq_next ?_
          refine sxc_join (fun ((x100, (a98, c99)) : (List Int × (Option Addr × Nat))) => [(0, .slice a2 x1.length c3), (1, .int .i64 x4), (4, .pointer (some ⟨g5, 0, none⟩)), (7, .int .i64 x8), (8, .int .i64 x18), (10, .slice a98 x100.length c99), (11, .slice none 0 0)]) (fun ((x100, (a98, c99)) : (List Int × (Option Addr × Nat))) => [⟨g5, 51, [.int .i64 0, .int .i64 0, .int .i64 0, .int .i64 0, .slice none 0 0, .int .i64 0, .slice none 0 0]⟩]) (fun ((x100, (a98, c99)) : (List Int × (Option Addr × Nat))) => [Ro (eI .i64) 3 1 (.slice a98 x100.length c99) x100]) (fun ((x100, (a98, c99)) : (List Int × (Option Addr × Nat))) => [Sl (eI .i64) 1 (.slice a2 x1.length c3) x1]) (fun ((x100, _) : (List Int × (Option Addr × Nat))) => M_R_FanoWrite_j6 F x1 x4 x8 x18 x100) ?_ ?_
          · refine sxc_seq ?_
            refine sxc_region ?_
            refine sxo_assign rfl rfl rfl ?_
            refine sxo_nil ?_
            refine sxq_next ?_
            refine sxc_block ?_
            refine sxc_nilrow Int (eI .i64) 3 1 ?_
            refine sxc_loopP (fun (((x2202, x2203), (a2200, c2201)) : ((List Int × Int) × (Option Addr × Nat))) => [(0, .slice a2 x1.length c3), (1, .int .i64 x4), (4, .pointer (some ⟨g5, 0, none⟩)), (7, .int .i64 x8), (8, .int .i64 x18), (10, .slice a2200 x2202.length c2201), (11, .slice none 0 0), (12, .int .i64 x2203)]) (fun (((x2202, x2203), (a2200, c2201)) : ((List Int × Int) × (Option Addr × Nat))) => [⟨g5, 51, [.int .i64 0, .int .i64 0, .int .i64 0, .int .i64 0, .slice none 0 0, .int .i64 0, .slice none 0 0]⟩]) (fun (((x2202, x2203), (a2200, c2201)) : ((List Int × Int) × (Option Addr × Nat))) => [Ro (eI .i64) 3 1 (.slice a2200 x2202.length c2201) x2202]) (fun (((x2202, x2203), (a2200, c2201)) : ((List Int × Int) × (Option Addr × Nat))) => [Sl (eI .i64) 1 (.slice a2 x1.length c3) x1]) (fun k (s : ((List Int × Int) × (Option Addr × Nat))) => M_R_FanoWrite_l124 F x1 x4 x8 x18 k s.1) ((([] : List Int), 0), (none, 0)) F (lk_cons rfl (lk_cons rfl (lk_cons rfl (lk_cons rfl (lk_cons rfl (lk_cons rfl (lk_cons rfl (lk_cons rfl lk_nil)))))))) (.cons 0 rfl .nil) (.cons 0 rfl .nil) (fk_cons 0 rfl fk_nil) (fun _ => rfl) ?_
            intro k2226
            rintro ⟨⟨x2202, x2203⟩, ⟨a2200, c2201⟩⟩
            try dsimp only
            refine sxc_meq (m' := M_R_FanoWrite_b124 F x1 x4 x8 x18 (M_R_FanoWrite_l124 F x1 x4 x8 x18 k2226) x2202 x2203) rfl ?_
            refine sxc_seq ?_
            refine sxc_seq ?_
            refine sxc_region ?_
            refine sxo_move rfl rfl rfl ?_
            refine sxo_move rfl rfl rfl ?_
            refine sxo_len rfl Try.underlying23 rfl rfl ?_
            refine sxo_lss rfl rfl rfl rfl ?_
            refine sxo_nil ?_
            refine sxq_next ?_
            refine sxc_if rfl (fun h2248 => ?_) (fun h2248 => ?_)
            · refine sxc_skip ?_
              refine sxq_next ?_
              refine sxc_seq ?_
              refine sxc_block ?_
              refine sxc_region ?_
              refine sxo_move rfl rfl rfl ?_
              refine sxo_move rfl rfl rfl ?_
              refine sxo_move rfl rfl rfl ?_
              refine sxo_indexF (j := 0) (eI_ok .i64) (by decide) rfl Try.underlying23 tf3 rfl rfl rfl rfl (fun x2238 e2238 b2239 o2240 => ?_)
              refine sxo_loadF (j := 0) rfl rfl tf3 rfl rfl (fun _ => rfl) rfl rfl ?_
              refine sxo_move rfl rfl rfl ?_
              refine sxo_chk (fun h2241 => ?_)
              refine sxo_rem rfl rfl rfl rfl h2241 ?_
              refine sxo_conv rfl Try.underlying3 Try.underlying22 rfl rfl ?_
              refine sxo_move rfl rfl rfl ?_
              refine sxo_call ent62 rfl rfl rfl (fun x2242 e2242 => C_R_NumBits F (iconv .u64 (irem x2238 x18)) x8 x2242 e2242) .nil (fun x2242 e2242 => ?_)
              rintro ⟨a2243, c2244⟩
              refine sxo_app 1 (eI_ok .i64) rfl Try.underlying23 tf3 rfl rfl rfl rfl rfl (.inl ⟨0, _, rfl⟩) rfl rfl (fun x2245 e2245 a2246 c2247 => ?_)
              refine sxo_assign rfl rfl rfl ?_
              refine sxo_nil ?_
              refine sxq_blkN ?_
              refine sxq_next ?_
              refine sxc_region ?_
              refine sxo_move rfl rfl rfl ?_
              refine sxo_add rfl rfl rfl rfl ?_
              refine sxo_assign rfl rfl rfl ?_
              refine sxo_nil ?_
              exact sxq_againP ((x2245, iadd .i64 x2203 1), (a2246, c2247)) (lk_cons rfl (lk_cons rfl (lk_cons rfl (lk_cons rfl (lk_cons rfl (lk_cons rfl (lk_cons rfl (lk_cons rfl lk_nil)))))))) (.cons 0 rfl .nil) (.cons 0 rfl .nil) (fk_cons 1 rfl fk_nil)
            · refine sxc_exit ?_
              refine sxq_thenX ?_
              refine sxq_thenX ?_
              refine sxq_blkX ?_
              exact sxq_meetP (x2202, (a2200, c2201)) (lk_cons rfl (lk_cons rfl (lk_cons rfl (lk_cons rfl (lk_cons rfl (lk_cons rfl (lk_cons rfl lk_nil))))))) (.cons 0 rfl .nil) (.cons 0 rfl .nil) (fk_cons 0 rfl fk_nil)
          · rintro ⟨x100, ⟨a98, c99⟩⟩
            try dsimp only
            refine sxc_join (fun ((x1137, (a1135, c1136)) : (List Int × (Option Addr × Nat))) => [(0, .slice a2 x1.length c3), (1, .int .i64 x4), (4, .pointer (some ⟨g5, 0, none⟩)), (7, .int .i64 x8), (10, .slice a98 x100.length c99), (11, .slice a1135 x1137.length c1136)]) (fun ((x1137, (a1135, c1136)) : (List Int × (Option Addr × Nat))) => [⟨g5, 51, [.int .i64 0, .int .i64 0, .int .i64 0, .int .i64 0, .slice none 0 0, .int .i64 0, .slice none 0 0]⟩]) (fun ((x1137, (a1135, c1136)) : (List Int × (Option Addr × Nat))) => [Ro (eI .i64) 3 1 (.slice a98 x100.length c99) x100, Ro (eI .i64) 3 1 (.slice a1135 x1137.length c1136) x1137]) (fun ((x1137, (a1135, c1136)) : (List Int × (Option Addr × Nat))) => [Sl (eI .i64) 1 (.slice a2 x1.length c3) x1]) (fun ((x1137, _) : (List Int × (Option Addr × Nat))) => M_R_FanoWrite_j65 F x1 x4 x8 x100 x1137) ?_ ?_
            · refine sxc_seq ?_
              refine sxc_region ?_
              refine sxo_assign rfl rfl rfl ?_
              refine sxo_nil ?_
              refine sxq_next ?_
              refine sxc_block ?_
              refine sxc_nilrow Int (eI .i64) 3 1 ?_
              refine sxc_loopP (fun (((x1489, x1490), (a1487, c1488)) : ((List Int × Int) × (Option Addr × Nat))) => [(0, .slice a2 x1.length c3), (1, .int .i64 x4), (4, .pointer (some ⟨g5, 0, none⟩)), (7, .int .i64 x8), (8, .int .i64 x18), (10, .slice a98 x100.length c99), (11, .slice a1487 x1489.length c1488), (13, .int .i64 x1490)]) (fun (((x1489, x1490), (a1487, c1488)) : ((List Int × Int) × (Option Addr × Nat))) => [⟨g5, 51, [.int .i64 0, .int .i64 0, .int .i64 0, .int .i64 0, .slice none 0 0, .int .i64 0, .slice none 0 0]⟩]) (fun (((x1489, x1490), (a1487, c1488)) : ((List Int × Int) × (Option Addr × Nat))) => [Ro (eI .i64) 3 1 (.slice a98 x100.length c99) x100, Ro (eI .i64) 3 1 (.slice a1487 x1489.length c1488) x1489]) (fun (((x1489, x1490), (a1487, c1488)) : ((List Int × Int) × (Option Addr × Nat))) => [Sl (eI .i64) 1 (.slice a2 x1.length c3) x1]) (fun k (s : ((List Int × Int) × (Option Addr × Nat))) => M_R_FanoWrite_l104 F x1 x4 x8 x18 x100 k s.1) ((([] : List Int), 0), (none, 0)) F (lk_cons rfl (lk_cons rfl (lk_cons rfl (lk_cons rfl (lk_cons rfl (lk_cons rfl (lk_cons rfl (lk_cons rfl lk_nil)))))))) (.cons 0 rfl .nil) (.cons 1 rfl (.cons 0 rfl .nil)) (fk_cons 0 rfl fk_nil) (fun _ => rfl) ?_
              intro k1834
              rintro ⟨⟨x1489, x1490⟩, ⟨a1487, c1488⟩⟩
              try dsimp only
              refine sxc_meq (m' := M_R_FanoWrite_b104 F x1 x4 x8 x18 x100 (M_R_FanoWrite_l104 F x1 x4 x8 x18 x100 k1834) x1489 x1490) rfl ?_
              refine sxc_seq ?_
              refine sxc_seq ?_
              refine sxc_region ?_
              refine sxo_move rfl rfl rfl ?_
              refine sxo_move rfl rfl rfl ?_
              refine sxo_move rfl rfl rfl ?_
              refine sxo_chk (fun h1837 => ?_)
              refine sxo_quo rfl rfl rfl rfl h1837 ?_
              refine sxo_leq rfl rfl rfl rfl ?_
              refine sxo_nil ?_
              refine sxq_next ?_
              refine sxc_if rfl (fun h2177 => ?_) (fun h2177 => ?_)
              · refine sxc_skip ?_
                refine sxq_next ?_
                refine sxc_join (fun ((x2008, (a2006, c2007)) : (List Int × (Option Addr × Nat))) => [(0, .slice a2 x1.length c3), (1, .int .i64 x4), (4, .pointer (some ⟨g5, 0, none⟩)), (7, .int .i64 x8), (8, .int .i64 x18), (10, .slice a98 x100.length c99), (11, .slice a2006 x2008.length c2007), (13, .int .i64 x1490)]) (fun ((x2008, (a2006, c2007)) : (List Int × (Option Addr × Nat))) => [⟨g5, 51, [.int .i64 0, .int .i64 0, .int .i64 0, .int .i64 0, .slice none 0 0, .int .i64 0, .slice none 0 0]⟩]) (fun ((x2008, (a2006, c2007)) : (List Int × (Option Addr × Nat))) => [Ro (eI .i64) 3 1 (.slice a98 x100.length c99) x100, Ro (eI .i64) 3 1 (.slice a2006 x2008.length c2007) x2008]) (fun ((x2008, (a2006, c2007)) : (List Int × (Option Addr × Nat))) => [Sl (eI .i64) 1 (.slice a2 x1.length c3) x1]) (fun ((x2008, _) : (List Int × (Option Addr × Nat))) => M_R_FanoWrite_j114 F (M_R_FanoWrite_l104 F x1 x4 x8 x18 x100 k1834) x1490 x2008) ?_ ?_
                · refine sxc_block ?_
                  refine sxc_join (fun ((x2091, (a2089, c2090)) : (List Int × (Option Addr × Nat))) => [(0, .slice a2 x1.length c3), (1, .int .i64 x4), (4, .pointer (some ⟨g5, 0, none⟩)), (7, .int .i64 x8), (8, .int .i64 x18), (10, .slice a98 x100.length c99), (11, .slice a2089 x2091.length c2090), (13, .int .i64 x1490)]) (fun ((x2091, (a2089, c2090)) : (List Int × (Option Addr × Nat))) => [⟨g5, 51, [.int .i64 0, .int .i64 0, .int .i64 0, .int .i64 0, .slice none 0 0, .int .i64 0, .slice none 0 0]⟩]) (fun ((x2091, (a2089, c2090)) : (List Int × (Option Addr × Nat))) => [Ro (eI .i64) 3 1 (.slice a98 x100.length c99) x100, Ro (eI .i64) 3 1 (.slice a2089 x2091.length c2090) x2091]) (fun ((x2091, (a2089, c2090)) : (List Int × (Option Addr × Nat))) => [Sl (eI .i64) 1 (.slice a2 x1.length c3) x1]) (fun ((x2091, _) : (List Int × (Option Addr × Nat))) => M_R_FanoWrite_j119 F (M_R_FanoWrite_l104 F x1 x4 x8 x18 x100 k1834) x1490 x2091) ?_ ?_
                  · refine sxc_seq ?_
                    refine sxc_region ?_
                    refine sxo_assign rfl rfl rfl ?_
                    refine sxo_nil ?_
                    refine sxq_next ?_
                    refine sxc_block ?_
                    refine sxc_loopP (fun (((x2124, x2125), (a2122, c2123)) : ((List Int × Int) × (Option Addr × Nat))) => [(0, .slice a2 x1.length c3), (1, .int .i64 x4), (4, .pointer (some ⟨g5, 0, none⟩)), (7, .int .i64 x8), (8, .int .i64 x18), (10, .slice a98 x100.length c99), (11, .slice a2122 x2124.length c2123), (13, .int .i64 x1490), (14, .int .i64 x2125)]) (fun (((x2124, x2125), (a2122, c2123)) : ((List Int × Int) × (Option Addr × Nat))) => [⟨g5, 51, [.int .i64 0, .int .i64 0, .int .i64 0, .int .i64 0, .slice none 0 0, .int .i64 0, .slice none 0 0]⟩]) (fun (((x2124, x2125), (a2122, c2123)) : ((List Int × Int) × (Option Addr × Nat))) => [Ro (eI .i64) 3 1 (.slice a98 x100.length c99) x100, Ro (eI .i64) 3 1 (.slice a2122 x2124.length c2123) x2124]) (fun (((x2124, x2125), (a2122, c2123)) : ((List Int × Int) × (Option Addr × Nat))) => [Sl (eI .i64) 1 (.slice a2 x1.length c3) x1]) (fun k (s : ((List Int × Int) × (Option Addr × Nat))) => M_R_FanoWrite_l122 F (M_R_FanoWrite_l104 F x1 x4 x8 x18 x100 k1834) x1 x18 x1490 k s.1) ((x1489, 0), (a1487, c1488)) F (lk_cons rfl (lk_cons rfl (lk_cons rfl (lk_cons rfl (lk_cons rfl (lk_cons rfl (lk_cons rfl (lk_cons rfl (lk_cons rfl lk_nil))))))))) (.cons 0 rfl .nil) (.cons 0 rfl (.cons 0 rfl .nil)) (fk_cons 0 rfl fk_nil) (fun _ => rfl) ?_
                    intro k2151
                    rintro ⟨⟨x2124, x2125⟩, ⟨a2122, c2123⟩⟩
                    try dsimp only
                    refine sxc_meq (m' := M_R_FanoWrite_b122 F (M_R_FanoWrite_l104 F x1 x4 x8 x18 x100 k1834) x1 x18 x1490 (M_R_FanoWrite_l122 F (M_R_FanoWrite_l104 F x1 x4 x8 x18 x100 k1834) x1 x18 x1490 k2151) x2124 x2125) rfl ?_
                    refine sxc_seq ?_
                    refine sxc_seq ?_
                    refine sxc_region ?_
                    refine sxo_move rfl rfl rfl ?_
                    refine sxo_move rfl rfl rfl ?_
                    refine sxo_len rfl Try.underlying23 rfl rfl ?_
                    refine sxo_lss rfl rfl rfl rfl ?_
                    refine sxo_nil ?_
                    refine sxq_next ?_
                    refine sxc_if rfl (fun h2176 => ?_) (fun h2176 => ?_)
                    · refine sxc_skip ?_
                      refine sxq_next ?_
                      refine sxc_join (fun ((x2165, (a2163, c2164)) : (List Int × (Option Addr × Nat))) => [(0, .slice a2 x1.length c3), (1, .int .i64 x4), (4, .pointer (some ⟨g5, 0, none⟩)), (7, .int .i64 x8), (8, .int .i64 x18), (10, .slice a98 x100.length c99), (11, .slice a2163 x2165.length c2164), (13, .int .i64 x1490), (14, .int .i64 x2125)]) (fun ((x2165, (a2163, c2164)) : (List Int × (Option Addr × Nat))) => [⟨g5, 51, [.int .i64 0, .int .i64 0, .int .i64 0, .int .i64 0, .slice none 0 0, .int .i64 0, .slice none 0 0]⟩]) (fun ((x2165, (a2163, c2164)) : (List Int × (Option Addr × Nat))) => [Ro (eI .i64) 3 1 (.slice a98 x100.length c99) x100, Ro (eI .i64) 3 1 (.slice a2163 x2165.length c2164) x2165]) (fun ((x2165, (a2163, c2164)) : (List Int × (Option Addr × Nat))) => [Sl (eI .i64) 1 (.slice a2 x1.length c3) x1]) (fun ((x2165, _) : (List Int × (Option Addr × Nat))) => M_R_FanoWrite_j123 F (M_R_FanoWrite_l122 F (M_R_FanoWrite_l104 F x1 x4 x8 x18 x100 k1834) x1 x18 x1490 k2151) x2125 x2165) ?_ ?_
                      · refine sxc_block ?_
                        refine sxc_seq ?_
                        refine sxc_region ?_
                        refine sxo_move rfl rfl rfl ?_
                        refine sxo_move rfl rfl rfl ?_
                        refine sxo_indexF (j := 0) (eI_ok .i64) (by decide) rfl Try.underlying23 tf3 rfl rfl rfl rfl (fun x2166 e2166 b2167 o2168 => ?_)
                        refine sxo_loadF (j := 0) rfl rfl tf3 rfl rfl (fun _ => rfl) rfl rfl ?_
                        refine sxo_move rfl rfl rfl ?_
                        refine sxo_chk (fun h2169 => ?_)
                        refine sxo_quo rfl rfl rfl rfl h2169 ?_
                        refine sxo_move rfl rfl rfl ?_
                        refine sxo_eql rfl rfl rfl rfl ?_
                        refine sxo_nil ?_
                        refine sxq_next ?_
                        refine sxc_if rfl (fun h2175 => ?_) (fun h2175 => ?_)
                        · refine sxc_region ?_
                          refine sxo_move rfl rfl rfl ?_
                          refine sxo_slit (vs := [.int .i64 1]) (ys := ([1] : List Int)) (eI_ok .i64) (by decide) rfl Try.underlying23 tf3 rfl rfl rfl rfl rfl (by decide) (fun a2170 c2171 => ?_)
                          refine sxo_app 2 (eI_ok .i64) rfl Try.underlying23 tf3 rfl rfl rfl rfl rfl (.inl ⟨0, _, rfl⟩) rfl rfl (fun x2172 e2172 a2173 c2174 => ?_)
                          refine sxo_assign rfl rfl rfl ?_
                          refine sxo_nil ?_
                          refine sxq_blkN ?_
                          exact sxq_meetP (x2172, (a2173, c2174)) (lk_cons rfl (lk_cons rfl (lk_cons rfl (lk_cons rfl (lk_cons rfl (lk_cons rfl (lk_cons rfl (lk_cons rfl (lk_cons rfl lk_nil))))))))) (.cons 0 rfl .nil) (.cons 2 rfl (.cons 0 rfl .nil)) (fk_cons 1 rfl fk_nil)
                        · refine sxc_skip ?_
                          refine sxq_blkN ?_
                          exact sxq_meetP (x2124, (a2122, c2123)) (lk_cons rfl (lk_cons rfl (lk_cons rfl (lk_cons rfl (lk_cons rfl (lk_cons rfl (lk_cons rfl (lk_cons rfl (lk_cons rfl lk_nil))))))))) (.cons 0 rfl .nil) (.cons 0 rfl (.cons 0 rfl .nil)) (fk_cons 1 rfl fk_nil)
                      · rintro ⟨x2165, ⟨a2163, c2164⟩⟩
                        try dsimp only
                        refine sxc_region ?_
                        refine sxo_move rfl rfl rfl ?_
                        refine sxo_add rfl rfl rfl rfl ?_
                        refine sxo_assign rfl rfl rfl ?_
                        refine sxo_nil ?_
                        exact sxq_againP ((x2165, iadd .i64 x2125 1), (a2163, c2164)) (lk_cons rfl (lk_cons rfl (lk_cons rfl (lk_cons rfl (lk_cons rfl (lk_cons rfl (lk_cons rfl (lk_cons rfl (lk_cons rfl lk_nil))))))))) (.cons 0 rfl .nil) (.cons 0 rfl (.cons 0 rfl .nil)) (fk_cons 0 rfl fk_nil)
                    · refine sxc_exit ?_
                      refine sxq_thenX ?_
                      refine sxq_thenX ?_
                      refine sxq_blkX ?_
                      exact sxq_meetP (x2124, (a2122, c2123)) (lk_cons rfl (lk_cons rfl (lk_cons rfl (lk_cons rfl (lk_cons rfl (lk_cons rfl (lk_cons rfl (lk_cons rfl lk_nil)))))))) (.cons 0 rfl .nil) (.cons 0 rfl (.cons 0 rfl .nil)) (fk_cons 0 rfl fk_nil)
                  · rintro ⟨x2091, ⟨a2089, c2090⟩⟩
                    try dsimp only
                    refine sxc_region ?_
                    refine sxo_move rfl rfl rfl ?_
                    refine sxo_slit (vs := [.int .i64 0]) (ys := ([0] : List Int)) (eI_ok .i64) (by decide) rfl Try.underlying23 tf3 rfl rfl rfl rfl rfl (by decide) (fun a2092 c2093 => ?_)
                    refine sxo_app 2 (eI_ok .i64) rfl Try.underlying23 tf3 rfl rfl rfl rfl rfl (.inl ⟨0, _, rfl⟩) rfl rfl (fun x2094 e2094 a2095 c2096 => ?_)
                    refine sxo_assign rfl rfl rfl ?_
                    refine sxo_nil ?_
                    refine sxq_blkN ?_
                    exact sxq_meetP (x2094, (a2095, c2096)) (lk_cons rfl (lk_cons rfl (lk_cons rfl (lk_cons rfl (lk_cons rfl (lk_cons rfl (lk_cons rfl (lk_cons rfl lk_nil)))))))) (.cons 0 rfl .nil) (.cons 2 rfl (.cons 0 rfl .nil)) (fk_cons 0 rfl fk_nil)
                · rintro ⟨x2008, ⟨a2006, c2007⟩⟩
                  try dsimp only
                  refine sxc_region ?_
                  refine sxo_move rfl rfl rfl ?_
                  refine sxo_add rfl rfl rfl rfl ?_
                  refine sxo_assign rfl rfl rfl ?_
                  refine sxo_nil ?_
                  exact sxq_againP ((x2008, iadd .i64 x1490 1), (a2006, c2007)) (lk_cons rfl (lk_cons rfl (lk_cons rfl (lk_cons rfl (lk_cons rfl (lk_cons rfl (lk_cons rfl (lk_cons rfl lk_nil)))))))) (.cons 0 rfl .nil) (.cons 0 rfl (.cons 0 rfl .nil)) (fk_cons 0 rfl fk_nil)
              · refine sxc_exit ?_
                refine sxq_thenX ?_
                refine sxq_thenX ?_
                refine sxq_blkX ?_
                exact sxq_meetP (x1489, (a1487, c1488)) (lk_cons rfl (lk_cons rfl (lk_cons rfl (lk_cons rfl (lk_cons rfl (lk_cons rfl lk_nil)))))) (.cons 0 rfl .nil) (.cons 0 rfl (.cons 0 rfl .nil)) (fk_cons 0 rfl fk_nil)
            · rintro ⟨x1137, ⟨a1135, c1136⟩⟩
              try dsimp only
              refine sxc_seq ?_
              refine sxc_region ?_
              refine sxo_move rfl rfl rfl ?_
              refine sxo_len rfl Try.underlying23 rfl rfl ?_
              refine sxo_move rfl rfl rfl ?_
              refine sxo_move rfl rfl rfl ?_
              refine sxo_move rfl rfl rfl ?_
              refine sxo_call ent22 rfl rfl rfl (fun x1138 e1138 => C_R_PackBits F x100 a98 c99 x1138 e1138) (.consR 0 (Ro (eI .i64) 3 1 (.slice a98 x100.length c99) x100) rfl .nil) (fun x1138 e1138 => ?_)
              rintro ⟨a1139, c1140⟩
              refine sxo_move rfl rfl rfl ?_
              refine sxo_call ent22 rfl rfl rfl (fun x1141 e1141 => C_R_PackBits F x1137 a1135 c1136 x1141 e1141) (.consR 2 (Ro (eI .i64) 3 1 (.slice a1135 x1137.length c1136) x1137) rfl .nil) (fun x1141 e1141 => ?_)
              rintro ⟨a1142, c1143⟩
              refine sxo_build (cells := [.int .i64 (x1.length : Int), .int .i64 x4, .int .i64 x8, .int .i64 x1138.1, .slice a1139 x1138.2.length c1140, .int .i64 x1141.1, .slice a1142 x1141.2.length c1143]) rfl st51 rfl (by kernel_rfl) rfl ?_
              refine sxo_storeB (i := 0) rfl rfl rfl tf51 rfl rfl rfl rfl rfl ?_
              refine sxo_assign rfl rfl rfl ?_
              refine sxo_nil ?_
              refine sxq_next ?_
              refine sxc_ret ?_
              exact sxq_doneP ((a1139, c1140), (a1142, c1143)) (.inl rfl) (resL (rs := [.cell 4 51, .tmp 5]) rfl (.cell (i := 0) rfl tf51 rfl rfl (by simp) rfl (.tmp rfl ResOk.nil)) rfl) (fun h => by subst h; rfl) (fun h => by subst h; exact (.cons 1 rfl (.cons 0 rfl .nil)))

theorem C_R_BitList (F : Nat) (x1 : Int) (x2 : List Int) (a3 : Option Addr) (c4 : Nat) (r : List Int) (hm : M_R_BitList F x1 x2 = some r) :
    Pure Try.prog 27 [.agg #[.int .i64 x1, .slice a3 x2.length c4]] [Sl (eI .u8) 1 (.slice a3 x2.length c4) x2] (Option Addr × Nat) (fun g => .slice g.1 r.length g.2) (fun g => [Ro (eI .i64) 3 1 (.slice g.1 r.length g.2) r]) (fun _ => []) := by
  refine pure_of Try.func27 rfl Try.ntmps27 rfl hm (fun w => ?_)
  refine sxc_env (l' := [(0, .agg #[.int .i64 x1, .slice a3 x2.length c4])]) rfl ?_
  refine sxc_seq ?_
  refine sxc_region ?_
  refine sxo_box rfl rfl rfl (fun g5 => ?_)
  refine sxo_assign rfl rfl rfl ?_
  refine sxo_nil ?_
  refine sxq_next ?_
  refine sxc_seq ?_
  refine sxc_region ?_
  refine sxo_assign rfl rfl rfl ?_
  refine sxo_nil ?_
  refine sxq_next ?_
  refine sxc_join (fun ((x190, (a188, c189)) : (List Int × (Option Addr × Nat))) => [(3, .slice a188 x190.length c189)]) (fun ((x190, (a188, c189)) : (List Int × (Option Addr × Nat))) => []) (fun ((x190, (a188, c189)) : (List Int × (Option Addr × Nat))) => [Ro (eI .i64) 3 1 (.slice a188 x190.length c189) x190]) (fun ((x190, (a188, c189)) : (List Int × (Option Addr × Nat))) => []) (fun ((x190, _) : (List Int × (Option Addr × Nat))) => M_R_BitList_j23 F x190) ?_ ?_
  · refine sxc_seq ?_
    refine sxc_region ?_
    refine sxo_assign rfl rfl rfl ?_
    refine sxo_nil ?_
    refine sxq_next ?_
    refine sxc_block ?_
    refine sxc_nilrow Int (eI .i64) 3 1 ?_
    refine sxc_loopP (fun (((x252, x253), (a250, c251)) : ((List Int × Int) × (Option Addr × Nat))) => [(1, .pointer (some ⟨g5, 0, none⟩)), (3, .slice a250 x252.length c251), (4, .int .i64 x253)]) (fun (((x252, x253), (a250, c251)) : ((List Int × Int) × (Option Addr × Nat))) => [⟨g5, 26, [.int .i64 x1, .slice a3 x2.length c4]⟩]) (fun (((x252, x253), (a250, c251)) : ((List Int × Int) × (Option Addr × Nat))) => [Ro (eI .i64) 3 1 (.slice a250 x252.length c251) x252]) (fun (((x252, x253), (a250, c251)) : ((List Int × Int) × (Option Addr × Nat))) => [Sl (eI .u8) 1 (.slice a3 x2.length c4) x2]) (fun k (s : ((List Int × Int) × (Option Addr × Nat))) => M_R_BitList_l38 F x1 x2 k s.1) ((([] : List Int), 0), (none, 0)) F (lk_cons rfl (lk_cons rfl (lk_cons rfl lk_nil))) (.cons 0 rfl .nil) (.cons 0 rfl .nil) (fk_cons 0 rfl fk_nil) (fun _ => rfl) ?_
    intro k313
    rintro ⟨⟨x252, x253⟩, ⟨a250, c251⟩⟩
    try dsimp only
    refine sxc_meq (m' := M_R_BitList_b38 F x1 x2 (M_R_BitList_l38 F x1 x2 k313) x252 x253) rfl ?_
    refine sxc_seq ?_
    refine sxc_seq ?_
    refine sxc_region ?_
    refine sxo_move rfl rfl rfl ?_
    refine sxo_fieldAddr rfl rfl ff26_0 rfl ?_
    refine sxo_loadB (i := 0) rfl rfl tf3 rfl rfl (fun _ => rfl) rfl rfl ?_
    refine sxo_lss rfl rfl rfl rfl ?_
    refine sxo_nil ?_
    refine sxq_next ?_
    refine sxc_if rfl (fun h372 => ?_) (fun h372 => ?_)
    · refine sxc_skip ?_
      refine sxq_next ?_
      refine sxc_join (fun ((x344, (a342, c343)) : (List Int × (Option Addr × Nat))) => [(1, .pointer (some ⟨g5, 0, none⟩)), (3, .slice a342 x344.length c343), (4, .int .i64 x253)]) (fun ((x344, (a342, c343)) : (List Int × (Option Addr × Nat))) => [⟨g5, 26, [.int .i64 x1, .slice a3 x2.length c4]⟩]) (fun ((x344, (a342, c343)) : (List Int × (Option Addr × Nat))) => [Ro (eI .i64) 3 1 (.slice a342 x344.length c343) x344]) (fun ((x344, (a342, c343)) : (List Int × (Option Addr × Nat))) => [Sl (eI .u8) 1 (.slice a3 x2.length c4) x2]) (fun ((x344, _) : (List Int × (Option Addr × Nat))) => M_R_BitList_j42 F (M_R_BitList_l38 F x1 x2 k313) x253 x344) ?_ ?_
      · refine sxc_block ?_
        refine sxc_seq ?_
        refine sxc_region ?_
        refine sxo_fieldAddr rfl rfl ff26_1 rfl ?_
        refine sxo_loadB (i := 0) rfl rfl tf24 rfl rfl (fun _ => rfl) rfl rfl ?_
        refine sxo_move rfl rfl rfl ?_
        refine sxo_quo rfl rfl rfl rfl rfl ?_
        refine sxo_indexF (j := 0) (eI_ok .u8) (by decide) rfl Try.underlying24 tf5 rfl rfl rfl rfl (fun x345 e345 b346 o347 => ?_)
        refine sxo_loadF (j := 0) rfl rfl tf5 rfl rfl (fun _ => rfl) rfl rfl ?_
        refine sxo_conv rfl Try.underlying5 Try.underlying3 rfl rfl ?_
        refine sxo_assign rfl rfl rfl ?_
        refine sxo_nil ?_
        refine sxq_next ?_
        refine sxc_join (fun ((x357, _) : (Int × Unit)) => [(1, .pointer (some ⟨g5, 0, none⟩)), (3, .slice a250 x252.length c251), (4, .int .i64 x253), (5, .int .i64 x357)]) (fun ((x357, _) : (Int × Unit)) => [⟨g5, 26, [.int .i64 x1, .slice a3 x2.length c4]⟩]) (fun ((x357, _) : (Int × Unit)) => [Ro (eI .i64) 3 1 (.slice a250 x252.length c251) x252]) (fun ((x357, _) : (Int × Unit)) => [Sl (eI .u8) 1 (.slice a3 x2.length c4) x2]) (fun ((x357, _) : (Int × Unit)) => M_R_BitList_j44 F (M_R_BitList_l38 F x1 x2 k313) x252 x253 x357) ?_ ?_
        · refine sxc_seq ?_
          refine sxc_region ?_
          refine sxo_assign rfl rfl rfl ?_
          refine sxo_nil ?_
          refine sxq_next ?_
          refine sxc_block ?_
          refine sxc_loopP (fun (((x365, x366), _) : ((Int × Int) × Unit)) => [(1, .pointer (some ⟨g5, 0, none⟩)), (3, .slice a250 x252.length c251), (4, .int .i64 x253), (5, .int .i64 x365), (6, .int .i64 x366)]) (fun (((x365, x366), _) : ((Int × Int) × Unit)) => [⟨g5, 26, [.int .i64 x1, .slice a3 x2.length c4]⟩]) (fun (((x365, x366), _) : ((Int × Int) × Unit)) => [Ro (eI .i64) 3 1 (.slice a250 x252.length c251) x252]) (fun (((x365, x366), _) : ((Int × Int) × Unit)) => [Sl (eI .u8) 1 (.slice a3 x2.length c4) x2]) (fun k (s : ((Int × Int) × Unit)) => M_R_BitList_l45 F (M_R_BitList_l38 F x1 x2 k313) x252 x253 k s.1) ((iconv .i64 x345, 0), ()) F (lk_cons rfl (lk_cons rfl (lk_cons rfl (lk_cons rfl (lk_cons rfl lk_nil))))) (.cons 0 rfl .nil) (.cons 0 rfl .nil) (fk_cons 1 rfl fk_nil) (fun _ => rfl) ?_
          intro k369
          rintro ⟨⟨x365, x366⟩, _⟩
          try dsimp only
          refine sxc_meq (m' := M_R_BitList_b45 F (M_R_BitList_l38 F x1 x2 k313) x252 x253 (M_R_BitList_l45 F (M_R_BitList_l38 F x1 x2 k313) x252 x253 k369) x365 x366) rfl ?_
          refine sxc_seq ?_
          refine sxc_seq ?_
          refine sxc_region ?_
          refine sxo_move rfl rfl rfl ?_
          refine sxo_move rfl rfl rfl ?_
          refine sxo_rem rfl rfl rfl rfl rfl ?_
          refine sxo_sub rfl rfl rfl rfl ?_
          refine sxo_lss rfl rfl rfl rfl ?_
          refine sxo_nil ?_
          refine sxq_next ?_
          refine sxc_if rfl (fun h371 => ?_) (fun h371 => ?_)
          · refine sxc_skip ?_
            refine sxq_next ?_
            refine sxc_seq ?_
            refine sxc_block ?_
            refine sxc_region ?_
            refine sxo_move rfl rfl rfl ?_
            refine sxo_quo rfl rfl rfl rfl rfl ?_
            refine sxo_assign rfl rfl rfl ?_
            refine sxo_nil ?_
            refine sxq_blkN ?_
            refine sxq_next ?_
            refine sxc_region ?_
            refine sxo_move rfl rfl rfl ?_
            refine sxo_add rfl rfl rfl rfl ?_
            refine sxo_assign rfl rfl rfl ?_
            refine sxo_nil ?_
            exact sxq_againP ((iquo .i64 x365 2, iadd .i64 x366 1), ()) (lk_cons rfl (lk_cons rfl (lk_cons rfl (lk_cons rfl (lk_cons rfl lk_nil))))) (.cons 0 rfl .nil) (.cons 0 rfl .nil) (fk_cons 0 rfl fk_nil)
          · refine sxc_exit ?_
            refine sxq_thenX ?_
            refine sxq_thenX ?_
            refine sxq_blkX ?_
            exact sxq_meetP (x365, ()) (lk_cons rfl (lk_cons rfl (lk_cons rfl (lk_cons rfl lk_nil)))) (.cons 0 rfl .nil) (.cons 0 rfl .nil) (fk_cons 0 rfl fk_nil)
        · rintro ⟨x357, _⟩
          try dsimp only
          refine sxc_region ?_
          refine sxo_move rfl rfl rfl ?_
          refine sxo_move rfl rfl rfl ?_
          refine sxo_rem rfl rfl rfl rfl rfl ?_
          refine sxo_slit (vs := [.int .i64 (irem x357 2)]) (ys := ([irem x357 2] : List Int)) (eI_ok .i64) (by decide) rfl Try.underlying23 tf3 rfl rfl rfl rfl rfl (by decide) (fun a358 c359 => ?_)
          refine sxo_app 1 (eI_ok .i64) rfl Try.underlying23 tf3 rfl rfl rfl rfl rfl (.inl ⟨0, _, rfl⟩) rfl rfl (fun x360 e360 a361 c362 => ?_)
          refine sxo_assign rfl rfl rfl ?_
          refine sxo_nil ?_
          refine sxq_blkN ?_
          exact sxq_meetP (x360, (a361, c362)) (lk_cons rfl (lk_cons rfl (lk_cons rfl lk_nil))) (.cons 0 rfl .nil) (.cons 0 rfl .nil) (fk_cons 0 rfl fk_nil)
      · rintro ⟨x344, ⟨a342, c343⟩⟩
        try dsimp only
        refine sxc_region ?_
        refine sxo_move rfl rfl rfl ?_
        refine sxo_add rfl rfl rfl rfl ?_
        refine sxo_assign rfl rfl rfl ?_
        refine sxo_nil ?_
        exact sxq_againP ((x344, iadd .i64 x253 1), (a342, c343)) (lk_cons rfl (lk_cons rfl (lk_cons rfl lk_nil))) (.cons 0 rfl .nil) (.cons 0 rfl .nil) (fk_cons 0 rfl fk_nil)
    · refine sxc_exit ?_
      refine sxq_thenX ?_
      refine sxq_thenX ?_
      refine sxq_blkX ?_
      exact sxq_meetP (x252, (a250, c251)) (lk_cons rfl lk_nil) .nil (.cons 0 rfl .nil) fk_nil
  · rintro ⟨x190, ⟨a188, c189⟩⟩
    try dsimp only
    refine sxc_seq ?_
    refine sxc_region ?_
    refine sxo_move rfl rfl rfl ?_
    refine sxo_assign rfl rfl rfl ?_
    refine sxo_nil ?_
    refine sxq_next ?_
    refine sxc_ret ?_
    exact sxq_doneP (a188, c189) (.inl rfl) (res1 rfl rfl) (fun h => by subst h; rfl) (fun h => by subst h; exact (.cons 0 rfl .nil))

theorem C_R_SameBytes (F : Nat) (x1 : List Int) (a2 : Option Addr) (c3 : Nat) (x4 : List Int) (a5 : Option Addr) (c6 : Nat) (r : Bool) (hm : M_R_SameBytes F x1 x4 = some r) :
    Pure Try.prog 54 [.slice a2 x1.length c3, .slice a5 x4.length c6] [Sl (eI .u8) 1 (.slice a2 x1.length c3) x1, Sl (eI .u8) 1 (.slice a5 x4.length c6) x4] Unit (fun _ => .bool r) (fun _ => []) (fun _ => []) := by
  refine pure_of Try.func54 rfl Try.ntmps54 rfl hm (fun w => ?_)
  refine sxc_env (l' := [(0, .slice a2 x1.length c3), (1, .slice a5 x4.length c6)]) rfl ?_
  refine sxc_seq ?_
  refine sxc_region ?_
  refine sxo_assign rfl rfl rfl ?_
  refine sxo_nil ?_
  refine sxq_next ?_
  refine sxc_seq ?_
  refine sxc_seq ?_
  refine sxc_region ?_
  refine sxo_move rfl rfl rfl ?_
  refine sxo_len rfl Try.underlying24 rfl rfl ?_
  refine sxo_move rfl rfl rfl ?_
  refine sxo_len rfl Try.underlying24 rfl rfl ?_
  refine sxo_neq rfl rfl rfl rfl ?_
  refine sxo_nil ?_
  refine sxq_next ?_
  refine sxc_if rfl (fun h228 => ?_) (fun h228 => ?_)
  · refine sxc_seq ?_
    refine sxc_region ?_
    refine sxo_assign rfl rfl rfl ?_
    refine sxo_nil ?_
    refine sxq_next ?_
    refine sxc_ret ?_
    refine sxq_thenR ?_
    exact sxq_doneP () (.inl rfl) (res1 rfl rfl) (fun h => by subst h; rfl) (fun h => by subst h; exact .nil)
  · refine sxc_skip ?_
    refine sxq_next ?_
    refine sxc_join (fun ((_, _) : (Unit × Unit)) => []) (fun ((_, _) : (Unit × Unit)) => []) (fun ((_, _) : (Unit × Unit)) => []) (fun ((_, _) : (Unit × Unit)) => []) (fun ((_, _) : (Unit × Unit)) => M_R_SameBytes_j2 F) ?_ ?_
    · refine sxc_seq ?_
      refine sxc_region ?_
      refine sxo_assign rfl rfl rfl ?_
      refine sxo_nil ?_
      refine sxq_next ?_
      refine sxc_block ?_
      refine sxc_loopP (fun ((x154, _) : (Int × Unit)) => [(0, .slice a2 x1.length c3), (1, .slice a5 x4.length c6), (5, .int .i64 x154)]) (fun ((x154, _) : (Int × Unit)) => []) (fun ((x154, _) : (Int × Unit)) => []) (fun ((x154, _) : (Int × Unit)) => [Sl (eI .u8) 1 (.slice a2 x1.length c3) x1, Sl (eI .u8) 1 (.slice a5 x4.length c6) x4]) (fun k (s : (Int × Unit)) => M_R_SameBytes_l3 F x1 x4 k s.1) (0, ()) F (lk_cons rfl (lk_cons rfl (lk_cons rfl lk_nil))) .nil .nil (fk_cons 0 rfl (fk_cons 1 rfl fk_nil)) (fun _ => rfl) ?_
      intro k191
      rintro ⟨x154, _⟩
      try dsimp only
      refine sxc_meq (m' := M_R_SameBytes_b3 F x1 x4 (M_R_SameBytes_l3 F x1 x4 k191) x154) rfl ?_
      refine sxc_seq ?_
      refine sxc_seq ?_
      refine sxc_region ?_
      refine sxo_move rfl rfl rfl ?_
      refine sxo_move rfl rfl rfl ?_
      refine sxo_len rfl Try.underlying24 rfl rfl ?_
      refine sxo_lss rfl rfl rfl rfl ?_
      refine sxo_nil ?_
      refine sxq_next ?_
      refine sxc_if rfl (fun h227 => ?_) (fun h227 => ?_)
      · refine sxc_skip ?_
        refine sxq_next ?_
        refine sxc_seq ?_
        refine sxc_block ?_
        refine sxc_seq ?_
        refine sxc_idxF (j := 0) (eI_ok .u8) (by decide) rfl (fun x218 e218 b219 o220 h221 => ?_)
        replace h221 : a2 = some ⟨b219, o220, none⟩ := h221
        refine sxc_idxF (j := 2) (eI_ok .u8) (by decide) rfl (fun x222 e222 b223 o224 h225 => ?_)
        replace h225 : a5 = some ⟨b223, o224, none⟩ := h225
        refine sxb_draw mixed [] [] [CellsAt b223 (o224 + x154.toNat * 1) ((eI .u8) x222), CellsAt b219 (o220 + x154.toNat * 1) ((eI .u8) x218), Sl (eI .u8) 1 (.slice a2 x1.length c3) x1, Sl (eI .u8) 1 (.slice a5 x4.length c6) x4] .nil (gk_F 0 rfl (gk_F 1 rfl (gk_F 2 rfl (gk_F 3 rfl gk_nil)))) 9 rfl ?_
        refine sxb_takeP 0 (.slice a2 x1.length c3) rfl rfl rfl rfl (by kernel_rfl) (by kernel_rfl) (by kernel_rfl) (by kernel_rfl) (by kernel_rfl) rfl (show _ = #[true, false, false, false, false, false, false, false, false] from rfl) (yv_pv rfl) ?_
        refine sxb_takeP 1 (.int .i64 x154) rfl rfl rfl rfl (by kernel_rfl) (by kernel_rfl) (by kernel_rfl) (by kernel_rfl) (by kernel_rfl) rfl (show _ = #[true, true, false, false, false, false, false, false, false] from rfl) (yv_pv rfl) ?_
        refine sxb_again (d := 17) (v := .slice (some ⟨b219, o220, none⟩) x1.length c3) rfl (by rw [h221]) ?_
        refine sxb_takeP 2 (.pointer (some ⟨b219, (o220 + x154.toNat * 1), none⟩)) rfl rfl rfl rfl (by kernel_rfl) (by kernel_rfl) (by kernel_rfl) (by kernel_rfl) (by kernel_rfl) rfl (show _ = #[true, true, true, false, false, false, false, false, false] from rfl) (yv_idx Try.underlying24 tf5 rfl rfl (idx_get e218).1 (idx_lt e218)) ?_
        refine sxb_again (d := 17) (v := .slice a2 x1.length c3) rfl (by rw [h221]) ?_
        refine sxb_take 3 (.int .u8 x218) [] rfl rfl rfl rfl (by kernel_rfl) (by kernel_rfl) (by kernel_rfl) (by kernel_rfl) (by kernel_rfl) (by kernel_rfl) rfl (show _ = #[true, true, true, true, false, false, false, false, false] from rfl) (yv_loadF (j := 1) rfl tf5 rfl rfl (fun _ => rfl) rfl) ?_
        refine sxb_takeP 4 (.slice a5 x4.length c6) rfl rfl rfl rfl (by kernel_rfl) (by kernel_rfl) (by kernel_rfl) (by kernel_rfl) (by kernel_rfl) rfl (show _ = #[true, true, true, true, true, false, false, false, false] from rfl) (yv_pv rfl) ?_
        refine sxb_takeP 5 (.int .i64 x154) rfl rfl rfl rfl (by kernel_rfl) (by kernel_rfl) (by kernel_rfl) (by kernel_rfl) (by kernel_rfl) rfl (show _ = #[true, true, true, true, true, true, false, false, false] from rfl) (yv_pv rfl) ?_
        refine sxb_again (d := 21) (v := .slice (some ⟨b223, o224, none⟩) x4.length c6) rfl (by rw [h225]) ?_
        refine sxb_takeP 6 (.pointer (some ⟨b223, (o224 + x154.toNat * 1), none⟩)) rfl rfl rfl rfl (by kernel_rfl) (by kernel_rfl) (by kernel_rfl) (by kernel_rfl) (by kernel_rfl) rfl (show _ = #[true, true, true, true, true, true, true, false, false] from rfl) (yv_idx Try.underlying24 tf5 rfl rfl (idx_get e222).1 (idx_lt e222)) ?_
        refine sxb_again (d := 21) (v := .slice a5 x4.length c6) rfl (by rw [h225]) ?_
        refine sxb_take 7 (.int .u8 x222) [] rfl rfl rfl rfl (by kernel_rfl) (by kernel_rfl) (by kernel_rfl) (by kernel_rfl) (by kernel_rfl) (by kernel_rfl) rfl (show _ = #[true, true, true, true, true, true, true, true, false] from rfl) (yv_loadF (j := 0) rfl tf5 rfl rfl (fun _ => rfl) rfl) ?_
        refine sxb_takeP 8 (.bool ((x218 : Int) != x222)) rfl rfl rfl rfl (by kernel_rfl) (by kernel_rfl) (by kernel_rfl) (by kernel_rfl) (by kernel_rfl) rfl (show _ = #[true, true, true, true, true, true, true, true, true] from rfl) (yv_pv rfl) ?_
        refine sxb_done (by kernel_rfl) ?_
        refine sxq_np ?_ (by intro c h; cases h)
        refine sxq_next ?_
        refine sxc_if rfl (fun h226 => ?_) (fun h226 => ?_)
        · refine sxc_seq ?_
          refine sxc_region ?_
          refine sxo_assign rfl rfl rfl ?_
          refine sxo_nil ?_
          refine sxq_next ?_
          refine sxc_ret ?_
          refine sxq_blkR ?_
          refine sxq_thenR ?_
          refine sxq_thenR ?_
          refine sxq_blkR ?_
          refine sxq_thenR ?_
          exact sxq_doneP () (.inl rfl) (res1 rfl rfl) (fun h => by subst h; rfl) (fun h => by subst h; exact .nil)
        · refine sxc_skip ?_
          refine sxq_blkN ?_
          refine sxq_next ?_
          refine sxc_region ?_
          refine sxo_move rfl rfl rfl ?_
          refine sxo_add rfl rfl rfl rfl ?_
          refine sxo_assign rfl rfl rfl ?_
          refine sxo_nil ?_
          exact sxq_againP (iadd .i64 x154 1, ()) (lk_cons rfl (lk_cons rfl (lk_cons rfl lk_nil))) .nil .nil (fk_cons 2 rfl (fk_cons 3 rfl fk_nil))
      · refine sxc_exit ?_
        refine sxq_thenX ?_
        refine sxq_thenX ?_
        refine sxq_blkX ?_
        exact sxq_meetP ((), ()) lk_nil .nil .nil fk_nil
    · rintro ⟨_, _⟩
      try dsimp only
      refine sxc_seq ?_
      refine sxc_region ?_
      refine sxo_assign rfl rfl rfl ?_
      refine sxo_nil ?_
      refine sxq_next ?_
      refine sxc_ret ?_
      exact sxq_doneP () (.inl rfl) (res1 rfl rfl) (fun h => by subst h; rfl) (fun h => by subst h; exact .nil)

theorem C_R_SameBits (F : Nat) (x1 : Int) (x2 : List Int) (a3 : Option Addr) (c4 : Nat) (x5 : Int) (x6 : List Int) (a7 : Option Addr) (c8 : Nat) (r : Bool) (hm : M_R_SameBits F x1 x2 x5 x6 = some r) :
    Pure Try.prog 30 [.agg #[.int .i64 x1, .slice a3 x2.length c4], .agg #[.int .i64 x5, .slice a7 x6.length c8]] [Sl (eI .u8) 1 (.slice a3 x2.length c4) x2, Sl (eI .u8) 1 (.slice a7 x6.length c8) x6] Unit (fun _ => .bool r) (fun _ => []) (fun _ => []) := by
  refine pure_of Try.func30 rfl Try.ntmps30 rfl hm (fun w => ?_)
  refine sxc_env (l' := [(0, .agg #[.int .i64 x1, .slice a3 x2.length c4]), (1, .agg #[.int .i64 x5, .slice a7 x6.length c8])]) rfl ?_
  refine sxc_seq ?_
  refine sxc_region ?_
  refine sxo_box rfl rfl rfl (fun g9 => ?_)
  refine sxo_box rfl rfl rfl (fun g10 => ?_)
  refine sxo_assign rfl rfl rfl ?_
  refine sxo_nil ?_
  refine sxq_next ?_
  refine sxc_seq ?_
  refine sxc_region ?_
  refine sxo_fieldAddr rfl rfl ff26_0 rfl ?_
  refine sxo_loadB (i := 1) rfl rfl tf3 rfl rfl (fun _ => rfl) rfl rfl ?_
  refine sxo_fieldAddr rfl rfl ff26_0 rfl ?_
  refine sxo_loadB (i := 0) rfl rfl tf3 rfl rfl (fun _ => rfl) rfl rfl ?_
  refine sxo_eql rfl rfl rfl rfl ?_
  refine sxo_move rfl rfl rfl ?_
  refine sxo_join 6 (fun ((x13, _) : (Bool × Unit)) => [(16, .bool x13)]) (fun ((x13, _) : (Bool × Unit)) => []) (fun ((x13, _) : (Bool × Unit)) => []) (fun ((x13, _) : (Bool × Unit)) => []) (fun ((x13, _) : (Bool × Unit)) => M_R_SameBits_j1 F x13) ?_ ?_
  · refine sxo_take (os := _) rfl ?_
    refine sxo_if (fun h11 => ?_) (fun h11 => ?_)
    · refine sxo_isT (k := 10) rfl h11 ?_
      refine sxo_fieldAddr rfl rfl ff26_1 rfl ?_
      refine sxo_loadB (i := 1) rfl rfl tf24 rfl rfl (fun _ => rfl) rfl rfl ?_
      refine sxo_fieldAddr rfl rfl ff26_1 rfl ?_
      refine sxo_loadB (i := 0) rfl rfl tf24 rfl rfl (fun _ => rfl) rfl rfl ?_
      refine sxo_call ent54 rfl rfl rfl (fun x14 e14 => C_R_SameBytes F x2 a3 c4 x6 a7 c8 x14 e14) (.consF 0 rfl (.consF 1 rfl .nil)) (fun x14 e14 => ?_)
      intro _
      refine sxo_pick (b := true) rfl rfl rfl rfl ?_
      refine sxo_nil ?_
      exact sxq_meetP (x14, ()) (lk_cons rfl lk_nil) .nil .nil fk_nil
    · refine sxo_isF (k := 10) rfl h11 ?_
      refine sxo_skip rfl rfl rfl ?_
      refine sxo_skip rfl rfl rfl ?_
      refine sxo_skip rfl rfl rfl ?_
      refine sxo_skip rfl rfl rfl ?_
      refine sxo_skip rfl rfl rfl ?_
      refine sxo_pick (b := false) rfl rfl rfl rfl ?_
      refine sxo_nil ?_
      exact sxq_meetP (false, ()) (lk_cons rfl lk_nil) .nil .nil fk_nil
  · rintro ⟨x13, _⟩
    try dsimp only
    refine sxo_take (os := _) rfl ?_
    refine sxo_assign rfl rfl rfl ?_
    refine sxo_nil ?_
    refine sxq_next ?_
    refine sxc_ret ?_
    exact sxq_doneP () (.inl rfl) (res1 rfl rfl) (fun h => by subst h; rfl) (fun h => by subst h; exact .nil)

theorem C_R_SameFano (F : Nat) (x1 : Int) (x2 : Int) (x3 : Int) (x4 : Int) (x5 : List Int) (a6 : Option Addr) (c7 : Nat) (x8 : Int) (x9 : List Int) (a10 : Option Addr) (c11 : Nat) (x12 : Int) (x13 : Int) (x14 : Int) (x15 : Int) (x16 : List Int) (a17 : Option Addr) (c18 : Nat) (x19 : Int) (x20 : List Int) (a21 : Option Addr) (c22 : Nat) (r : Bool) (hm : M_R_SameFano F x1 x2 x3 x4 x5 x8 x9 x12 x13 x14 x15 x16 x19 x20 = some r) :
    Pure Try.prog 38 [.agg #[.int .i64 x1, .int .i64 x2, .int .i64 x3, .int .i64 x4, .slice a6 x5.length c7, .int .i64 x8, .slice a10 x9.length c11], .agg #[.int .i64 x12, .int .i64 x13, .int .i64 x14, .int .i64 x15, .slice a17 x16.length c18, .int .i64 x19, .slice a21 x20.length c22]] [Sl (eI .u8) 1 (.slice a6 x5.length c7) x5, Sl (eI .u8) 1 (.slice a10 x9.length c11) x9, Sl (eI .u8) 1 (.slice a17 x16.length c18) x16, Sl (eI .u8) 1 (.slice a21 x20.length c22) x20] Unit (fun _ => .bool r) (fun _ => []) (fun _ => []) := by
  refine pure_of Try.func38 rfl Try.ntmps38 rfl hm (fun w => ?_)
  refine sxc_env (l' := [(0, .agg #[.int .i64 x1, .int .i64 x2, .int .i64 x3, .int .i64 x4, .slice a6 x5.length c7, .int .i64 x8, .slice a10 x9.length c11]), (1, .agg #[.int .i64 x12, .int .i64 x13, .int .i64 x14, .int .i64 x15, .slice a17 x16.length c18, .int .i64 x19, .slice a21 x20.length c22])]) rfl ?_
  refine sxc_seq ?_
  refine sxc_region ?_
  refine sxo_box rfl rfl rfl (fun g23 => ?_)
  refine sxo_box rfl rfl rfl (fun g24 => ?_)
  refine sxo_assign rfl rfl rfl ?_
  refine sxo_nil ?_
  refine sxq_next ?_
  refine sxc_seq ?_
  refine sxc_region ?_
  refine sxo_fieldAddr rfl rfl ff51_0 rfl ?_
  refine sxo_loadB (i := 1) rfl rfl tf3 rfl rfl (fun _ => rfl) rfl rfl ?_
  refine sxo_fieldAddr rfl rfl ff51_0 rfl ?_
  refine sxo_loadB (i := 0) rfl rfl tf3 rfl rfl (fun _ => rfl) rfl rfl ?_
  refine sxo_eql rfl rfl rfl rfl ?_
  refine sxo_move rfl rfl rfl ?_
  refine sxo_case 6 ((x1 : Int) == x12) [(2, .pointer (some ⟨g23, 0, none⟩)), (3, .pointer (some ⟨g24, 0, none⟩)), (16, .bool (((x1 : Int) == x12) && ((x2 : Int) == x13)))] (fun h25 => ?_) (fun h25 => ?_) ?_
  · refine sxo_take (os := _) rfl ?_
    refine sxo_isT (k := 10) rfl h25 ?_
    refine sxo_fieldAddr rfl rfl ff51_1 rfl ?_
    refine sxo_loadB (i := 1) rfl rfl tf3 rfl rfl (fun _ => rfl) rfl rfl ?_
    refine sxo_fieldAddr rfl rfl ff51_1 rfl ?_
    refine sxo_loadB (i := 0) rfl rfl tf3 rfl rfl (fun _ => rfl) rfl rfl ?_
    refine sxo_eql rfl rfl rfl rfl ?_
    refine sxo_pick (b := true) rfl rfl rfl rfl ?_
    refine sxo_again (d := 16) (v := .bool (((x1 : Int) == x12) && ((x2 : Int) == x13))) rfl (by rw [h25]; simp only [Bool.true_and]) ?_
    refine sxo_nil ?_
    exact sxq_case (lk_cons rfl (lk_cons rfl (lk_cons rfl lk_nil)))
  · refine sxo_take (os := _) rfl ?_
    refine sxo_isF (k := 10) rfl h25 ?_
    refine sxo_skip rfl rfl rfl ?_
    refine sxo_skip rfl rfl rfl ?_
    refine sxo_skip rfl rfl rfl ?_
    refine sxo_skip rfl rfl rfl ?_
    refine sxo_skip rfl rfl rfl ?_
    refine sxo_pick (b := false) rfl rfl rfl rfl ?_
    refine sxo_again (d := 16) (v := .bool (((x1 : Int) == x12) && ((x2 : Int) == x13))) rfl (by rw [h25]; simp only [Bool.false_and]) ?_
    refine sxo_nil ?_
    exact sxq_case (lk_cons rfl (lk_cons rfl (lk_cons rfl lk_nil)))
  refine sxo_take (os := _) rfl ?_
  refine sxo_move rfl rfl rfl ?_
  refine sxo_case 6 (((x1 : Int) == x12) && ((x2 : Int) == x13)) [(2, .pointer (some ⟨g23, 0, none⟩)), (3, .pointer (some ⟨g24, 0, none⟩)), (23, .bool ((((x1 : Int) == x12) && ((x2 : Int) == x13)) && ((x3 : Int) == x14)))] (fun h26 => ?_) (fun h26 => ?_) ?_
  · refine sxo_take (os := _) rfl ?_
    refine sxo_isT (k := 17) rfl h26 ?_
    refine sxo_fieldAddr rfl rfl ff51_2 rfl ?_
    refine sxo_loadB (i := 1) rfl rfl tf3 rfl rfl (fun _ => rfl) rfl rfl ?_
    refine sxo_fieldAddr rfl rfl ff51_2 rfl ?_
    refine sxo_loadB (i := 0) rfl rfl tf3 rfl rfl (fun _ => rfl) rfl rfl ?_
    refine sxo_eql rfl rfl rfl rfl ?_
    refine sxo_pick (b := true) rfl rfl rfl rfl ?_
    refine sxo_again (d := 23) (v := .bool ((((x1 : Int) == x12) && ((x2 : Int) == x13)) && ((x3 : Int) == x14))) rfl (by rw [h26]; simp only [Bool.true_and]) ?_
    refine sxo_nil ?_
    exact sxq_case (lk_cons rfl (lk_cons rfl (lk_cons rfl lk_nil)))
  · refine sxo_take (os := _) rfl ?_
    refine sxo_isF (k := 17) rfl h26 ?_
    refine sxo_skip rfl rfl rfl ?_
    refine sxo_skip rfl rfl rfl ?_
    refine sxo_skip rfl rfl rfl ?_
    refine sxo_skip rfl rfl rfl ?_
    refine sxo_skip rfl rfl rfl ?_
    refine sxo_pick (b := false) rfl rfl rfl rfl ?_
    refine sxo_again (d := 23) (v := .bool ((((x1 : Int) == x12) && ((x2 : Int) == x13)) && ((x3 : Int) == x14))) rfl (by rw [h26]; simp only [Bool.false_and]) ?_
    refine sxo_nil ?_
    exact sxq_case (lk_cons rfl (lk_cons rfl (lk_cons rfl lk_nil)))
  refine sxo_take (os := _) rfl ?_
  refine sxo_move rfl rfl rfl ?_
  refine sxo_join 6 (fun ((x29, _) : (Bool × Unit)) => [(2, .pointer (some ⟨g23, 0, none⟩)), (3, .pointer (some ⟨g24, 0, none⟩)), (30, .bool x29)]) (fun ((x29, _) : (Bool × Unit)) => [⟨g24, 51, [.int .i64 x12, .int .i64 x13, .int .i64 x14, .int .i64 x15, .slice a17 x16.length c18, .int .i64 x19, .slice a21 x20.length c22]⟩, ⟨g23, 51, [.int .i64 x1, .int .i64 x2, .int .i64 x3, .int .i64 x4, .slice a6 x5.length c7, .int .i64 x8, .slice a10 x9.length c11]⟩]) (fun ((x29, _) : (Bool × Unit)) => []) (fun ((x29, _) : (Bool × Unit)) => [Sl (eI .u8) 1 (.slice a17 x16.length c18) x16, Sl (eI .u8) 1 (.slice a21 x20.length c22) x20, Sl (eI .u8) 1 (.slice a6 x5.length c7) x5, Sl (eI .u8) 1 (.slice a10 x9.length c11) x9]) (fun ((x29, _) : (Bool × Unit)) => M_R_SameFano_j1 F x8 x9 x19 x20 x29) ?_ ?_
  · refine sxo_take (os := _) rfl ?_
    refine sxo_if (fun h27 => ?_) (fun h27 => ?_)
    · refine sxo_isT (k := 24) rfl h27 ?_
      refine sxo_fieldAddr rfl rfl ff51_3 rfl ?_
      refine sxo_loadB (i := 1) rfl rfl tf26 rfl rfl (by simp) rfl rfl ?_
      refine sxo_fieldAddr rfl rfl ff51_3 rfl ?_
      refine sxo_loadB (i := 0) rfl rfl tf26 rfl rfl (by simp) rfl rfl ?_
      refine sxo_call ent30 rfl rfl rfl (fun x34 e34 => C_R_SameBits F x4 x5 a6 c7 x15 x16 a17 c18 x34 e34) (.consF 0 rfl (.consF 2 rfl .nil)) (fun x34 e34 => ?_)
      intro _
      refine sxo_pick (b := true) rfl rfl rfl rfl ?_
      refine sxo_nil ?_
      exact sxq_meetP (x34, ()) (lk_cons rfl (lk_cons rfl (lk_cons rfl lk_nil))) (.cons 0 rfl (.cons 0 rfl .nil)) .nil (fk_cons 2 rfl (fk_cons 3 rfl (fk_cons 0 rfl (fk_cons 1 rfl fk_nil))))
    · refine sxo_isF (k := 24) rfl h27 ?_
      refine sxo_skip rfl rfl rfl ?_
      refine sxo_skip rfl rfl rfl ?_
      refine sxo_skip rfl rfl rfl ?_
      refine sxo_skip rfl rfl rfl ?_
      refine sxo_skip rfl rfl rfl ?_
      refine sxo_pick (b := false) rfl rfl rfl rfl ?_
      refine sxo_nil ?_
      exact sxq_meetP (false, ()) (lk_cons rfl (lk_cons rfl (lk_cons rfl lk_nil))) (.cons 0 rfl (.cons 0 rfl .nil)) .nil (fk_cons 2 rfl (fk_cons 3 rfl (fk_cons 0 rfl (fk_cons 1 rfl fk_nil))))
  · rintro ⟨x29, _⟩
    try dsimp only
    refine sxo_take (os := _) rfl ?_
    refine sxo_move rfl rfl rfl ?_
    refine sxo_join 6 (fun ((x32, _) : (Bool × Unit)) => [(37, .bool x32)]) (fun ((x32, _) : (Bool × Unit)) => []) (fun ((x32, _) : (Bool × Unit)) => []) (fun ((x32, _) : (Bool × Unit)) => []) (fun ((x32, _) : (Bool × Unit)) => M_R_SameFano_j2 F x32) ?_ ?_
    · refine sxo_take (os := _) rfl ?_
      refine sxo_if (fun h30 => ?_) (fun h30 => ?_)
      · refine sxo_isT (k := 31) rfl h30 ?_
        refine sxo_fieldAddr rfl rfl ff51_4 rfl ?_
        refine sxo_loadB (i := 1) rfl rfl tf26 rfl rfl (by simp) rfl rfl ?_
        refine sxo_fieldAddr rfl rfl ff51_4 rfl ?_
        refine sxo_loadB (i := 0) rfl rfl tf26 rfl rfl (by simp) rfl rfl ?_
        refine sxo_call ent30 rfl rfl rfl (fun x33 e33 => C_R_SameBits F x8 x9 a10 c11 x19 x20 a21 c22 x33 e33) (.consF 3 rfl (.consF 1 rfl .nil)) (fun x33 e33 => ?_)
        intro _
        refine sxo_pick (b := true) rfl rfl rfl rfl ?_
        refine sxo_nil ?_
        exact sxq_meetP (x33, ()) (lk_cons rfl lk_nil) .nil .nil fk_nil
      · refine sxo_isF (k := 31) rfl h30 ?_
        refine sxo_skip rfl rfl rfl ?_
        refine sxo_skip rfl rfl rfl ?_
        refine sxo_skip rfl rfl rfl ?_
        refine sxo_skip rfl rfl rfl ?_
        refine sxo_skip rfl rfl rfl ?_
        refine sxo_pick (b := false) rfl rfl rfl rfl ?_
        refine sxo_nil ?_
        exact sxq_meetP (false, ()) (lk_cons rfl lk_nil) .nil .nil fk_nil
    · rintro ⟨x32, _⟩
      try dsimp only
      refine sxo_take (os := _) rfl ?_
      refine sxo_assign rfl rfl rfl ?_
      refine sxo_nil ?_
      refine sxq_next ?_
      refine sxc_ret ?_
      exact sxq_doneP () (.inl rfl) (res1 rfl rfl) (fun h => by subst h; rfl) (fun h => by subst h; exact .nil)

theorem C_R_BitsCheck (F : Nat) (x1 : Int) (x2 : List Int) (a3 : Option Addr) (c4 : Nat) (r : Int) (hm : M_R_BitsCheck F x1 x2 = some r) :
    Pure Try.prog 53 [.agg #[.int .i64 x1, .slice a3 x2.length c4]] [Sl (eI .u8) 1 (.slice a3 x2.length c4) x2] Unit (fun _ => .int .i64 r) (fun _ => []) (fun _ => []) := by
  refine pure_of Try.func53 rfl Try.ntmps53 rfl hm (fun w => ?_)
  refine sxc_env (l' := [(0, .agg #[.int .i64 x1, .slice a3 x2.length c4])]) rfl ?_
  refine sxc_seq ?_
  refine sxc_region ?_
  refine sxo_box rfl rfl rfl (fun g5 => ?_)
  refine sxo_assign rfl rfl rfl ?_
  refine sxo_nil ?_
  refine sxq_next ?_
  refine sxc_seq ?_
  refine sxc_seq ?_
  refine sxc_region ?_
  refine sxo_fieldAddr rfl rfl ff26_0 rfl ?_
  refine sxo_loadB (i := 0) rfl rfl tf3 rfl rfl (fun _ => rfl) rfl rfl ?_
  refine sxo_call ent52 rfl rfl rfl (fun x8 e8 => C_R_between F x1 0 8192 x8 e8) .nil (fun x8 e8 => ?_)
  intro _
  refine sxo_not rfl rfl rfl ?_
  refine sxo_nil ?_
  refine sxq_next ?_
  refine sxc_if rfl (fun h81 => ?_) (fun h81 => ?_)
  · refine sxc_seq ?_
    refine sxc_region ?_
    refine sxo_assign rfl rfl rfl ?_
    refine sxo_nil ?_
    refine sxq_next ?_
    refine sxc_ret ?_
    refine sxq_thenR ?_
    exact sxq_doneP () (.inl rfl) (res1 rfl rfl) (fun h => by subst h; rfl) (fun h => by subst h; exact .nil)
  · refine sxc_skip ?_
    refine sxq_next ?_
    refine sxc_seq ?_
    refine sxc_region ?_
    refine sxo_fieldAddr rfl rfl ff26_0 rfl ?_
    refine sxo_loadB (i := 0) rfl rfl tf3 rfl rfl (fun _ => rfl) rfl rfl ?_
    refine sxo_quo rfl rfl rfl rfl rfl ?_
    refine sxo_assign rfl rfl rfl ?_
    refine sxo_nil ?_
    refine sxq_next ?_
    refine sxc_join (fun ((x10, _) : (Int × Unit)) => [(1, .pointer (some ⟨g5, 0, none⟩)), (3, .int .i64 x10)]) (fun ((x10, _) : (Int × Unit)) => [⟨g5, 26, [.int .i64 x1, .slice a3 x2.length c4]⟩]) (fun ((x10, _) : (Int × Unit)) => []) (fun ((x10, _) : (Int × Unit)) => [Sl (eI .u8) 1 (.slice a3 x2.length c4) x2]) (fun ((x10, _) : (Int × Unit)) => M_R_BitsCheck_j1 F x1 x2 x10) ?_ ?_
    · refine sxc_seq ?_
      refine sxc_region ?_
      refine sxo_fieldAddr rfl rfl ff26_0 rfl ?_
      refine sxo_loadB (i := 0) rfl rfl tf3 rfl rfl (fun _ => rfl) rfl rfl ?_
      refine sxo_rem rfl rfl rfl rfl rfl ?_
      refine sxo_gtr rfl rfl rfl rfl ?_
      refine sxo_nil ?_
      refine sxq_next ?_
      refine sxc_if rfl (fun h80 => ?_) (fun h80 => ?_)
      · refine sxc_region ?_
        refine sxo_move rfl rfl rfl ?_
        refine sxo_add rfl rfl rfl rfl ?_
        refine sxo_assign rfl rfl rfl ?_
        refine sxo_nil ?_
        exact sxq_meetP (iadd .i64 (iquo .i64 x1 8) 1, ()) (lk_cons rfl (lk_cons rfl lk_nil)) (.cons 0 rfl .nil) .nil (fk_cons 0 rfl fk_nil)
      · refine sxc_skip ?_
        exact sxq_meetP (iquo .i64 x1 8, ()) (lk_cons rfl (lk_cons rfl lk_nil)) (.cons 0 rfl .nil) .nil (fk_cons 0 rfl fk_nil)
    · rintro ⟨x10, _⟩
      try dsimp only
      refine sxc_seq ?_
      refine sxc_seq ?_
      refine sxc_region ?_
      refine sxo_fieldAddr rfl rfl ff26_1 rfl ?_
      refine sxo_loadB (i := 0) rfl rfl tf24 rfl rfl (fun _ => rfl) rfl rfl ?_
      refine sxo_len rfl Try.underlying24 rfl rfl ?_
      refine sxo_move rfl rfl rfl ?_
      refine sxo_neq rfl rfl rfl rfl ?_
      refine sxo_nil ?_
      refine sxq_next ?_
      refine sxc_if rfl (fun h79 => ?_) (fun h79 => ?_)
      · refine sxc_seq ?_
        refine sxc_region ?_
        refine sxo_assign rfl rfl rfl ?_
        refine sxo_nil ?_
        refine sxq_next ?_
        refine sxc_ret ?_
        refine sxq_thenR ?_
        exact sxq_doneP () (.inl rfl) (res1 rfl rfl) (fun h => by subst h; rfl) (fun h => by subst h; exact .nil)
      · refine sxc_skip ?_
        refine sxq_next ?_
        refine sxc_seq ?_
        refine sxc_region ?_
        refine sxo_move rfl rfl rfl ?_
        refine sxo_mul rfl rfl rfl rfl ?_
        refine sxo_fieldAddr rfl rfl ff26_1 rfl ?_
        refine sxo_loadB (i := 0) rfl rfl tf24 rfl rfl (fun _ => rfl) rfl rfl ?_
        refine sxo_build (cells := [.int .i64 (imul .i64 8 x10), .slice a3 x2.length c4]) rfl st26 rfl (by kernel_rfl) rfl ?_
        refine sxo_call ent27 rfl rfl rfl (fun x12 e12 => C_R_BitList F (imul .i64 8 x10) x2 a3 c4 x12 e12) (.consF 0 rfl .nil) (fun x12 e12 => ?_)
        rintro ⟨a13, c14⟩
        refine sxo_assign rfl rfl rfl ?_
        refine sxo_nil ?_
        refine sxq_next ?_
        refine sxc_join (fun ((_, _) : (Unit × Unit)) => []) (fun ((_, _) : (Unit × Unit)) => []) (fun ((_, _) : (Unit × Unit)) => []) (fun ((_, _) : (Unit × Unit)) => []) (fun ((_, _) : (Unit × Unit)) => M_R_BitsCheck_j3 F) ?_ ?_
        · refine sxc_seq ?_
          refine sxc_region ?_
          refine sxo_fieldAddr rfl rfl ff26_0 rfl ?_
          refine sxo_loadB (i := 0) rfl rfl tf3 rfl rfl (fun _ => rfl) rfl rfl ?_
          refine sxo_assign rfl rfl rfl ?_
          refine sxo_nil ?_
          refine sxq_next ?_
          refine sxc_block ?_
          refine sxc_loopP (fun ((x57, _) : (Int × Unit)) => [(4, .slice a13 x12.length c14), (5, .int .i64 x57)]) (fun ((x57, _) : (Int × Unit)) => []) (fun ((x57, _) : (Int × Unit)) => [Ro (eI .i64) 3 1 (.slice a13 x12.length c14) x12]) (fun ((x57, _) : (Int × Unit)) => []) (fun k (s : (Int × Unit)) => M_R_BitsCheck_l4 F x12 k s.1) (x1, ()) F (lk_cons rfl (lk_cons rfl lk_nil)) .nil (.cons 0 rfl .nil) fk_nil (fun _ => rfl) ?_
          intro k68
          rintro ⟨x57, _⟩
          try dsimp only
          refine sxc_meq (m' := M_R_BitsCheck_b4 F x12 (M_R_BitsCheck_l4 F x12 k68) x57) rfl ?_
          refine sxc_seq ?_
          refine sxc_seq ?_
          refine sxc_region ?_
          refine sxo_move rfl rfl rfl ?_
          refine sxo_move rfl rfl rfl ?_
          refine sxo_len rfl Try.underlying23 rfl rfl ?_
          refine sxo_lss rfl rfl rfl rfl ?_
          refine sxo_nil ?_
          refine sxq_next ?_
          refine sxc_if rfl (fun h78 => ?_) (fun h78 => ?_)
          · refine sxc_skip ?_
            refine sxq_next ?_
            refine sxc_seq ?_
            refine sxc_block ?_
            refine sxc_seq ?_
            refine sxc_region ?_
            refine sxo_move rfl rfl rfl ?_
            refine sxo_move rfl rfl rfl ?_
            refine sxo_indexR (j := 0) rfl Try.underlying23 tf3 rfl rfl rfl rfl (fun x74 e74 g75 h76 => ?_)
            refine sxo_loadR (j := 0) (y := x74) (eI_ok .i64) rfl rfl tf3 rfl h76 (idx_get e74).2.2 (fun _ => rfl) rfl rfl ?_
            refine sxo_neq rfl rfl rfl rfl ?_
            refine sxo_nil ?_
            refine sxq_next ?_
            refine sxc_if rfl (fun h77 => ?_) (fun h77 => ?_)
            · refine sxc_seq ?_
              refine sxc_region ?_
              refine sxo_assign rfl rfl rfl ?_
              refine sxo_nil ?_
              refine sxq_next ?_
              refine sxc_ret ?_
              refine sxq_blkR ?_
              refine sxq_thenR ?_
              refine sxq_thenR ?_
              refine sxq_blkR ?_
              refine sxq_thenR ?_
              exact sxq_doneP () (.inl rfl) (res1 rfl rfl) (fun h => by subst h; rfl) (fun h => by subst h; exact .nil)
            · refine sxc_skip ?_
              refine sxq_blkN ?_
              refine sxq_next ?_
              refine sxc_region ?_
              refine sxo_move rfl rfl rfl ?_
              refine sxo_add rfl rfl rfl rfl ?_
              refine sxo_assign rfl rfl rfl ?_
              refine sxo_nil ?_
              exact sxq_againP (iadd .i64 x57 1, ()) (lk_cons rfl (lk_cons rfl lk_nil)) .nil (.cons 0 rfl .nil) fk_nil
          · refine sxc_exit ?_
            refine sxq_thenX ?_
            refine sxq_thenX ?_
            refine sxq_blkX ?_
            exact sxq_meetP ((), ()) lk_nil .nil .nil fk_nil
        · rintro ⟨_, _⟩
          try dsimp only
          refine sxc_seq ?_
          refine sxc_region ?_
          refine sxo_assign rfl rfl rfl ?_
          refine sxo_nil ?_
          refine sxq_next ?_
          refine sxc_ret ?_
          exact sxq_doneP () (.inl rfl) (res1 rfl rfl) (fun h => by subst h; rfl) (fun h => by subst h; exact .nil)

set_option maxHeartbeats 4000000 in
theorem C_R_FanoRead (F : Nat) (x1 : Int) (x2 : Int) (x3 : Int) (x4 : Int) (x5 : List Int) (a6 : Option Addr) (c7 : Nat) (x8 : Int) (x9 : List Int) (a10 : Option Addr) (c11 : Nat) (r : (List Int × Int)) (hm : M_R_FanoRead F x1 x2 x3 x4 x5 x8 x9 = some r) :
    Pure Try.prog 36 [.agg #[.int .i64 x1, .int .i64 x2, .int .i64 x3, .int .i64 x4, .slice a6 x5.length c7, .int .i64 x8, .slice a10 x9.length c11]] [Sl (eI .u8) 1 (.slice a6 x5.length c7) x5, Sl (eI .u8) 1 (.slice a10 x9.length c11) x9] (Option Addr × Nat) (fun g => .tuple #[.slice g.1 r.1.length g.2, .int .i64 r.2]) (fun g => [Ro (eI .i64) 3 1 (.slice g.1 r.1.length g.2) r.1]) (fun _ => []) := by
  refine pure_of Try.func36 rfl Try.ntmps36 rfl hm (fun w => ?_)
  refine sxc_env (l' := [(0, .agg #[.int .i64 x1, .int .i64 x2, .int .i64 x3, .int .i64 x4, .slice a6 x5.length c7, .int .i64 x8, .slice a10 x9.length c11])]) rfl ?_
  refine sxc_seq ?_
  refine sxc_region ?_
  refine sxo_box rfl rfl rfl (fun g12 => ?_)
  refine sxo_assign rfl rfl rfl ?_
  refine sxo_assign rfl rfl rfl ?_
  refine sxo_nil ?_
  refine sxq_next ?_
  refine sxc_seq ?_
  refine sxc_seq ?_
  refine sxc_region ?_
  refine sxo_fieldAddr rfl rfl ff51_0 rfl ?_
  refine sxo_loadB (i := 0) rfl rfl tf3 rfl rfl (fun _ => rfl) rfl rfl ?_
  refine sxo_call ent52 rfl rfl rfl (fun x19 e19 => C_R_between F x1 0 300 x19 e19) .nil (fun x19 e19 => ?_)
  intro _
  refine sxo_not rfl rfl rfl ?_
  refine sxo_move rfl rfl rfl ?_
  refine sxo_join 5 (fun ((x22, _) : (Bool × Unit)) => [(1, .pointer (some ⟨g12, 0, none⟩)), (22, .bool x22)]) (fun ((x22, _) : (Bool × Unit)) => [⟨g12, 51, [.int .i64 x1, .int .i64 x2, .int .i64 x3, .int .i64 x4, .slice a6 x5.length c7, .int .i64 x8, .slice a10 x9.length c11]⟩]) (fun ((x22, _) : (Bool × Unit)) => []) (fun ((x22, _) : (Bool × Unit)) => [Sl (eI .u8) 1 (.slice a6 x5.length c7) x5, Sl (eI .u8) 1 (.slice a10 x9.length c11) x9]) (fun ((x22, _) : (Bool × Unit)) => M_R_FanoRead_j2 F x1 x2 x3 x4 x5 x8 x9 x22) ?_ ?_
  · refine sxo_take (os := _) rfl ?_
    refine sxo_if (fun h20 => ?_) (fun h20 => ?_)
    · refine sxo_isT (k := 17) rfl h20 ?_
      refine sxo_skip rfl rfl rfl ?_
      refine sxo_skip rfl rfl rfl ?_
      refine sxo_skip rfl rfl rfl ?_
      refine sxo_skip rfl rfl rfl ?_
      refine sxo_pick (b := true) rfl rfl rfl rfl ?_
      refine sxo_nil ?_
      exact sxq_meetP (true, ()) (lk_cons rfl (lk_cons rfl lk_nil)) (.cons 0 rfl .nil) .nil (fk_cons 0 rfl (fk_cons 1 rfl fk_nil))
    · refine sxo_isF (k := 17) rfl h20 ?_
      refine sxo_fieldAddr rfl rfl ff51_1 rfl ?_
      refine sxo_loadB (i := 0) rfl rfl tf3 rfl rfl (fun _ => rfl) rfl rfl ?_
      refine sxo_call ent52 rfl rfl rfl (fun x957 e957 => C_R_between F x2 0 1048576 x957 e957) .nil (fun x957 e957 => ?_)
      intro _
      refine sxo_not rfl rfl rfl ?_
      refine sxo_pick (b := false) rfl rfl rfl rfl ?_
      refine sxo_nil ?_
      exact sxq_meetP ((!x957), ()) (lk_cons rfl (lk_cons rfl lk_nil)) (.cons 0 rfl .nil) .nil (fk_cons 0 rfl (fk_cons 1 rfl fk_nil))
  · rintro ⟨x22, _⟩
    try dsimp only
    refine sxo_take (os := _) rfl ?_
    refine sxo_nil ?_
    refine sxq_next ?_
    refine sxc_if rfl (fun h956 => ?_) (fun h956 => ?_)
    · refine sxc_seq ?_
      refine sxc_region ?_
      refine sxo_assign rfl rfl rfl ?_
      refine sxo_assign rfl rfl rfl ?_
      refine sxo_nil ?_
      refine sxq_next ?_
      refine sxc_ret ?_
      refine sxq_thenR ?_
      refine sxq_nilrow Int (eI .i64) 3 1 ?_
      exact sxq_doneP (none, 0) (.inl rfl) (res2 rfl rfl rfl) (fun h => by subst h; rfl) (fun h => by subst h; exact (.cons 0 rfl .nil))
    · refine sxc_skip ?_
      refine sxq_next ?_
      refine sxc_seq ?_
      refine sxc_seq ?_
      refine sxc_region ?_
      refine sxo_fieldAddr rfl rfl ff51_3 rfl ?_
      refine sxo_loadB (i := 0) rfl rfl tf26 rfl rfl (by simp) rfl rfl ?_
      refine sxo_call ent53 rfl rfl rfl (fun x34 e34 => C_R_BitsCheck F x4 x5 a6 c7 x34 e34) (.consF 0 rfl .nil) (fun x34 e34 => ?_)
      intro _
      refine sxo_neq rfl rfl rfl rfl ?_
      refine sxo_move rfl rfl rfl ?_
      refine sxo_join 5 (fun ((x37, _) : (Bool × Unit)) => [(1, .pointer (some ⟨g12, 0, none⟩)), (32, .bool x37)]) (fun ((x37, _) : (Bool × Unit)) => [⟨g12, 51, [.int .i64 x1, .int .i64 x2, .int .i64 x3, .int .i64 x4, .slice a6 x5.length c7, .int .i64 x8, .slice a10 x9.length c11]⟩]) (fun ((x37, _) : (Bool × Unit)) => []) (fun ((x37, _) : (Bool × Unit)) => [Sl (eI .u8) 1 (.slice a6 x5.length c7) x5, Sl (eI .u8) 1 (.slice a10 x9.length c11) x9]) (fun ((x37, _) : (Bool × Unit)) => M_R_FanoRead_j5 F x1 x2 x3 x4 x5 x8 x9 x37) ?_ ?_
      · refine sxo_take (os := _) rfl ?_
        refine sxo_if (fun h35 => ?_) (fun h35 => ?_)
        · refine sxo_isT (k := 27) rfl h35 ?_
          refine sxo_skip rfl rfl rfl ?_
          refine sxo_skip rfl rfl rfl ?_
          refine sxo_skip rfl rfl rfl ?_
          refine sxo_skip rfl rfl rfl ?_
          refine sxo_pick (b := true) rfl rfl rfl rfl ?_
          refine sxo_nil ?_
          exact sxq_meetP (true, ()) (lk_cons rfl (lk_cons rfl lk_nil)) (.cons 0 rfl .nil) .nil (fk_cons 0 rfl (fk_cons 1 rfl fk_nil))
        · refine sxo_isF (k := 27) rfl h35 ?_
          refine sxo_fieldAddr rfl rfl ff51_4 rfl ?_
          refine sxo_loadB (i := 0) rfl rfl tf26 rfl rfl (by simp) rfl rfl ?_
          refine sxo_call ent53 rfl rfl rfl (fun x955 e955 => C_R_BitsCheck F x8 x9 a10 c11 x955 e955) (.consF 1 rfl .nil) (fun x955 e955 => ?_)
          intro _
          refine sxo_neq rfl rfl rfl rfl ?_
          refine sxo_pick (b := false) rfl rfl rfl rfl ?_
          refine sxo_nil ?_
          exact sxq_meetP (((x955 : Int) != 0), ()) (lk_cons rfl (lk_cons rfl lk_nil)) (.cons 0 rfl .nil) .nil (fk_cons 0 rfl (fk_cons 1 rfl fk_nil))
      · rintro ⟨x37, _⟩
        try dsimp only
        refine sxo_take (os := _) rfl ?_
        refine sxo_move rfl rfl rfl ?_
        refine sxo_join 5 (fun ((x40, _) : (Bool × Unit)) => [(1, .pointer (some ⟨g12, 0, none⟩)), (38, .bool x40)]) (fun ((x40, _) : (Bool × Unit)) => [⟨g12, 51, [.int .i64 x1, .int .i64 x2, .int .i64 x3, .int .i64 x4, .slice a6 x5.length c7, .int .i64 x8, .slice a10 x9.length c11]⟩]) (fun ((x40, _) : (Bool × Unit)) => []) (fun ((x40, _) : (Bool × Unit)) => [Sl (eI .u8) 1 (.slice a6 x5.length c7) x5, Sl (eI .u8) 1 (.slice a10 x9.length c11) x9]) (fun ((x40, _) : (Bool × Unit)) => M_R_FanoRead_j6 F x1 x2 x3 x4 x5 x8 x9 x40) ?_ ?_
        · refine sxo_take (os := _) rfl ?_
          refine sxo_if (fun h38 => ?_) (fun h38 => ?_)
          · refine sxo_isT (k := 33) rfl h38 ?_
            refine sxo_skip rfl rfl rfl ?_
            refine sxo_skip rfl rfl rfl ?_
            refine sxo_skip rfl rfl rfl ?_
            refine sxo_skip rfl rfl rfl ?_
            refine sxo_pick (b := true) rfl rfl rfl rfl ?_
            refine sxo_nil ?_
            exact sxq_meetP (true, ()) (lk_cons rfl (lk_cons rfl lk_nil)) (.cons 0 rfl .nil) .nil (fk_cons 0 rfl (fk_cons 1 rfl fk_nil))
          · refine sxo_isF (k := 33) rfl h38 ?_
            refine sxo_fieldAddr rfl rfl ff51_2 rfl ?_
            refine sxo_loadB (i := 0) rfl rfl tf3 rfl rfl (fun _ => rfl) rfl rfl ?_
            refine sxo_call ent52 rfl rfl rfl (fun x954 e954 => C_R_between F x3 0 21 x954 e954) .nil (fun x954 e954 => ?_)
            intro _
            refine sxo_not rfl rfl rfl ?_
            refine sxo_pick (b := false) rfl rfl rfl rfl ?_
            refine sxo_nil ?_
            exact sxq_meetP ((!x954), ()) (lk_cons rfl (lk_cons rfl lk_nil)) (.cons 0 rfl .nil) .nil (fk_cons 0 rfl (fk_cons 1 rfl fk_nil))
        · rintro ⟨x40, _⟩
          try dsimp only
          refine sxo_take (os := _) rfl ?_
          refine sxo_move rfl rfl rfl ?_
          refine sxo_case 10 x40 [(1, .pointer (some ⟨g12, 0, none⟩)), (49, .bool (x40 || ((x4 : Int) != (imul .i64 x1 x3))))] (fun h41 => ?_) (fun h41 => ?_) ?_
          · refine sxo_take (os := _) rfl ?_
            refine sxo_isT (k := 39) rfl h41 ?_
            refine sxo_skip rfl rfl rfl ?_
            refine sxo_skip rfl rfl rfl ?_
            refine sxo_skip rfl rfl rfl ?_
            refine sxo_skip rfl rfl rfl ?_
            refine sxo_skip rfl rfl rfl ?_
            refine sxo_skip rfl rfl rfl ?_
            refine sxo_skip rfl rfl rfl ?_
            refine sxo_skip rfl rfl rfl ?_
            refine sxo_skip rfl rfl rfl ?_
            refine sxo_pick (b := true) rfl rfl rfl rfl ?_
            refine sxo_again (d := 49) (v := .bool (x40 || ((x4 : Int) != (imul .i64 x1 x3)))) rfl (by rw [h41]; simp only [Bool.true_or]) ?_
            refine sxo_nil ?_
            exact sxq_case (lk_cons rfl (lk_cons rfl lk_nil))
          · refine sxo_take (os := _) rfl ?_
            refine sxo_isF (k := 39) rfl h41 ?_
            refine sxo_fieldAddr rfl rfl ff51_3 rfl ?_
            refine sxo_fieldAddr rfl rfl ff26_0 rfl ?_
            refine sxo_loadB (i := 0) rfl rfl tf3 rfl rfl (fun _ => rfl) rfl rfl ?_
            refine sxo_fieldAddr rfl rfl ff51_0 rfl ?_
            refine sxo_loadB (i := 0) rfl rfl tf3 rfl rfl (fun _ => rfl) rfl rfl ?_
            refine sxo_fieldAddr rfl rfl ff51_2 rfl ?_
            refine sxo_loadB (i := 0) rfl rfl tf3 rfl rfl (fun _ => rfl) rfl rfl ?_
            refine sxo_mul rfl rfl rfl rfl ?_
            refine sxo_neq rfl rfl rfl rfl ?_
            refine sxo_pick (b := false) rfl rfl rfl rfl ?_
            refine sxo_again (d := 49) (v := .bool (x40 || ((x4 : Int) != (imul .i64 x1 x3)))) rfl (by rw [h41]; simp only [Bool.false_or]) ?_
            refine sxo_nil ?_
            exact sxq_case (lk_cons rfl (lk_cons rfl lk_nil))
          refine sxo_take (os := _) rfl ?_
          refine sxo_nil ?_
          refine sxq_next ?_
          refine sxc_if rfl (fun h953 => ?_) (fun h953 => ?_)
          · refine sxc_seq ?_
            refine sxc_region ?_
            refine sxo_assign rfl rfl rfl ?_
            refine sxo_assign rfl rfl rfl ?_
            refine sxo_nil ?_
            refine sxq_next ?_
            refine sxc_ret ?_
            refine sxq_thenR ?_
            refine sxq_nilrow Int (eI .i64) 3 1 ?_
            exact sxq_doneP (none, 0) (.inl rfl) (res2 rfl rfl rfl) (fun h => by subst h; rfl) (fun h => by subst h; exact (.cons 0 rfl .nil))
          · refine sxc_skip ?_
            refine sxq_next ?_
            refine sxc_seq ?_
            refine sxb_draw mixed [] [⟨g12, 51, [.int .i64 x1, .int .i64 x2, .int .i64 x3, .int .i64 x4, .slice a6 x5.length c7, .int .i64 x8, .slice a10 x9.length c11]⟩] [Sl (eI .u8) 1 (.slice a6 x5.length c7) x5, Sl (eI .u8) 1 (.slice a10 x9.length c11) x9] (.cons 0 rfl .nil) (gk_F 0 rfl (gk_F 1 rfl gk_nil)) 8 rfl ?_
            refine sxb_takeP 0 (.pointer (some ⟨g12, 5, none⟩)) rfl rfl rfl rfl (by kernel_rfl) (by kernel_rfl) (by kernel_rfl) (by kernel_rfl) (by kernel_rfl) rfl (show _ = #[true, false, false, false, false, false, false, false] from rfl) (yv_fieldAddr rfl ff51_4) ?_
            refine sxb_take 1 (.agg #[.int .i64 x8, .slice a10 x9.length c11]) [] rfl rfl rfl rfl (by kernel_rfl) (by kernel_rfl) (by kernel_rfl) (by kernel_rfl) (by kernel_rfl) (by kernel_rfl) rfl (show _ = #[true, true, false, false, false, false, false, false] from rfl) (yv_loadB (i := 0) rfl tf26 rfl rfl (by simp) rfl) ?_
            refine sxb_takeP 3 (.pointer (some ⟨g12, 3, none⟩)) rfl rfl rfl rfl (by kernel_rfl) (by kernel_rfl) (by kernel_rfl) (by kernel_rfl) (by kernel_rfl) rfl (show _ = #[true, true, false, true, false, false, false, false] from rfl) (yv_fieldAddr rfl ff51_3) ?_
            refine sxb_take 4 (.agg #[.int .i64 x4, .slice a6 x5.length c7]) [] rfl rfl rfl rfl (by kernel_rfl) (by kernel_rfl) (by kernel_rfl) (by kernel_rfl) (by kernel_rfl) (by kernel_rfl) rfl (show _ = #[true, true, false, true, true, false, false, false] from rfl) (yv_loadB (i := 0) rfl tf26 rfl rfl (by simp) rfl) ?_
            refine sxb_step 2 rfl (by kernel_rfl) (show _ = #[true, true, true, true, true, false, false, false] from rfl) ?_
            refine sxo_call ent27 rfl rfl rfl (fun x48 e48 => C_R_BitList F x8 x9 a10 c11 x48 e48) (.consF 1 rfl .nil) (fun x48 e48 => ?_)
            rintro ⟨a49, c50⟩
            refine sxo_nil ?_
            refine sxq_anyB (.cons 0 rfl .nil) (gk_F 0 rfl (gk_F 1 rfl gk_nil)) ?_
            refine sxb_step 5 rfl (by kernel_rfl) (show _ = #[true, true, true, true, true, true, false, false] from rfl) ?_
            refine sxo_call ent27 rfl rfl rfl (fun x51 e51 => C_R_BitList F x4 x5 a6 c7 x51 e51) (.consF 0 rfl .nil) (fun x51 e51 => ?_)
            rintro ⟨a52, c53⟩
            refine sxo_nil ?_
            refine sxq_anyB (.cons 0 rfl .nil) (gk_F 0 rfl (gk_F 1 rfl gk_nil)) ?_
            refine sxb_takeP 6 (.slice a49 x48.length c50) rfl rfl rfl rfl (by kernel_rfl) (by kernel_rfl) (by kernel_rfl) (by kernel_rfl) (by kernel_rfl) rfl (show _ = #[true, true, true, true, true, true, true, false] from rfl) (yv_pv rfl) ?_
            refine sxb_takeP 7 (.slice a52 x51.length c53) rfl rfl rfl rfl (by kernel_rfl) (by kernel_rfl) (by kernel_rfl) (by kernel_rfl) (by kernel_rfl) rfl (show _ = #[true, true, true, true, true, true, true, true] from rfl) (yv_pv rfl) ?_
            refine sxb_done (by kernel_rfl) ?_
            refine sxq_np ?_ (by intro c h; cases h)
            refine sxq_next ?_
            refine sxc_seq ?_
            refine sxc_region ?_
            refine sxo_assign rfl rfl rfl ?_
            refine sxo_nil ?_
            refine sxq_next ?_
            refine sxc_seq ?_
            refine sxc_region ?_
            refine sxo_assign rfl rfl rfl ?_
            refine sxo_nil ?_
            refine sxq_next ?_
            refine sxc_join (fun ((x496, (a494, c495)) : (List Int × (Option Addr × Nat))) => [(1, .pointer (some ⟨g12, 0, none⟩)), (7, .slice a494 x496.length c495)]) (fun ((x496, (a494, c495)) : (List Int × (Option Addr × Nat))) => [⟨g12, 51, [.int .i64 x1, .int .i64 x2, .int .i64 x3, .int .i64 x4, .slice a6 x5.length c7, .int .i64 x8, .slice a10 x9.length c11]⟩]) (fun ((x496, (a494, c495)) : (List Int × (Option Addr × Nat))) => [Ro (eI .i64) 3 1 (.slice a494 x496.length c495) x496]) (fun ((x496, (a494, c495)) : (List Int × (Option Addr × Nat))) => [Sl (eI .u8) 1 (.slice a6 x5.length c7) x5, Sl (eI .u8) 1 (.slice a10 x9.length c11) x9]) (fun ((x496, _) : (List Int × (Option Addr × Nat))) => M_R_FanoRead_j29 F x1 x2 x3 x4 x5 x8 x9 x496) ?_ ?_
            · refine sxc_seq ?_
              refine sxc_region ?_
              refine sxo_assign rfl rfl rfl ?_
              refine sxo_nil ?_
              refine sxq_next ?_
              refine sxc_block ?_
              refine sxc_nilrow Int (eI .i64) 3 1 ?_
              refine sxc_loopP (fun (((x659, x662, x663), (a660, c661)) : ((Int × List Int × Int) × (Option Addr × Nat))) => [(1, .pointer (some ⟨g12, 0, none⟩)), (4, .slice a49 x48.length c50), (5, .slice a52 x51.length c53), (6, .int .i64 x659), (7, .slice a660 x662.length c661), (8, .int .i64 x663)]) (fun (((x659, x662, x663), (a660, c661)) : ((Int × List Int × Int) × (Option Addr × Nat))) => [⟨g12, 51, [.int .i64 x1, .int .i64 x2, .int .i64 x3, .int .i64 x4, .slice a6 x5.length c7, .int .i64 x8, .slice a10 x9.length c11]⟩]) (fun (((x659, x662, x663), (a660, c661)) : ((Int × List Int × Int) × (Option Addr × Nat))) => [Ro (eI .i64) 3 1 (.slice a49 x48.length c50) x48, Ro (eI .i64) 3 1 (.slice a52 x51.length c53) x51, Ro (eI .i64) 3 1 (.slice a660 x662.length c661) x662]) (fun (((x659, x662, x663), (a660, c661)) : ((Int × List Int × Int) × (Option Addr × Nat))) => [Sl (eI .u8) 1 (.slice a6 x5.length c7) x5, Sl (eI .u8) 1 (.slice a10 x9.length c11) x9]) (fun k (s : ((Int × List Int × Int) × (Option Addr × Nat))) => M_R_FanoRead_l46 F x1 x2 x3 x4 x5 x8 x9 x48 x51 k s.1) ((0, ([] : List Int), 0), (none, 0)) F (lk_cons rfl (lk_cons rfl (lk_cons rfl (lk_cons rfl (lk_cons rfl (lk_cons rfl lk_nil)))))) (.cons 0 rfl .nil) (.cons 2 rfl (.cons 1 rfl (.cons 0 rfl .nil))) (fk_cons 0 rfl (fk_cons 1 rfl fk_nil)) (fun _ => rfl) ?_
              intro k808
              rintro ⟨⟨x659, x662, x663⟩, ⟨a660, c661⟩⟩
              try dsimp only
              refine sxc_meq (m' := M_R_FanoRead_b46 F x1 x2 x3 x4 x5 x8 x9 x48 x51 (M_R_FanoRead_l46 F x1 x2 x3 x4 x5 x8 x9 x48 x51 k808) x659 x662 x663) rfl ?_
              refine sxc_seq ?_
              refine sxc_seq ?_
              refine sxc_region ?_
              refine sxo_move rfl rfl rfl ?_
              refine sxo_move rfl rfl rfl ?_
              refine sxo_len rfl Try.underlying23 rfl rfl ?_
              refine sxo_lss rfl rfl rfl rfl ?_
              refine sxo_move rfl rfl rfl ?_
              refine sxo_case 6 (decide (x663 < (x48.length : Int))) [(1, .pointer (some ⟨g12, 0, none⟩)), (4, .slice a49 x48.length c50), (5, .slice a52 x51.length c53), (6, .int .i64 x659), (7, .slice a660 x662.length c661), (8, .int .i64 x663), (66, .bool ((decide (x663 < (x48.length : Int))) && (decide ((x662.length : Int) < x1))))] (fun h811 => ?_) (fun h811 => ?_) ?_
              · refine sxo_take (os := _) rfl ?_
                refine sxo_isT (k := 60) rfl h811 ?_
                refine sxo_move rfl rfl rfl ?_
                refine sxo_len rfl Try.underlying23 rfl rfl ?_
                refine sxo_fieldAddr rfl rfl ff51_0 rfl ?_
                refine sxo_loadB (i := 0) rfl rfl tf3 rfl rfl (fun _ => rfl) rfl rfl ?_
                refine sxo_lss rfl rfl rfl rfl ?_
                refine sxo_pick (b := true) rfl rfl rfl rfl ?_
                refine sxo_again (d := 66) (v := .bool ((decide (x663 < (x48.length : Int))) && (decide ((x662.length : Int) < x1)))) rfl (by rw [h811]; simp only [Bool.true_and]) ?_
                refine sxo_nil ?_
                exact sxq_case (lk_cons rfl (lk_cons rfl (lk_cons rfl (lk_cons rfl (lk_cons rfl (lk_cons rfl (lk_cons rfl lk_nil)))))))
              · refine sxo_take (os := _) rfl ?_
                refine sxo_isF (k := 60) rfl h811 ?_
                refine sxo_skip rfl rfl rfl ?_
                refine sxo_skip rfl rfl rfl ?_
                refine sxo_skip rfl rfl rfl ?_
                refine sxo_skip rfl rfl rfl ?_
                refine sxo_skip rfl rfl rfl ?_
                refine sxo_pick (b := false) rfl rfl rfl rfl ?_
                refine sxo_again (d := 66) (v := .bool ((decide (x663 < (x48.length : Int))) && (decide ((x662.length : Int) < x1)))) rfl (by rw [h811]; simp only [Bool.false_and]) ?_
                refine sxo_nil ?_
                exact sxq_case (lk_cons rfl (lk_cons rfl (lk_cons rfl (lk_cons rfl (lk_cons rfl (lk_cons rfl (lk_cons rfl lk_nil)))))))
              refine sxo_take (os := _) rfl ?_
              refine sxo_nil ?_
              refine sxq_next ?_
              refine sxc_if rfl (fun h952 => ?_) (fun h952 => ?_)
              · refine sxc_skip ?_
                refine sxq_next ?_
                refine sxc_join (fun (((x880, x883), (a881, c882)) : ((Int × List Int) × (Option Addr × Nat))) => [(1, .pointer (some ⟨g12, 0, none⟩)), (4, .slice a49 x48.length c50), (5, .slice a52 x51.length c53), (6, .int .i64 x880), (7, .slice a881 x883.length c882), (8, .int .i64 x663)]) (fun (((x880, x883), (a881, c882)) : ((Int × List Int) × (Option Addr × Nat))) => [⟨g12, 51, [.int .i64 x1, .int .i64 x2, .int .i64 x3, .int .i64 x4, .slice a6 x5.length c7, .int .i64 x8, .slice a10 x9.length c11]⟩]) (fun (((x880, x883), (a881, c882)) : ((Int × List Int) × (Option Addr × Nat))) => [Ro (eI .i64) 3 1 (.slice a49 x48.length c50) x48, Ro (eI .i64) 3 1 (.slice a52 x51.length c53) x51, Ro (eI .i64) 3 1 (.slice a881 x883.length c882) x883]) (fun (((x880, x883), (a881, c882)) : ((Int × List Int) × (Option Addr × Nat))) => [Sl (eI .u8) 1 (.slice a6 x5.length c7) x5, Sl (eI .u8) 1 (.slice a10 x9.length c11) x9]) (fun (((x880, x883), _) : ((Int × List Int) × (Option Addr × Nat))) => M_R_FanoRead_j50 F (M_R_FanoRead_l46 F x1 x2 x3 x4 x5 x8 x9 x48 x51 k808) x663 x880 x883) ?_ ?_
                · refine sxc_block ?_
                  refine sxc_seq ?_
                  refine sxc_seq ?_
                  refine sxc_region ?_
                  refine sxo_move rfl rfl rfl ?_
                  refine sxo_move rfl rfl rfl ?_
                  refine sxo_indexR (j := 0) rfl Try.underlying23 tf3 rfl rfl rfl rfl (fun x888 e888 g889 h890 => ?_)
                  refine sxo_loadR (j := 0) (y := x888) (eI_ok .i64) rfl rfl tf3 rfl h890 (idx_get e888).2.2 (fun _ => rfl) rfl rfl ?_
                  refine sxo_eql rfl rfl rfl rfl ?_
                  refine sxo_nil ?_
                  refine sxq_next ?_
                  refine sxc_if rfl (fun h951 => ?_) (fun h951 => ?_)
                  · refine sxc_seq ?_
                    refine sxc_region ?_
                    refine sxo_move rfl rfl rfl ?_
                    refine sxo_add rfl rfl rfl rfl ?_
                    refine sxo_assign rfl rfl rfl ?_
                    refine sxo_nil ?_
                    refine sxq_next ?_
                    refine sxc_exit ?_
                    refine sxq_thenX ?_
                    refine sxq_blkX ?_
                    exact sxq_meetP ((iadd .i64 x659 1, x662), (a660, c661)) (lk_cons rfl (lk_cons rfl (lk_cons rfl (lk_cons rfl (lk_cons rfl (lk_cons rfl lk_nil)))))) (.cons 0 rfl .nil) (.cons 0 rfl (.cons 0 rfl (.cons 0 rfl .nil))) (fk_cons 0 rfl (fk_cons 1 rfl fk_nil))
                  · refine sxc_skip ?_
                    refine sxq_next ?_
                    refine sxc_seq ?_
                    refine sxc_region ?_
                    refine sxo_move rfl rfl rfl ?_
                    refine sxo_assign rfl rfl rfl ?_
                    refine sxo_nil ?_
                    refine sxq_next ?_
                    refine sxc_join (fun ((x918, _) : (Int × Unit)) => [(1, .pointer (some ⟨g12, 0, none⟩)), (4, .slice a49 x48.length c50), (5, .slice a52 x51.length c53), (6, .int .i64 x659), (7, .slice a660 x662.length c661), (8, .int .i64 x663), (9, .int .i64 x918)]) (fun ((x918, _) : (Int × Unit)) => [⟨g12, 51, [.int .i64 x1, .int .i64 x2, .int .i64 x3, .int .i64 x4, .slice a6 x5.length c7, .int .i64 x8, .slice a10 x9.length c11]⟩]) (fun ((x918, _) : (Int × Unit)) => [Ro (eI .i64) 3 1 (.slice a49 x48.length c50) x48, Ro (eI .i64) 3 1 (.slice a52 x51.length c53) x51, Ro (eI .i64) 3 1 (.slice a660 x662.length c661) x662]) (fun ((x918, _) : (Int × Unit)) => [Sl (eI .u8) 1 (.slice a6 x5.length c7) x5, Sl (eI .u8) 1 (.slice a10 x9.length c11) x9]) (fun ((x918, _) : (Int × Unit)) => M_R_FanoRead_j52 F (M_R_FanoRead_l46 F x1 x2 x3 x4 x5 x8 x9 x48 x51 k808) x659 x662 x663 x918) ?_ ?_
                    · refine sxc_seq ?_
                      refine sxc_region ?_
                      refine sxo_assign rfl rfl rfl ?_
                      refine sxo_nil ?_
                      refine sxq_next ?_
                      refine sxc_block ?_
                      refine sxc_loopP (fun (((x932, x933), _) : ((Int × Int) × Unit)) => [(1, .pointer (some ⟨g12, 0, none⟩)), (4, .slice a49 x48.length c50), (5, .slice a52 x51.length c53), (6, .int .i64 x659), (7, .slice a660 x662.length c661), (8, .int .i64 x663), (9, .int .i64 x932), (10, .int .i64 x933)]) (fun (((x932, x933), _) : ((Int × Int) × Unit)) => [⟨g12, 51, [.int .i64 x1, .int .i64 x2, .int .i64 x3, .int .i64 x4, .slice a6 x5.length c7, .int .i64 x8, .slice a10 x9.length c11]⟩]) (fun (((x932, x933), _) : ((Int × Int) × Unit)) => [Ro (eI .i64) 3 1 (.slice a49 x48.length c50) x48, Ro (eI .i64) 3 1 (.slice a52 x51.length c53) x51, Ro (eI .i64) 3 1 (.slice a660 x662.length c661) x662]) (fun (((x932, x933), _) : ((Int × Int) × Unit)) => [Sl (eI .u8) 1 (.slice a6 x5.length c7) x5, Sl (eI .u8) 1 (.slice a10 x9.length c11) x9]) (fun k (s : ((Int × Int) × Unit)) => M_R_FanoRead_l53 F (M_R_FanoRead_l46 F x1 x2 x3 x4 x5 x8 x9 x48 x51 k808) x3 x51 x659 x662 x663 k s.1) ((x659, 0), ()) F (lk_cons rfl (lk_cons rfl (lk_cons rfl (lk_cons rfl (lk_cons rfl (lk_cons rfl (lk_cons rfl (lk_cons rfl lk_nil)))))))) (.cons 0 rfl .nil) (.cons 0 rfl (.cons 0 rfl (.cons 0 rfl .nil))) (fk_cons 0 rfl (fk_cons 1 rfl fk_nil)) (fun _ => rfl) ?_
                      intro k942
                      rintro ⟨⟨x932, x933⟩, _⟩
                      try dsimp only
                      refine sxc_meq (m' := M_R_FanoRead_b53 F (M_R_FanoRead_l46 F x1 x2 x3 x4 x5 x8 x9 x48 x51 k808) x3 x51 x659 x662 x663 (M_R_FanoRead_l53 F (M_R_FanoRead_l46 F x1 x2 x3 x4 x5 x8 x9 x48 x51 k808) x3 x51 x659 x662 x663 k942) x932 x933) rfl ?_
                      refine sxc_seq ?_
                      refine sxc_seq ?_
                      refine sxc_region ?_
                      refine sxo_move rfl rfl rfl ?_
                      refine sxo_fieldAddr rfl rfl ff51_2 rfl ?_
                      refine sxo_loadB (i := 0) rfl rfl tf3 rfl rfl (fun _ => rfl) rfl rfl ?_
                      refine sxo_lss rfl rfl rfl rfl ?_
                      refine sxo_nil ?_
                      refine sxq_next ?_
                      refine sxc_if rfl (fun h950 => ?_) (fun h950 => ?_)
                      · refine sxc_skip ?_
                        refine sxq_next ?_
                        refine sxc_seq ?_
                        refine sxc_block ?_
                        refine sxc_region ?_
                        refine sxo_move rfl rfl rfl ?_
                        refine sxo_mul rfl rfl rfl rfl ?_
                        refine sxo_move rfl rfl rfl ?_
                        refine sxo_move rfl rfl rfl ?_
                        refine sxo_len rfl Try.underlying23 rfl rfl ?_
                        refine sxo_fieldAddr rfl rfl ff51_2 rfl ?_
                        refine sxo_loadB (i := 0) rfl rfl tf3 rfl rfl (fun _ => rfl) rfl rfl ?_
                        refine sxo_mul rfl rfl rfl rfl ?_
                        refine sxo_move rfl rfl rfl ?_
                        refine sxo_add rfl rfl rfl rfl ?_
                        refine sxo_indexR (j := 1) rfl Try.underlying23 tf3 rfl rfl rfl rfl (fun x947 e947 g948 h949 => ?_)
                        refine sxo_loadR (j := 1) (y := x947) (eI_ok .i64) rfl rfl tf3 rfl h949 (idx_get e947).2.2 (fun _ => rfl) rfl rfl ?_
                        refine sxo_add rfl rfl rfl rfl ?_
                        refine sxo_assign rfl rfl rfl ?_
                        refine sxo_nil ?_
                        refine sxq_blkN ?_
                        refine sxq_next ?_
                        refine sxc_region ?_
                        refine sxo_move rfl rfl rfl ?_
                        refine sxo_add rfl rfl rfl rfl ?_
                        refine sxo_assign rfl rfl rfl ?_
                        refine sxo_nil ?_
                        exact sxq_againP ((iadd .i64 (imul .i64 2 x932) x947, iadd .i64 x933 1), ()) (lk_cons rfl (lk_cons rfl (lk_cons rfl (lk_cons rfl (lk_cons rfl (lk_cons rfl (lk_cons rfl (lk_cons rfl lk_nil)))))))) (.cons 0 rfl .nil) (.cons 0 rfl (.cons 0 rfl (.cons 0 rfl .nil))) (fk_cons 0 rfl (fk_cons 1 rfl fk_nil))
                      · refine sxc_exit ?_
                        refine sxq_thenX ?_
                        refine sxq_thenX ?_
                        refine sxq_blkX ?_
                        exact sxq_meetP (x932, ()) (lk_cons rfl (lk_cons rfl (lk_cons rfl (lk_cons rfl (lk_cons rfl (lk_cons rfl (lk_cons rfl lk_nil))))))) (.cons 0 rfl .nil) (.cons 0 rfl (.cons 0 rfl (.cons 0 rfl .nil))) (fk_cons 0 rfl (fk_cons 1 rfl fk_nil))
                    · rintro ⟨x918, _⟩
                      try dsimp only
                      refine sxc_region ?_
                      refine sxo_move rfl rfl rfl ?_
                      refine sxo_move rfl rfl rfl ?_
                      refine sxo_slit (vs := [.int .i64 x918]) (ys := ([x918] : List Int)) (eI_ok .i64) (by decide) rfl Try.underlying23 tf3 rfl rfl rfl rfl rfl (by decide) (fun a919 c920 => ?_)
                      refine sxo_app 3 (eI_ok .i64) rfl Try.underlying23 tf3 rfl rfl rfl rfl rfl (.inl ⟨0, _, rfl⟩) rfl rfl (fun x921 e921 a922 c923 => ?_)
                      refine sxo_assign rfl rfl rfl ?_
                      refine sxo_nil ?_
                      refine sxq_blkN ?_
                      exact sxq_meetP ((x659, x921), (a922, c923)) (lk_cons rfl (lk_cons rfl (lk_cons rfl (lk_cons rfl (lk_cons rfl (lk_cons rfl lk_nil)))))) (.cons 0 rfl .nil) (.cons 2 rfl (.cons 2 rfl (.cons 0 rfl .nil))) (fk_cons 0 rfl (fk_cons 1 rfl fk_nil))
                · rintro ⟨⟨x880, x883⟩, ⟨a881, c882⟩⟩
                  try dsimp only
                  refine sxc_region ?_
                  refine sxo_move rfl rfl rfl ?_
                  refine sxo_add rfl rfl rfl rfl ?_
                  refine sxo_assign rfl rfl rfl ?_
                  refine sxo_nil ?_
                  exact sxq_againP ((x880, x883, iadd .i64 x663 1), (a881, c882)) (lk_cons rfl (lk_cons rfl (lk_cons rfl (lk_cons rfl (lk_cons rfl (lk_cons rfl lk_nil)))))) (.cons 0 rfl .nil) (.cons 0 rfl (.cons 0 rfl (.cons 0 rfl .nil))) (fk_cons 0 rfl (fk_cons 1 rfl fk_nil))
              · refine sxc_exit ?_
                refine sxq_thenX ?_
                refine sxq_thenX ?_
                refine sxq_blkX ?_
                exact sxq_meetP (x662, (a660, c661)) (lk_cons rfl (lk_cons rfl lk_nil)) (.cons 0 rfl .nil) (.cons 2 rfl .nil) (fk_cons 0 rfl (fk_cons 1 rfl fk_nil))
            · rintro ⟨x496, ⟨a494, c495⟩⟩
              try dsimp only
              refine sxc_seq ?_
              refine sxc_region ?_
              refine sxo_move rfl rfl rfl ?_
              refine sxo_fieldAddr rfl rfl ff51_1 rfl ?_
              refine sxo_loadB (i := 0) rfl rfl tf3 rfl rfl (fun _ => rfl) rfl rfl ?_
              refine sxo_call ent35 rfl rfl rfl (fun x497 e497 => C_R_FanoWrite F x496 a494 c495 x2 x497 e497) (.consR 0 (Ro (eI .i64) 3 1 (.slice a494 x496.length c495) x496) rfl .nil) (fun x497 e497 => ?_)
              rintro ⟨⟨a498, c499⟩, ⟨a500, c501⟩⟩
              refine sxo_move rfl rfl rfl ?_
              refine sxo_extract rfl rfl rfl rfl ?_
              refine sxo_extract rfl rfl rfl rfl ?_
              refine sxo_alloc rfl tf51 rfl (fun g502 => ?_)
              refine sxo_storeB (i := 0) rfl rfl rfl tf51 rfl rfl rfl rfl rfl ?_
              refine sxo_assign rfl rfl rfl ?_
              refine sxo_nil ?_
              refine sxq_next ?_
              refine sxc_seq ?_
              refine sxc_seq ?_
              refine sxc_region ?_
              refine sxo_move rfl rfl rfl ?_
              refine sxo_neq rfl rfl rfl rfl ?_
              refine sxo_move rfl rfl rfl ?_
              refine sxo_join 5 (fun ((x510, _) : (Bool × Unit)) => [(7, .slice a494 x496.length c495), (114, .bool x510)]) (fun ((x510, _) : (Bool × Unit)) => []) (fun ((x510, _) : (Bool × Unit)) => [Ro (eI .i64) 3 1 (.slice a494 x496.length c495) x496]) (fun ((x510, _) : (Bool × Unit)) => []) (fun ((x510, _) : (Bool × Unit)) => M_R_FanoRead_j31 F x496 x510) ?_ ?_
              · refine sxo_take (os := _) rfl ?_
                refine sxo_if (fun h508 => ?_) (fun h508 => ?_)
                · refine sxo_isT (k := 109) rfl h508 ?_
                  refine sxo_skip rfl rfl rfl ?_
                  refine sxo_skip rfl rfl rfl ?_
                  refine sxo_skip rfl rfl rfl ?_
                  refine sxo_skip rfl rfl rfl ?_
                  refine sxo_pick (b := true) rfl rfl rfl rfl ?_
                  refine sxo_nil ?_
                  exact sxq_meetP (true, ()) (lk_cons rfl (lk_cons rfl lk_nil)) .nil (.cons 2 rfl .nil) fk_nil
                · refine sxo_isF (k := 109) rfl h508 ?_
                  refine sxo_loadB (i := 1) rfl rfl tf51 rfl rfl (by simp) rfl rfl ?_
                  refine sxo_loadB (i := 0) rfl rfl tf51 rfl rfl (by simp) rfl rfl ?_
                  refine sxo_call ent38 rfl rfl rfl (fun x512 e512 => C_R_SameFano F x1 x2 x3 x4 x5 a6 c7 x8 x9 a10 c11 x497.1 x497.2.1 x497.2.2.1 x497.2.2.2.1 x497.2.2.2.2.1 a498 c499 x497.2.2.2.2.2.1 x497.2.2.2.2.2.2.1 a500 c501 x512 e512) (.consF 0 rfl (.consF 1 rfl (.consR 0 (Ro (eI .u8) 5 1 (.slice a498 x497.2.2.2.2.1.length c499) x497.2.2.2.2.1) rfl (.consR 1 (Ro (eI .u8) 5 1 (.slice a500 x497.2.2.2.2.2.2.1.length c501) x497.2.2.2.2.2.2.1) rfl .nil)))) (fun x512 e512 => ?_)
                  intro _
                  refine sxo_not rfl rfl rfl ?_
                  refine sxo_pick (b := false) rfl rfl rfl rfl ?_
                  refine sxo_nil ?_
                  exact sxq_meetP ((!x512), ()) (lk_cons rfl (lk_cons rfl lk_nil)) .nil (.cons 2 rfl .nil) fk_nil
              · rintro ⟨x510, _⟩
                try dsimp only
                refine sxo_take (os := _) rfl ?_
                refine sxo_nil ?_
                refine sxq_next ?_
                refine sxc_if rfl (fun h511 => ?_) (fun h511 => ?_)
                · refine sxc_seq ?_
                  refine sxc_region ?_
                  refine sxo_assign rfl rfl rfl ?_
                  refine sxo_assign rfl rfl rfl ?_
                  refine sxo_nil ?_
                  refine sxq_next ?_
                  refine sxc_ret ?_
                  refine sxq_thenR ?_
                  refine sxq_nilrow Int (eI .i64) 3 1 ?_
                  exact sxq_doneP (none, 0) (.inl rfl) (res2 rfl rfl rfl) (fun h => by subst h; rfl) (fun h => by subst h; exact (.cons 0 rfl .nil))
                · refine sxc_skip ?_
                  refine sxq_next ?_
                  refine sxc_seq ?_
                  refine sxc_region ?_
                  refine sxo_move rfl rfl rfl ?_
                  refine sxo_assign rfl rfl rfl ?_
                  refine sxo_assign rfl rfl rfl ?_
                  refine sxo_nil ?_
                  refine sxq_next ?_
                  refine sxc_ret ?_
                  exact sxq_doneP (a494, c495) (.inl rfl) (res2 rfl rfl rfl) (fun h => by subst h; rfl) (fun h => by subst h; exact (.cons 0 rfl .nil))

set_option maxHeartbeats 4000000 in
theorem C_L_fanoBegun (F : Nat)  (r : Bool) (hm : M_L_fanoBegun F  = some r) :
    Pure Try.prog 37 [] [] Unit (fun _ => .bool r) (fun _ => []) (fun _ => []) := by
  refine pure_of Try.func37 rfl Try.ntmps37 rfl hm (fun w => ?_)
  refine sxc_env (l' := []) rfl ?_
  refine sxc_seq ?_
  refine sxc_region ?_
  refine sxo_assign rfl rfl rfl ?_
  refine sxo_nil ?_
  refine sxq_next ?_
  refine sxc_seq ?_
  refine sxc_region ?_
  refine sxo_slit (vs := [.int .i64 1, .int .i64 1, .int .i64 5, .int .i64 12]) (ys := ([1, 1, 5, 12] : List Int)) (eI_ok .i64) (by decide) rfl Try.underlying23 tf3 rfl rfl rfl rfl rfl (by decide) (fun a1 c2 => ?_)
  refine sxo_call ent31 rfl rfl rfl (fun x3 e3 => C_fano_Write F ([1, 1, 5, 12] : List Int) a1 c2 15 x3 e3) (.consR 0 (Ro (eI .i64) 3 1 (.slice a1 ([1, 1, 5, 12] : List Int).length c2) ([1, 1, 5, 12] : List Int)) rfl .nil) (fun x3 e3 => ?_)
  rintro ⟨⟨a4, c5⟩, ⟨a6, c7⟩⟩
  refine sxo_move rfl rfl rfl ?_
  refine sxo_extract rfl rfl rfl rfl ?_
  refine sxo_extract rfl rfl rfl rfl ?_
  refine sxo_alloc rfl tf51 rfl (fun g8 => ?_)
  refine sxo_storeB (i := 0) rfl rfl rfl tf51 rfl rfl rfl rfl rfl ?_
  refine sxo_assign rfl rfl rfl ?_
  refine sxo_nil ?_
  refine sxq_next ?_
  refine sxc_seq ?_
  refine sxc_region ?_
  refine sxo_loadB (i := 0) rfl rfl tf51 rfl rfl (by simp) rfl rfl ?_
  refine sxo_call ent32 rfl rfl rfl (fun x9 e9 => C_fano_Read F x3.1 x3.2.1 x3.2.2.1 x3.2.2.2.1 x3.2.2.2.2.1 a4 c5 x3.2.2.2.2.2.1 x3.2.2.2.2.2.2.1 a6 c7 x9 e9) (.consR 0 (Ro (eI .u8) 5 1 (.slice a4 x3.2.2.2.2.1.length c5) x3.2.2.2.2.1) rfl (.consR 1 (Ro (eI .u8) 5 1 (.slice a6 x3.2.2.2.2.2.2.1.length c7) x3.2.2.2.2.2.2.1) rfl .nil)) (fun x9 e9 => ?_)
  rintro ⟨a10, c11⟩
  refine sxo_move rfl rfl rfl ?_
  refine sxo_extract rfl rfl rfl rfl ?_
  refine sxo_extract rfl rfl rfl rfl ?_
  refine sxo_assign rfl rfl rfl ?_
  refine sxo_assign rfl rfl rfl ?_
  refine sxo_nil ?_
  refine sxq_next ?_
  refine sxc_seq ?_
  refine sxc_region ?_
  refine sxo_loadB (i := 0) rfl rfl tf51 rfl rfl (by simp) rfl rfl ?_
  refine sxo_call ent33 rfl rfl rfl (fun x12 e12 => C_fano_Get F x3.1 x3.2.1 x3.2.2.1 x3.2.2.2.1 x3.2.2.2.2.1 a4 c5 x3.2.2.2.2.2.1 x3.2.2.2.2.2.2.1 a6 c7 2 x12 e12) (.consR 1 (Ro (eI .u8) 5 1 (.slice a4 x3.2.2.2.2.1.length c5) x3.2.2.2.2.1) rfl (.consR 2 (Ro (eI .u8) 5 1 (.slice a6 x3.2.2.2.2.2.2.1.length c7) x3.2.2.2.2.2.2.1) rfl .nil)) (fun x12 e12 => ?_)
  intro _
  refine sxo_move rfl rfl rfl ?_
  refine sxo_extract rfl rfl rfl rfl ?_
  refine sxo_extract rfl rfl rfl rfl ?_
  refine sxo_assign rfl rfl rfl ?_
  refine sxo_assign rfl rfl rfl ?_
  refine sxo_nil ?_
  refine sxq_next ?_
  refine sxc_seq ?_
  refine sxc_region ?_
  refine sxo_loadB (i := 0) rfl rfl tf51 rfl rfl (by simp) rfl rfl ?_
  refine sxo_call ent34 rfl rfl rfl (fun x13 e13 => C_fano_Next F x3.1 x3.2.1 x3.2.2.1 x3.2.2.2.1 x3.2.2.2.2.1 a4 c5 x3.2.2.2.2.2.1 x3.2.2.2.2.2.2.1 a6 c7 6 x13 e13) (.consR 1 (Ro (eI .u8) 5 1 (.slice a4 x3.2.2.2.2.1.length c5) x3.2.2.2.2.1) rfl (.consR 2 (Ro (eI .u8) 5 1 (.slice a6 x3.2.2.2.2.2.2.1.length c7) x3.2.2.2.2.2.2.1) rfl .nil)) (fun x13 e13 => ?_)
  intro _
  refine sxo_move rfl rfl rfl ?_
  refine sxo_extract rfl rfl rfl rfl ?_
  refine sxo_extract rfl rfl rfl rfl ?_
  refine sxo_extract rfl rfl rfl rfl ?_
  refine sxo_assign rfl rfl rfl ?_
  refine sxo_assign rfl rfl rfl ?_
  refine sxo_assign rfl rfl rfl ?_
  refine sxo_nil ?_
  refine sxq_next ?_
  refine sxc_seq ?_
  refine sxc_region ?_
  refine sxo_loadB (i := 0) rfl rfl tf51 rfl rfl (by simp) rfl rfl ?_
  refine sxo_call ent34 rfl rfl rfl (fun x14 e14 => C_fano_Next F x3.1 x3.2.1 x3.2.2.1 x3.2.2.2.1 x3.2.2.2.2.1 a4 c5 x3.2.2.2.2.2.1 x3.2.2.2.2.2.2.1 a6 c7 13 x14 e14) (.consR 1 (Ro (eI .u8) 5 1 (.slice a4 x3.2.2.2.2.1.length c5) x3.2.2.2.2.1) rfl (.consR 2 (Ro (eI .u8) 5 1 (.slice a6 x3.2.2.2.2.2.2.1.length c7) x3.2.2.2.2.2.2.1) rfl .nil)) (fun x14 e14 => ?_)
  intro _
  refine sxo_move rfl rfl rfl ?_
  refine sxo_extract rfl rfl rfl rfl ?_
  refine sxo_extract rfl rfl rfl rfl ?_
  refine sxo_extract rfl rfl rfl rfl ?_
  refine sxo_assign rfl rfl rfl ?_
  refine sxo_assign rfl rfl rfl ?_
  refine sxo_assign rfl rfl rfl ?_
  refine sxo_nil ?_
  refine sxq_next ?_
  refine sxc_seq ?_
  refine sxc_region ?_
  refine sxo_slit (vs := [.int .i64 2, .int .i64 1]) (ys := ([2, 1] : List Int)) (eI_ok .i64) (by decide) rfl Try.underlying23 tf3 rfl rfl rfl rfl rfl (by decide) (fun a15 c16 => ?_)
  refine sxo_call ent31 rfl rfl rfl (fun x17 e17 => C_fano_Write F ([2, 1] : List Int) a15 c16 5 x17 e17) (.consR 0 (Ro (eI .i64) 3 1 (.slice a15 ([2, 1] : List Int).length c16) ([2, 1] : List Int)) rfl .nil) (fun x17 e17 => ?_)
  rintro ⟨⟨a18, c19⟩, ⟨a20, c21⟩⟩
  refine sxo_move rfl rfl rfl ?_
  refine sxo_extract rfl rfl rfl rfl ?_
  refine sxo_extract rfl rfl rfl rfl ?_
  refine sxo_alloc rfl tf51 rfl (fun g22 => ?_)
  refine sxo_storeB (i := 0) rfl rfl rfl tf51 rfl rfl rfl rfl rfl ?_
  refine sxo_assign rfl rfl rfl ?_
  refine sxo_nil ?_
  refine sxq_next ?_
  refine sxc_seq ?_
  refine sxc_region ?_
  refine sxo_move rfl rfl rfl ?_
  refine sxo_eql rfl rfl rfl rfl ?_
  refine sxo_move rfl rfl rfl ?_
  refine sxo_case 4 ((x3.2.2.2.2.2.2.2 : Int) == 0) [(1, .pointer (some ⟨g8, 0, none⟩)), (3, .slice a10 x9.1.length c11), (4, .int .i64 x9.2), (5, .int .i64 x12.1), (6, .int .i64 x12.2), (7, .int .i64 x13.1), (8, .int .i64 x13.2.1), (9, .int .i64 x13.2.2), (12, .int .i64 x14.2.2), (14, .int .i64 x17.2.2.2.2.2.2.2), (53, .bool (((x3.2.2.2.2.2.2.2 : Int) == 0) && ((x3.2.2.1 : Int) == 2)))] (fun h23 => ?_) (fun h23 => ?_) ?_
  · refine sxo_take (os := _) rfl ?_
    refine sxo_isT (k := 49) rfl h23 ?_
    refine sxo_fieldAddr rfl rfl ff51_2 rfl ?_
    refine sxo_loadB (i := 1) rfl rfl tf3 rfl rfl (fun _ => rfl) rfl rfl ?_
    refine sxo_eql rfl rfl rfl rfl ?_
    refine sxo_pick (b := true) rfl rfl rfl rfl ?_
    refine sxo_again (d := 53) (v := .bool (((x3.2.2.2.2.2.2.2 : Int) == 0) && ((x3.2.2.1 : Int) == 2))) rfl (by rw [h23]; simp only [Bool.true_and]) ?_
    refine sxo_nil ?_
    exact sxq_case (lk_cons rfl (lk_cons rfl (lk_cons rfl (lk_cons rfl (lk_cons rfl (lk_cons rfl (lk_cons rfl (lk_cons rfl (lk_cons rfl (lk_cons rfl (lk_cons rfl lk_nil)))))))))))
  · refine sxo_take (os := _) rfl ?_
    refine sxo_isF (k := 49) rfl h23 ?_
    refine sxo_skip rfl rfl rfl ?_
    refine sxo_skip rfl rfl rfl ?_
    refine sxo_skip rfl rfl rfl ?_
    refine sxo_pick (b := false) rfl rfl rfl rfl ?_
    refine sxo_again (d := 53) (v := .bool (((x3.2.2.2.2.2.2.2 : Int) == 0) && ((x3.2.2.1 : Int) == 2))) rfl (by rw [h23]; simp only [Bool.false_and]) ?_
    refine sxo_nil ?_
    exact sxq_case (lk_cons rfl (lk_cons rfl (lk_cons rfl (lk_cons rfl (lk_cons rfl (lk_cons rfl (lk_cons rfl (lk_cons rfl (lk_cons rfl (lk_cons rfl (lk_cons rfl lk_nil)))))))))))
  refine sxo_take (os := _) rfl ?_
  refine sxo_move rfl rfl rfl ?_
  refine sxo_join 6 (fun ((x28, _) : (Bool × Unit)) => [(1, .pointer (some ⟨g8, 0, none⟩)), (3, .slice a10 x9.1.length c11), (4, .int .i64 x9.2), (5, .int .i64 x12.1), (6, .int .i64 x12.2), (7, .int .i64 x13.1), (8, .int .i64 x13.2.1), (9, .int .i64 x13.2.2), (12, .int .i64 x14.2.2), (14, .int .i64 x17.2.2.2.2.2.2.2), (60, .bool x28)]) (fun ((x28, _) : (Bool × Unit)) => [⟨g8, 51, [.int .i64 x3.1, .int .i64 x3.2.1, .int .i64 x3.2.2.1, .int .i64 x3.2.2.2.1, .slice a4 x3.2.2.2.2.1.length c5, .int .i64 x3.2.2.2.2.2.1, .slice a6 x3.2.2.2.2.2.2.1.length c7]⟩]) (fun ((x28, _) : (Bool × Unit)) => [Ro (eI .i64) 3 1 (.slice a10 x9.1.length c11) x9.1, Ro (eI .u8) 5 1 (.slice a4 x3.2.2.2.2.1.length c5) x3.2.2.2.2.1, Ro (eI .u8) 5 1 (.slice a6 x3.2.2.2.2.2.2.1.length c7) x3.2.2.2.2.2.2.1]) (fun ((x28, _) : (Bool × Unit)) => []) (fun ((x28, _) : (Bool × Unit)) => M_L_fanoBegun_j1 F x3 x9 x12 x13 x14 x17 x28) ?_ ?_
  · refine sxo_take (os := _) rfl ?_
    refine sxo_if (fun h24 => ?_) (fun h24 => ?_)
    · refine sxo_isT (k := 54) rfl h24 ?_
      refine sxo_fieldAddr rfl rfl ff51_3 rfl ?_
      refine sxo_loadB (i := 1) rfl rfl tf26 rfl rfl (by simp) rfl rfl ?_
      refine sxo_slit (vs := [.int .u8 84]) (ys := ([84] : List Int)) (eI_ok .u8) (by decide) rfl Try.underlying24 tf5 rfl rfl rfl rfl rfl (by decide) (fun a57 c58 => ?_)
      refine sxo_build (cells := [.int .i64 8, .slice a57 ([84] : List Int).length c58]) rfl st26 rfl (by kernel_rfl) rfl ?_
      refine sxo_call ent30 rfl rfl rfl (fun x59 e59 => C_R_SameBits F x3.2.2.2.1 x3.2.2.2.2.1 a4 c5 8 ([84] : List Int) a57 c58 x59 e59) (.consR 5 (Ro (eI .u8) 5 1 (.slice a4 x3.2.2.2.2.1.length c5) x3.2.2.2.2.1) rfl (.consR 0 (Ro (eI .u8) 5 1 (.slice a57 ([84] : List Int).length c58) ([84] : List Int)) rfl .nil)) (fun x59 e59 => ?_)
      intro _
      refine sxo_pick (b := true) rfl rfl rfl rfl ?_
      refine sxo_nil ?_
      exact sxq_meetP (x59, ()) (lk_cons rfl (lk_cons rfl (lk_cons rfl (lk_cons rfl (lk_cons rfl (lk_cons rfl (lk_cons rfl (lk_cons rfl (lk_cons rfl (lk_cons rfl (lk_cons rfl lk_nil))))))))))) (.cons 1 rfl .nil) (.cons 4 rfl (.cons 4 rfl (.cons 4 rfl .nil))) fk_nil
    · refine sxo_isF (k := 54) rfl h24 ?_
      refine sxo_skip rfl rfl rfl ?_
      refine sxo_skip rfl rfl rfl ?_
      refine sxo_skip rfl rfl rfl ?_
      refine sxo_skip rfl rfl rfl ?_
      refine sxo_skip rfl rfl rfl ?_
      refine sxo_pick (b := false) rfl rfl rfl rfl ?_
      refine sxo_nil ?_
      exact sxq_meetP (false, ()) (lk_cons rfl (lk_cons rfl (lk_cons rfl (lk_cons rfl (lk_cons rfl (lk_cons rfl (lk_cons rfl (lk_cons rfl (lk_cons rfl (lk_cons rfl (lk_cons rfl lk_nil))))))))))) (.cons 1 rfl .nil) (.cons 3 rfl (.cons 3 rfl (.cons 3 rfl .nil))) fk_nil
  · rintro ⟨x28, _⟩
    try dsimp only
    refine sxo_take (os := _) rfl ?_
    refine sxo_move rfl rfl rfl ?_
    refine sxo_join 6 (fun ((x33, _) : (Bool × Unit)) => [(3, .slice a10 x9.1.length c11), (4, .int .i64 x9.2), (5, .int .i64 x12.1), (6, .int .i64 x12.2), (7, .int .i64 x13.1), (8, .int .i64 x13.2.1), (9, .int .i64 x13.2.2), (12, .int .i64 x14.2.2), (14, .int .i64 x17.2.2.2.2.2.2.2), (67, .bool x33)]) (fun ((x33, _) : (Bool × Unit)) => []) (fun ((x33, _) : (Bool × Unit)) => [Ro (eI .i64) 3 1 (.slice a10 x9.1.length c11) x9.1]) (fun ((x33, _) : (Bool × Unit)) => []) (fun ((x33, _) : (Bool × Unit)) => M_L_fanoBegun_j2 F x9 x12 x13 x14 x17 x33) ?_ ?_
    · refine sxo_take (os := _) rfl ?_
      refine sxo_if (fun h29 => ?_) (fun h29 => ?_)
      · refine sxo_isT (k := 61) rfl h29 ?_
        refine sxo_fieldAddr rfl rfl ff51_4 rfl ?_
        refine sxo_loadB (i := 0) rfl rfl tf26 rfl rfl (by simp) rfl rfl ?_
        refine sxo_slit (vs := [.int .u8 210]) (ys := ([210] : List Int)) (eI_ok .u8) (by decide) rfl Try.underlying24 tf5 rfl rfl rfl rfl rfl (by decide) (fun a54 c55 => ?_)
        refine sxo_build (cells := [.int .i64 8, .slice a54 ([210] : List Int).length c55]) rfl st26 rfl (by kernel_rfl) rfl ?_
        refine sxo_call ent30 rfl rfl rfl (fun x56 e56 => C_R_SameBits F x3.2.2.2.2.2.1 x3.2.2.2.2.2.2.1 a6 c7 8 ([210] : List Int) a54 c55 x56 e56) (.consR 3 (Ro (eI .u8) 5 1 (.slice a6 x3.2.2.2.2.2.2.1.length c7) x3.2.2.2.2.2.2.1) rfl (.consR 0 (Ro (eI .u8) 5 1 (.slice a54 ([210] : List Int).length c55) ([210] : List Int)) rfl .nil)) (fun x56 e56 => ?_)
        intro _
        refine sxo_pick (b := true) rfl rfl rfl rfl ?_
        refine sxo_nil ?_
        exact sxq_meetP (x56, ()) (lk_cons rfl (lk_cons rfl (lk_cons rfl (lk_cons rfl (lk_cons rfl (lk_cons rfl (lk_cons rfl (lk_cons rfl (lk_cons rfl (lk_cons rfl lk_nil)))))))))) .nil (.cons 1 rfl .nil) fk_nil
      · refine sxo_isF (k := 61) rfl h29 ?_
        refine sxo_skip rfl rfl rfl ?_
        refine sxo_skip rfl rfl rfl ?_
        refine sxo_skip rfl rfl rfl ?_
        refine sxo_skip rfl rfl rfl ?_
        refine sxo_skip rfl rfl rfl ?_
        refine sxo_pick (b := false) rfl rfl rfl rfl ?_
        refine sxo_nil ?_
        exact sxq_meetP (false, ()) (lk_cons rfl (lk_cons rfl (lk_cons rfl (lk_cons rfl (lk_cons rfl (lk_cons rfl (lk_cons rfl (lk_cons rfl (lk_cons rfl (lk_cons rfl lk_nil)))))))))) .nil (.cons 0 rfl .nil) fk_nil
    · rintro ⟨x33, _⟩
      try dsimp only
      refine sxo_take (os := _) rfl ?_
      refine sxo_move rfl rfl rfl ?_
      refine sxo_join 4 (fun ((x38, _) : (Bool × Unit)) => [(4, .int .i64 x9.2), (5, .int .i64 x12.1), (6, .int .i64 x12.2), (7, .int .i64 x13.1), (8, .int .i64 x13.2.1), (9, .int .i64 x13.2.2), (12, .int .i64 x14.2.2), (14, .int .i64 x17.2.2.2.2.2.2.2), (72, .bool x38)]) (fun ((x38, _) : (Bool × Unit)) => []) (fun ((x38, _) : (Bool × Unit)) => []) (fun ((x38, _) : (Bool × Unit)) => []) (fun ((x38, _) : (Bool × Unit)) => M_L_fanoBegun_j3 F x9 x12 x13 x14 x17 x38) ?_ ?_
      · refine sxo_take (os := _) rfl ?_
        refine sxo_if (fun h34 => ?_) (fun h34 => ?_)
        · refine sxo_isT (k := 68) rfl h34 ?_
          refine sxo_move rfl rfl rfl ?_
          refine sxo_slit (vs := [.int .i64 1, .int .i64 1, .int .i64 5, .int .i64 12]) (ys := ([1, 1, 5, 12] : List Int)) (eI_ok .i64) (by decide) rfl Try.underlying23 tf3 rfl rfl rfl rfl rfl (by decide) (fun a51 c52 => ?_)
          refine sxo_call ent29 rfl rfl rfl (fun x53 e53 => C_R_SameInts F x9.1 a10 c11 ([1, 1, 5, 12] : List Int) a51 c52 x53 e53) (.consR 1 (Ro (eI .i64) 3 1 (.slice a10 x9.1.length c11) x9.1) rfl (.consR 0 (Ro (eI .i64) 3 1 (.slice a51 ([1, 1, 5, 12] : List Int).length c52) ([1, 1, 5, 12] : List Int)) rfl .nil)) (fun x53 e53 => ?_)
          intro _
          refine sxo_pick (b := true) rfl rfl rfl rfl ?_
          refine sxo_nil ?_
          exact sxq_meetP (x53, ()) (lk_cons rfl (lk_cons rfl (lk_cons rfl (lk_cons rfl (lk_cons rfl (lk_cons rfl (lk_cons rfl (lk_cons rfl (lk_cons rfl lk_nil))))))))) .nil .nil fk_nil
        · refine sxo_isF (k := 68) rfl h34 ?_
          refine sxo_skip rfl rfl rfl ?_
          refine sxo_skip rfl rfl rfl ?_
          refine sxo_skip rfl rfl rfl ?_
          refine sxo_pick (b := false) rfl rfl rfl rfl ?_
          refine sxo_nil ?_
          exact sxq_meetP (false, ()) (lk_cons rfl (lk_cons rfl (lk_cons rfl (lk_cons rfl (lk_cons rfl (lk_cons rfl (lk_cons rfl (lk_cons rfl (lk_cons rfl lk_nil))))))))) .nil .nil fk_nil
      · rintro ⟨x38, _⟩
        try dsimp only
        refine sxo_take (os := _) rfl ?_
        refine sxo_move rfl rfl rfl ?_
        refine sxo_case 3 x38 [(5, .int .i64 x12.1), (6, .int .i64 x12.2), (7, .int .i64 x13.1), (8, .int .i64 x13.2.1), (9, .int .i64 x13.2.2), (12, .int .i64 x14.2.2), (14, .int .i64 x17.2.2.2.2.2.2.2), (76, .bool (x38 && ((x9.2 : Int) == 0)))] (fun h39 => ?_) (fun h39 => ?_) ?_
        · refine sxo_take (os := _) rfl ?_
          refine sxo_isT (k := 73) rfl h39 ?_
          refine sxo_move rfl rfl rfl ?_
          refine sxo_eql rfl rfl rfl rfl ?_
          refine sxo_pick (b := true) rfl rfl rfl rfl ?_
          refine sxo_again (d := 76) (v := .bool (x38 && ((x9.2 : Int) == 0))) rfl (by rw [h39]; simp only [Bool.true_and]) ?_
          refine sxo_nil ?_
          exact sxq_case (lk_cons rfl (lk_cons rfl (lk_cons rfl (lk_cons rfl (lk_cons rfl (lk_cons rfl (lk_cons rfl (lk_cons rfl lk_nil))))))))
        · refine sxo_take (os := _) rfl ?_
          refine sxo_isF (k := 73) rfl h39 ?_
          refine sxo_skip rfl rfl rfl ?_
          refine sxo_skip rfl rfl rfl ?_
          refine sxo_pick (b := false) rfl rfl rfl rfl ?_
          refine sxo_again (d := 76) (v := .bool (x38 && ((x9.2 : Int) == 0))) rfl (by rw [h39]; simp only [Bool.false_and]) ?_
          refine sxo_nil ?_
          exact sxq_case (lk_cons rfl (lk_cons rfl (lk_cons rfl (lk_cons rfl (lk_cons rfl (lk_cons rfl (lk_cons rfl (lk_cons rfl lk_nil))))))))
        refine sxo_take (os := _) rfl ?_
        refine sxo_move rfl rfl rfl ?_
        refine sxo_case 3 (x38 && ((x9.2 : Int) == 0)) [(6, .int .i64 x12.2), (7, .int .i64 x13.1), (8, .int .i64 x13.2.1), (9, .int .i64 x13.2.2), (12, .int .i64 x14.2.2), (14, .int .i64 x17.2.2.2.2.2.2.2), (80, .bool ((x38 && ((x9.2 : Int) == 0)) && ((x12.1 : Int) == 5)))] (fun h40 => ?_) (fun h40 => ?_) ?_
        · refine sxo_take (os := _) rfl ?_
          refine sxo_isT (k := 77) rfl h40 ?_
          refine sxo_move rfl rfl rfl ?_
          refine sxo_eql rfl rfl rfl rfl ?_
          refine sxo_pick (b := true) rfl rfl rfl rfl ?_
          refine sxo_again (d := 80) (v := .bool ((x38 && ((x9.2 : Int) == 0)) && ((x12.1 : Int) == 5))) rfl (by rw [h40]; simp only [Bool.true_and]) ?_
          refine sxo_nil ?_
          exact sxq_case (lk_cons rfl (lk_cons rfl (lk_cons rfl (lk_cons rfl (lk_cons rfl (lk_cons rfl (lk_cons rfl lk_nil)))))))
        · refine sxo_take (os := _) rfl ?_
          refine sxo_isF (k := 77) rfl h40 ?_
          refine sxo_skip rfl rfl rfl ?_
          refine sxo_skip rfl rfl rfl ?_
          refine sxo_pick (b := false) rfl rfl rfl rfl ?_
          refine sxo_again (d := 80) (v := .bool ((x38 && ((x9.2 : Int) == 0)) && ((x12.1 : Int) == 5))) rfl (by rw [h40]; simp only [Bool.false_and]) ?_
          refine sxo_nil ?_
          exact sxq_case (lk_cons rfl (lk_cons rfl (lk_cons rfl (lk_cons rfl (lk_cons rfl (lk_cons rfl (lk_cons rfl lk_nil)))))))
        refine sxo_take (os := _) rfl ?_
        refine sxo_move rfl rfl rfl ?_
        refine sxo_case 3 ((x38 && ((x9.2 : Int) == 0)) && ((x12.1 : Int) == 5)) [(7, .int .i64 x13.1), (8, .int .i64 x13.2.1), (9, .int .i64 x13.2.2), (12, .int .i64 x14.2.2), (14, .int .i64 x17.2.2.2.2.2.2.2), (84, .bool (((x38 && ((x9.2 : Int) == 0)) && ((x12.1 : Int) == 5)) && ((x12.2 : Int) == 0)))] (fun h41 => ?_) (fun h41 => ?_) ?_
        · refine sxo_take (os := _) rfl ?_
          refine sxo_isT (k := 81) rfl h41 ?_
          refine sxo_move rfl rfl rfl ?_
          refine sxo_eql rfl rfl rfl rfl ?_
          refine sxo_pick (b := true) rfl rfl rfl rfl ?_
          refine sxo_again (d := 84) (v := .bool (((x38 && ((x9.2 : Int) == 0)) && ((x12.1 : Int) == 5)) && ((x12.2 : Int) == 0))) rfl (by rw [h41]; simp only [Bool.true_and]) ?_
          refine sxo_nil ?_
          exact sxq_case (lk_cons rfl (lk_cons rfl (lk_cons rfl (lk_cons rfl (lk_cons rfl (lk_cons rfl lk_nil))))))
        · refine sxo_take (os := _) rfl ?_
          refine sxo_isF (k := 81) rfl h41 ?_
          refine sxo_skip rfl rfl rfl ?_
          refine sxo_skip rfl rfl rfl ?_
          refine sxo_pick (b := false) rfl rfl rfl rfl ?_
          refine sxo_again (d := 84) (v := .bool (((x38 && ((x9.2 : Int) == 0)) && ((x12.1 : Int) == 5)) && ((x12.2 : Int) == 0))) rfl (by rw [h41]; simp only [Bool.false_and]) ?_
          refine sxo_nil ?_
          exact sxq_case (lk_cons rfl (lk_cons rfl (lk_cons rfl (lk_cons rfl (lk_cons rfl (lk_cons rfl lk_nil))))))
        refine sxo_take (os := _) rfl ?_
        refine sxo_move rfl rfl rfl ?_
        refine sxo_case 3 (((x38 && ((x9.2 : Int) == 0)) && ((x12.1 : Int) == 5)) && ((x12.2 : Int) == 0)) [(8, .int .i64 x13.2.1), (9, .int .i64 x13.2.2), (12, .int .i64 x14.2.2), (14, .int .i64 x17.2.2.2.2.2.2.2), (88, .bool ((((x38 && ((x9.2 : Int) == 0)) && ((x12.1 : Int) == 5)) && ((x12.2 : Int) == 0)) && ((x13.1 : Int) == 3)))] (fun h42 => ?_) (fun h42 => ?_) ?_
        · refine sxo_take (os := _) rfl ?_
          refine sxo_isT (k := 85) rfl h42 ?_
          refine sxo_move rfl rfl rfl ?_
          refine sxo_eql rfl rfl rfl rfl ?_
          refine sxo_pick (b := true) rfl rfl rfl rfl ?_
          refine sxo_again (d := 88) (v := .bool ((((x38 && ((x9.2 : Int) == 0)) && ((x12.1 : Int) == 5)) && ((x12.2 : Int) == 0)) && ((x13.1 : Int) == 3))) rfl (by rw [h42]; simp only [Bool.true_and]) ?_
          refine sxo_nil ?_
          exact sxq_case (lk_cons rfl (lk_cons rfl (lk_cons rfl (lk_cons rfl (lk_cons rfl lk_nil)))))
        · refine sxo_take (os := _) rfl ?_
          refine sxo_isF (k := 85) rfl h42 ?_
          refine sxo_skip rfl rfl rfl ?_
          refine sxo_skip rfl rfl rfl ?_
          refine sxo_pick (b := false) rfl rfl rfl rfl ?_
          refine sxo_again (d := 88) (v := .bool ((((x38 && ((x9.2 : Int) == 0)) && ((x12.1 : Int) == 5)) && ((x12.2 : Int) == 0)) && ((x13.1 : Int) == 3))) rfl (by rw [h42]; simp only [Bool.false_and]) ?_
          refine sxo_nil ?_
          exact sxq_case (lk_cons rfl (lk_cons rfl (lk_cons rfl (lk_cons rfl (lk_cons rfl lk_nil)))))
        refine sxo_take (os := _) rfl ?_
        refine sxo_move rfl rfl rfl ?_
        refine sxo_case 3 ((((x38 && ((x9.2 : Int) == 0)) && ((x12.1 : Int) == 5)) && ((x12.2 : Int) == 0)) && ((x13.1 : Int) == 3)) [(9, .int .i64 x13.2.2), (12, .int .i64 x14.2.2), (14, .int .i64 x17.2.2.2.2.2.2.2), (92, .bool (((((x38 && ((x9.2 : Int) == 0)) && ((x12.1 : Int) == 5)) && ((x12.2 : Int) == 0)) && ((x13.1 : Int) == 3)) && ((x13.2.1 : Int) == 12)))] (fun h43 => ?_) (fun h43 => ?_) ?_
        · refine sxo_take (os := _) rfl ?_
          refine sxo_isT (k := 89) rfl h43 ?_
          refine sxo_move rfl rfl rfl ?_
          refine sxo_eql rfl rfl rfl rfl ?_
          refine sxo_pick (b := true) rfl rfl rfl rfl ?_
          refine sxo_again (d := 92) (v := .bool (((((x38 && ((x9.2 : Int) == 0)) && ((x12.1 : Int) == 5)) && ((x12.2 : Int) == 0)) && ((x13.1 : Int) == 3)) && ((x13.2.1 : Int) == 12))) rfl (by rw [h43]; simp only [Bool.true_and]) ?_
          refine sxo_nil ?_
          exact sxq_case (lk_cons rfl (lk_cons rfl (lk_cons rfl (lk_cons rfl lk_nil))))
        · refine sxo_take (os := _) rfl ?_
          refine sxo_isF (k := 89) rfl h43 ?_
          refine sxo_skip rfl rfl rfl ?_
          refine sxo_skip rfl rfl rfl ?_
          refine sxo_pick (b := false) rfl rfl rfl rfl ?_
          refine sxo_again (d := 92) (v := .bool (((((x38 && ((x9.2 : Int) == 0)) && ((x12.1 : Int) == 5)) && ((x12.2 : Int) == 0)) && ((x13.1 : Int) == 3)) && ((x13.2.1 : Int) == 12))) rfl (by rw [h43]; simp only [Bool.false_and]) ?_
          refine sxo_nil ?_
          exact sxq_case (lk_cons rfl (lk_cons rfl (lk_cons rfl (lk_cons rfl lk_nil))))
        refine sxo_take (os := _) rfl ?_
        refine sxo_move rfl rfl rfl ?_
        refine sxo_case 3 (((((x38 && ((x9.2 : Int) == 0)) && ((x12.1 : Int) == 5)) && ((x12.2 : Int) == 0)) && ((x13.1 : Int) == 3)) && ((x13.2.1 : Int) == 12)) [(12, .int .i64 x14.2.2), (14, .int .i64 x17.2.2.2.2.2.2.2), (96, .bool ((((((x38 && ((x9.2 : Int) == 0)) && ((x12.1 : Int) == 5)) && ((x12.2 : Int) == 0)) && ((x13.1 : Int) == 3)) && ((x13.2.1 : Int) == 12)) && ((x13.2.2 : Int) == 0)))] (fun h44 => ?_) (fun h44 => ?_) ?_
        · refine sxo_take (os := _) rfl ?_
          refine sxo_isT (k := 93) rfl h44 ?_
          refine sxo_move rfl rfl rfl ?_
          refine sxo_eql rfl rfl rfl rfl ?_
          refine sxo_pick (b := true) rfl rfl rfl rfl ?_
          refine sxo_again (d := 96) (v := .bool ((((((x38 && ((x9.2 : Int) == 0)) && ((x12.1 : Int) == 5)) && ((x12.2 : Int) == 0)) && ((x13.1 : Int) == 3)) && ((x13.2.1 : Int) == 12)) && ((x13.2.2 : Int) == 0))) rfl (by rw [h44]; simp only [Bool.true_and]) ?_
          refine sxo_nil ?_
          exact sxq_case (lk_cons rfl (lk_cons rfl (lk_cons rfl lk_nil)))
        · refine sxo_take (os := _) rfl ?_
          refine sxo_isF (k := 93) rfl h44 ?_
          refine sxo_skip rfl rfl rfl ?_
          refine sxo_skip rfl rfl rfl ?_
          refine sxo_pick (b := false) rfl rfl rfl rfl ?_
          refine sxo_again (d := 96) (v := .bool ((((((x38 && ((x9.2 : Int) == 0)) && ((x12.1 : Int) == 5)) && ((x12.2 : Int) == 0)) && ((x13.1 : Int) == 3)) && ((x13.2.1 : Int) == 12)) && ((x13.2.2 : Int) == 0))) rfl (by rw [h44]; simp only [Bool.false_and]) ?_
          refine sxo_nil ?_
          exact sxq_case (lk_cons rfl (lk_cons rfl (lk_cons rfl lk_nil)))
        refine sxo_take (os := _) rfl ?_
        refine sxo_move rfl rfl rfl ?_
        refine sxo_case 3 ((((((x38 && ((x9.2 : Int) == 0)) && ((x12.1 : Int) == 5)) && ((x12.2 : Int) == 0)) && ((x13.1 : Int) == 3)) && ((x13.2.1 : Int) == 12)) && ((x13.2.2 : Int) == 0)) [(14, .int .i64 x17.2.2.2.2.2.2.2), (100, .bool (((((((x38 && ((x9.2 : Int) == 0)) && ((x12.1 : Int) == 5)) && ((x12.2 : Int) == 0)) && ((x13.1 : Int) == 3)) && ((x13.2.1 : Int) == 12)) && ((x13.2.2 : Int) == 0)) && ((x14.2.2 : Int) == 5)))] (fun h45 => ?_) (fun h45 => ?_) ?_
        · refine sxo_take (os := _) rfl ?_
          refine sxo_isT (k := 97) rfl h45 ?_
          refine sxo_move rfl rfl rfl ?_
          refine sxo_eql rfl rfl rfl rfl ?_
          refine sxo_pick (b := true) rfl rfl rfl rfl ?_
          refine sxo_again (d := 100) (v := .bool (((((((x38 && ((x9.2 : Int) == 0)) && ((x12.1 : Int) == 5)) && ((x12.2 : Int) == 0)) && ((x13.1 : Int) == 3)) && ((x13.2.1 : Int) == 12)) && ((x13.2.2 : Int) == 0)) && ((x14.2.2 : Int) == 5))) rfl (by rw [h45]; simp only [Bool.true_and]) ?_
          refine sxo_nil ?_
          exact sxq_case (lk_cons rfl (lk_cons rfl lk_nil))
        · refine sxo_take (os := _) rfl ?_
          refine sxo_isF (k := 97) rfl h45 ?_
          refine sxo_skip rfl rfl rfl ?_
          refine sxo_skip rfl rfl rfl ?_
          refine sxo_pick (b := false) rfl rfl rfl rfl ?_
          refine sxo_again (d := 100) (v := .bool (((((((x38 && ((x9.2 : Int) == 0)) && ((x12.1 : Int) == 5)) && ((x12.2 : Int) == 0)) && ((x13.1 : Int) == 3)) && ((x13.2.1 : Int) == 12)) && ((x13.2.2 : Int) == 0)) && ((x14.2.2 : Int) == 5))) rfl (by rw [h45]; simp only [Bool.false_and]) ?_
          refine sxo_nil ?_
          exact sxq_case (lk_cons rfl (lk_cons rfl lk_nil))
        refine sxo_take (os := _) rfl ?_
        refine sxo_move rfl rfl rfl ?_
        refine sxo_case 3 (((((((x38 && ((x9.2 : Int) == 0)) && ((x12.1 : Int) == 5)) && ((x12.2 : Int) == 0)) && ((x13.1 : Int) == 3)) && ((x13.2.1 : Int) == 12)) && ((x13.2.2 : Int) == 0)) && ((x14.2.2 : Int) == 5)) [(104, .bool ((((((((x38 && ((x9.2 : Int) == 0)) && ((x12.1 : Int) == 5)) && ((x12.2 : Int) == 0)) && ((x13.1 : Int) == 3)) && ((x13.2.1 : Int) == 12)) && ((x13.2.2 : Int) == 0)) && ((x14.2.2 : Int) == 5)) && ((x17.2.2.2.2.2.2.2 : Int) == 4)))] (fun h46 => ?_) (fun h46 => ?_) ?_
        · refine sxo_take (os := _) rfl ?_
          refine sxo_isT (k := 101) rfl h46 ?_
          refine sxo_move rfl rfl rfl ?_
          refine sxo_eql rfl rfl rfl rfl ?_
          refine sxo_pick (b := true) rfl rfl rfl rfl ?_
          refine sxo_again (d := 104) (v := .bool ((((((((x38 && ((x9.2 : Int) == 0)) && ((x12.1 : Int) == 5)) && ((x12.2 : Int) == 0)) && ((x13.1 : Int) == 3)) && ((x13.2.1 : Int) == 12)) && ((x13.2.2 : Int) == 0)) && ((x14.2.2 : Int) == 5)) && ((x17.2.2.2.2.2.2.2 : Int) == 4))) rfl (by rw [h46]; simp only [Bool.true_and]) ?_
          refine sxo_nil ?_
          exact sxq_case (lk_cons rfl lk_nil)
        · refine sxo_take (os := _) rfl ?_
          refine sxo_isF (k := 101) rfl h46 ?_
          refine sxo_skip rfl rfl rfl ?_
          refine sxo_skip rfl rfl rfl ?_
          refine sxo_pick (b := false) rfl rfl rfl rfl ?_
          refine sxo_again (d := 104) (v := .bool ((((((((x38 && ((x9.2 : Int) == 0)) && ((x12.1 : Int) == 5)) && ((x12.2 : Int) == 0)) && ((x13.1 : Int) == 3)) && ((x13.2.1 : Int) == 12)) && ((x13.2.2 : Int) == 0)) && ((x14.2.2 : Int) == 5)) && ((x17.2.2.2.2.2.2.2 : Int) == 4))) rfl (by rw [h46]; simp only [Bool.false_and]) ?_
          refine sxo_nil ?_
          exact sxq_case (lk_cons rfl lk_nil)
        refine sxo_take (os := _) rfl ?_
        refine sxo_move rfl rfl rfl ?_
        refine sxo_join 4 (fun ((x49, _) : (Bool × Unit)) => [(109, .bool x49)]) (fun ((x49, _) : (Bool × Unit)) => []) (fun ((x49, _) : (Bool × Unit)) => []) (fun ((x49, _) : (Bool × Unit)) => []) (fun ((x49, _) : (Bool × Unit)) => M_L_fanoBegun_j4 F x49) ?_ ?_
        · refine sxo_take (os := _) rfl ?_
          refine sxo_if (fun h47 => ?_) (fun h47 => ?_)
          · refine sxo_isT (k := 105) rfl h47 ?_
            refine sxo_build (cells := [.int .i64 0, .int .i64 0, .int .i64 0, .int .i64 0, .slice none 0 0, .int .i64 0, .slice none 0 0]) rfl st51 rfl (by kernel_rfl) rfl ?_
            refine sxo_nilrow' Int (eI .u8) 5 1 ?_
            refine sxo_nilrow' Int (eI .u8) 5 1 ?_
            refine sxo_call ent39 rfl rfl rfl (fun x50 e50 => C_fano_Check F 0 0 0 0 ([] : List Int) none 0 0 ([] : List Int) none 0 x50 e50) (.consR 0 (Ro (eI .u8) 5 1 (.slice none ([] : List Int).length 0) ([] : List Int)) rfl (.consR 0 (Ro (eI .u8) 5 1 (.slice none ([] : List Int).length 0) ([] : List Int)) rfl .nil)) (fun x50 e50 => ?_)
            intro _
            refine sxo_eql rfl rfl rfl rfl ?_
            refine sxo_pick (b := true) rfl rfl rfl rfl ?_
            refine sxo_nil ?_
            exact sxq_meetP (((x50 : Int) == 1), ()) (lk_cons rfl lk_nil) .nil .nil fk_nil
          · refine sxo_isF (k := 105) rfl h47 ?_
            refine sxo_skip rfl rfl rfl ?_
            refine sxo_skip rfl rfl rfl ?_
            refine sxo_skip rfl rfl rfl ?_
            refine sxo_pick (b := false) rfl rfl rfl rfl ?_
            refine sxo_nil ?_
            exact sxq_meetP (false, ()) (lk_cons rfl lk_nil) .nil .nil fk_nil
        · rintro ⟨x49, _⟩
          try dsimp only
          refine sxo_take (os := _) rfl ?_
          refine sxo_assign rfl rfl rfl ?_
          refine sxo_nil ?_
          refine sxq_next ?_
          refine sxc_ret ?_
          exact sxq_doneP () (.inl rfl) (res1 rfl rfl) (fun h => by subst h; rfl) (fun h => by subst h; exact .nil)

set_option maxHeartbeats 4000000 in
theorem C_L_FanoTells (F : Nat) (x1 : List Int) (a2 : Option Addr) (c3 : Nat) (x4 : Int) (x5 : Int) (x6 : Int) (x7 : Int) (x8 : Int) (x9 : List Int) (a10 : Option Addr) (c11 : Nat) (x12 : Int) (x13 : List Int) (a14 : Option Addr) (c15 : Nat) (x16 : Int) (r : Bool) (hm : M_L_FanoTells F x1 x4 x5 x6 x7 x8 x9 x12 x13 x16 = some r) :
    Pure Try.prog 7 [.slice a2 x1.length c3, .int .i64 x4, .agg #[.int .i64 x5, .int .i64 x6, .int .i64 x7, .int .i64 x8, .slice a10 x9.length c11, .int .i64 x12, .slice a14 x13.length c15], .int .i64 x16] [Sl (eI .i64) 1 (.slice a2 x1.length c3) x1, Sl (eI .u8) 1 (.slice a10 x9.length c11) x9, Sl (eI .u8) 1 (.slice a14 x13.length c15) x13] Unit (fun _ => .bool r) (fun _ => []) (fun _ => []) := by
  refine pure_of Try.func7 rfl Try.ntmps7 rfl hm (fun w => ?_)
  refine sxc_env (l' := [(0, .slice a2 x1.length c3), (1, .int .i64 x4), (2, .agg #[.int .i64 x5, .int .i64 x6, .int .i64 x7, .int .i64 x8, .slice a10 x9.length c11, .int .i64 x12, .slice a14 x13.length c15]), (3, .int .i64 x16)]) rfl ?_
  refine sxc_seq ?_
  refine sxc_region ?_
  refine sxo_box rfl rfl rfl (fun g17 => ?_)
  refine sxo_assign rfl rfl rfl ?_
  refine sxo_nil ?_
  refine sxq_next ?_
  refine sxc_seq ?_
  refine sxc_region ?_
  refine sxo_move rfl rfl rfl ?_
  refine sxo_move rfl rfl rfl ?_
  refine sxo_call ent31 rfl rfl rfl (fun x18 e18 => C_fano_Write F x1 a2 c3 x4 x18 e18) (.consF 0 rfl .nil) (fun x18 e18 => ?_)
  rintro ⟨⟨a19, c20⟩, ⟨a21, c22⟩⟩
  refine sxo_move rfl rfl rfl ?_
  refine sxo_extract rfl rfl rfl rfl ?_
  refine sxo_extract rfl rfl rfl rfl ?_
  refine sxo_alloc rfl tf51 rfl (fun g23 => ?_)
  refine sxo_storeB (i := 0) rfl rfl rfl tf51 rfl rfl rfl rfl rfl ?_
  refine sxo_assign rfl rfl rfl ?_
  refine sxo_nil ?_
  refine sxq_next ?_
  refine sxc_seq ?_
  refine sxc_region ?_
  refine sxo_loadB (i := 1) rfl rfl tf51 rfl rfl (by simp) rfl rfl ?_
  refine sxo_call ent32 rfl rfl rfl (fun x24 e24 => C_fano_Read F x5 x6 x7 x8 x9 a10 c11 x12 x13 a14 c15 x24 e24) (.consF 1 rfl (.consF 2 rfl .nil)) (fun x24 e24 => ?_)
  rintro ⟨a25, c26⟩
  refine sxo_move rfl rfl rfl ?_
  refine sxo_extract rfl rfl rfl rfl ?_
  refine sxo_extract rfl rfl rfl rfl ?_
  refine sxo_assign rfl rfl rfl ?_
  refine sxo_assign rfl rfl rfl ?_
  refine sxo_nil ?_
  refine sxq_next ?_
  refine sxc_seq ?_
  refine sxc_region ?_
  refine sxo_loadB (i := 1) rfl rfl tf51 rfl rfl (by simp) rfl rfl ?_
  refine sxo_move rfl rfl rfl ?_
  refine sxo_call ent33 rfl rfl rfl (fun x27 e27 => C_fano_Get F x5 x6 x7 x8 x9 a10 c11 x12 x13 a14 c15 x16 x27 e27) (.consF 1 rfl (.consF 2 rfl .nil)) (fun x27 e27 => ?_)
  intro _
  refine sxo_move rfl rfl rfl ?_
  refine sxo_extract rfl rfl rfl rfl ?_
  refine sxo_extract rfl rfl rfl rfl ?_
  refine sxo_assign rfl rfl rfl ?_
  refine sxo_assign rfl rfl rfl ?_
  refine sxo_nil ?_
  refine sxq_next ?_
  refine sxc_seq ?_
  refine sxc_region ?_
  refine sxo_loadB (i := 1) rfl rfl tf51 rfl rfl (by simp) rfl rfl ?_
  refine sxo_move rfl rfl rfl ?_
  refine sxo_call ent34 rfl rfl rfl (fun x28 e28 => C_fano_Next F x5 x6 x7 x8 x9 a10 c11 x12 x13 a14 c15 x16 x28 e28) (.consF 1 rfl (.consF 2 rfl .nil)) (fun x28 e28 => ?_)
  intro _
  refine sxo_move rfl rfl rfl ?_
  refine sxo_extract rfl rfl rfl rfl ?_
  refine sxo_extract rfl rfl rfl rfl ?_
  refine sxo_extract rfl rfl rfl rfl ?_
  refine sxo_assign rfl rfl rfl ?_
  refine sxo_assign rfl rfl rfl ?_
  refine sxo_assign rfl rfl rfl ?_
  refine sxo_nil ?_
  refine sxq_next ?_
  refine sxc_seq ?_
  refine sxc_region ?_
  refine sxo_move rfl rfl rfl ?_
  refine sxo_move rfl rfl rfl ?_
  refine sxo_call ent35 rfl rfl rfl (fun x29 e29 => C_R_FanoWrite F x1 a2 c3 x4 x29 e29) (.consF 0 rfl .nil) (fun x29 e29 => ?_)
  rintro ⟨⟨a30, c31⟩, ⟨a32, c33⟩⟩
  refine sxo_move rfl rfl rfl ?_
  refine sxo_extract rfl rfl rfl rfl ?_
  refine sxo_extract rfl rfl rfl rfl ?_
  refine sxo_alloc rfl tf51 rfl (fun g34 => ?_)
  refine sxo_storeB (i := 0) rfl rfl rfl tf51 rfl rfl rfl rfl rfl ?_
  refine sxo_assign rfl rfl rfl ?_
  refine sxo_nil ?_
  refine sxq_next ?_
  refine sxc_seq ?_
  refine sxc_region ?_
  refine sxo_loadB (i := 2) rfl rfl tf51 rfl rfl (by simp) rfl rfl ?_
  refine sxo_call ent36 rfl rfl rfl (fun x35 e35 => C_R_FanoRead F x5 x6 x7 x8 x9 a10 c11 x12 x13 a14 c15 x35 e35) (.consF 1 rfl (.consF 2 rfl .nil)) (fun x35 e35 => ?_)
  rintro ⟨a36, c37⟩
  refine sxo_move rfl rfl rfl ?_
  refine sxo_extract rfl rfl rfl rfl ?_
  refine sxo_extract rfl rfl rfl rfl ?_
  refine sxo_assign rfl rfl rfl ?_
  refine sxo_assign rfl rfl rfl ?_
  refine sxo_nil ?_
  refine sxq_next ?_
  refine sxc_seq ?_
  refine sxc_region ?_
  refine sxo_move rfl rfl rfl ?_
  refine sxo_move rfl rfl rfl ?_
  refine sxo_assign rfl rfl rfl ?_
  refine sxo_assign rfl rfl rfl ?_
  refine sxo_assign rfl rfl rfl ?_
  refine sxo_assign rfl rfl rfl ?_
  refine sxo_assign rfl rfl rfl ?_
  refine sxo_nil ?_
  refine sxq_next ?_
  refine sxc_join (fun (((x120, x121, x122, x123, x124), _) : ((Int × Int × Int × Int × Int) × Unit)) => [(6, .pointer (some ⟨g17, 0, none⟩)), (9, .pointer (some ⟨g23, 0, none⟩)), (10, .int .i64 x18.2.2.2.2.2.2.2), (11, .slice a25 x24.1.length c26), (12, .int .i64 x24.2), (13, .int .i64 x27.1), (14, .int .i64 x27.2), (15, .int .i64 x28.1), (16, .int .i64 x28.2.1), (17, .int .i64 x28.2.2), (18, .pointer (some ⟨g34, 0, none⟩)), (19, .int .i64 x29.2.2.2.2.2.2.2), (20, .slice a36 x35.1.length c37), (21, .int .i64 x35.2), (22, .int .i64 x120), (23, .int .i64 x121), (24, .int .i64 x122), (25, .int .i64 x123), (26, .int .i64 x124)]) (fun (((x120, x121, x122, x123, x124), _) : ((Int × Int × Int × Int × Int) × Unit)) => [⟨g34, 51, [.int .i64 x29.1, .int .i64 x29.2.1, .int .i64 x29.2.2.1, .int .i64 x29.2.2.2.1, .slice a30 x29.2.2.2.2.1.length c31, .int .i64 x29.2.2.2.2.2.1, .slice a32 x29.2.2.2.2.2.2.1.length c33]⟩, ⟨g23, 51, [.int .i64 x18.1, .int .i64 x18.2.1, .int .i64 x18.2.2.1, .int .i64 x18.2.2.2.1, .slice a19 x18.2.2.2.2.1.length c20, .int .i64 x18.2.2.2.2.2.1, .slice a21 x18.2.2.2.2.2.2.1.length c22]⟩, ⟨g17, 51, [.int .i64 x5, .int .i64 x6, .int .i64 x7, .int .i64 x8, .slice a10 x9.length c11, .int .i64 x12, .slice a14 x13.length c15]⟩]) (fun (((x120, x121, x122, x123, x124), _) : ((Int × Int × Int × Int × Int) × Unit)) => [Ro (eI .i64) 3 1 (.slice a25 x24.1.length c26) x24.1, Ro (eI .i64) 3 1 (.slice a36 x35.1.length c37) x35.1, Ro (eI .u8) 5 1 (.slice a30 x29.2.2.2.2.1.length c31) x29.2.2.2.2.1, Ro (eI .u8) 5 1 (.slice a32 x29.2.2.2.2.2.2.1.length c33) x29.2.2.2.2.2.2.1, Ro (eI .u8) 5 1 (.slice a19 x18.2.2.2.2.1.length c20) x18.2.2.2.2.1, Ro (eI .u8) 5 1 (.slice a21 x18.2.2.2.2.2.2.1.length c22) x18.2.2.2.2.2.2.1]) (fun (((x120, x121, x122, x123, x124), _) : ((Int × Int × Int × Int × Int) × Unit)) => [Sl (eI .u8) 1 (.slice a10 x9.length c11) x9, Sl (eI .u8) 1 (.slice a14 x13.length c15) x13]) (fun (((x120, x121, x122, x123, x124), _) : ((Int × Int × Int × Int × Int) × Unit)) => M_L_FanoTells_j6 F x5 x6 x7 x8 x9 x12 x13 x18 x24 x27 x28 x29 x35 x120 x121 x122 x123 x124) ?_ ?_
  · refine sxc_seq ?_
    refine sxc_region ?_
    refine sxo_move rfl rfl rfl ?_
    refine sxo_eql rfl rfl rfl rfl ?_
    refine sxo_nil ?_
    refine sxq_next ?_
    refine sxc_if rfl (fun h226 => ?_) (fun h226 => ?_)
    · refine sxc_join (fun (((x150, x151), _) : ((Int × Int) × Unit)) => [(3, .int .i64 x16), (6, .pointer (some ⟨g17, 0, none⟩)), (9, .pointer (some ⟨g23, 0, none⟩)), (10, .int .i64 x18.2.2.2.2.2.2.2), (11, .slice a25 x24.1.length c26), (12, .int .i64 x24.2), (13, .int .i64 x27.1), (14, .int .i64 x27.2), (15, .int .i64 x28.1), (16, .int .i64 x28.2.1), (17, .int .i64 x28.2.2), (18, .pointer (some ⟨g34, 0, none⟩)), (19, .int .i64 x29.2.2.2.2.2.2.2), (20, .slice a36 x35.1.length c37), (21, .int .i64 x35.2), (22, .int .i64 x150), (24, .int .i64 x151), (25, .int .i64 0), (26, .int .i64 0)]) (fun (((x150, x151), _) : ((Int × Int) × Unit)) => [⟨g34, 51, [.int .i64 x29.1, .int .i64 x29.2.1, .int .i64 x29.2.2.1, .int .i64 x29.2.2.2.1, .slice a30 x29.2.2.2.2.1.length c31, .int .i64 x29.2.2.2.2.2.1, .slice a32 x29.2.2.2.2.2.2.1.length c33]⟩, ⟨g23, 51, [.int .i64 x18.1, .int .i64 x18.2.1, .int .i64 x18.2.2.1, .int .i64 x18.2.2.2.1, .slice a19 x18.2.2.2.2.1.length c20, .int .i64 x18.2.2.2.2.2.1, .slice a21 x18.2.2.2.2.2.2.1.length c22]⟩, ⟨g17, 51, [.int .i64 x5, .int .i64 x6, .int .i64 x7, .int .i64 x8, .slice a10 x9.length c11, .int .i64 x12, .slice a14 x13.length c15]⟩]) (fun (((x150, x151), _) : ((Int × Int) × Unit)) => [Ro (eI .i64) 3 1 (.slice a25 x24.1.length c26) x24.1, Ro (eI .i64) 3 1 (.slice a36 x35.1.length c37) x35.1, Ro (eI .u8) 5 1 (.slice a30 x29.2.2.2.2.1.length c31) x29.2.2.2.2.1, Ro (eI .u8) 5 1 (.slice a32 x29.2.2.2.2.2.2.1.length c33) x29.2.2.2.2.2.2.1, Ro (eI .u8) 5 1 (.slice a19 x18.2.2.2.2.1.length c20) x18.2.2.2.2.1, Ro (eI .u8) 5 1 (.slice a21 x18.2.2.2.2.2.2.1.length c22) x18.2.2.2.2.2.2.1]) (fun (((x150, x151), _) : ((Int × Int) × Unit)) => [Sl (eI .u8) 1 (.slice a10 x9.length c11) x9, Sl (eI .u8) 1 (.slice a14 x13.length c15) x13]) (fun (((x150, x151), _) : ((Int × Int) × Unit)) => M_L_FanoTells_j10 F x5 x6 x7 x8 x9 x12 x13 x16 x18 x24 x27 x28 x29 x35 x150 x151) ?_ ?_
      · refine sxc_seq ?_
        refine sxc_region ?_
        refine sxo_assign rfl rfl rfl ?_
        refine sxo_nil ?_
        refine sxq_next ?_
        refine sxc_seq ?_
        refine sxc_region ?_
        refine sxo_move rfl rfl rfl ?_
        refine sxo_geq rfl rfl rfl rfl ?_
        refine sxo_move rfl rfl rfl ?_
        refine sxo_case 5 (decide (0 ≤ x16)) [(3, .int .i64 x16), (6, .pointer (some ⟨g17, 0, none⟩)), (9, .pointer (some ⟨g23, 0, none⟩)), (10, .int .i64 x18.2.2.2.2.2.2.2), (11, .slice a25 x24.1.length c26), (12, .int .i64 x24.2), (13, .int .i64 x27.1), (14, .int .i64 x27.2), (15, .int .i64 x28.1), (16, .int .i64 x28.2.1), (17, .int .i64 x28.2.2), (18, .pointer (some ⟨g34, 0, none⟩)), (19, .int .i64 x29.2.2.2.2.2.2.2), (20, .slice a36 x35.1.length c37), (21, .int .i64 x35.2), (22, .int .i64 3), (24, .int .i64 0), (25, .int .i64 0), (26, .int .i64 0), (74, .bool ((decide (0 ≤ x16)) && (decide (x16 < (x35.1.length : Int)))))] (fun h221 => ?_) (fun h221 => ?_) ?_
        · refine sxo_take (os := _) rfl ?_
          refine sxo_isT (k := 69) rfl h221 ?_
          refine sxo_move rfl rfl rfl ?_
          refine sxo_move rfl rfl rfl ?_
          refine sxo_len rfl Try.underlying23 rfl rfl ?_
          refine sxo_lss rfl rfl rfl rfl ?_
          refine sxo_pick (b := true) rfl rfl rfl rfl ?_
          refine sxo_again (d := 74) (v := .bool ((decide (0 ≤ x16)) && (decide (x16 < (x35.1.length : Int))))) rfl (by rw [h221]; simp only [Bool.true_and]) ?_
          refine sxo_nil ?_
          exact sxq_case (lk_cons rfl (lk_cons rfl (lk_cons rfl (lk_cons rfl (lk_cons rfl (lk_cons rfl (lk_cons rfl (lk_cons rfl (lk_cons rfl (lk_cons rfl (lk_cons rfl (lk_cons rfl (lk_cons rfl (lk_cons rfl (lk_cons rfl (lk_cons rfl (lk_cons rfl (lk_cons rfl (lk_cons rfl (lk_cons rfl lk_nil))))))))))))))))))))
        · refine sxo_take (os := _) rfl ?_
          refine sxo_isF (k := 69) rfl h221 ?_
          refine sxo_skip rfl rfl rfl ?_
          refine sxo_skip rfl rfl rfl ?_
          refine sxo_skip rfl rfl rfl ?_
          refine sxo_skip rfl rfl rfl ?_
          refine sxo_pick (b := false) rfl rfl rfl rfl ?_
          refine sxo_again (d := 74) (v := .bool ((decide (0 ≤ x16)) && (decide (x16 < (x35.1.length : Int))))) rfl (by rw [h221]; simp only [Bool.false_and]) ?_
          refine sxo_nil ?_
          exact sxq_case (lk_cons rfl (lk_cons rfl (lk_cons rfl (lk_cons rfl (lk_cons rfl (lk_cons rfl (lk_cons rfl (lk_cons rfl (lk_cons rfl (lk_cons rfl (lk_cons rfl (lk_cons rfl (lk_cons rfl (lk_cons rfl (lk_cons rfl (lk_cons rfl (lk_cons rfl (lk_cons rfl (lk_cons rfl (lk_cons rfl lk_nil))))))))))))))))))))
        refine sxo_take (os := _) rfl ?_
        refine sxo_nil ?_
        refine sxq_next ?_
        refine sxc_if rfl (fun h225 => ?_) (fun h225 => ?_)
        · refine sxc_region ?_
          refine sxo_move rfl rfl rfl ?_
          refine sxo_move rfl rfl rfl ?_
          refine sxo_indexR (j := 0) rfl Try.underlying23 tf3 rfl rfl rfl rfl (fun x222 e222 g223 h224 => ?_)
          refine sxo_loadR (j := 0) (y := x222) (eI_ok .i64) rfl rfl tf3 rfl h224 (idx_get e222).2.2 (fun _ => rfl) rfl rfl ?_
          refine sxo_assign rfl rfl rfl ?_
          refine sxo_assign rfl rfl rfl ?_
          refine sxo_nil ?_
          exact sxq_meetP ((0, x222), ()) (lk_cons rfl (lk_cons rfl (lk_cons rfl (lk_cons rfl (lk_cons rfl (lk_cons rfl (lk_cons rfl (lk_cons rfl (lk_cons rfl (lk_cons rfl (lk_cons rfl (lk_cons rfl (lk_cons rfl (lk_cons rfl (lk_cons rfl (lk_cons rfl (lk_cons rfl (lk_cons rfl (lk_cons rfl lk_nil))))))))))))))))))) (.cons 0 rfl (.cons 0 rfl (.cons 0 rfl .nil))) (.cons 3 rfl (.cons 0 rfl (.cons 0 rfl (.cons 0 rfl (.cons 0 rfl (.cons 0 rfl .nil)))))) (fk_cons 1 rfl (fk_cons 2 rfl fk_nil))
        · refine sxc_skip ?_
          exact sxq_meetP ((3, 0), ()) (lk_cons rfl (lk_cons rfl (lk_cons rfl (lk_cons rfl (lk_cons rfl (lk_cons rfl (lk_cons rfl (lk_cons rfl (lk_cons rfl (lk_cons rfl (lk_cons rfl (lk_cons rfl (lk_cons rfl (lk_cons rfl (lk_cons rfl (lk_cons rfl (lk_cons rfl (lk_cons rfl (lk_cons rfl lk_nil))))))))))))))))))) (.cons 0 rfl (.cons 0 rfl (.cons 0 rfl .nil))) (.cons 3 rfl (.cons 0 rfl (.cons 0 rfl (.cons 0 rfl (.cons 0 rfl (.cons 0 rfl .nil)))))) (fk_cons 1 rfl (fk_cons 2 rfl fk_nil))
      · rintro ⟨⟨x150, x151⟩, _⟩
        try dsimp only
        refine sxc_seq ?_
        refine sxc_region ?_
        refine sxo_assign rfl rfl rfl ?_
        refine sxo_nil ?_
        refine sxq_next ?_
        refine sxc_seq ?_
        refine sxc_region ?_
        refine sxo_move rfl rfl rfl ?_
        refine sxo_len rfl Try.underlying23 rfl rfl ?_
        refine sxo_sub rfl rfl rfl rfl ?_
        refine sxo_assign rfl rfl rfl ?_
        refine sxo_nil ?_
        refine sxq_next ?_
        refine sxc_block ?_
        refine sxc_loopP (fun (((x174, x175, x176, x177), _) : ((Int × Int × Int × Int) × Unit)) => [(3, .int .i64 x16), (6, .pointer (some ⟨g17, 0, none⟩)), (9, .pointer (some ⟨g23, 0, none⟩)), (10, .int .i64 x18.2.2.2.2.2.2.2), (11, .slice a25 x24.1.length c26), (12, .int .i64 x24.2), (13, .int .i64 x27.1), (14, .int .i64 x27.2), (15, .int .i64 x28.1), (16, .int .i64 x28.2.1), (17, .int .i64 x28.2.2), (18, .pointer (some ⟨g34, 0, none⟩)), (19, .int .i64 x29.2.2.2.2.2.2.2), (20, .slice a36 x35.1.length c37), (21, .int .i64 x35.2), (22, .int .i64 x150), (23, .int .i64 x174), (24, .int .i64 x151), (25, .int .i64 x175), (26, .int .i64 x176), (27, .int .i64 x177)]) (fun (((x174, x175, x176, x177), _) : ((Int × Int × Int × Int) × Unit)) => [⟨g34, 51, [.int .i64 x29.1, .int .i64 x29.2.1, .int .i64 x29.2.2.1, .int .i64 x29.2.2.2.1, .slice a30 x29.2.2.2.2.1.length c31, .int .i64 x29.2.2.2.2.2.1, .slice a32 x29.2.2.2.2.2.2.1.length c33]⟩, ⟨g23, 51, [.int .i64 x18.1, .int .i64 x18.2.1, .int .i64 x18.2.2.1, .int .i64 x18.2.2.2.1, .slice a19 x18.2.2.2.2.1.length c20, .int .i64 x18.2.2.2.2.2.1, .slice a21 x18.2.2.2.2.2.2.1.length c22]⟩, ⟨g17, 51, [.int .i64 x5, .int .i64 x6, .int .i64 x7, .int .i64 x8, .slice a10 x9.length c11, .int .i64 x12, .slice a14 x13.length c15]⟩]) (fun (((x174, x175, x176, x177), _) : ((Int × Int × Int × Int) × Unit)) => [Ro (eI .i64) 3 1 (.slice a25 x24.1.length c26) x24.1, Ro (eI .i64) 3 1 (.slice a36 x35.1.length c37) x35.1, Ro (eI .u8) 5 1 (.slice a30 x29.2.2.2.2.1.length c31) x29.2.2.2.2.1, Ro (eI .u8) 5 1 (.slice a32 x29.2.2.2.2.2.2.1.length c33) x29.2.2.2.2.2.2.1, Ro (eI .u8) 5 1 (.slice a19 x18.2.2.2.2.1.length c20) x18.2.2.2.2.1, Ro (eI .u8) 5 1 (.slice a21 x18.2.2.2.2.2.2.1.length c22) x18.2.2.2.2.2.2.1]) (fun (((x174, x175, x176, x177), _) : ((Int × Int × Int × Int) × Unit)) => [Sl (eI .u8) 1 (.slice a10 x9.length c11) x9, Sl (eI .u8) 1 (.slice a14 x13.length c15) x13]) (fun k (s : ((Int × Int × Int × Int) × Unit)) => M_L_FanoTells_l13 F x5 x6 x7 x8 x9 x12 x13 x16 x18 x24 x27 x28 x29 x35 x150 x151 k s.1) ((5, 0, 0, isub .i64 (x35.1.length : Int) 1), ()) F (lk_cons rfl (lk_cons rfl (lk_cons rfl (lk_cons rfl (lk_cons rfl (lk_cons rfl (lk_cons rfl (lk_cons rfl (lk_cons rfl (lk_cons rfl (lk_cons rfl (lk_cons rfl (lk_cons rfl (lk_cons rfl (lk_cons rfl (lk_cons rfl (lk_cons rfl (lk_cons rfl (lk_cons rfl (lk_cons rfl (lk_cons rfl lk_nil))))))))))))))))))))) (.cons 0 rfl (.cons 0 rfl (.cons 0 rfl .nil))) (.cons 0 rfl (.cons 0 rfl (.cons 0 rfl (.cons 0 rfl (.cons 0 rfl (.cons 0 rfl .nil)))))) (fk_cons 0 rfl (fk_cons 1 rfl fk_nil)) (fun _ => rfl) ?_
        intro k199
        rintro ⟨⟨x174, x175, x176, x177⟩, _⟩
        try dsimp only
        refine sxc_meq (m' := M_L_FanoTells_b13 F x5 x6 x7 x8 x9 x12 x13 x16 x18 x24 x27 x28 x29 x35 x150 x151 (M_L_FanoTells_l13 F x5 x6 x7 x8 x9 x12 x13 x16 x18 x24 x27 x28 x29 x35 x150 x151 k199) x174 x175 x176 x177) rfl ?_
        refine sxc_seq ?_
        refine sxc_seq ?_
        refine sxc_region ?_
        refine sxo_move rfl rfl rfl ?_
        refine sxo_geq rfl rfl rfl rfl ?_
        refine sxo_nil ?_
        refine sxq_next ?_
        refine sxc_if rfl (fun h220 => ?_) (fun h220 => ?_)
        · refine sxc_skip ?_
          refine sxq_next ?_
          refine sxc_join (fun (((x209, x210, x211), _) : ((Int × Int × Int) × Unit)) => [(3, .int .i64 x16), (6, .pointer (some ⟨g17, 0, none⟩)), (9, .pointer (some ⟨g23, 0, none⟩)), (10, .int .i64 x18.2.2.2.2.2.2.2), (11, .slice a25 x24.1.length c26), (12, .int .i64 x24.2), (13, .int .i64 x27.1), (14, .int .i64 x27.2), (15, .int .i64 x28.1), (16, .int .i64 x28.2.1), (17, .int .i64 x28.2.2), (18, .pointer (some ⟨g34, 0, none⟩)), (19, .int .i64 x29.2.2.2.2.2.2.2), (20, .slice a36 x35.1.length c37), (21, .int .i64 x35.2), (22, .int .i64 x150), (23, .int .i64 x209), (24, .int .i64 x151), (25, .int .i64 x210), (26, .int .i64 x211), (27, .int .i64 x177)]) (fun (((x209, x210, x211), _) : ((Int × Int × Int) × Unit)) => [⟨g34, 51, [.int .i64 x29.1, .int .i64 x29.2.1, .int .i64 x29.2.2.1, .int .i64 x29.2.2.2.1, .slice a30 x29.2.2.2.2.1.length c31, .int .i64 x29.2.2.2.2.2.1, .slice a32 x29.2.2.2.2.2.2.1.length c33]⟩, ⟨g23, 51, [.int .i64 x18.1, .int .i64 x18.2.1, .int .i64 x18.2.2.1, .int .i64 x18.2.2.2.1, .slice a19 x18.2.2.2.2.1.length c20, .int .i64 x18.2.2.2.2.2.1, .slice a21 x18.2.2.2.2.2.2.1.length c22]⟩, ⟨g17, 51, [.int .i64 x5, .int .i64 x6, .int .i64 x7, .int .i64 x8, .slice a10 x9.length c11, .int .i64 x12, .slice a14 x13.length c15]⟩]) (fun (((x209, x210, x211), _) : ((Int × Int × Int) × Unit)) => [Ro (eI .i64) 3 1 (.slice a25 x24.1.length c26) x24.1, Ro (eI .i64) 3 1 (.slice a36 x35.1.length c37) x35.1, Ro (eI .u8) 5 1 (.slice a30 x29.2.2.2.2.1.length c31) x29.2.2.2.2.1, Ro (eI .u8) 5 1 (.slice a32 x29.2.2.2.2.2.2.1.length c33) x29.2.2.2.2.2.2.1, Ro (eI .u8) 5 1 (.slice a19 x18.2.2.2.2.1.length c20) x18.2.2.2.2.1, Ro (eI .u8) 5 1 (.slice a21 x18.2.2.2.2.2.2.1.length c22) x18.2.2.2.2.2.2.1]) (fun (((x209, x210, x211), _) : ((Int × Int × Int) × Unit)) => [Sl (eI .u8) 1 (.slice a10 x9.length c11) x9, Sl (eI .u8) 1 (.slice a14 x13.length c15) x13]) (fun (((x209, x210, x211), _) : ((Int × Int × Int) × Unit)) => M_L_FanoTells_j14 F (M_L_FanoTells_l13 F x5 x6 x7 x8 x9 x12 x13 x16 x18 x24 x27 x28 x29 x35 x150 x151 k199) x177 x209 x210 x211) ?_ ?_
          · refine sxc_block ?_
            refine sxc_seq ?_
            refine sxc_region ?_
            refine sxo_move rfl rfl rfl ?_
            refine sxo_move rfl rfl rfl ?_
            refine sxo_indexR (j := 1) rfl Try.underlying23 tf3 rfl rfl rfl rfl (fun x212 e212 g213 h214 => ?_)
            refine sxo_loadR (j := 1) (y := x212) (eI_ok .i64) rfl rfl tf3 rfl h214 (idx_get e212).2.2 (fun _ => rfl) rfl rfl ?_
            refine sxo_move rfl rfl rfl ?_
            refine sxo_geq rfl rfl rfl rfl ?_
            refine sxo_nil ?_
            refine sxq_next ?_
            refine sxc_if rfl (fun h219 => ?_) (fun h219 => ?_)
            · refine sxc_idxO (j := 1) rfl (fun x215 e215 g216 h217 => ?_)
              replace h217 : a36 = some ⟨g216, 0, none⟩ := h217
              have h218 := own_of (k := x35.1.length) (c := c37) h217
              refine sxb_draw mixed [] [⟨g34, 51, [.int .i64 x29.1, .int .i64 x29.2.1, .int .i64 x29.2.2.1, .int .i64 x29.2.2.2.1, .slice a30 x29.2.2.2.2.1.length c31, .int .i64 x29.2.2.2.2.2.1, .slice a32 x29.2.2.2.2.2.2.1.length c33]⟩, ⟨g23, 51, [.int .i64 x18.1, .int .i64 x18.2.1, .int .i64 x18.2.2.1, .int .i64 x18.2.2.2.1, .slice a19 x18.2.2.2.2.1.length c20, .int .i64 x18.2.2.2.2.2.1, .slice a21 x18.2.2.2.2.2.2.1.length c22]⟩, ⟨g17, 51, [.int .i64 x5, .int .i64 x6, .int .i64 x7, .int .i64 x8, .slice a10 x9.length c11, .int .i64 x12, .slice a14 x13.length c15]⟩] [Sl (eI .u8) 1 (.slice a10 x9.length c11) x9, Sl (eI .u8) 1 (.slice a14 x13.length c15) x13, CellsAt g216 (x177.toNat * 1) ((eI .i64) x215)] (.cons 0 rfl (.cons 0 rfl (.cons 0 rfl .nil))) (gk_F 0 rfl (gk_F 1 rfl (gk_R 1 rfl (at_row (eI_ok .i64) e215 h217) gk_nil))) 8 rfl ?_
              refine sxb_takeP 0 (.int .i64 x177) rfl rfl rfl rfl (by kernel_rfl) (by kernel_rfl) (by kernel_rfl) (by kernel_rfl) (by kernel_rfl) rfl (show _ = #[true, false, false, false, false, false, false, false] from rfl) (yv_pv rfl) ?_
              refine sxb_takeP 1 (.slice a36 x35.1.length c37) rfl rfl rfl rfl (by kernel_rfl) (by kernel_rfl) (by kernel_rfl) (by kernel_rfl) (by kernel_rfl) rfl (show _ = #[true, true, false, false, false, false, false, false] from rfl) (yv_pv rfl) ?_
              refine sxb_takeP 2 (.int .i64 x177) rfl rfl rfl rfl (by kernel_rfl) (by kernel_rfl) (by kernel_rfl) (by kernel_rfl) (by kernel_rfl) rfl (show _ = #[true, true, true, false, false, false, false, false] from rfl) (yv_pv rfl) ?_
              refine sxb_again (d := 93) (v := .slice (some ⟨g216, 0, none⟩) x35.1.length c37) rfl (by rw [h217]) ?_
              refine sxb_takeP 3 (.pointer (some ⟨g216, x177.toNat * 1, none⟩)) rfl rfl rfl rfl (by kernel_rfl) (by kernel_rfl) (by kernel_rfl) (by kernel_rfl) (by kernel_rfl) rfl (show _ = #[true, true, true, true, false, false, false, false] from rfl) (yv_idxO Try.underlying23 tf3 rfl rfl (idx_get e215).1 (idx_lt e215)) ?_
              refine sxb_again (d := 93) (v := .slice a36 x35.1.length c37) rfl (by rw [h217]) ?_
              refine sxb_take 4 (.int .i64 x215) [] rfl rfl rfl rfl (by kernel_rfl) (by kernel_rfl) (by kernel_rfl) (by kernel_rfl) (by kernel_rfl) (by kernel_rfl) rfl (show _ = #[true, true, true, true, true, false, false, false] from rfl) (yv_loadF (j := 2) rfl tf3 rfl rfl (fun _ => rfl) rfl) ?_
              refine sxb_takeP 5 (.int .i64 x177) rfl rfl rfl rfl (by kernel_rfl) (by kernel_rfl) (by kernel_rfl) (by kernel_rfl) (by kernel_rfl) rfl (show _ = #[true, true, true, true, true, true, false, false] from rfl) (yv_pv rfl) ?_
              refine sxb_takeP 6 (.int .i64 x215) rfl rfl rfl rfl (by kernel_rfl) (by kernel_rfl) (by kernel_rfl) (by kernel_rfl) (by kernel_rfl) rfl (show _ = #[true, true, true, true, true, true, true, false] from rfl) (yv_pv rfl) ?_
              refine sxb_takeP 7 (.int .i64 0) rfl rfl rfl rfl (by kernel_rfl) (by kernel_rfl) (by kernel_rfl) (by kernel_rfl) (by kernel_rfl) rfl (show _ = #[true, true, true, true, true, true, true, true] from rfl) (yv_pv rfl) ?_
              refine sxb_done (by kernel_rfl) ?_
              refine sxq_np ?_ (by intro c h; cases h)
              refine sxq_blkN ?_
              exact sxq_meetP ((0, x177, x215), ()) (lk_cons rfl (lk_cons rfl (lk_cons rfl (lk_cons rfl (lk_cons rfl (lk_cons rfl (lk_cons rfl (lk_cons rfl (lk_cons rfl (lk_cons rfl (lk_cons rfl (lk_cons rfl (lk_cons rfl (lk_cons rfl (lk_cons rfl (lk_cons rfl (lk_cons rfl (lk_cons rfl (lk_cons rfl (lk_cons rfl (lk_cons rfl lk_nil))))))))))))))))))))) (.cons 0 rfl (.cons 0 rfl (.cons 0 rfl .nil))) (.cons 0 rfl (.cons 0 rfl (.cons 0 rfl (.cons 0 rfl (.cons 0 rfl (.cons 0 rfl .nil)))))) (fk_cons 0 rfl (fk_cons 1 rfl fk_nil))
            · refine sxc_skip ?_
              refine sxq_blkN ?_
              exact sxq_meetP ((x174, x175, x176), ()) (lk_cons rfl (lk_cons rfl (lk_cons rfl (lk_cons rfl (lk_cons rfl (lk_cons rfl (lk_cons rfl (lk_cons rfl (lk_cons rfl (lk_cons rfl (lk_cons rfl (lk_cons rfl (lk_cons rfl (lk_cons rfl (lk_cons rfl (lk_cons rfl (lk_cons rfl (lk_cons rfl (lk_cons rfl (lk_cons rfl (lk_cons rfl lk_nil))))))))))))))))))))) (.cons 0 rfl (.cons 0 rfl (.cons 0 rfl .nil))) (.cons 0 rfl (.cons 0 rfl (.cons 0 rfl (.cons 0 rfl (.cons 0 rfl (.cons 0 rfl .nil)))))) (fk_cons 0 rfl (fk_cons 1 rfl fk_nil))
          · rintro ⟨⟨x209, x210, x211⟩, _⟩
            try dsimp only
            refine sxc_region ?_
            refine sxo_move rfl rfl rfl ?_
            refine sxo_sub rfl rfl rfl rfl ?_
            refine sxo_assign rfl rfl rfl ?_
            refine sxo_nil ?_
            exact sxq_againP ((x209, x210, x211, isub .i64 x177 1), ()) (lk_cons rfl (lk_cons rfl (lk_cons rfl (lk_cons rfl (lk_cons rfl (lk_cons rfl (lk_cons rfl (lk_cons rfl (lk_cons rfl (lk_cons rfl (lk_cons rfl (lk_cons rfl (lk_cons rfl (lk_cons rfl (lk_cons rfl (lk_cons rfl (lk_cons rfl (lk_cons rfl (lk_cons rfl (lk_cons rfl (lk_cons rfl lk_nil))))))))))))))))))))) (.cons 0 rfl (.cons 0 rfl (.cons 0 rfl .nil))) (.cons 0 rfl (.cons 0 rfl (.cons 0 rfl (.cons 0 rfl (.cons 0 rfl (.cons 0 rfl .nil)))))) (fk_cons 0 rfl (fk_cons 1 rfl fk_nil))
        · refine sxc_exit ?_
          refine sxq_thenX ?_
          refine sxq_thenX ?_
          refine sxq_blkX ?_
          exact sxq_meetP ((x150, x174, x151, x175, x176), ()) (lk_cons rfl (lk_cons rfl (lk_cons rfl (lk_cons rfl (lk_cons rfl (lk_cons rfl (lk_cons rfl (lk_cons rfl (lk_cons rfl (lk_cons rfl (lk_cons rfl (lk_cons rfl (lk_cons rfl (lk_cons rfl (lk_cons rfl (lk_cons rfl (lk_cons rfl (lk_cons rfl (lk_cons rfl lk_nil))))))))))))))))))) (.cons 0 rfl (.cons 0 rfl (.cons 0 rfl .nil))) (.cons 0 rfl (.cons 0 rfl (.cons 0 rfl (.cons 0 rfl (.cons 0 rfl (.cons 0 rfl .nil)))))) (fk_cons 0 rfl (fk_cons 1 rfl fk_nil))
    · refine sxc_skip ?_
      exact sxq_meetP ((x35.2, x35.2, 0, 0, 0), ()) (lk_cons rfl (lk_cons rfl (lk_cons rfl (lk_cons rfl (lk_cons rfl (lk_cons rfl (lk_cons rfl (lk_cons rfl (lk_cons rfl (lk_cons rfl (lk_cons rfl (lk_cons rfl (lk_cons rfl (lk_cons rfl (lk_cons rfl (lk_cons rfl (lk_cons rfl (lk_cons rfl (lk_cons rfl lk_nil))))))))))))))))))) (.cons 0 rfl (.cons 0 rfl (.cons 0 rfl .nil))) (.cons 3 rfl (.cons 0 rfl (.cons 0 rfl (.cons 0 rfl (.cons 0 rfl (.cons 0 rfl .nil)))))) (fk_cons 1 rfl (fk_cons 2 rfl fk_nil))
  · rintro ⟨⟨x120, x121, x122, x123, x124⟩, _⟩
    try dsimp only
    refine sxc_seq ?_
    refine sxc_region ?_
    refine sxo_call ent37 rfl rfl rfl (fun x125 e125 => C_L_fanoBegun F  x125 e125) .nil (fun x125 e125 => ?_)
    intro _
    refine sxo_move rfl rfl rfl ?_
    refine sxo_join 4 (fun ((x128, _) : (Bool × Unit)) => [(6, .pointer (some ⟨g17, 0, none⟩)), (10, .int .i64 x18.2.2.2.2.2.2.2), (11, .slice a25 x24.1.length c26), (12, .int .i64 x24.2), (13, .int .i64 x27.1), (14, .int .i64 x27.2), (15, .int .i64 x28.1), (16, .int .i64 x28.2.1), (17, .int .i64 x28.2.2), (19, .int .i64 x29.2.2.2.2.2.2.2), (20, .slice a36 x35.1.length c37), (21, .int .i64 x35.2), (22, .int .i64 x120), (23, .int .i64 x121), (24, .int .i64 x122), (25, .int .i64 x123), (26, .int .i64 x124), (102, .bool x128)]) (fun ((x128, _) : (Bool × Unit)) => [⟨g17, 51, [.int .i64 x5, .int .i64 x6, .int .i64 x7, .int .i64 x8, .slice a10 x9.length c11, .int .i64 x12, .slice a14 x13.length c15]⟩]) (fun ((x128, _) : (Bool × Unit)) => [Ro (eI .i64) 3 1 (.slice a25 x24.1.length c26) x24.1, Ro (eI .i64) 3 1 (.slice a36 x35.1.length c37) x35.1]) (fun ((x128, _) : (Bool × Unit)) => [Sl (eI .u8) 1 (.slice a10 x9.length c11) x9, Sl (eI .u8) 1 (.slice a14 x13.length c15) x13]) (fun ((x128, _) : (Bool × Unit)) => M_L_FanoTells_j7 F x5 x6 x7 x8 x9 x12 x13 x18 x24 x27 x28 x29 x35 x120 x121 x122 x123 x124 x128) ?_ ?_
    · refine sxo_take (os := _) rfl ?_
      refine sxo_if (fun h126 => ?_) (fun h126 => ?_)
      · refine sxo_isT (k := 98) rfl h126 ?_
        refine sxo_loadB (i := 1) rfl rfl tf51 rfl rfl (by simp) rfl rfl ?_
        refine sxo_loadB (i := 0) rfl rfl tf51 rfl rfl (by simp) rfl rfl ?_
        refine sxo_call ent38 rfl rfl rfl (fun x144 e144 => C_R_SameFano F x18.1 x18.2.1 x18.2.2.1 x18.2.2.2.1 x18.2.2.2.2.1 a19 c20 x18.2.2.2.2.2.1 x18.2.2.2.2.2.2.1 a21 c22 x29.1 x29.2.1 x29.2.2.1 x29.2.2.2.1 x29.2.2.2.2.1 a30 c31 x29.2.2.2.2.2.1 x29.2.2.2.2.2.2.1 a32 c33 x144 e144) (.consR 4 (Ro (eI .u8) 5 1 (.slice a19 x18.2.2.2.2.1.length c20) x18.2.2.2.2.1) rfl (.consR 5 (Ro (eI .u8) 5 1 (.slice a21 x18.2.2.2.2.2.2.1.length c22) x18.2.2.2.2.2.2.1) rfl (.consR 2 (Ro (eI .u8) 5 1 (.slice a30 x29.2.2.2.2.1.length c31) x29.2.2.2.2.1) rfl (.consR 3 (Ro (eI .u8) 5 1 (.slice a32 x29.2.2.2.2.2.2.1.length c33) x29.2.2.2.2.2.2.1) rfl .nil)))) (fun x144 e144 => ?_)
        intro _
        refine sxo_pick (b := true) rfl rfl rfl rfl ?_
        refine sxo_nil ?_
        exact sxq_meetP (x144, ()) (lk_cons rfl (lk_cons rfl (lk_cons rfl (lk_cons rfl (lk_cons rfl (lk_cons rfl (lk_cons rfl (lk_cons rfl (lk_cons rfl (lk_cons rfl (lk_cons rfl (lk_cons rfl (lk_cons rfl (lk_cons rfl (lk_cons rfl (lk_cons rfl (lk_cons rfl (lk_cons rfl lk_nil)))))))))))))))))) (.cons 2 rfl .nil) (.cons 0 rfl (.cons 0 rfl .nil)) (fk_cons 0 rfl (fk_cons 1 rfl fk_nil))
      · refine sxo_isF (k := 98) rfl h126 ?_
        refine sxo_skip rfl rfl rfl ?_
        refine sxo_skip rfl rfl rfl ?_
        refine sxo_skip rfl rfl rfl ?_
        refine sxo_pick (b := false) rfl rfl rfl rfl ?_
        refine sxo_nil ?_
        exact sxq_meetP (false, ()) (lk_cons rfl (lk_cons rfl (lk_cons rfl (lk_cons rfl (lk_cons rfl (lk_cons rfl (lk_cons rfl (lk_cons rfl (lk_cons rfl (lk_cons rfl (lk_cons rfl (lk_cons rfl (lk_cons rfl (lk_cons rfl (lk_cons rfl (lk_cons rfl (lk_cons rfl (lk_cons rfl lk_nil)))))))))))))))))) (.cons 2 rfl .nil) (.cons 0 rfl (.cons 0 rfl .nil)) (fk_cons 0 rfl (fk_cons 1 rfl fk_nil))
    · rintro ⟨x128, _⟩
      try dsimp only
      refine sxo_take (os := _) rfl ?_
      refine sxo_move rfl rfl rfl ?_
      refine sxo_case 4 x128 [(6, .pointer (some ⟨g17, 0, none⟩)), (11, .slice a25 x24.1.length c26), (12, .int .i64 x24.2), (13, .int .i64 x27.1), (14, .int .i64 x27.2), (15, .int .i64 x28.1), (16, .int .i64 x28.2.1), (17, .int .i64 x28.2.2), (20, .slice a36 x35.1.length c37), (21, .int .i64 x35.2), (22, .int .i64 x120), (23, .int .i64 x121), (24, .int .i64 x122), (25, .int .i64 x123), (26, .int .i64 x124), (107, .bool (x128 && ((x18.2.2.2.2.2.2.2 : Int) == x29.2.2.2.2.2.2.2)))] (fun h129 => ?_) (fun h129 => ?_) ?_
      · refine sxo_take (os := _) rfl ?_
        refine sxo_isT (k := 103) rfl h129 ?_
        refine sxo_move rfl rfl rfl ?_
        refine sxo_move rfl rfl rfl ?_
        refine sxo_eql rfl rfl rfl rfl ?_
        refine sxo_pick (b := true) rfl rfl rfl rfl ?_
        refine sxo_again (d := 107) (v := .bool (x128 && ((x18.2.2.2.2.2.2.2 : Int) == x29.2.2.2.2.2.2.2))) rfl (by rw [h129]; simp only [Bool.true_and]) ?_
        refine sxo_nil ?_
        exact sxq_case (lk_cons rfl (lk_cons rfl (lk_cons rfl (lk_cons rfl (lk_cons rfl (lk_cons rfl (lk_cons rfl (lk_cons rfl (lk_cons rfl (lk_cons rfl (lk_cons rfl (lk_cons rfl (lk_cons rfl (lk_cons rfl (lk_cons rfl (lk_cons rfl lk_nil))))))))))))))))
      · refine sxo_take (os := _) rfl ?_
        refine sxo_isF (k := 103) rfl h129 ?_
        refine sxo_skip rfl rfl rfl ?_
        refine sxo_skip rfl rfl rfl ?_
        refine sxo_skip rfl rfl rfl ?_
        refine sxo_pick (b := false) rfl rfl rfl rfl ?_
        refine sxo_again (d := 107) (v := .bool (x128 && ((x18.2.2.2.2.2.2.2 : Int) == x29.2.2.2.2.2.2.2))) rfl (by rw [h129]; simp only [Bool.false_and]) ?_
        refine sxo_nil ?_
        exact sxq_case (lk_cons rfl (lk_cons rfl (lk_cons rfl (lk_cons rfl (lk_cons rfl (lk_cons rfl (lk_cons rfl (lk_cons rfl (lk_cons rfl (lk_cons rfl (lk_cons rfl (lk_cons rfl (lk_cons rfl (lk_cons rfl (lk_cons rfl (lk_cons rfl lk_nil))))))))))))))))
      refine sxo_take (os := _) rfl ?_
      refine sxo_move rfl rfl rfl ?_
      refine sxo_join 5 (fun ((x132, _) : (Bool × Unit)) => [(11, .slice a25 x24.1.length c26), (12, .int .i64 x24.2), (13, .int .i64 x27.1), (14, .int .i64 x27.2), (15, .int .i64 x28.1), (16, .int .i64 x28.2.1), (17, .int .i64 x28.2.2), (20, .slice a36 x35.1.length c37), (21, .int .i64 x35.2), (22, .int .i64 x120), (23, .int .i64 x121), (24, .int .i64 x122), (25, .int .i64 x123), (26, .int .i64 x124), (113, .bool x132)]) (fun ((x132, _) : (Bool × Unit)) => []) (fun ((x132, _) : (Bool × Unit)) => [Ro (eI .i64) 3 1 (.slice a25 x24.1.length c26) x24.1, Ro (eI .i64) 3 1 (.slice a36 x35.1.length c37) x35.1]) (fun ((x132, _) : (Bool × Unit)) => []) (fun ((x132, _) : (Bool × Unit)) => M_L_FanoTells_j8 F x24 x27 x28 x35 x120 x121 x122 x123 x124 x132) ?_ ?_
      · refine sxo_take (os := _) rfl ?_
        refine sxo_if (fun h130 => ?_) (fun h130 => ?_)
        · refine sxo_isT (k := 108) rfl h130 ?_
          refine sxo_loadB (i := 0) rfl rfl tf51 rfl rfl (by simp) rfl rfl ?_
          refine sxo_call ent39 rfl rfl rfl (fun x143 e143 => C_fano_Check F x5 x6 x7 x8 x9 a10 c11 x12 x13 a14 c15 x143 e143) (.consF 0 rfl (.consF 1 rfl .nil)) (fun x143 e143 => ?_)
          intro _
          refine sxo_move rfl rfl rfl ?_
          refine sxo_eql rfl rfl rfl rfl ?_
          refine sxo_pick (b := true) rfl rfl rfl rfl ?_
          refine sxo_nil ?_
          exact sxq_meetP (((x143 : Int) == x35.2), ()) (lk_cons rfl (lk_cons rfl (lk_cons rfl (lk_cons rfl (lk_cons rfl (lk_cons rfl (lk_cons rfl (lk_cons rfl (lk_cons rfl (lk_cons rfl (lk_cons rfl (lk_cons rfl (lk_cons rfl (lk_cons rfl (lk_cons rfl lk_nil))))))))))))))) .nil (.cons 0 rfl (.cons 0 rfl .nil)) fk_nil
        · refine sxo_isF (k := 108) rfl h130 ?_
          refine sxo_skip rfl rfl rfl ?_
          refine sxo_skip rfl rfl rfl ?_
          refine sxo_skip rfl rfl rfl ?_
          refine sxo_skip rfl rfl rfl ?_
          refine sxo_pick (b := false) rfl rfl rfl rfl ?_
          refine sxo_nil ?_
          exact sxq_meetP (false, ()) (lk_cons rfl (lk_cons rfl (lk_cons rfl (lk_cons rfl (lk_cons rfl (lk_cons rfl (lk_cons rfl (lk_cons rfl (lk_cons rfl (lk_cons rfl (lk_cons rfl (lk_cons rfl (lk_cons rfl (lk_cons rfl (lk_cons rfl lk_nil))))))))))))))) .nil (.cons 0 rfl (.cons 0 rfl .nil)) fk_nil
      · rintro ⟨x132, _⟩
        try dsimp only
        refine sxo_take (os := _) rfl ?_
        refine sxo_move rfl rfl rfl ?_
        refine sxo_join 4 (fun ((x135, _) : (Bool × Unit)) => [(12, .int .i64 x24.2), (13, .int .i64 x27.1), (14, .int .i64 x27.2), (15, .int .i64 x28.1), (16, .int .i64 x28.2.1), (17, .int .i64 x28.2.2), (21, .int .i64 x35.2), (22, .int .i64 x120), (23, .int .i64 x121), (24, .int .i64 x122), (25, .int .i64 x123), (26, .int .i64 x124), (118, .bool x135)]) (fun ((x135, _) : (Bool × Unit)) => []) (fun ((x135, _) : (Bool × Unit)) => []) (fun ((x135, _) : (Bool × Unit)) => []) (fun ((x135, _) : (Bool × Unit)) => M_L_FanoTells_j9 F x24 x27 x28 x35 x120 x121 x122 x123 x124 x135) ?_ ?_
        · refine sxo_take (os := _) rfl ?_
          refine sxo_if (fun h133 => ?_) (fun h133 => ?_)
          · refine sxo_isT (k := 114) rfl h133 ?_
            refine sxo_move rfl rfl rfl ?_
            refine sxo_move rfl rfl rfl ?_
            refine sxo_call ent29 rfl rfl rfl (fun x142 e142 => C_R_SameInts F x24.1 a25 c26 x35.1 a36 c37 x142 e142) (.consR 0 (Ro (eI .i64) 3 1 (.slice a25 x24.1.length c26) x24.1) rfl (.consR 1 (Ro (eI .i64) 3 1 (.slice a36 x35.1.length c37) x35.1) rfl .nil)) (fun x142 e142 => ?_)
            intro _
            refine sxo_pick (b := true) rfl rfl rfl rfl ?_
            refine sxo_nil ?_
            exact sxq_meetP (x142, ()) (lk_cons rfl (lk_cons rfl (lk_cons rfl (lk_cons rfl (lk_cons rfl (lk_cons rfl (lk_cons rfl (lk_cons rfl (lk_cons rfl (lk_cons rfl (lk_cons rfl (lk_cons rfl (lk_cons rfl lk_nil))))))))))))) .nil .nil fk_nil
          · refine sxo_isF (k := 114) rfl h133 ?_
            refine sxo_skip rfl rfl rfl ?_
            refine sxo_skip rfl rfl rfl ?_
            refine sxo_skip rfl rfl rfl ?_
            refine sxo_pick (b := false) rfl rfl rfl rfl ?_
            refine sxo_nil ?_
            exact sxq_meetP (false, ()) (lk_cons rfl (lk_cons rfl (lk_cons rfl (lk_cons rfl (lk_cons rfl (lk_cons rfl (lk_cons rfl (lk_cons rfl (lk_cons rfl (lk_cons rfl (lk_cons rfl (lk_cons rfl (lk_cons rfl lk_nil))))))))))))) .nil .nil fk_nil
        · rintro ⟨x135, _⟩
          try dsimp only
          refine sxo_take (os := _) rfl ?_
          refine sxo_move rfl rfl rfl ?_
          refine sxo_case 4 x135 [(13, .int .i64 x27.1), (14, .int .i64 x27.2), (15, .int .i64 x28.1), (16, .int .i64 x28.2.1), (17, .int .i64 x28.2.2), (22, .int .i64 x120), (23, .int .i64 x121), (24, .int .i64 x122), (25, .int .i64 x123), (26, .int .i64 x124), (123, .bool (x135 && ((x24.2 : Int) == x35.2)))] (fun h136 => ?_) (fun h136 => ?_) ?_
          · refine sxo_take (os := _) rfl ?_
            refine sxo_isT (k := 119) rfl h136 ?_
            refine sxo_move rfl rfl rfl ?_
            refine sxo_move rfl rfl rfl ?_
            refine sxo_eql rfl rfl rfl rfl ?_
            refine sxo_pick (b := true) rfl rfl rfl rfl ?_
            refine sxo_again (d := 123) (v := .bool (x135 && ((x24.2 : Int) == x35.2))) rfl (by rw [h136]; simp only [Bool.true_and]) ?_
            refine sxo_nil ?_
            exact sxq_case (lk_cons rfl (lk_cons rfl (lk_cons rfl (lk_cons rfl (lk_cons rfl (lk_cons rfl (lk_cons rfl (lk_cons rfl (lk_cons rfl (lk_cons rfl (lk_cons rfl lk_nil)))))))))))
          · refine sxo_take (os := _) rfl ?_
            refine sxo_isF (k := 119) rfl h136 ?_
            refine sxo_skip rfl rfl rfl ?_
            refine sxo_skip rfl rfl rfl ?_
            refine sxo_skip rfl rfl rfl ?_
            refine sxo_pick (b := false) rfl rfl rfl rfl ?_
            refine sxo_again (d := 123) (v := .bool (x135 && ((x24.2 : Int) == x35.2))) rfl (by rw [h136]; simp only [Bool.false_and]) ?_
            refine sxo_nil ?_
            exact sxq_case (lk_cons rfl (lk_cons rfl (lk_cons rfl (lk_cons rfl (lk_cons rfl (lk_cons rfl (lk_cons rfl (lk_cons rfl (lk_cons rfl (lk_cons rfl (lk_cons rfl lk_nil)))))))))))
          refine sxo_take (os := _) rfl ?_
          refine sxo_move rfl rfl rfl ?_
          refine sxo_case 4 (x135 && ((x24.2 : Int) == x35.2)) [(14, .int .i64 x27.2), (15, .int .i64 x28.1), (16, .int .i64 x28.2.1), (17, .int .i64 x28.2.2), (22, .int .i64 x120), (23, .int .i64 x121), (25, .int .i64 x123), (26, .int .i64 x124), (128, .bool ((x135 && ((x24.2 : Int) == x35.2)) && ((x27.1 : Int) == x122)))] (fun h137 => ?_) (fun h137 => ?_) ?_
          · refine sxo_take (os := _) rfl ?_
            refine sxo_isT (k := 124) rfl h137 ?_
            refine sxo_move rfl rfl rfl ?_
            refine sxo_move rfl rfl rfl ?_
            refine sxo_eql rfl rfl rfl rfl ?_
            refine sxo_pick (b := true) rfl rfl rfl rfl ?_
            refine sxo_again (d := 128) (v := .bool ((x135 && ((x24.2 : Int) == x35.2)) && ((x27.1 : Int) == x122))) rfl (by rw [h137]; simp only [Bool.true_and]) ?_
            refine sxo_nil ?_
            exact sxq_case (lk_cons rfl (lk_cons rfl (lk_cons rfl (lk_cons rfl (lk_cons rfl (lk_cons rfl (lk_cons rfl (lk_cons rfl (lk_cons rfl lk_nil)))))))))
          · refine sxo_take (os := _) rfl ?_
            refine sxo_isF (k := 124) rfl h137 ?_
            refine sxo_skip rfl rfl rfl ?_
            refine sxo_skip rfl rfl rfl ?_
            refine sxo_skip rfl rfl rfl ?_
            refine sxo_pick (b := false) rfl rfl rfl rfl ?_
            refine sxo_again (d := 128) (v := .bool ((x135 && ((x24.2 : Int) == x35.2)) && ((x27.1 : Int) == x122))) rfl (by rw [h137]; simp only [Bool.false_and]) ?_
            refine sxo_nil ?_
            exact sxq_case (lk_cons rfl (lk_cons rfl (lk_cons rfl (lk_cons rfl (lk_cons rfl (lk_cons rfl (lk_cons rfl (lk_cons rfl (lk_cons rfl lk_nil)))))))))
          refine sxo_take (os := _) rfl ?_
          refine sxo_move rfl rfl rfl ?_
          refine sxo_case 4 ((x135 && ((x24.2 : Int) == x35.2)) && ((x27.1 : Int) == x122)) [(15, .int .i64 x28.1), (16, .int .i64 x28.2.1), (17, .int .i64 x28.2.2), (23, .int .i64 x121), (25, .int .i64 x123), (26, .int .i64 x124), (133, .bool (((x135 && ((x24.2 : Int) == x35.2)) && ((x27.1 : Int) == x122)) && ((x27.2 : Int) == x120)))] (fun h138 => ?_) (fun h138 => ?_) ?_
          · refine sxo_take (os := _) rfl ?_
            refine sxo_isT (k := 129) rfl h138 ?_
            refine sxo_move rfl rfl rfl ?_
            refine sxo_move rfl rfl rfl ?_
            refine sxo_eql rfl rfl rfl rfl ?_
            refine sxo_pick (b := true) rfl rfl rfl rfl ?_
            refine sxo_again (d := 133) (v := .bool (((x135 && ((x24.2 : Int) == x35.2)) && ((x27.1 : Int) == x122)) && ((x27.2 : Int) == x120))) rfl (by rw [h138]; simp only [Bool.true_and]) ?_
            refine sxo_nil ?_
            exact sxq_case (lk_cons rfl (lk_cons rfl (lk_cons rfl (lk_cons rfl (lk_cons rfl (lk_cons rfl (lk_cons rfl lk_nil)))))))
          · refine sxo_take (os := _) rfl ?_
            refine sxo_isF (k := 129) rfl h138 ?_
            refine sxo_skip rfl rfl rfl ?_
            refine sxo_skip rfl rfl rfl ?_
            refine sxo_skip rfl rfl rfl ?_
            refine sxo_pick (b := false) rfl rfl rfl rfl ?_
            refine sxo_again (d := 133) (v := .bool (((x135 && ((x24.2 : Int) == x35.2)) && ((x27.1 : Int) == x122)) && ((x27.2 : Int) == x120))) rfl (by rw [h138]; simp only [Bool.false_and]) ?_
            refine sxo_nil ?_
            exact sxq_case (lk_cons rfl (lk_cons rfl (lk_cons rfl (lk_cons rfl (lk_cons rfl (lk_cons rfl (lk_cons rfl lk_nil)))))))
          refine sxo_take (os := _) rfl ?_
          refine sxo_move rfl rfl rfl ?_
          refine sxo_case 4 (((x135 && ((x24.2 : Int) == x35.2)) && ((x27.1 : Int) == x122)) && ((x27.2 : Int) == x120)) [(16, .int .i64 x28.2.1), (17, .int .i64 x28.2.2), (23, .int .i64 x121), (26, .int .i64 x124), (138, .bool ((((x135 && ((x24.2 : Int) == x35.2)) && ((x27.1 : Int) == x122)) && ((x27.2 : Int) == x120)) && ((x28.1 : Int) == x123)))] (fun h139 => ?_) (fun h139 => ?_) ?_
          · refine sxo_take (os := _) rfl ?_
            refine sxo_isT (k := 134) rfl h139 ?_
            refine sxo_move rfl rfl rfl ?_
            refine sxo_move rfl rfl rfl ?_
            refine sxo_eql rfl rfl rfl rfl ?_
            refine sxo_pick (b := true) rfl rfl rfl rfl ?_
            refine sxo_again (d := 138) (v := .bool ((((x135 && ((x24.2 : Int) == x35.2)) && ((x27.1 : Int) == x122)) && ((x27.2 : Int) == x120)) && ((x28.1 : Int) == x123))) rfl (by rw [h139]; simp only [Bool.true_and]) ?_
            refine sxo_nil ?_
            exact sxq_case (lk_cons rfl (lk_cons rfl (lk_cons rfl (lk_cons rfl (lk_cons rfl lk_nil)))))
          · refine sxo_take (os := _) rfl ?_
            refine sxo_isF (k := 134) rfl h139 ?_
            refine sxo_skip rfl rfl rfl ?_
            refine sxo_skip rfl rfl rfl ?_
            refine sxo_skip rfl rfl rfl ?_
            refine sxo_pick (b := false) rfl rfl rfl rfl ?_
            refine sxo_again (d := 138) (v := .bool ((((x135 && ((x24.2 : Int) == x35.2)) && ((x27.1 : Int) == x122)) && ((x27.2 : Int) == x120)) && ((x28.1 : Int) == x123))) rfl (by rw [h139]; simp only [Bool.false_and]) ?_
            refine sxo_nil ?_
            exact sxq_case (lk_cons rfl (lk_cons rfl (lk_cons rfl (lk_cons rfl (lk_cons rfl lk_nil)))))
          refine sxo_take (os := _) rfl ?_
          refine sxo_move rfl rfl rfl ?_
          refine sxo_case 4 ((((x135 && ((x24.2 : Int) == x35.2)) && ((x27.1 : Int) == x122)) && ((x27.2 : Int) == x120)) && ((x28.1 : Int) == x123)) [(17, .int .i64 x28.2.2), (23, .int .i64 x121), (143, .bool (((((x135 && ((x24.2 : Int) == x35.2)) && ((x27.1 : Int) == x122)) && ((x27.2 : Int) == x120)) && ((x28.1 : Int) == x123)) && ((x28.2.1 : Int) == x124)))] (fun h140 => ?_) (fun h140 => ?_) ?_
          · refine sxo_take (os := _) rfl ?_
            refine sxo_isT (k := 139) rfl h140 ?_
            refine sxo_move rfl rfl rfl ?_
            refine sxo_move rfl rfl rfl ?_
            refine sxo_eql rfl rfl rfl rfl ?_
            refine sxo_pick (b := true) rfl rfl rfl rfl ?_
            refine sxo_again (d := 143) (v := .bool (((((x135 && ((x24.2 : Int) == x35.2)) && ((x27.1 : Int) == x122)) && ((x27.2 : Int) == x120)) && ((x28.1 : Int) == x123)) && ((x28.2.1 : Int) == x124))) rfl (by rw [h140]; simp only [Bool.true_and]) ?_
            refine sxo_nil ?_
            exact sxq_case (lk_cons rfl (lk_cons rfl (lk_cons rfl lk_nil)))
          · refine sxo_take (os := _) rfl ?_
            refine sxo_isF (k := 139) rfl h140 ?_
            refine sxo_skip rfl rfl rfl ?_
            refine sxo_skip rfl rfl rfl ?_
            refine sxo_skip rfl rfl rfl ?_
            refine sxo_pick (b := false) rfl rfl rfl rfl ?_
            refine sxo_again (d := 143) (v := .bool (((((x135 && ((x24.2 : Int) == x35.2)) && ((x27.1 : Int) == x122)) && ((x27.2 : Int) == x120)) && ((x28.1 : Int) == x123)) && ((x28.2.1 : Int) == x124))) rfl (by rw [h140]; simp only [Bool.false_and]) ?_
            refine sxo_nil ?_
            exact sxq_case (lk_cons rfl (lk_cons rfl (lk_cons rfl lk_nil)))
          refine sxo_take (os := _) rfl ?_
          refine sxo_move rfl rfl rfl ?_
          refine sxo_case 4 (((((x135 && ((x24.2 : Int) == x35.2)) && ((x27.1 : Int) == x122)) && ((x27.2 : Int) == x120)) && ((x28.1 : Int) == x123)) && ((x28.2.1 : Int) == x124)) [(148, .bool ((((((x135 && ((x24.2 : Int) == x35.2)) && ((x27.1 : Int) == x122)) && ((x27.2 : Int) == x120)) && ((x28.1 : Int) == x123)) && ((x28.2.1 : Int) == x124)) && ((x28.2.2 : Int) == x121)))] (fun h141 => ?_) (fun h141 => ?_) ?_
          · refine sxo_take (os := _) rfl ?_
            refine sxo_isT (k := 144) rfl h141 ?_
            refine sxo_move rfl rfl rfl ?_
            refine sxo_move rfl rfl rfl ?_
            refine sxo_eql rfl rfl rfl rfl ?_
            refine sxo_pick (b := true) rfl rfl rfl rfl ?_
            refine sxo_again (d := 148) (v := .bool ((((((x135 && ((x24.2 : Int) == x35.2)) && ((x27.1 : Int) == x122)) && ((x27.2 : Int) == x120)) && ((x28.1 : Int) == x123)) && ((x28.2.1 : Int) == x124)) && ((x28.2.2 : Int) == x121))) rfl (by rw [h141]; simp only [Bool.true_and]) ?_
            refine sxo_nil ?_
            exact sxq_case (lk_cons rfl lk_nil)
          · refine sxo_take (os := _) rfl ?_
            refine sxo_isF (k := 144) rfl h141 ?_
            refine sxo_skip rfl rfl rfl ?_
            refine sxo_skip rfl rfl rfl ?_
            refine sxo_skip rfl rfl rfl ?_
            refine sxo_pick (b := false) rfl rfl rfl rfl ?_
            refine sxo_again (d := 148) (v := .bool ((((((x135 && ((x24.2 : Int) == x35.2)) && ((x27.1 : Int) == x122)) && ((x27.2 : Int) == x120)) && ((x28.1 : Int) == x123)) && ((x28.2.1 : Int) == x124)) && ((x28.2.2 : Int) == x121))) rfl (by rw [h141]; simp only [Bool.false_and]) ?_
            refine sxo_nil ?_
            exact sxq_case (lk_cons rfl lk_nil)
          refine sxo_take (os := _) rfl ?_
          refine sxo_assign rfl rfl rfl ?_
          refine sxo_nil ?_
          refine sxq_next ?_
          refine sxc_ret ?_
          exact sxq_doneP () (.inl rfl) (res1 rfl rfl) (fun h => by subst h; rfl) (fun h => by subst h; exact .nil)

theorem C_L_FanoBack (F : Nat) (x1 : List Int) (a2 : Option Addr) (c3 : Nat) (x4 : Int) (x5 : Int) (x6 : Int) (x7 : Int) (x8 : Int) (x9 : List Int) (a10 : Option Addr) (c11 : Nat) (x12 : Int) (x13 : List Int) (a14 : Option Addr) (c15 : Nat) (r : Bool) (hm : M_L_FanoBack F x1 x4 x5 x6 x7 x8 x9 x12 x13 = some r) :
    Pure Try.prog 8 [.slice a2 x1.length c3, .int .i64 x4, .agg #[.int .i64 x5, .int .i64 x6, .int .i64 x7, .int .i64 x8, .slice a10 x9.length c11, .int .i64 x12, .slice a14 x13.length c15]] [Sl (eI .i64) 1 (.slice a2 x1.length c3) x1, Sl (eI .u8) 1 (.slice a10 x9.length c11) x9, Sl (eI .u8) 1 (.slice a14 x13.length c15) x13] Unit (fun _ => .bool r) (fun _ => []) (fun _ => []) := by
  refine pure_of Try.func8 rfl Try.ntmps8 rfl hm (fun w => ?_)
  refine sxc_env (l' := [(0, .slice a2 x1.length c3), (1, .int .i64 x4), (2, .agg #[.int .i64 x5, .int .i64 x6, .int .i64 x7, .int .i64 x8, .slice a10 x9.length c11, .int .i64 x12, .slice a14 x13.length c15])]) rfl ?_
  refine sxc_seq ?_
  refine sxc_region ?_
  refine sxo_box rfl rfl rfl (fun g16 => ?_)
  refine sxo_assign rfl rfl rfl ?_
  refine sxo_nil ?_
  refine sxq_next ?_
  refine sxc_seq ?_
  refine sxc_region ?_
  refine sxo_move rfl rfl rfl ?_
  refine sxo_move rfl rfl rfl ?_
  refine sxo_call ent31 rfl rfl rfl (fun x17 e17 => C_fano_Write F x1 a2 c3 x4 x17 e17) (.consF 0 rfl .nil) (fun x17 e17 => ?_)
  rintro ⟨⟨a18, c19⟩, ⟨a20, c21⟩⟩
  refine sxo_move rfl rfl rfl ?_
  refine sxo_extract rfl rfl rfl rfl ?_
  refine sxo_extract rfl rfl rfl rfl ?_
  refine sxo_alloc rfl tf51 rfl (fun g22 => ?_)
  refine sxo_storeB (i := 0) rfl rfl rfl tf51 rfl rfl rfl rfl rfl ?_
  refine sxo_assign rfl rfl rfl ?_
  refine sxo_nil ?_
  refine sxq_next ?_
  refine sxc_seq ?_
  refine sxc_region ?_
  refine sxo_loadB (i := 1) rfl rfl tf51 rfl rfl (by simp) rfl rfl ?_
  refine sxo_call ent32 rfl rfl rfl (fun x23 e23 => C_fano_Read F x5 x6 x7 x8 x9 a10 c11 x12 x13 a14 c15 x23 e23) (.consF 1 rfl (.consF 2 rfl .nil)) (fun x23 e23 => ?_)
  rintro ⟨a24, c25⟩
  refine sxo_move rfl rfl rfl ?_
  refine sxo_extract rfl rfl rfl rfl ?_
  refine sxo_extract rfl rfl rfl rfl ?_
  refine sxo_assign rfl rfl rfl ?_
  refine sxo_assign rfl rfl rfl ?_
  refine sxo_nil ?_
  refine sxq_next ?_
  refine sxc_seq ?_
  refine sxc_seq ?_
  refine sxc_region ?_
  refine sxo_call ent37 rfl rfl rfl (fun x28 e28 => C_L_fanoBegun F  x28 e28) .nil (fun x28 e28 => ?_)
  intro _
  refine sxo_not rfl rfl rfl ?_
  refine sxo_nil ?_
  refine sxq_next ?_
  refine sxc_if rfl (fun h59 => ?_) (fun h59 => ?_)
  · refine sxc_seq ?_
    refine sxc_region ?_
    refine sxo_assign rfl rfl rfl ?_
    refine sxo_nil ?_
    refine sxq_next ?_
    refine sxc_ret ?_
    refine sxq_thenR ?_
    exact sxq_doneP () (.inl rfl) (res1 rfl rfl) (fun h => by subst h; rfl) (fun h => by subst h; exact .nil)
  · refine sxc_skip ?_
    refine sxq_next ?_
    refine sxc_join (fun ((_, _) : (Unit × Unit)) => [(5, .pointer (some ⟨g16, 0, none⟩)), (9, .slice a24 x23.1.length c25), (10, .int .i64 x23.2)]) (fun ((_, _) : (Unit × Unit)) => [⟨g16, 51, [.int .i64 x5, .int .i64 x6, .int .i64 x7, .int .i64 x8, .slice a10 x9.length c11, .int .i64 x12, .slice a14 x13.length c15]⟩]) (fun ((_, _) : (Unit × Unit)) => [Ro (eI .i64) 3 1 (.slice a24 x23.1.length c25) x23.1]) (fun ((_, _) : (Unit × Unit)) => [Sl (eI .u8) 1 (.slice a10 x9.length c11) x9, Sl (eI .u8) 1 (.slice a14 x13.length c15) x13]) (fun ((_, _) : (Unit × Unit)) => M_L_FanoBack_j2 F x5 x6 x7 x8 x9 x12 x13 x23) ?_ ?_
    · refine sxc_seq ?_
      refine sxc_region ?_
      refine sxo_move rfl rfl rfl ?_
      refine sxo_eql rfl rfl rfl rfl ?_
      refine sxo_nil ?_
      refine sxq_next ?_
      refine sxc_if rfl (fun h58 => ?_) (fun h58 => ?_)
      · refine sxc_seq ?_
        refine sxc_region ?_
        refine sxo_loadB (i := 0) rfl rfl tf51 rfl rfl (by simp) rfl rfl ?_
        refine sxo_call ent32 rfl rfl rfl (fun x50 e50 => C_fano_Read F x17.1 x17.2.1 x17.2.2.1 x17.2.2.2.1 x17.2.2.2.2.1 a18 c19 x17.2.2.2.2.2.1 x17.2.2.2.2.2.2.1 a20 c21 x50 e50) (.consR 1 (Ro (eI .u8) 5 1 (.slice a18 x17.2.2.2.2.1.length c19) x17.2.2.2.2.1) rfl (.consR 2 (Ro (eI .u8) 5 1 (.slice a20 x17.2.2.2.2.2.2.1.length c21) x17.2.2.2.2.2.2.1) rfl .nil)) (fun x50 e50 => ?_)
        rintro ⟨a51, c52⟩
        refine sxo_move rfl rfl rfl ?_
        refine sxo_extract rfl rfl rfl rfl ?_
        refine sxo_extract rfl rfl rfl rfl ?_
        refine sxo_assign rfl rfl rfl ?_
        refine sxo_assign rfl rfl rfl ?_
        refine sxo_nil ?_
        refine sxq_next ?_
        refine sxc_seq ?_
        refine sxc_region ?_
        refine sxo_move rfl rfl rfl ?_
        refine sxo_neq rfl rfl rfl rfl ?_
        refine sxo_move rfl rfl rfl ?_
        refine sxo_join 5 (fun ((x55, _) : (Bool × Unit)) => [(5, .pointer (some ⟨g16, 0, none⟩)), (9, .slice a24 x23.1.length c25), (10, .int .i64 x23.2), (42, .bool x55)]) (fun ((x55, _) : (Bool × Unit)) => [⟨g16, 51, [.int .i64 x5, .int .i64 x6, .int .i64 x7, .int .i64 x8, .slice a10 x9.length c11, .int .i64 x12, .slice a14 x13.length c15]⟩]) (fun ((x55, _) : (Bool × Unit)) => [Ro (eI .i64) 3 1 (.slice a24 x23.1.length c25) x23.1]) (fun ((x55, _) : (Bool × Unit)) => [Sl (eI .u8) 1 (.slice a10 x9.length c11) x9, Sl (eI .u8) 1 (.slice a14 x13.length c15) x13]) (fun ((x55, _) : (Bool × Unit)) => M_L_FanoBack_j4 F x5 x6 x7 x8 x9 x12 x13 x23 x55) ?_ ?_
        · refine sxo_take (os := _) rfl ?_
          refine sxo_if (fun h53 => ?_) (fun h53 => ?_)
          · refine sxo_isT (k := 37) rfl h53 ?_
            refine sxo_skip rfl rfl rfl ?_
            refine sxo_skip rfl rfl rfl ?_
            refine sxo_skip rfl rfl rfl ?_
            refine sxo_skip rfl rfl rfl ?_
            refine sxo_pick (b := true) rfl rfl rfl rfl ?_
            refine sxo_nil ?_
            exact sxq_meetP (true, ()) (lk_cons rfl (lk_cons rfl (lk_cons rfl (lk_cons rfl lk_nil)))) (.cons 1 rfl .nil) (.cons 1 rfl .nil) (fk_cons 1 rfl (fk_cons 2 rfl fk_nil))
          · refine sxo_isF (k := 37) rfl h53 ?_
            refine sxo_move rfl rfl rfl ?_
            refine sxo_move rfl rfl rfl ?_
            refine sxo_call ent29 rfl rfl rfl (fun x57 e57 => C_R_SameInts F x50.1 a51 c52 x1 a2 c3 x57 e57) (.consR 0 (Ro (eI .i64) 3 1 (.slice a51 x50.1.length c52) x50.1) rfl (.consF 0 rfl .nil)) (fun x57 e57 => ?_)
            intro _
            refine sxo_not rfl rfl rfl ?_
            refine sxo_pick (b := false) rfl rfl rfl rfl ?_
            refine sxo_nil ?_
            exact sxq_meetP ((!x57), ()) (lk_cons rfl (lk_cons rfl (lk_cons rfl (lk_cons rfl lk_nil)))) (.cons 1 rfl .nil) (.cons 1 rfl .nil) (fk_cons 1 rfl (fk_cons 2 rfl fk_nil))
        · rintro ⟨x55, _⟩
          try dsimp only
          refine sxo_take (os := _) rfl ?_
          refine sxo_nil ?_
          refine sxq_next ?_
          refine sxc_if rfl (fun h56 => ?_) (fun h56 => ?_)
          · refine sxc_seq ?_
            refine sxc_region ?_
            refine sxo_assign rfl rfl rfl ?_
            refine sxo_nil ?_
            refine sxq_next ?_
            refine sxc_ret ?_
            refine sxq_thenR ?_
            exact sxq_doneP () (.inl rfl) (res1 rfl rfl) (fun h => by subst h; rfl) (fun h => by subst h; exact .nil)
          · refine sxc_skip ?_
            exact sxq_meetP ((), ()) (lk_cons rfl (lk_cons rfl (lk_cons rfl lk_nil))) (.cons 0 rfl .nil) (.cons 0 rfl .nil) (fk_cons 0 rfl (fk_cons 1 rfl fk_nil))
      · refine sxc_skip ?_
        exact sxq_meetP ((), ()) (lk_cons rfl (lk_cons rfl (lk_cons rfl lk_nil))) (.cons 1 rfl .nil) (.cons 0 rfl .nil) (fk_cons 1 rfl (fk_cons 2 rfl fk_nil))
    · rintro ⟨_, _⟩
      try dsimp only
      refine sxc_seq ?_
      refine sxc_seq ?_
      refine sxc_region ?_
      refine sxo_move rfl rfl rfl ?_
      refine sxo_neq rfl rfl rfl rfl ?_
      refine sxo_nil ?_
      refine sxq_next ?_
      refine sxc_if rfl (fun h49 => ?_) (fun h49 => ?_)
      · refine sxc_seq ?_
        refine sxc_region ?_
        refine sxo_move rfl rfl rfl ?_
        refine sxo_len rfl Try.underlying23 rfl rfl ?_
        refine sxo_eql rfl rfl rfl rfl ?_
        refine sxo_assign rfl rfl rfl ?_
        refine sxo_nil ?_
        refine sxq_next ?_
        refine sxc_ret ?_
        refine sxq_thenR ?_
        exact sxq_doneP () (.inl rfl) (res1 rfl rfl) (fun h => by subst h; rfl) (fun h => by subst h; exact .nil)
      · refine sxc_skip ?_
        refine sxq_next ?_
        refine sxc_seq ?_
        refine sxc_region ?_
        refine sxo_move rfl rfl rfl ?_
        refine sxo_fieldAddr rfl rfl ff51_1 rfl ?_
        refine sxo_loadB (i := 0) rfl rfl tf3 rfl rfl (fun _ => rfl) rfl rfl ?_
        refine sxo_call ent31 rfl rfl rfl (fun x39 e39 => C_fano_Write F x23.1 a24 c25 x6 x39 e39) (.consR 0 (Ro (eI .i64) 3 1 (.slice a24 x23.1.length c25) x23.1) rfl .nil) (fun x39 e39 => ?_)
        rintro ⟨⟨a40, c41⟩, ⟨a42, c43⟩⟩
        refine sxo_move rfl rfl rfl ?_
        refine sxo_extract rfl rfl rfl rfl ?_
        refine sxo_extract rfl rfl rfl rfl ?_
        refine sxo_alloc rfl tf51 rfl (fun g44 => ?_)
        refine sxo_storeB (i := 0) rfl rfl rfl tf51 rfl rfl rfl rfl rfl ?_
        refine sxo_assign rfl rfl rfl ?_
        refine sxo_nil ?_
        refine sxq_next ?_
        refine sxc_seq ?_
        refine sxc_region ?_
        refine sxo_move rfl rfl rfl ?_
        refine sxo_eql rfl rfl rfl rfl ?_
        refine sxo_move rfl rfl rfl ?_
        refine sxo_join 4 (fun ((x47, _) : (Bool × Unit)) => [(61, .bool x47)]) (fun ((x47, _) : (Bool × Unit)) => []) (fun ((x47, _) : (Bool × Unit)) => []) (fun ((x47, _) : (Bool × Unit)) => []) (fun ((x47, _) : (Bool × Unit)) => M_L_FanoBack_j3 F x47) ?_ ?_
        · refine sxo_take (os := _) rfl ?_
          refine sxo_if (fun h45 => ?_) (fun h45 => ?_)
          · refine sxo_isT (k := 57) rfl h45 ?_
            refine sxo_loadB (i := 0) rfl rfl tf51 rfl rfl (by simp) rfl rfl ?_
            refine sxo_loadB (i := 1) rfl rfl tf51 rfl rfl (by simp) rfl rfl ?_
            refine sxo_call ent38 rfl rfl rfl (fun x48 e48 => C_R_SameFano F x39.1 x39.2.1 x39.2.2.1 x39.2.2.2.1 x39.2.2.2.2.1 a40 c41 x39.2.2.2.2.2.1 x39.2.2.2.2.2.2.1 a42 c43 x5 x6 x7 x8 x9 a10 c11 x12 x13 a14 c15 x48 e48) (.consR 0 (Ro (eI .u8) 5 1 (.slice a40 x39.2.2.2.2.1.length c41) x39.2.2.2.2.1) rfl (.consR 1 (Ro (eI .u8) 5 1 (.slice a42 x39.2.2.2.2.2.2.1.length c43) x39.2.2.2.2.2.2.1) rfl (.consF 0 rfl (.consF 1 rfl .nil)))) (fun x48 e48 => ?_)
            intro _
            refine sxo_pick (b := true) rfl rfl rfl rfl ?_
            refine sxo_nil ?_
            exact sxq_meetP (x48, ()) (lk_cons rfl lk_nil) .nil .nil fk_nil
          · refine sxo_isF (k := 57) rfl h45 ?_
            refine sxo_skip rfl rfl rfl ?_
            refine sxo_skip rfl rfl rfl ?_
            refine sxo_skip rfl rfl rfl ?_
            refine sxo_pick (b := false) rfl rfl rfl rfl ?_
            refine sxo_nil ?_
            exact sxq_meetP (false, ()) (lk_cons rfl lk_nil) .nil .nil fk_nil
        · rintro ⟨x47, _⟩
          try dsimp only
          refine sxo_take (os := _) rfl ?_
          refine sxo_assign rfl rfl rfl ?_
          refine sxo_nil ?_
          refine sxq_next ?_
          refine sxc_ret ?_
          exact sxq_doneP () (.inl rfl) (res1 rfl rfl) (fun h => by subst h; rfl) (fun h => by subst h; exact .nil)

set_option maxHeartbeats 4000000 in
theorem C_L_FanoRoom (F : Nat) (x1 : List Int) (a2 : Option Addr) (c3 : Nat) (x4 : Int) (r : Bool) (hm : M_L_FanoRoom F x1 x4 = some r) :
    Pure Try.prog 9 [.slice a2 x1.length c3, .int .i64 x4] [Sl (eI .i64) 1 (.slice a2 x1.length c3) x1] Unit (fun _ => .bool r) (fun _ => []) (fun _ => []) := by
  refine pure_of Try.func9 rfl Try.ntmps9 rfl hm (fun w => ?_)
  refine sxc_env (l' := [(0, .slice a2 x1.length c3), (1, .int .i64 x4)]) rfl ?_
  refine sxc_seq ?_
  refine sxc_region ?_
  refine sxo_assign rfl rfl rfl ?_
  refine sxo_nil ?_
  refine sxq_next ?_
  refine sxc_seq ?_
  refine sxc_region ?_
  refine sxo_move rfl rfl rfl ?_
  refine sxo_move rfl rfl rfl ?_
  refine sxo_call ent31 rfl rfl rfl (fun x5 e5 => C_fano_Write F x1 a2 c3 x4 x5 e5) (.consF 0 rfl .nil) (fun x5 e5 => ?_)
  rintro ⟨⟨a6, c7⟩, ⟨a8, c9⟩⟩
  refine sxo_move rfl rfl rfl ?_
  refine sxo_extract rfl rfl rfl rfl ?_
  refine sxo_extract rfl rfl rfl rfl ?_
  refine sxo_alloc rfl tf51 rfl (fun g10 => ?_)
  refine sxo_storeB (i := 0) rfl rfl rfl tf51 rfl rfl rfl rfl rfl ?_
  refine sxo_assign rfl rfl rfl ?_
  refine sxo_nil ?_
  refine sxq_next ?_
  refine sxc_seq ?_
  refine sxc_seq ?_
  refine sxc_region ?_
  refine sxo_call ent37 rfl rfl rfl (fun x13 e13 => C_L_fanoBegun F  x13 e13) .nil (fun x13 e13 => ?_)
  intro _
  refine sxo_not rfl rfl rfl ?_
  refine sxo_nil ?_
  refine sxq_next ?_
  refine sxc_if rfl (fun h37 => ?_) (fun h37 => ?_)
  · refine sxc_seq ?_
    refine sxc_region ?_
    refine sxo_assign rfl rfl rfl ?_
    refine sxo_nil ?_
    refine sxq_next ?_
    refine sxc_ret ?_
    refine sxq_thenR ?_
    exact sxq_doneP () (.inl rfl) (res1 rfl rfl) (fun h => by subst h; rfl) (fun h => by subst h; exact .nil)
  · refine sxc_skip ?_
    refine sxq_next ?_
    refine sxc_seq ?_
    refine sxc_seq ?_
    refine sxc_region ?_
    refine sxo_move rfl rfl rfl ?_
    refine sxo_neq rfl rfl rfl rfl ?_
    refine sxo_nil ?_
    refine sxq_next ?_
    refine sxc_if rfl (fun h36 => ?_) (fun h36 => ?_)
    · refine sxc_seq ?_
      refine sxc_region ?_
      refine sxo_loadB (i := 0) rfl rfl tf51 rfl rfl (by simp) rfl rfl ?_
      refine sxo_build (cells := [.int .i64 0, .int .i64 0, .int .i64 0, .int .i64 0, .slice none 0 0, .int .i64 0, .slice none 0 0]) rfl st51 rfl (by kernel_rfl) rfl ?_
      refine sxo_nilrow' Int (eI .u8) 5 1 ?_
      refine sxo_nilrow' Int (eI .u8) 5 1 ?_
      refine sxo_call ent38 rfl rfl rfl (fun x16 e16 => C_R_SameFano F x5.1 x5.2.1 x5.2.2.1 x5.2.2.2.1 x5.2.2.2.2.1 a6 c7 x5.2.2.2.2.2.1 x5.2.2.2.2.2.2.1 a8 c9 0 0 0 0 ([] : List Int) none 0 0 ([] : List Int) none 0 x16 e16) (.consR 2 (Ro (eI .u8) 5 1 (.slice a6 x5.2.2.2.2.1.length c7) x5.2.2.2.2.1) rfl (.consR 3 (Ro (eI .u8) 5 1 (.slice a8 x5.2.2.2.2.2.2.1.length c9) x5.2.2.2.2.2.2.1) rfl (.consR 0 (Ro (eI .u8) 5 1 (.slice none ([] : List Int).length 0) ([] : List Int)) rfl (.consR 0 (Ro (eI .u8) 5 1 (.slice none ([] : List Int).length 0) ([] : List Int)) rfl .nil)))) (fun x16 e16 => ?_)
      intro _
      refine sxo_assign rfl rfl rfl ?_
      refine sxo_nil ?_
      refine sxq_next ?_
      refine sxc_ret ?_
      refine sxq_thenR ?_
      exact sxq_doneP () (.inl rfl) (res1 rfl rfl) (fun h => by subst h; rfl) (fun h => by subst h; exact .nil)
    · refine sxc_skip ?_
      refine sxq_next ?_
      refine sxc_seq ?_
      refine sxc_region ?_
      refine sxo_move rfl rfl rfl ?_
      refine sxo_len rfl Try.underlying23 rfl rfl ?_
      refine sxo_assign rfl rfl rfl ?_
      refine sxo_nil ?_
      refine sxq_next ?_
      refine sxc_seq ?_
      refine sxc_seq ?_
      refine sxc_region ?_
      refine sxo_move rfl rfl rfl ?_
      refine sxo_eql rfl rfl rfl rfl ?_
      refine sxo_nil ?_
      refine sxq_next ?_
      refine sxc_if rfl (fun h35 => ?_) (fun h35 => ?_)
      · refine sxc_seq ?_
        refine sxc_region ?_
        refine sxo_fieldAddr rfl rfl ff51_3 rfl ?_
        refine sxo_fieldAddr rfl rfl ff26_0 rfl ?_
        refine sxo_loadB (i := 0) rfl rfl tf3 rfl rfl (fun _ => rfl) rfl rfl ?_
        refine sxo_eql rfl rfl rfl rfl ?_
        refine sxo_move rfl rfl rfl ?_
        refine sxo_case 7 ((x5.2.2.2.1 : Int) == 0) [(36, .bool (((x5.2.2.2.1 : Int) == 0) && ((x5.2.2.2.2.2.1 : Int) == (iadd .i64 x4 1))))] (fun h19 => ?_) (fun h19 => ?_) ?_
        · refine sxo_take (os := _) rfl ?_
          refine sxo_isT (k := 29) rfl h19 ?_
          refine sxo_fieldAddr rfl rfl ff51_4 rfl ?_
          refine sxo_fieldAddr rfl rfl ff26_0 rfl ?_
          refine sxo_loadB (i := 0) rfl rfl tf3 rfl rfl (fun _ => rfl) rfl rfl ?_
          refine sxo_move rfl rfl rfl ?_
          refine sxo_add rfl rfl rfl rfl ?_
          refine sxo_eql rfl rfl rfl rfl ?_
          refine sxo_pick (b := true) rfl rfl rfl rfl ?_
          refine sxo_again (d := 36) (v := .bool (((x5.2.2.2.1 : Int) == 0) && ((x5.2.2.2.2.2.1 : Int) == (iadd .i64 x4 1)))) rfl (by rw [h19]; simp only [Bool.true_and]) ?_
          refine sxo_nil ?_
          exact sxq_case (lk_cons rfl lk_nil)
        · refine sxo_take (os := _) rfl ?_
          refine sxo_isF (k := 29) rfl h19 ?_
          refine sxo_skip rfl rfl rfl ?_
          refine sxo_skip rfl rfl rfl ?_
          refine sxo_skip rfl rfl rfl ?_
          refine sxo_skip rfl rfl rfl ?_
          refine sxo_skip rfl rfl rfl ?_
          refine sxo_skip rfl rfl rfl ?_
          refine sxo_pick (b := false) rfl rfl rfl rfl ?_
          refine sxo_again (d := 36) (v := .bool (((x5.2.2.2.1 : Int) == 0) && ((x5.2.2.2.2.2.1 : Int) == (iadd .i64 x4 1)))) rfl (by rw [h19]; simp only [Bool.false_and]) ?_
          refine sxo_nil ?_
          exact sxq_case (lk_cons rfl lk_nil)
        refine sxo_take (os := _) rfl ?_
        refine sxo_assign rfl rfl rfl ?_
        refine sxo_nil ?_
        refine sxq_next ?_
        refine sxc_ret ?_
        refine sxq_thenR ?_
        exact sxq_doneP () (.inl rfl) (res1 rfl rfl) (fun h => by subst h; rfl) (fun h => by subst h; exact .nil)
      · refine sxc_skip ?_
        refine sxq_next ?_
        refine sxc_seq ?_
        refine sxc_region ?_
        refine sxo_fieldAddr rfl rfl ff51_3 rfl ?_
        refine sxo_fieldAddr rfl rfl ff26_0 rfl ?_
        refine sxo_loadB (i := 0) rfl rfl tf3 rfl rfl (fun _ => rfl) rfl rfl ?_
        refine sxo_move rfl rfl rfl ?_
        refine sxo_fieldAddr rfl rfl ff51_2 rfl ?_
        refine sxo_loadB (i := 0) rfl rfl tf3 rfl rfl (fun _ => rfl) rfl rfl ?_
        refine sxo_mul rfl rfl rfl rfl ?_
        refine sxo_eql rfl rfl rfl rfl ?_
        refine sxo_move rfl rfl rfl ?_
        refine sxo_case 8 ((x5.2.2.2.1 : Int) == (imul .i64 (x1.length : Int) x5.2.2.1)) [(1, .int .i64 x4), (5, .pointer (some ⟨g10, 0, none⟩)), (7, .int .i64 (x1.length : Int)), (53, .bool (((x5.2.2.2.1 : Int) == (imul .i64 (x1.length : Int) x5.2.2.1)) && (decide (x5.2.2.2.2.2.1 ≤ (iadd .i64 (imul .i64 3 (x1.length : Int)) 1)))))] (fun h20 => ?_) (fun h20 => ?_) ?_
        · refine sxo_take (os := _) rfl ?_
          refine sxo_isT (k := 45) rfl h20 ?_
          refine sxo_fieldAddr rfl rfl ff51_4 rfl ?_
          refine sxo_fieldAddr rfl rfl ff26_0 rfl ?_
          refine sxo_loadB (i := 0) rfl rfl tf3 rfl rfl (fun _ => rfl) rfl rfl ?_
          refine sxo_move rfl rfl rfl ?_
          refine sxo_mul rfl rfl rfl rfl ?_
          refine sxo_add rfl rfl rfl rfl ?_
          refine sxo_leq rfl rfl rfl rfl ?_
          refine sxo_pick (b := true) rfl rfl rfl rfl ?_
          refine sxo_again (d := 53) (v := .bool (((x5.2.2.2.1 : Int) == (imul .i64 (x1.length : Int) x5.2.2.1)) && (decide (x5.2.2.2.2.2.1 ≤ (iadd .i64 (imul .i64 3 (x1.length : Int)) 1))))) rfl (by rw [h20]; simp only [Bool.true_and]) ?_
          refine sxo_nil ?_
          exact sxq_case (lk_cons rfl (lk_cons rfl (lk_cons rfl (lk_cons rfl lk_nil))))
        · refine sxo_take (os := _) rfl ?_
          refine sxo_isF (k := 45) rfl h20 ?_
          refine sxo_skip rfl rfl rfl ?_
          refine sxo_skip rfl rfl rfl ?_
          refine sxo_skip rfl rfl rfl ?_
          refine sxo_skip rfl rfl rfl ?_
          refine sxo_skip rfl rfl rfl ?_
          refine sxo_skip rfl rfl rfl ?_
          refine sxo_skip rfl rfl rfl ?_
          refine sxo_pick (b := false) rfl rfl rfl rfl ?_
          refine sxo_again (d := 53) (v := .bool (((x5.2.2.2.1 : Int) == (imul .i64 (x1.length : Int) x5.2.2.1)) && (decide (x5.2.2.2.2.2.1 ≤ (iadd .i64 (imul .i64 3 (x1.length : Int)) 1))))) rfl (by rw [h20]; simp only [Bool.false_and]) ?_
          refine sxo_nil ?_
          exact sxq_case (lk_cons rfl (lk_cons rfl (lk_cons rfl (lk_cons rfl lk_nil))))
        refine sxo_take (os := _) rfl ?_
        refine sxo_move rfl rfl rfl ?_
        refine sxo_join 13 (fun ((x26, _) : (Bool × Unit)) => [(1, .int .i64 x4), (5, .pointer (some ⟨g10, 0, none⟩)), (7, .int .i64 (x1.length : Int)), (67, .bool x26)]) (fun ((x26, _) : (Bool × Unit)) => [⟨g10, 51, [.int .i64 x5.1, .int .i64 x5.2.1, .int .i64 x5.2.2.1, .int .i64 x5.2.2.2.1, .slice a6 x5.2.2.2.2.1.length c7, .int .i64 x5.2.2.2.2.2.1, .slice a8 x5.2.2.2.2.2.2.1.length c9]⟩]) (fun ((x26, _) : (Bool × Unit)) => [Ro (eI .u8) 5 1 (.slice a6 x5.2.2.2.2.1.length c7) x5.2.2.2.2.1, Ro (eI .u8) 5 1 (.slice a8 x5.2.2.2.2.2.2.1.length c9) x5.2.2.2.2.2.2.1]) (fun ((x26, _) : (Bool × Unit)) => []) (fun ((x26, _) : (Bool × Unit)) => M_L_FanoRoom_j2 F x1 x4 x5 x26) ?_ ?_
        · refine sxo_take (os := _) rfl ?_
          refine sxo_if (fun h21 => ?_) (fun h21 => ?_)
          · refine sxo_isT (k := 54) rfl h21 ?_
            refine sxo_fieldAddr rfl rfl ff51_2 rfl ?_
            refine sxo_loadB (i := 0) rfl rfl tf3 rfl rfl (fun _ => rfl) rfl rfl ?_
            refine sxo_eql rfl rfl rfl rfl ?_
            refine sxo_move rfl rfl rfl ?_
            refine sxo_join 8 (fun ((x33, _) : (Bool × Unit)) => [(1, .int .i64 x4), (5, .pointer (some ⟨g10, 0, none⟩)), (7, .int .i64 (x1.length : Int)), (54, .bool true), (66, .bool x33)]) (fun ((x33, _) : (Bool × Unit)) => [⟨g10, 51, [.int .i64 x5.1, .int .i64 x5.2.1, .int .i64 x5.2.2.1, .int .i64 x5.2.2.2.1, .slice a6 x5.2.2.2.2.1.length c7, .int .i64 x5.2.2.2.2.2.1, .slice a8 x5.2.2.2.2.2.2.1.length c9]⟩]) (fun ((x33, _) : (Bool × Unit)) => [Ro (eI .u8) 5 1 (.slice a6 x5.2.2.2.2.1.length c7) x5.2.2.2.2.1, Ro (eI .u8) 5 1 (.slice a8 x5.2.2.2.2.2.2.1.length c9) x5.2.2.2.2.2.2.1]) (fun ((x33, _) : (Bool × Unit)) => []) (fun ((x33, _) : (Bool × Unit)) => M_L_FanoRoom_j4 F x1 x4 x5 x33) ?_ ?_
            · refine sxo_take (os := _) rfl ?_
              refine sxo_if (fun h31 => ?_) (fun h31 => ?_)
              · refine sxo_isT (k := 58) rfl h31 ?_
                refine sxo_skip rfl rfl rfl ?_
                refine sxo_skip rfl rfl rfl ?_
                refine sxo_skip rfl rfl rfl ?_
                refine sxo_skip rfl rfl rfl ?_
                refine sxo_skip rfl rfl rfl ?_
                refine sxo_skip rfl rfl rfl ?_
                refine sxo_skip rfl rfl rfl ?_
                refine sxo_pick (b := true) rfl rfl rfl rfl ?_
                refine sxo_nil ?_
                exact sxq_meetP (true, ()) (lk_cons rfl (lk_cons rfl (lk_cons rfl (lk_cons rfl (lk_cons rfl lk_nil))))) (.cons 0 rfl .nil) (.cons 0 rfl (.cons 0 rfl .nil)) fk_nil
              · refine sxo_isF (k := 58) rfl h31 ?_
                refine sxo_move rfl rfl rfl ?_
                refine sxo_fieldAddr rfl rfl ff51_2 rfl ?_
                refine sxo_loadB (i := 0) rfl rfl tf3 rfl rfl (fun _ => rfl) rfl rfl ?_
                refine sxo_chk (fun h34 => ?_)
                refine sxo_shl rfl rfl rfl rfl h34 ?_
                refine sxo_move rfl rfl rfl ?_
                refine sxo_add rfl rfl rfl rfl ?_
                refine sxo_leq rfl rfl rfl rfl ?_
                refine sxo_pick (b := false) rfl rfl rfl rfl ?_
                refine sxo_nil ?_
                exact sxq_meetP ((decide ((ishl .i64 (x1.length : Int) x5.2.2.1) ≤ (iadd .i64 x4 1))), ()) (lk_cons rfl (lk_cons rfl (lk_cons rfl (lk_cons rfl (lk_cons rfl lk_nil))))) (.cons 0 rfl .nil) (.cons 0 rfl (.cons 0 rfl .nil)) fk_nil
            · rintro ⟨x33, _⟩
              try dsimp only
              refine sxo_take (os := _) rfl ?_
              refine sxo_pick (b := true) rfl rfl rfl rfl ?_
              refine sxo_nil ?_
              exact sxq_meetP (x33, ()) (lk_cons rfl (lk_cons rfl (lk_cons rfl (lk_cons rfl lk_nil)))) (.cons 0 rfl .nil) (.cons 0 rfl (.cons 0 rfl .nil)) fk_nil
          · refine sxo_isF (k := 54) rfl h21 ?_
            refine sxo_skip rfl rfl rfl ?_
            refine sxo_skip rfl rfl rfl ?_
            refine sxo_skip rfl rfl rfl ?_
            refine sxo_skip rfl rfl rfl ?_
            refine sxo_skip rfl rfl rfl ?_
            refine sxo_skip rfl rfl rfl ?_
            refine sxo_skip rfl rfl rfl ?_
            refine sxo_skip rfl rfl rfl ?_
            refine sxo_skip rfl rfl rfl ?_
            refine sxo_skip rfl rfl rfl ?_
            refine sxo_skip rfl rfl rfl ?_
            refine sxo_skip rfl rfl rfl ?_
            refine sxo_pick (b := false) rfl rfl rfl rfl ?_
            refine sxo_nil ?_
            exact sxq_meetP (false, ()) (lk_cons rfl (lk_cons rfl (lk_cons rfl (lk_cons rfl lk_nil)))) (.cons 0 rfl .nil) (.cons 0 rfl (.cons 0 rfl .nil)) fk_nil
        · rintro ⟨x26, _⟩
          try dsimp only
          refine sxo_take (os := _) rfl ?_
          refine sxo_move rfl rfl rfl ?_
          refine sxo_join 9 (fun ((x29, _) : (Bool × Unit)) => [(77, .bool x29)]) (fun ((x29, _) : (Bool × Unit)) => []) (fun ((x29, _) : (Bool × Unit)) => []) (fun ((x29, _) : (Bool × Unit)) => []) (fun ((x29, _) : (Bool × Unit)) => M_L_FanoRoom_j3 F x29) ?_ ?_
          · refine sxo_take (os := _) rfl ?_
            refine sxo_if (fun h27 => ?_) (fun h27 => ?_)
            · refine sxo_isT (k := 68) rfl h27 ?_
              refine sxo_move rfl rfl rfl ?_
              refine sxo_fieldAddr rfl rfl ff51_2 rfl ?_
              refine sxo_loadB (i := 0) rfl rfl tf3 rfl rfl (fun _ => rfl) rfl rfl ?_
              refine sxo_add rfl rfl rfl rfl ?_
              refine sxo_chk (fun h30 => ?_)
              refine sxo_shl rfl rfl rfl rfl h30 ?_
              refine sxo_move rfl rfl rfl ?_
              refine sxo_add rfl rfl rfl rfl ?_
              refine sxo_gtr rfl rfl rfl rfl ?_
              refine sxo_pick (b := true) rfl rfl rfl rfl ?_
              refine sxo_nil ?_
              exact sxq_meetP ((decide ((iadd .i64 x4 1) < (ishl .i64 (x1.length : Int) (iadd .i64 x5.2.2.1 1)))), ()) (lk_cons rfl lk_nil) .nil .nil fk_nil
            · refine sxo_isF (k := 68) rfl h27 ?_
              refine sxo_skip rfl rfl rfl ?_
              refine sxo_skip rfl rfl rfl ?_
              refine sxo_skip rfl rfl rfl ?_
              refine sxo_skip rfl rfl rfl ?_
              refine sxo_skip rfl rfl rfl ?_
              refine sxo_skip rfl rfl rfl ?_
              refine sxo_skip rfl rfl rfl ?_
              refine sxo_skip rfl rfl rfl ?_
              refine sxo_pick (b := false) rfl rfl rfl rfl ?_
              refine sxo_nil ?_
              exact sxq_meetP (false, ()) (lk_cons rfl lk_nil) .nil .nil fk_nil
          · rintro ⟨x29, _⟩
            try dsimp only
            refine sxo_take (os := _) rfl ?_
            refine sxo_assign rfl rfl rfl ?_
            refine sxo_nil ?_
            refine sxq_next ?_
            refine sxc_ret ?_
            exact sxq_doneP () (.inl rfl) (res1 rfl rfl) (fun h => by subst h; rfl) (fun h => by subst h; exact .nil)

set_option maxHeartbeats 4000000 in
theorem C_L_FanoNext (F : Nat) (x1 : List Int) (a2 : Option Addr) (c3 : Nat) (x4 : Int) (x5 : Int) (r : Bool) (hm : M_L_FanoNext F x1 x4 x5 = some r) :
    Pure Try.prog 10 [.slice a2 x1.length c3, .int .i64 x4, .int .i64 x5] [Sl (eI .i64) 1 (.slice a2 x1.length c3) x1] Unit (fun _ => .bool r) (fun _ => []) (fun _ => []) := by
  refine pure_of Try.func10 rfl Try.ntmps10 rfl hm (fun w => ?_)
  refine sxc_env (l' := [(0, .slice a2 x1.length c3), (1, .int .i64 x4), (2, .int .i64 x5)]) rfl ?_
  refine sxc_seq ?_
  refine sxc_region ?_
  refine sxo_assign rfl rfl rfl ?_
  refine sxo_nil ?_
  refine sxq_next ?_
  refine sxc_seq ?_
  refine sxc_region ?_
  refine sxo_move rfl rfl rfl ?_
  refine sxo_move rfl rfl rfl ?_
  refine sxo_call ent31 rfl rfl rfl (fun x6 e6 => C_fano_Write F x1 a2 c3 x4 x6 e6) (.consF 0 rfl .nil) (fun x6 e6 => ?_)
  rintro ⟨⟨a7, c8⟩, ⟨a9, c10⟩⟩
  refine sxo_move rfl rfl rfl ?_
  refine sxo_extract rfl rfl rfl rfl ?_
  refine sxo_extract rfl rfl rfl rfl ?_
  refine sxo_alloc rfl tf51 rfl (fun g11 => ?_)
  refine sxo_storeB (i := 0) rfl rfl rfl tf51 rfl rfl rfl rfl rfl ?_
  refine sxo_assign rfl rfl rfl ?_
  refine sxo_nil ?_
  refine sxq_next ?_
  refine sxc_seq ?_
  refine sxc_seq ?_
  refine sxc_region ?_
  refine sxo_call ent37 rfl rfl rfl (fun x14 e14 => C_L_fanoBegun F  x14 e14) .nil (fun x14 e14 => ?_)
  intro _
  refine sxo_not rfl rfl rfl ?_
  refine sxo_nil ?_
  refine sxq_next ?_
  refine sxc_if rfl (fun h84 => ?_) (fun h84 => ?_)
  · refine sxc_seq ?_
    refine sxc_region ?_
    refine sxo_assign rfl rfl rfl ?_
    refine sxo_nil ?_
    refine sxq_next ?_
    refine sxc_ret ?_
    refine sxq_thenR ?_
    exact sxq_doneP () (.inl rfl) (res1 rfl rfl) (fun h => by subst h; rfl) (fun h => by subst h; exact .nil)
  · refine sxc_skip ?_
    refine sxq_next ?_
    refine sxc_seq ?_
    refine sxc_seq ?_
    refine sxc_region ?_
    refine sxo_move rfl rfl rfl ?_
    refine sxo_neq rfl rfl rfl rfl ?_
    refine sxo_nil ?_
    refine sxq_next ?_
    refine sxc_if rfl (fun h83 => ?_) (fun h83 => ?_)
    · refine sxc_seq ?_
      refine sxc_region ?_
      refine sxo_assign rfl rfl rfl ?_
      refine sxo_nil ?_
      refine sxq_next ?_
      refine sxc_ret ?_
      refine sxq_thenR ?_
      exact sxq_doneP () (.inl rfl) (res1 rfl rfl) (fun h => by subst h; rfl) (fun h => by subst h; exact .nil)
    · refine sxc_skip ?_
      refine sxq_next ?_
      refine sxc_seq ?_
      refine sxc_region ?_
      refine sxo_loadB (i := 0) rfl rfl tf51 rfl rfl (by simp) rfl rfl ?_
      refine sxo_move rfl rfl rfl ?_
      refine sxo_call ent34 rfl rfl rfl (fun x16 e16 => C_fano_Next F x6.1 x6.2.1 x6.2.2.1 x6.2.2.2.1 x6.2.2.2.2.1 a7 c8 x6.2.2.2.2.2.1 x6.2.2.2.2.2.2.1 a9 c10 x5 x16 e16) (.consR 0 (Ro (eI .u8) 5 1 (.slice a7 x6.2.2.2.2.1.length c8) x6.2.2.2.2.1) rfl (.consR 1 (Ro (eI .u8) 5 1 (.slice a9 x6.2.2.2.2.2.2.1.length c10) x6.2.2.2.2.2.2.1) rfl .nil)) (fun x16 e16 => ?_)
      intro _
      refine sxo_move rfl rfl rfl ?_
      refine sxo_extract rfl rfl rfl rfl ?_
      refine sxo_extract rfl rfl rfl rfl ?_
      refine sxo_extract rfl rfl rfl rfl ?_
      refine sxo_assign rfl rfl rfl ?_
      refine sxo_assign rfl rfl rfl ?_
      refine sxo_assign rfl rfl rfl ?_
      refine sxo_nil ?_
      refine sxq_next ?_
      refine sxc_seq ?_
      refine sxc_seq ?_
      refine sxc_region ?_
      refine sxo_move rfl rfl rfl ?_
      refine sxo_neq rfl rfl rfl rfl ?_
      refine sxo_nil ?_
      refine sxq_next ?_
      refine sxc_if rfl (fun h82 => ?_) (fun h82 => ?_)
      · refine sxc_seq ?_
        refine sxc_region ?_
        refine sxo_move rfl rfl rfl ?_
        refine sxo_eql rfl rfl rfl rfl ?_
        refine sxo_move rfl rfl rfl ?_
        refine sxo_join 14 (fun ((x45, _) : (Bool × Unit)) => [(47, .bool x45)]) (fun ((x45, _) : (Bool × Unit)) => []) (fun ((x45, _) : (Bool × Unit)) => []) (fun ((x45, _) : (Bool × Unit)) => []) (fun ((x45, _) : (Bool × Unit)) => M_L_FanoNext_j5 F x45) ?_ ?_
        · refine sxo_take (os := _) rfl ?_
          refine sxo_if (fun h36 => ?_) (fun h36 => ?_)
          · refine sxo_isT (k := 33) rfl h36 ?_
            refine sxo_move rfl rfl rfl ?_
            refine sxo_len rfl Try.underlying23 rfl rfl ?_
            refine sxo_eql rfl rfl rfl rfl ?_
            refine sxo_move rfl rfl rfl ?_
            refine sxo_join 9 (fun ((x50, _) : (Bool × Unit)) => [(33, .bool true), (46, .bool x50)]) (fun ((x50, _) : (Bool × Unit)) => []) (fun ((x50, _) : (Bool × Unit)) => []) (fun ((x50, _) : (Bool × Unit)) => []) (fun ((x50, _) : (Bool × Unit)) => M_L_FanoNext_j6 F x50) ?_ ?_
            · refine sxo_take (os := _) rfl ?_
              refine sxo_if (fun h46 => ?_) (fun h46 => ?_)
              · refine sxo_isT (k := 37) rfl h46 ?_
                refine sxo_skip rfl rfl rfl ?_
                refine sxo_skip rfl rfl rfl ?_
                refine sxo_skip rfl rfl rfl ?_
                refine sxo_skip rfl rfl rfl ?_
                refine sxo_skip rfl rfl rfl ?_
                refine sxo_skip rfl rfl rfl ?_
                refine sxo_skip rfl rfl rfl ?_
                refine sxo_skip rfl rfl rfl ?_
                refine sxo_pick (b := true) rfl rfl rfl rfl ?_
                refine sxo_nil ?_
                exact sxq_meetP (true, ()) (lk_cons rfl (lk_cons rfl lk_nil)) .nil .nil fk_nil
              · refine sxo_isF (k := 37) rfl h46 ?_
                refine sxo_move rfl rfl rfl ?_
                refine sxo_move rfl rfl rfl ?_
                refine sxo_len rfl Try.underlying23 rfl rfl ?_
                refine sxo_sub rfl rfl rfl rfl ?_
                refine sxo_indexF (j := 0) (eI_ok .i64) (by decide) rfl Try.underlying23 tf3 rfl rfl rfl rfl (fun x51 e51 b52 o53 => ?_)
                refine sxo_loadF (j := 0) rfl rfl tf3 rfl rfl (fun _ => rfl) rfl rfl ?_
                refine sxo_move rfl rfl rfl ?_
                refine sxo_lss rfl rfl rfl rfl ?_
                refine sxo_pick (b := false) rfl rfl rfl rfl ?_
                refine sxo_nil ?_
                exact sxq_meetP ((decide (x51 < x5)), ()) (lk_cons rfl (lk_cons rfl lk_nil)) .nil .nil fk_nil
            · rintro ⟨x50, _⟩
              try dsimp only
              refine sxo_take (os := _) rfl ?_
              refine sxo_pick (b := true) rfl rfl rfl rfl ?_
              refine sxo_nil ?_
              exact sxq_meetP (x50, ()) (lk_cons rfl lk_nil) .nil .nil fk_nil
          · refine sxo_isF (k := 33) rfl h36 ?_
            refine sxo_skip rfl rfl rfl ?_
            refine sxo_skip rfl rfl rfl ?_
            refine sxo_skip rfl rfl rfl ?_
            refine sxo_skip rfl rfl rfl ?_
            refine sxo_skip rfl rfl rfl ?_
            refine sxo_skip rfl rfl rfl ?_
            refine sxo_skip rfl rfl rfl ?_
            refine sxo_skip rfl rfl rfl ?_
            refine sxo_skip rfl rfl rfl ?_
            refine sxo_skip rfl rfl rfl ?_
            refine sxo_skip rfl rfl rfl ?_
            refine sxo_skip rfl rfl rfl ?_
            refine sxo_skip rfl rfl rfl ?_
            refine sxo_pick (b := false) rfl rfl rfl rfl ?_
            refine sxo_nil ?_
            exact sxq_meetP (false, ()) (lk_cons rfl lk_nil) .nil .nil fk_nil
        · rintro ⟨x45, _⟩
          try dsimp only
          refine sxo_take (os := _) rfl ?_
          refine sxo_assign rfl rfl rfl ?_
          refine sxo_nil ?_
          refine sxq_next ?_
          refine sxc_ret ?_
          refine sxq_thenR ?_
          exact sxq_doneP () (.inl rfl) (res1 rfl rfl) (fun h => by subst h; rfl) (fun h => by subst h; exact .nil)
      · refine sxc_skip ?_
        refine sxq_next ?_
        refine sxc_seq ?_
        refine sxc_region ?_
        refine sxo_move rfl rfl rfl ?_
        refine sxo_geq rfl rfl rfl rfl ?_
        refine sxo_move rfl rfl rfl ?_
        refine sxo_case 5 (decide (0 ≤ x16.1)) [(0, .slice a2 x1.length c3), (2, .int .i64 x5), (9, .int .i64 x16.1), (10, .int .i64 x16.2.1), (55, .bool ((decide (0 ≤ x16.1)) && (decide (x16.1 < (x1.length : Int)))))] (fun h54 => ?_) (fun h54 => ?_) ?_
        · refine sxo_take (os := _) rfl ?_
          refine sxo_isT (k := 50) rfl h54 ?_
          refine sxo_move rfl rfl rfl ?_
          refine sxo_move rfl rfl rfl ?_
          refine sxo_len rfl Try.underlying23 rfl rfl ?_
          refine sxo_lss rfl rfl rfl rfl ?_
          refine sxo_pick (b := true) rfl rfl rfl rfl ?_
          refine sxo_again (d := 55) (v := .bool ((decide (0 ≤ x16.1)) && (decide (x16.1 < (x1.length : Int))))) rfl (by rw [h54]; simp only [Bool.true_and]) ?_
          refine sxo_nil ?_
          exact sxq_case (lk_cons rfl (lk_cons rfl (lk_cons rfl (lk_cons rfl (lk_cons rfl lk_nil)))))
        · refine sxo_take (os := _) rfl ?_
          refine sxo_isF (k := 50) rfl h54 ?_
          refine sxo_skip rfl rfl rfl ?_
          refine sxo_skip rfl rfl rfl ?_
          refine sxo_skip rfl rfl rfl ?_
          refine sxo_skip rfl rfl rfl ?_
          refine sxo_pick (b := false) rfl rfl rfl rfl ?_
          refine sxo_again (d := 55) (v := .bool ((decide (0 ≤ x16.1)) && (decide (x16.1 < (x1.length : Int))))) rfl (by rw [h54]; simp only [Bool.false_and]) ?_
          refine sxo_nil ?_
          exact sxq_case (lk_cons rfl (lk_cons rfl (lk_cons rfl (lk_cons rfl (lk_cons rfl lk_nil)))))
        refine sxo_take (os := _) rfl ?_
        refine sxo_move rfl rfl rfl ?_
        refine sxo_join 7 (fun ((x59, _) : (Bool × Unit)) => [(0, .slice a2 x1.length c3), (2, .int .i64 x5), (9, .int .i64 x16.1), (10, .int .i64 x16.2.1), (63, .bool x59)]) (fun ((x59, _) : (Bool × Unit)) => []) (fun ((x59, _) : (Bool × Unit)) => []) (fun ((x59, _) : (Bool × Unit)) => [Sl (eI .i64) 1 (.slice a2 x1.length c3) x1]) (fun ((x59, _) : (Bool × Unit)) => M_L_FanoNext_j7 F x1 x5 x16 x59) ?_ ?_
        · refine sxo_take (os := _) rfl ?_
          refine sxo_if (fun h55 => ?_) (fun h55 => ?_)
          · refine sxo_isT (k := 56) rfl h55 ?_
            refine sxo_move rfl rfl rfl ?_
            refine sxo_move rfl rfl rfl ?_
            refine sxo_indexF (j := 0) (eI_ok .i64) (by decide) rfl Try.underlying23 tf3 rfl rfl rfl rfl (fun x79 e79 b80 o81 => ?_)
            refine sxo_loadF (j := 0) rfl rfl tf3 rfl rfl (fun _ => rfl) rfl rfl ?_
            refine sxo_move rfl rfl rfl ?_
            refine sxo_eql rfl rfl rfl rfl ?_
            refine sxo_pick (b := true) rfl rfl rfl rfl ?_
            refine sxo_nil ?_
            exact sxq_meetP (((x79 : Int) == x16.2.1), ()) (lk_cons rfl (lk_cons rfl (lk_cons rfl (lk_cons rfl (lk_cons rfl lk_nil))))) .nil .nil (fk_cons 1 rfl fk_nil)
          · refine sxo_isF (k := 56) rfl h55 ?_
            refine sxo_skip rfl rfl rfl ?_
            refine sxo_skip rfl rfl rfl ?_
            refine sxo_skip rfl rfl rfl ?_
            refine sxo_skip rfl rfl rfl ?_
            refine sxo_skip rfl rfl rfl ?_
            refine sxo_skip rfl rfl rfl ?_
            refine sxo_pick (b := false) rfl rfl rfl rfl ?_
            refine sxo_nil ?_
            exact sxq_meetP (false, ()) (lk_cons rfl (lk_cons rfl (lk_cons rfl (lk_cons rfl (lk_cons rfl lk_nil))))) .nil .nil (fk_cons 0 rfl fk_nil)
        · rintro ⟨x59, _⟩
          try dsimp only
          refine sxo_take (os := _) rfl ?_
          refine sxo_move rfl rfl rfl ?_
          refine sxo_case 4 x59 [(0, .slice a2 x1.length c3), (2, .int .i64 x5), (9, .int .i64 x16.1), (68, .bool (x59 && (decide (x5 ≤ x16.2.1))))] (fun h60 => ?_) (fun h60 => ?_) ?_
          · refine sxo_take (os := _) rfl ?_
            refine sxo_isT (k := 64) rfl h60 ?_
            refine sxo_move rfl rfl rfl ?_
            refine sxo_move rfl rfl rfl ?_
            refine sxo_geq rfl rfl rfl rfl ?_
            refine sxo_pick (b := true) rfl rfl rfl rfl ?_
            refine sxo_again (d := 68) (v := .bool (x59 && (decide (x5 ≤ x16.2.1)))) rfl (by rw [h60]; simp only [Bool.true_and]) ?_
            refine sxo_nil ?_
            exact sxq_case (lk_cons rfl (lk_cons rfl (lk_cons rfl (lk_cons rfl lk_nil))))
          · refine sxo_take (os := _) rfl ?_
            refine sxo_isF (k := 64) rfl h60 ?_
            refine sxo_skip rfl rfl rfl ?_
            refine sxo_skip rfl rfl rfl ?_
            refine sxo_skip rfl rfl rfl ?_
            refine sxo_pick (b := false) rfl rfl rfl rfl ?_
            refine sxo_again (d := 68) (v := .bool (x59 && (decide (x5 ≤ x16.2.1)))) rfl (by rw [h60]; simp only [Bool.false_and]) ?_
            refine sxo_nil ?_
            exact sxq_case (lk_cons rfl (lk_cons rfl (lk_cons rfl (lk_cons rfl lk_nil))))
          refine sxo_take (os := _) rfl ?_
          refine sxo_move rfl rfl rfl ?_
          refine sxo_join 12 (fun ((x70, _) : (Bool × Unit)) => [(81, .bool x70)]) (fun ((x70, _) : (Bool × Unit)) => []) (fun ((x70, _) : (Bool × Unit)) => []) (fun ((x70, _) : (Bool × Unit)) => []) (fun ((x70, _) : (Bool × Unit)) => M_L_FanoNext_j9 F x70) ?_ ?_
          · refine sxo_take (os := _) rfl ?_
            refine sxo_if (fun h61 => ?_) (fun h61 => ?_)
            · refine sxo_isT (k := 69) rfl h61 ?_
              refine sxo_move rfl rfl rfl ?_
              refine sxo_eql rfl rfl rfl rfl ?_
              refine sxo_move rfl rfl rfl ?_
              refine sxo_join 8 (fun ((x75, _) : (Bool × Unit)) => [(69, .bool true), (80, .bool x75)]) (fun ((x75, _) : (Bool × Unit)) => []) (fun ((x75, _) : (Bool × Unit)) => []) (fun ((x75, _) : (Bool × Unit)) => []) (fun ((x75, _) : (Bool × Unit)) => M_L_FanoNext_j10 F x75) ?_ ?_
              · refine sxo_take (os := _) rfl ?_
                refine sxo_if (fun h71 => ?_) (fun h71 => ?_)
                · refine sxo_isT (k := 72) rfl h71 ?_
                  refine sxo_skip rfl rfl rfl ?_
                  refine sxo_skip rfl rfl rfl ?_
                  refine sxo_skip rfl rfl rfl ?_
                  refine sxo_skip rfl rfl rfl ?_
                  refine sxo_skip rfl rfl rfl ?_
                  refine sxo_skip rfl rfl rfl ?_
                  refine sxo_skip rfl rfl rfl ?_
                  refine sxo_pick (b := true) rfl rfl rfl rfl ?_
                  refine sxo_nil ?_
                  exact sxq_meetP (true, ()) (lk_cons rfl (lk_cons rfl lk_nil)) .nil .nil fk_nil
                · refine sxo_isF (k := 72) rfl h71 ?_
                  refine sxo_move rfl rfl rfl ?_
                  refine sxo_move rfl rfl rfl ?_
                  refine sxo_sub rfl rfl rfl rfl ?_
                  refine sxo_indexF (j := 0) (eI_ok .i64) (by decide) rfl Try.underlying23 tf3 rfl rfl rfl rfl (fun x76 e76 b77 o78 => ?_)
                  refine sxo_loadF (j := 0) rfl rfl tf3 rfl rfl (fun _ => rfl) rfl rfl ?_
                  refine sxo_move rfl rfl rfl ?_
                  refine sxo_lss rfl rfl rfl rfl ?_
                  refine sxo_pick (b := false) rfl rfl rfl rfl ?_
                  refine sxo_nil ?_
                  exact sxq_meetP ((decide (x76 < x5)), ()) (lk_cons rfl (lk_cons rfl lk_nil)) .nil .nil fk_nil
              · rintro ⟨x75, _⟩
                try dsimp only
                refine sxo_take (os := _) rfl ?_
                refine sxo_pick (b := true) rfl rfl rfl rfl ?_
                refine sxo_nil ?_
                exact sxq_meetP (x75, ()) (lk_cons rfl lk_nil) .nil .nil fk_nil
            · refine sxo_isF (k := 69) rfl h61 ?_
              refine sxo_skip rfl rfl rfl ?_
              refine sxo_skip rfl rfl rfl ?_
              refine sxo_skip rfl rfl rfl ?_
              refine sxo_skip rfl rfl rfl ?_
              refine sxo_skip rfl rfl rfl ?_
              refine sxo_skip rfl rfl rfl ?_
              refine sxo_skip rfl rfl rfl ?_
              refine sxo_skip rfl rfl rfl ?_
              refine sxo_skip rfl rfl rfl ?_
              refine sxo_skip rfl rfl rfl ?_
              refine sxo_skip rfl rfl rfl ?_
              refine sxo_pick (b := false) rfl rfl rfl rfl ?_
              refine sxo_nil ?_
              exact sxq_meetP (false, ()) (lk_cons rfl lk_nil) .nil .nil fk_nil
          · rintro ⟨x70, _⟩
            try dsimp only
            refine sxo_take (os := _) rfl ?_
            refine sxo_assign rfl rfl rfl ?_
            refine sxo_nil ?_
            refine sxq_next ?_
            refine sxc_ret ?_
            exact sxq_doneP () (.inl rfl) (res1 rfl rfl) (fun h => by subst h; rfl) (fun h => by subst h; exact .nil)

set_option maxHeartbeats 4000000 in
theorem C_L_FanoSame (F : Nat) (x1 : Int) (x2 : Int) (x3 : Int) (r : Bool) (hm : M_L_FanoSame F x1 x2 x3 = some r) :
    Pure Try.prog 11 [.int .i64 x1, .int .i64 x2, .int .i64 x3] [] Unit (fun _ => .bool r) (fun _ => []) (fun _ => []) := by
  refine pure_of Try.func11 rfl Try.ntmps11 rfl hm (fun w => ?_)
  refine sxc_env (l' := [(0, .int .i64 x1), (1, .int .i64 x2), (2, .int .i64 x3)]) rfl ?_
  refine sxc_seq ?_
  refine sxc_region ?_
  refine sxo_assign rfl rfl rfl ?_
  refine sxo_nil ?_
  refine sxq_next ?_
  refine sxc_seq ?_
  refine sxc_seq ?_
  refine sxc_region ?_
  refine sxo_call ent37 rfl rfl rfl (fun x6 e6 => C_L_fanoBegun F  x6 e6) .nil (fun x6 e6 => ?_)
  intro _
  refine sxo_not rfl rfl rfl ?_
  refine sxo_nil ?_
  refine sxq_next ?_
  refine sxc_if rfl (fun h120 => ?_) (fun h120 => ?_)
  · refine sxc_seq ?_
    refine sxc_region ?_
    refine sxo_assign rfl rfl rfl ?_
    refine sxo_nil ?_
    refine sxq_next ?_
    refine sxc_ret ?_
    refine sxq_thenR ?_
    exact sxq_doneP () (.inl rfl) (res1 rfl rfl) (fun h => by subst h; rfl) (fun h => by subst h; exact .nil)
  · refine sxc_skip ?_
    refine sxq_next ?_
    refine sxc_seq ?_
    refine sxc_seq ?_
    refine sxc_region ?_
    refine sxo_move rfl rfl rfl ?_
    refine sxo_lss rfl rfl rfl rfl ?_
    refine sxo_move rfl rfl rfl ?_
    refine sxo_case 3 (decide (x2 < 1)) [(0, .int .i64 x1), (1, .int .i64 x2), (2, .int .i64 x3), (26, .bool ((decide (x2 < 1)) || (decide (300 < x2))))] (fun h12 => ?_) (fun h12 => ?_) ?_
    · refine sxo_take (os := _) rfl ?_
      refine sxo_isT (k := 23) rfl h12 ?_
      refine sxo_skip rfl rfl rfl ?_
      refine sxo_skip rfl rfl rfl ?_
      refine sxo_pick (b := true) rfl rfl rfl rfl ?_
      refine sxo_again (d := 26) (v := .bool ((decide (x2 < 1)) || (decide (300 < x2)))) rfl (by rw [h12]; simp only [Bool.true_or]) ?_
      refine sxo_nil ?_
      exact sxq_case (lk_cons rfl (lk_cons rfl (lk_cons rfl (lk_cons rfl lk_nil))))
    · refine sxo_take (os := _) rfl ?_
      refine sxo_isF (k := 23) rfl h12 ?_
      refine sxo_move rfl rfl rfl ?_
      refine sxo_gtr rfl rfl rfl rfl ?_
      refine sxo_pick (b := false) rfl rfl rfl rfl ?_
      refine sxo_again (d := 26) (v := .bool ((decide (x2 < 1)) || (decide (300 < x2)))) rfl (by rw [h12]; simp only [Bool.false_or]) ?_
      refine sxo_nil ?_
      exact sxq_case (lk_cons rfl (lk_cons rfl (lk_cons rfl (lk_cons rfl lk_nil))))
    refine sxo_take (os := _) rfl ?_
    refine sxo_move rfl rfl rfl ?_
    refine sxo_case 3 ((decide (x2 < 1)) || (decide (300 < x2))) [(0, .int .i64 x1), (1, .int .i64 x2), (2, .int .i64 x3), (30, .bool (((decide (x2 < 1)) || (decide (300 < x2))) || (decide (x1 < 0))))] (fun h13 => ?_) (fun h13 => ?_) ?_
    · refine sxo_take (os := _) rfl ?_
      refine sxo_isT (k := 27) rfl h13 ?_
      refine sxo_skip rfl rfl rfl ?_
      refine sxo_skip rfl rfl rfl ?_
      refine sxo_pick (b := true) rfl rfl rfl rfl ?_
      refine sxo_again (d := 30) (v := .bool (((decide (x2 < 1)) || (decide (300 < x2))) || (decide (x1 < 0)))) rfl (by rw [h13]; simp only [Bool.true_or]) ?_
      refine sxo_nil ?_
      exact sxq_case (lk_cons rfl (lk_cons rfl (lk_cons rfl (lk_cons rfl lk_nil))))
    · refine sxo_take (os := _) rfl ?_
      refine sxo_isF (k := 27) rfl h13 ?_
      refine sxo_move rfl rfl rfl ?_
      refine sxo_lss rfl rfl rfl rfl ?_
      refine sxo_pick (b := false) rfl rfl rfl rfl ?_
      refine sxo_again (d := 30) (v := .bool (((decide (x2 < 1)) || (decide (300 < x2))) || (decide (x1 < 0)))) rfl (by rw [h13]; simp only [Bool.false_or]) ?_
      refine sxo_nil ?_
      exact sxq_case (lk_cons rfl (lk_cons rfl (lk_cons rfl (lk_cons rfl lk_nil))))
    refine sxo_take (os := _) rfl ?_
    refine sxo_move rfl rfl rfl ?_
    refine sxo_case 4 (((decide (x2 < 1)) || (decide (300 < x2))) || (decide (x1 < 0))) [(0, .int .i64 x1), (1, .int .i64 x2), (2, .int .i64 x3), (35, .bool ((((decide (x2 < 1)) || (decide (300 < x2))) || (decide (x1 < 0))) || (decide (x3 < x1))))] (fun h14 => ?_) (fun h14 => ?_) ?_
    · refine sxo_take (os := _) rfl ?_
      refine sxo_isT (k := 31) rfl h14 ?_
      refine sxo_skip rfl rfl rfl ?_
      refine sxo_skip rfl rfl rfl ?_
      refine sxo_skip rfl rfl rfl ?_
      refine sxo_pick (b := true) rfl rfl rfl rfl ?_
      refine sxo_again (d := 35) (v := .bool ((((decide (x2 < 1)) || (decide (300 < x2))) || (decide (x1 < 0))) || (decide (x3 < x1)))) rfl (by rw [h14]; simp only [Bool.true_or]) ?_
      refine sxo_nil ?_
      exact sxq_case (lk_cons rfl (lk_cons rfl (lk_cons rfl (lk_cons rfl lk_nil))))
    · refine sxo_take (os := _) rfl ?_
      refine sxo_isF (k := 31) rfl h14 ?_
      refine sxo_move rfl rfl rfl ?_
      refine sxo_move rfl rfl rfl ?_
      refine sxo_gtr rfl rfl rfl rfl ?_
      refine sxo_pick (b := false) rfl rfl rfl rfl ?_
      refine sxo_again (d := 35) (v := .bool ((((decide (x2 < 1)) || (decide (300 < x2))) || (decide (x1 < 0))) || (decide (x3 < x1)))) rfl (by rw [h14]; simp only [Bool.false_or]) ?_
      refine sxo_nil ?_
      exact sxq_case (lk_cons rfl (lk_cons rfl (lk_cons rfl (lk_cons rfl lk_nil))))
    refine sxo_take (os := _) rfl ?_
    refine sxo_move rfl rfl rfl ?_
    refine sxo_case 3 ((((decide (x2 < 1)) || (decide (300 < x2))) || (decide (x1 < 0))) || (decide (x3 < x1))) [(0, .int .i64 x1), (1, .int .i64 x2), (2, .int .i64 x3), (39, .bool (((((decide (x2 < 1)) || (decide (300 < x2))) || (decide (x1 < 0))) || (decide (x3 < x1))) || (decide (1048576 < x3))))] (fun h15 => ?_) (fun h15 => ?_) ?_
    · refine sxo_take (os := _) rfl ?_
      refine sxo_isT (k := 36) rfl h15 ?_
      refine sxo_skip rfl rfl rfl ?_
      refine sxo_skip rfl rfl rfl ?_
      refine sxo_pick (b := true) rfl rfl rfl rfl ?_
      refine sxo_again (d := 39) (v := .bool (((((decide (x2 < 1)) || (decide (300 < x2))) || (decide (x1 < 0))) || (decide (x3 < x1))) || (decide (1048576 < x3)))) rfl (by rw [h15]; simp only [Bool.true_or]) ?_
      refine sxo_nil ?_
      exact sxq_case (lk_cons rfl (lk_cons rfl (lk_cons rfl (lk_cons rfl lk_nil))))
    · refine sxo_take (os := _) rfl ?_
      refine sxo_isF (k := 36) rfl h15 ?_
      refine sxo_move rfl rfl rfl ?_
      refine sxo_gtr rfl rfl rfl rfl ?_
      refine sxo_pick (b := false) rfl rfl rfl rfl ?_
      refine sxo_again (d := 39) (v := .bool (((((decide (x2 < 1)) || (decide (300 < x2))) || (decide (x1 < 0))) || (decide (x3 < x1))) || (decide (1048576 < x3)))) rfl (by rw [h15]; simp only [Bool.false_or]) ?_
      refine sxo_nil ?_
      exact sxq_case (lk_cons rfl (lk_cons rfl (lk_cons rfl (lk_cons rfl lk_nil))))
    refine sxo_take (os := _) rfl ?_
    refine sxo_nil ?_
    refine sxq_next ?_
    refine sxc_if rfl (fun h119 => ?_) (fun h119 => ?_)
    · refine sxc_seq ?_
      refine sxc_region ?_
      refine sxo_assign rfl rfl rfl ?_
      refine sxo_nil ?_
      refine sxq_next ?_
      refine sxc_ret ?_
      refine sxq_thenR ?_
      exact sxq_doneP () (.inl rfl) (res1 rfl rfl) (fun h => by subst h; rfl) (fun h => by subst h; exact .nil)
    · refine sxc_skip ?_
      refine sxq_next ?_
      refine sxc_seq ?_
      refine sxc_region ?_
      refine sxo_assign rfl rfl rfl ?_
      refine sxo_nil ?_
      refine sxq_next ?_
      refine sxc_join (fun ((x59, (a57, c58)) : (List Int × (Option Addr × Nat))) => [(0, .int .i64 x1), (1, .int .i64 x2), (2, .int .i64 x3), (7, .slice a57 x59.length c58)]) (fun ((x59, (a57, c58)) : (List Int × (Option Addr × Nat))) => []) (fun ((x59, (a57, c58)) : (List Int × (Option Addr × Nat))) => [Ro (eI .i64) 3 1 (.slice a57 x59.length c58) x59]) (fun ((x59, (a57, c58)) : (List Int × (Option Addr × Nat))) => []) (fun ((x59, _) : (List Int × (Option Addr × Nat))) => M_L_FanoSame_j2 F x1 x2 x3 x59) ?_ ?_
      · refine sxc_seq ?_
        refine sxc_region ?_
        refine sxo_assign rfl rfl rfl ?_
        refine sxo_nil ?_
        refine sxq_next ?_
        refine sxc_block ?_
        refine sxc_nilrow Int (eI .i64) 3 1 ?_
        refine sxc_loopP (fun (((x92, x93), (a90, c91)) : ((List Int × Int) × (Option Addr × Nat))) => [(0, .int .i64 x1), (1, .int .i64 x2), (2, .int .i64 x3), (7, .slice a90 x92.length c91), (8, .int .i64 x93)]) (fun (((x92, x93), (a90, c91)) : ((List Int × Int) × (Option Addr × Nat))) => []) (fun (((x92, x93), (a90, c91)) : ((List Int × Int) × (Option Addr × Nat))) => [Ro (eI .i64) 3 1 (.slice a90 x92.length c91) x92]) (fun (((x92, x93), (a90, c91)) : ((List Int × Int) × (Option Addr × Nat))) => []) (fun k (s : ((List Int × Int) × (Option Addr × Nat))) => M_L_FanoSame_l3 F x1 x2 x3 k s.1) ((([] : List Int), 0), (none, 0)) F (lk_cons rfl (lk_cons rfl (lk_cons rfl (lk_cons rfl (lk_cons rfl lk_nil))))) .nil (.cons 0 rfl .nil) fk_nil (fun _ => rfl) ?_
        intro k106
        rintro ⟨⟨x92, x93⟩, ⟨a90, c91⟩⟩
        try dsimp only
        refine sxc_meq (m' := M_L_FanoSame_b3 F x1 x2 x3 (M_L_FanoSame_l3 F x1 x2 x3 k106) x92 x93) rfl ?_
        refine sxc_seq ?_
        refine sxc_seq ?_
        refine sxc_region ?_
        refine sxo_move rfl rfl rfl ?_
        refine sxo_move rfl rfl rfl ?_
        refine sxo_lss rfl rfl rfl rfl ?_
        refine sxo_nil ?_
        refine sxq_next ?_
        refine sxc_if rfl (fun h118 => ?_) (fun h118 => ?_)
        · refine sxc_skip ?_
          refine sxq_next ?_
          refine sxc_seq ?_
          refine sxc_block ?_
          refine sxc_region ?_
          refine sxo_move rfl rfl rfl ?_
          refine sxo_move rfl rfl rfl ?_
          refine sxo_slit (vs := [.int .i64 x1]) (ys := ([x1] : List Int)) (eI_ok .i64) (by decide) rfl Try.underlying23 tf3 rfl rfl rfl rfl rfl (by decide) (fun a113 c114 => ?_)
          refine sxo_app 1 (eI_ok .i64) rfl Try.underlying23 tf3 rfl rfl rfl rfl rfl (.inl ⟨0, _, rfl⟩) rfl rfl (fun x115 e115 a116 c117 => ?_)
          refine sxo_assign rfl rfl rfl ?_
          refine sxo_nil ?_
          refine sxq_blkN ?_
          refine sxq_next ?_
          refine sxc_region ?_
          refine sxo_move rfl rfl rfl ?_
          refine sxo_add rfl rfl rfl rfl ?_
          refine sxo_assign rfl rfl rfl ?_
          refine sxo_nil ?_
          exact sxq_againP ((x115, iadd .i64 x93 1), (a116, c117)) (lk_cons rfl (lk_cons rfl (lk_cons rfl (lk_cons rfl (lk_cons rfl lk_nil))))) .nil (.cons 0 rfl .nil) fk_nil
        · refine sxc_exit ?_
          refine sxq_thenX ?_
          refine sxq_thenX ?_
          refine sxq_blkX ?_
          exact sxq_meetP (x92, (a90, c91)) (lk_cons rfl (lk_cons rfl (lk_cons rfl (lk_cons rfl lk_nil)))) .nil (.cons 0 rfl .nil) fk_nil
      · rintro ⟨x59, ⟨a57, c58⟩⟩
        try dsimp only
        refine sxc_seq ?_
        refine sxc_region ?_
        refine sxo_move rfl rfl rfl ?_
        refine sxo_move rfl rfl rfl ?_
        refine sxo_call ent31 rfl rfl rfl (fun x60 e60 => C_fano_Write F x59 a57 c58 x3 x60 e60) (.consR 0 (Ro (eI .i64) 3 1 (.slice a57 x59.length c58) x59) rfl .nil) (fun x60 e60 => ?_)
        rintro ⟨⟨a61, c62⟩, ⟨a63, c64⟩⟩
        refine sxo_move rfl rfl rfl ?_
        refine sxo_extract rfl rfl rfl rfl ?_
        refine sxo_extract rfl rfl rfl rfl ?_
        refine sxo_alloc rfl tf51 rfl (fun g65 => ?_)
        refine sxo_storeB (i := 0) rfl rfl rfl tf51 rfl rfl rfl rfl rfl ?_
        refine sxo_assign rfl rfl rfl ?_
        refine sxo_nil ?_
        refine sxq_next ?_
        refine sxc_seq ?_
        refine sxc_seq ?_
        refine sxc_region ?_
        refine sxo_move rfl rfl rfl ?_
        refine sxo_neq rfl rfl rfl rfl ?_
        refine sxo_nil ?_
        refine sxq_next ?_
        refine sxc_if rfl (fun h77 => ?_) (fun h77 => ?_)
        · refine sxc_seq ?_
          refine sxc_region ?_
          refine sxo_move rfl rfl rfl ?_
          refine sxo_eql rfl rfl rfl rfl ?_
          refine sxo_assign rfl rfl rfl ?_
          refine sxo_nil ?_
          refine sxq_next ?_
          refine sxc_ret ?_
          refine sxq_thenR ?_
          exact sxq_doneP () (.inl rfl) (res1 rfl rfl) (fun h => by subst h; rfl) (fun h => by subst h; exact .nil)
        · refine sxc_skip ?_
          refine sxq_next ?_
          refine sxc_seq ?_
          refine sxc_region ?_
          refine sxo_loadB (i := 0) rfl rfl tf51 rfl rfl (by simp) rfl rfl ?_
          refine sxo_move rfl rfl rfl ?_
          refine sxo_sub rfl rfl rfl rfl ?_
          refine sxo_call ent33 rfl rfl rfl (fun x67 e67 => C_fano_Get F x60.1 x60.2.1 x60.2.2.1 x60.2.2.2.1 x60.2.2.2.2.1 a61 c62 x60.2.2.2.2.2.1 x60.2.2.2.2.2.2.1 a63 c64 (isub .i64 x2 1) x67 e67) (.consR 0 (Ro (eI .u8) 5 1 (.slice a61 x60.2.2.2.2.1.length c62) x60.2.2.2.2.1) rfl (.consR 1 (Ro (eI .u8) 5 1 (.slice a63 x60.2.2.2.2.2.2.1.length c64) x60.2.2.2.2.2.2.1) rfl .nil)) (fun x67 e67 => ?_)
          intro _
          refine sxo_move rfl rfl rfl ?_
          refine sxo_extract rfl rfl rfl rfl ?_
          refine sxo_extract rfl rfl rfl rfl ?_
          refine sxo_assign rfl rfl rfl ?_
          refine sxo_assign rfl rfl rfl ?_
          refine sxo_nil ?_
          refine sxq_next ?_
          refine sxc_seq ?_
          refine sxc_region ?_
          refine sxo_loadB (i := 0) rfl rfl tf51 rfl rfl (by simp) rfl rfl ?_
          refine sxo_move rfl rfl rfl ?_
          refine sxo_call ent34 rfl rfl rfl (fun x68 e68 => C_fano_Next F x60.1 x60.2.1 x60.2.2.1 x60.2.2.2.1 x60.2.2.2.2.1 a61 c62 x60.2.2.2.2.2.1 x60.2.2.2.2.2.2.1 a63 c64 x1 x68 e68) (.consR 0 (Ro (eI .u8) 5 1 (.slice a61 x60.2.2.2.2.1.length c62) x60.2.2.2.2.1) rfl (.consR 1 (Ro (eI .u8) 5 1 (.slice a63 x60.2.2.2.2.2.2.1.length c64) x60.2.2.2.2.2.2.1) rfl .nil)) (fun x68 e68 => ?_)
          intro _
          refine sxo_move rfl rfl rfl ?_
          refine sxo_extract rfl rfl rfl rfl ?_
          refine sxo_extract rfl rfl rfl rfl ?_
          refine sxo_extract rfl rfl rfl rfl ?_
          refine sxo_assign rfl rfl rfl ?_
          refine sxo_assign rfl rfl rfl ?_
          refine sxo_assign rfl rfl rfl ?_
          refine sxo_nil ?_
          refine sxq_next ?_
          refine sxc_seq ?_
          refine sxc_region ?_
          refine sxo_loadB (i := 0) rfl rfl tf51 rfl rfl (by simp) rfl rfl ?_
          refine sxo_call ent34 rfl rfl rfl (fun x69 e69 => C_fano_Next F x60.1 x60.2.1 x60.2.2.1 x60.2.2.2.1 x60.2.2.2.2.1 a61 c62 x60.2.2.2.2.2.1 x60.2.2.2.2.2.2.1 a63 c64 0 x69 e69) (.consR 0 (Ro (eI .u8) 5 1 (.slice a61 x60.2.2.2.2.1.length c62) x60.2.2.2.2.1) rfl (.consR 1 (Ro (eI .u8) 5 1 (.slice a63 x60.2.2.2.2.2.2.1.length c64) x60.2.2.2.2.2.2.1) rfl .nil)) (fun x69 e69 => ?_)
          intro _
          refine sxo_move rfl rfl rfl ?_
          refine sxo_extract rfl rfl rfl rfl ?_
          refine sxo_extract rfl rfl rfl rfl ?_
          refine sxo_extract rfl rfl rfl rfl ?_
          refine sxo_assign rfl rfl rfl ?_
          refine sxo_assign rfl rfl rfl ?_
          refine sxo_assign rfl rfl rfl ?_
          refine sxo_nil ?_
          refine sxq_next ?_
          refine sxc_seq ?_
          refine sxc_region ?_
          refine sxo_move rfl rfl rfl ?_
          refine sxo_eql rfl rfl rfl rfl ?_
          refine sxo_move rfl rfl rfl ?_
          refine sxo_case 4 ((x67.2 : Int) == 0) [(0, .int .i64 x1), (13, .int .i64 x68.1), (14, .int .i64 x68.2.1), (15, .int .i64 x68.2.2), (16, .int .i64 x69.1), (17, .int .i64 x69.2.1), (18, .int .i64 x69.2.2), (85, .bool (((x67.2 : Int) == 0) && ((x67.1 : Int) == x1)))] (fun h70 => ?_) (fun h70 => ?_) ?_
          · refine sxo_take (os := _) rfl ?_
            refine sxo_isT (k := 81) rfl h70 ?_
            refine sxo_move rfl rfl rfl ?_
            refine sxo_move rfl rfl rfl ?_
            refine sxo_eql rfl rfl rfl rfl ?_
            refine sxo_pick (b := true) rfl rfl rfl rfl ?_
            refine sxo_again (d := 85) (v := .bool (((x67.2 : Int) == 0) && ((x67.1 : Int) == x1))) rfl (by rw [h70]; simp only [Bool.true_and]) ?_
            refine sxo_nil ?_
            exact sxq_case (lk_cons rfl (lk_cons rfl (lk_cons rfl (lk_cons rfl (lk_cons rfl (lk_cons rfl (lk_cons rfl (lk_cons rfl lk_nil))))))))
          · refine sxo_take (os := _) rfl ?_
            refine sxo_isF (k := 81) rfl h70 ?_
            refine sxo_skip rfl rfl rfl ?_
            refine sxo_skip rfl rfl rfl ?_
            refine sxo_skip rfl rfl rfl ?_
            refine sxo_pick (b := false) rfl rfl rfl rfl ?_
            refine sxo_again (d := 85) (v := .bool (((x67.2 : Int) == 0) && ((x67.1 : Int) == x1))) rfl (by rw [h70]; simp only [Bool.false_and]) ?_
            refine sxo_nil ?_
            exact sxq_case (lk_cons rfl (lk_cons rfl (lk_cons rfl (lk_cons rfl (lk_cons rfl (lk_cons rfl (lk_cons rfl (lk_cons rfl lk_nil))))))))
          refine sxo_take (os := _) rfl ?_
          refine sxo_move rfl rfl rfl ?_
          refine sxo_case 3 (((x67.2 : Int) == 0) && ((x67.1 : Int) == x1)) [(0, .int .i64 x1), (13, .int .i64 x68.1), (14, .int .i64 x68.2.1), (16, .int .i64 x69.1), (17, .int .i64 x69.2.1), (18, .int .i64 x69.2.2), (89, .bool ((((x67.2 : Int) == 0) && ((x67.1 : Int) == x1)) && ((x68.2.2 : Int) == 0)))] (fun h71 => ?_) (fun h71 => ?_) ?_
          · refine sxo_take (os := _) rfl ?_
            refine sxo_isT (k := 86) rfl h71 ?_
            refine sxo_move rfl rfl rfl ?_
            refine sxo_eql rfl rfl rfl rfl ?_
            refine sxo_pick (b := true) rfl rfl rfl rfl ?_
            refine sxo_again (d := 89) (v := .bool ((((x67.2 : Int) == 0) && ((x67.1 : Int) == x1)) && ((x68.2.2 : Int) == 0))) rfl (by rw [h71]; simp only [Bool.true_and]) ?_
            refine sxo_nil ?_
            exact sxq_case (lk_cons rfl (lk_cons rfl (lk_cons rfl (lk_cons rfl (lk_cons rfl (lk_cons rfl (lk_cons rfl lk_nil)))))))
          · refine sxo_take (os := _) rfl ?_
            refine sxo_isF (k := 86) rfl h71 ?_
            refine sxo_skip rfl rfl rfl ?_
            refine sxo_skip rfl rfl rfl ?_
            refine sxo_pick (b := false) rfl rfl rfl rfl ?_
            refine sxo_again (d := 89) (v := .bool ((((x67.2 : Int) == 0) && ((x67.1 : Int) == x1)) && ((x68.2.2 : Int) == 0))) rfl (by rw [h71]; simp only [Bool.false_and]) ?_
            refine sxo_nil ?_
            exact sxq_case (lk_cons rfl (lk_cons rfl (lk_cons rfl (lk_cons rfl (lk_cons rfl (lk_cons rfl (lk_cons rfl lk_nil)))))))
          refine sxo_take (os := _) rfl ?_
          refine sxo_move rfl rfl rfl ?_
          refine sxo_case 3 ((((x67.2 : Int) == 0) && ((x67.1 : Int) == x1)) && ((x68.2.2 : Int) == 0)) [(0, .int .i64 x1), (14, .int .i64 x68.2.1), (16, .int .i64 x69.1), (17, .int .i64 x69.2.1), (18, .int .i64 x69.2.2), (93, .bool (((((x67.2 : Int) == 0) && ((x67.1 : Int) == x1)) && ((x68.2.2 : Int) == 0)) && ((x68.1 : Int) == 0)))] (fun h72 => ?_) (fun h72 => ?_) ?_
          · refine sxo_take (os := _) rfl ?_
            refine sxo_isT (k := 90) rfl h72 ?_
            refine sxo_move rfl rfl rfl ?_
            refine sxo_eql rfl rfl rfl rfl ?_
            refine sxo_pick (b := true) rfl rfl rfl rfl ?_
            refine sxo_again (d := 93) (v := .bool (((((x67.2 : Int) == 0) && ((x67.1 : Int) == x1)) && ((x68.2.2 : Int) == 0)) && ((x68.1 : Int) == 0))) rfl (by rw [h72]; simp only [Bool.true_and]) ?_
            refine sxo_nil ?_
            exact sxq_case (lk_cons rfl (lk_cons rfl (lk_cons rfl (lk_cons rfl (lk_cons rfl (lk_cons rfl lk_nil))))))
          · refine sxo_take (os := _) rfl ?_
            refine sxo_isF (k := 90) rfl h72 ?_
            refine sxo_skip rfl rfl rfl ?_
            refine sxo_skip rfl rfl rfl ?_
            refine sxo_pick (b := false) rfl rfl rfl rfl ?_
            refine sxo_again (d := 93) (v := .bool (((((x67.2 : Int) == 0) && ((x67.1 : Int) == x1)) && ((x68.2.2 : Int) == 0)) && ((x68.1 : Int) == 0))) rfl (by rw [h72]; simp only [Bool.false_and]) ?_
            refine sxo_nil ?_
            exact sxq_case (lk_cons rfl (lk_cons rfl (lk_cons rfl (lk_cons rfl (lk_cons rfl (lk_cons rfl lk_nil))))))
          refine sxo_take (os := _) rfl ?_
          refine sxo_move rfl rfl rfl ?_
          refine sxo_case 4 (((((x67.2 : Int) == 0) && ((x67.1 : Int) == x1)) && ((x68.2.2 : Int) == 0)) && ((x68.1 : Int) == 0)) [(0, .int .i64 x1), (16, .int .i64 x69.1), (17, .int .i64 x69.2.1), (18, .int .i64 x69.2.2), (98, .bool ((((((x67.2 : Int) == 0) && ((x67.1 : Int) == x1)) && ((x68.2.2 : Int) == 0)) && ((x68.1 : Int) == 0)) && ((x68.2.1 : Int) == x1)))] (fun h73 => ?_) (fun h73 => ?_) ?_
          · refine sxo_take (os := _) rfl ?_
            refine sxo_isT (k := 94) rfl h73 ?_
            refine sxo_move rfl rfl rfl ?_
            refine sxo_move rfl rfl rfl ?_
            refine sxo_eql rfl rfl rfl rfl ?_
            refine sxo_pick (b := true) rfl rfl rfl rfl ?_
            refine sxo_again (d := 98) (v := .bool ((((((x67.2 : Int) == 0) && ((x67.1 : Int) == x1)) && ((x68.2.2 : Int) == 0)) && ((x68.1 : Int) == 0)) && ((x68.2.1 : Int) == x1))) rfl (by rw [h73]; simp only [Bool.true_and]) ?_
            refine sxo_nil ?_
            exact sxq_case (lk_cons rfl (lk_cons rfl (lk_cons rfl (lk_cons rfl (lk_cons rfl lk_nil)))))
          · refine sxo_take (os := _) rfl ?_
            refine sxo_isF (k := 94) rfl h73 ?_
            refine sxo_skip rfl rfl rfl ?_
            refine sxo_skip rfl rfl rfl ?_
            refine sxo_skip rfl rfl rfl ?_
            refine sxo_pick (b := false) rfl rfl rfl rfl ?_
            refine sxo_again (d := 98) (v := .bool ((((((x67.2 : Int) == 0) && ((x67.1 : Int) == x1)) && ((x68.2.2 : Int) == 0)) && ((x68.1 : Int) == 0)) && ((x68.2.1 : Int) == x1))) rfl (by rw [h73]; simp only [Bool.false_and]) ?_
            refine sxo_nil ?_
            exact sxq_case (lk_cons rfl (lk_cons rfl (lk_cons rfl (lk_cons rfl (lk_cons rfl lk_nil)))))
          refine sxo_take (os := _) rfl ?_
          refine sxo_move rfl rfl rfl ?_
          refine sxo_case 3 ((((((x67.2 : Int) == 0) && ((x67.1 : Int) == x1)) && ((x68.2.2 : Int) == 0)) && ((x68.1 : Int) == 0)) && ((x68.2.1 : Int) == x1)) [(0, .int .i64 x1), (16, .int .i64 x69.1), (17, .int .i64 x69.2.1), (102, .bool (((((((x67.2 : Int) == 0) && ((x67.1 : Int) == x1)) && ((x68.2.2 : Int) == 0)) && ((x68.1 : Int) == 0)) && ((x68.2.1 : Int) == x1)) && ((x69.2.2 : Int) == 0)))] (fun h74 => ?_) (fun h74 => ?_) ?_
          · refine sxo_take (os := _) rfl ?_
            refine sxo_isT (k := 99) rfl h74 ?_
            refine sxo_move rfl rfl rfl ?_
            refine sxo_eql rfl rfl rfl rfl ?_
            refine sxo_pick (b := true) rfl rfl rfl rfl ?_
            refine sxo_again (d := 102) (v := .bool (((((((x67.2 : Int) == 0) && ((x67.1 : Int) == x1)) && ((x68.2.2 : Int) == 0)) && ((x68.1 : Int) == 0)) && ((x68.2.1 : Int) == x1)) && ((x69.2.2 : Int) == 0))) rfl (by rw [h74]; simp only [Bool.true_and]) ?_
            refine sxo_nil ?_
            exact sxq_case (lk_cons rfl (lk_cons rfl (lk_cons rfl (lk_cons rfl lk_nil))))
          · refine sxo_take (os := _) rfl ?_
            refine sxo_isF (k := 99) rfl h74 ?_
            refine sxo_skip rfl rfl rfl ?_
            refine sxo_skip rfl rfl rfl ?_
            refine sxo_pick (b := false) rfl rfl rfl rfl ?_
            refine sxo_again (d := 102) (v := .bool (((((((x67.2 : Int) == 0) && ((x67.1 : Int) == x1)) && ((x68.2.2 : Int) == 0)) && ((x68.1 : Int) == 0)) && ((x68.2.1 : Int) == x1)) && ((x69.2.2 : Int) == 0))) rfl (by rw [h74]; simp only [Bool.false_and]) ?_
            refine sxo_nil ?_
            exact sxq_case (lk_cons rfl (lk_cons rfl (lk_cons rfl (lk_cons rfl lk_nil))))
          refine sxo_take (os := _) rfl ?_
          refine sxo_move rfl rfl rfl ?_
          refine sxo_case 3 (((((((x67.2 : Int) == 0) && ((x67.1 : Int) == x1)) && ((x68.2.2 : Int) == 0)) && ((x68.1 : Int) == 0)) && ((x68.2.1 : Int) == x1)) && ((x69.2.2 : Int) == 0)) [(0, .int .i64 x1), (17, .int .i64 x69.2.1), (106, .bool ((((((((x67.2 : Int) == 0) && ((x67.1 : Int) == x1)) && ((x68.2.2 : Int) == 0)) && ((x68.1 : Int) == 0)) && ((x68.2.1 : Int) == x1)) && ((x69.2.2 : Int) == 0)) && ((x69.1 : Int) == 0)))] (fun h75 => ?_) (fun h75 => ?_) ?_
          · refine sxo_take (os := _) rfl ?_
            refine sxo_isT (k := 103) rfl h75 ?_
            refine sxo_move rfl rfl rfl ?_
            refine sxo_eql rfl rfl rfl rfl ?_
            refine sxo_pick (b := true) rfl rfl rfl rfl ?_
            refine sxo_again (d := 106) (v := .bool ((((((((x67.2 : Int) == 0) && ((x67.1 : Int) == x1)) && ((x68.2.2 : Int) == 0)) && ((x68.1 : Int) == 0)) && ((x68.2.1 : Int) == x1)) && ((x69.2.2 : Int) == 0)) && ((x69.1 : Int) == 0))) rfl (by rw [h75]; simp only [Bool.true_and]) ?_
            refine sxo_nil ?_
            exact sxq_case (lk_cons rfl (lk_cons rfl (lk_cons rfl lk_nil)))
          · refine sxo_take (os := _) rfl ?_
            refine sxo_isF (k := 103) rfl h75 ?_
            refine sxo_skip rfl rfl rfl ?_
            refine sxo_skip rfl rfl rfl ?_
            refine sxo_pick (b := false) rfl rfl rfl rfl ?_
            refine sxo_again (d := 106) (v := .bool ((((((((x67.2 : Int) == 0) && ((x67.1 : Int) == x1)) && ((x68.2.2 : Int) == 0)) && ((x68.1 : Int) == 0)) && ((x68.2.1 : Int) == x1)) && ((x69.2.2 : Int) == 0)) && ((x69.1 : Int) == 0))) rfl (by rw [h75]; simp only [Bool.false_and]) ?_
            refine sxo_nil ?_
            exact sxq_case (lk_cons rfl (lk_cons rfl (lk_cons rfl lk_nil)))
          refine sxo_take (os := _) rfl ?_
          refine sxo_move rfl rfl rfl ?_
          refine sxo_case 4 ((((((((x67.2 : Int) == 0) && ((x67.1 : Int) == x1)) && ((x68.2.2 : Int) == 0)) && ((x68.1 : Int) == 0)) && ((x68.2.1 : Int) == x1)) && ((x69.2.2 : Int) == 0)) && ((x69.1 : Int) == 0)) [(111, .bool (((((((((x67.2 : Int) == 0) && ((x67.1 : Int) == x1)) && ((x68.2.2 : Int) == 0)) && ((x68.1 : Int) == 0)) && ((x68.2.1 : Int) == x1)) && ((x69.2.2 : Int) == 0)) && ((x69.1 : Int) == 0)) && ((x69.2.1 : Int) == x1)))] (fun h76 => ?_) (fun h76 => ?_) ?_
          · refine sxo_take (os := _) rfl ?_
            refine sxo_isT (k := 107) rfl h76 ?_
            refine sxo_move rfl rfl rfl ?_
            refine sxo_move rfl rfl rfl ?_
            refine sxo_eql rfl rfl rfl rfl ?_
            refine sxo_pick (b := true) rfl rfl rfl rfl ?_
            refine sxo_again (d := 111) (v := .bool (((((((((x67.2 : Int) == 0) && ((x67.1 : Int) == x1)) && ((x68.2.2 : Int) == 0)) && ((x68.1 : Int) == 0)) && ((x68.2.1 : Int) == x1)) && ((x69.2.2 : Int) == 0)) && ((x69.1 : Int) == 0)) && ((x69.2.1 : Int) == x1))) rfl (by rw [h76]; simp only [Bool.true_and]) ?_
            refine sxo_nil ?_
            exact sxq_case (lk_cons rfl lk_nil)
          · refine sxo_take (os := _) rfl ?_
            refine sxo_isF (k := 107) rfl h76 ?_
            refine sxo_skip rfl rfl rfl ?_
            refine sxo_skip rfl rfl rfl ?_
            refine sxo_skip rfl rfl rfl ?_
            refine sxo_pick (b := false) rfl rfl rfl rfl ?_
            refine sxo_again (d := 111) (v := .bool (((((((((x67.2 : Int) == 0) && ((x67.1 : Int) == x1)) && ((x68.2.2 : Int) == 0)) && ((x68.1 : Int) == 0)) && ((x68.2.1 : Int) == x1)) && ((x69.2.2 : Int) == 0)) && ((x69.1 : Int) == 0)) && ((x69.2.1 : Int) == x1))) rfl (by rw [h76]; simp only [Bool.false_and]) ?_
            refine sxo_nil ?_
            exact sxq_case (lk_cons rfl lk_nil)
          refine sxo_take (os := _) rfl ?_
          refine sxo_assign rfl rfl rfl ?_
          refine sxo_nil ?_
          refine sxq_next ?_
          refine sxc_ret ?_
          exact sxq_doneP () (.inl rfl) (res1 rfl rfl) (fun h => by subst h; rfl) (fun h => by subst h; exact .nil)

theorem C_rank_Select (F : Nat) (x1 : Int) (x2 : List Int) (a3 : Option Addr) (c4 : Nat) (x5 : Int) (x6 : Int) (r : (Int × Int)) (hm : M_rank_Select F x1 x2 x5 x6 = some r) :
    Pure Try.prog 46 [.agg #[.int .i64 x1, .slice a3 x2.length c4], .int .i64 x5, .int .i64 x6] [Sl (eI .u8) 1 (.slice a3 x2.length c4) x2] Unit (fun _ => .tuple #[.int .i64 r.1, .int .i64 r.2]) (fun _ => []) (fun _ => []) := by
  refine pure_of Try.func46 rfl Try.ntmps46 rfl hm (fun w => ?_)
  refine sxc_env (l' := [(0, .agg #[.int .i64 x1, .slice a3 x2.length c4]), (1, .int .i64 x5), (2, .int .i64 x6)]) rfl ?_
  refine sxc_seq ?_
  refine sxc_region ?_
  refine sxo_box rfl rfl rfl (fun g7 => ?_)
  refine sxo_assign rfl rfl rfl ?_
  refine sxo_assign rfl rfl rfl ?_
  refine sxo_nil ?_
  refine sxq_next ?_
  refine sxc_seq ?_
  refine sxc_region ?_
  refine sxo_loadB (i := 0) rfl rfl tf26 rfl rfl (by simp) rfl rfl ?_
  refine sxo_call ent63 rfl rfl rfl (fun x8 e8 => C_bits_Check F x1 x2 a3 c4 x8 e8) (.consF 0 rfl .nil) (fun x8 e8 => ?_)
  intro _
  refine sxo_assign rfl rfl rfl ?_
  refine sxo_nil ?_
  refine sxq_next ?_
  refine sxc_join (fun ((x16, _) : (Int × Unit)) => [(1, .int .i64 x5), (2, .int .i64 x6), (3, .pointer (some ⟨g7, 0, none⟩)), (8, .int .i64 x16)]) (fun ((x16, _) : (Int × Unit)) => [⟨g7, 26, [.int .i64 x1, .slice a3 x2.length c4]⟩]) (fun ((x16, _) : (Int × Unit)) => []) (fun ((x16, _) : (Int × Unit)) => [Sl (eI .u8) 1 (.slice a3 x2.length c4) x2]) (fun ((x16, _) : (Int × Unit)) => M_rank_Select_j2 F x1 x2 x5 x6 x16) ?_ ?_
  · refine sxc_seq ?_
    refine sxc_region ?_
    refine sxo_move rfl rfl rfl ?_
    refine sxo_eql rfl rfl rfl rfl ?_
    refine sxo_move rfl rfl rfl ?_
    refine sxo_join 11 (fun ((x25, _) : (Bool × Unit)) => [(1, .int .i64 x5), (2, .int .i64 x6), (3, .pointer (some ⟨g7, 0, none⟩)), (8, .int .i64 x8), (25, .bool x25)]) (fun ((x25, _) : (Bool × Unit)) => [⟨g7, 26, [.int .i64 x1, .slice a3 x2.length c4]⟩]) (fun ((x25, _) : (Bool × Unit)) => []) (fun ((x25, _) : (Bool × Unit)) => [Sl (eI .u8) 1 (.slice a3 x2.length c4) x2]) (fun ((x25, _) : (Bool × Unit)) => M_rank_Select_j3 F x1 x2 x5 x6 x8 x25) ?_ ?_
    · refine sxo_take (os := _) rfl ?_
      refine sxo_if (fun h22 => ?_) (fun h22 => ?_)
      · refine sxo_isT (k := 14) rfl h22 ?_
        refine sxo_move rfl rfl rfl ?_
        refine sxo_lss rfl rfl rfl rfl ?_
        refine sxo_move rfl rfl rfl ?_
        refine sxo_case 3 (decide (x5 < 0)) [(1, .int .i64 x5), (2, .int .i64 x6), (3, .pointer (some ⟨g7, 0, none⟩)), (8, .int .i64 x8), (14, .bool true), (20, .bool ((decide (x5 < 0)) || (decide (1 < x5))))] (fun h27 => ?_) (fun h27 => ?_) ?_
        · refine sxo_take (os := _) rfl ?_
          refine sxo_isT (k := 17) rfl h27 ?_
          refine sxo_skip rfl rfl rfl ?_
          refine sxo_skip rfl rfl rfl ?_
          refine sxo_pick (b := true) rfl rfl rfl rfl ?_
          refine sxo_again (d := 20) (v := .bool ((decide (x5 < 0)) || (decide (1 < x5)))) rfl (by rw [h27]; simp only [Bool.true_or]) ?_
          refine sxo_nil ?_
          exact sxq_case (lk_cons rfl (lk_cons rfl (lk_cons rfl (lk_cons rfl (lk_cons rfl (lk_cons rfl lk_nil))))))
        · refine sxo_take (os := _) rfl ?_
          refine sxo_isF (k := 17) rfl h27 ?_
          refine sxo_move rfl rfl rfl ?_
          refine sxo_gtr rfl rfl rfl rfl ?_
          refine sxo_pick (b := false) rfl rfl rfl rfl ?_
          refine sxo_again (d := 20) (v := .bool ((decide (x5 < 0)) || (decide (1 < x5)))) rfl (by rw [h27]; simp only [Bool.false_or]) ?_
          refine sxo_nil ?_
          exact sxq_case (lk_cons rfl (lk_cons rfl (lk_cons rfl (lk_cons rfl (lk_cons rfl (lk_cons rfl lk_nil))))))
        refine sxo_take (os := _) rfl ?_
        refine sxo_move rfl rfl rfl ?_
        refine sxo_case 3 ((decide (x5 < 0)) || (decide (1 < x5))) [(1, .int .i64 x5), (2, .int .i64 x6), (3, .pointer (some ⟨g7, 0, none⟩)), (8, .int .i64 x8), (14, .bool true), (24, .bool (((decide (x5 < 0)) || (decide (1 < x5))) || (decide (x6 < 0))))] (fun h28 => ?_) (fun h28 => ?_) ?_
        · refine sxo_take (os := _) rfl ?_
          refine sxo_isT (k := 21) rfl h28 ?_
          refine sxo_skip rfl rfl rfl ?_
          refine sxo_skip rfl rfl rfl ?_
          refine sxo_pick (b := true) rfl rfl rfl rfl ?_
          refine sxo_again (d := 24) (v := .bool (((decide (x5 < 0)) || (decide (1 < x5))) || (decide (x6 < 0)))) rfl (by rw [h28]; simp only [Bool.true_or]) ?_
          refine sxo_nil ?_
          exact sxq_case (lk_cons rfl (lk_cons rfl (lk_cons rfl (lk_cons rfl (lk_cons rfl (lk_cons rfl lk_nil))))))
        · refine sxo_take (os := _) rfl ?_
          refine sxo_isF (k := 21) rfl h28 ?_
          refine sxo_move rfl rfl rfl ?_
          refine sxo_lss rfl rfl rfl rfl ?_
          refine sxo_pick (b := false) rfl rfl rfl rfl ?_
          refine sxo_again (d := 24) (v := .bool (((decide (x5 < 0)) || (decide (1 < x5))) || (decide (x6 < 0)))) rfl (by rw [h28]; simp only [Bool.false_or]) ?_
          refine sxo_nil ?_
          exact sxq_case (lk_cons rfl (lk_cons rfl (lk_cons rfl (lk_cons rfl (lk_cons rfl (lk_cons rfl lk_nil))))))
        refine sxo_take (os := _) rfl ?_
        refine sxo_pick (b := true) rfl rfl rfl rfl ?_
        refine sxo_nil ?_
        exact sxq_meetP ((((decide (x5 < 0)) || (decide (1 < x5))) || (decide (x6 < 0))), ()) (lk_cons rfl (lk_cons rfl (lk_cons rfl (lk_cons rfl (lk_cons rfl lk_nil))))) (.cons 0 rfl .nil) .nil (fk_cons 0 rfl fk_nil)
      · refine sxo_isF (k := 14) rfl h22 ?_
        refine sxo_skip rfl rfl rfl ?_
        refine sxo_skip rfl rfl rfl ?_
        refine sxo_skip rfl rfl rfl ?_
        refine sxo_skip rfl rfl rfl ?_
        refine sxo_skip rfl rfl rfl ?_
        refine sxo_skip rfl rfl rfl ?_
        refine sxo_skip rfl rfl rfl ?_
        refine sxo_skip rfl rfl rfl ?_
        refine sxo_skip rfl rfl rfl ?_
        refine sxo_skip rfl rfl rfl ?_
        refine sxo_pick (b := false) rfl rfl rfl rfl ?_
        refine sxo_nil ?_
        exact sxq_meetP (false, ()) (lk_cons rfl (lk_cons rfl (lk_cons rfl (lk_cons rfl (lk_cons rfl lk_nil))))) (.cons 0 rfl .nil) .nil (fk_cons 0 rfl fk_nil)
    · rintro ⟨x25, _⟩
      try dsimp only
      refine sxo_take (os := _) rfl ?_
      refine sxo_nil ?_
      refine sxq_next ?_
      refine sxc_if rfl (fun h26 => ?_) (fun h26 => ?_)
      · refine sxc_region ?_
        refine sxo_assign rfl rfl rfl ?_
        refine sxo_nil ?_
        exact sxq_meetP (3, ()) (lk_cons rfl (lk_cons rfl (lk_cons rfl (lk_cons rfl lk_nil)))) (.cons 0 rfl .nil) .nil (fk_cons 0 rfl fk_nil)
      · refine sxc_skip ?_
        exact sxq_meetP (x8, ()) (lk_cons rfl (lk_cons rfl (lk_cons rfl (lk_cons rfl lk_nil)))) (.cons 0 rfl .nil) .nil (fk_cons 0 rfl fk_nil)
  · rintro ⟨x16, _⟩
    try dsimp only
    refine sxc_seq ?_
    refine sxc_seq ?_
    refine sxc_region ?_
    refine sxo_move rfl rfl rfl ?_
    refine sxo_neq rfl rfl rfl rfl ?_
    refine sxo_nil ?_
    refine sxq_next ?_
    refine sxc_if rfl (fun h21 => ?_) (fun h21 => ?_)
    · refine sxc_seq ?_
      refine sxc_region ?_
      refine sxo_move rfl rfl rfl ?_
      refine sxo_assign rfl rfl rfl ?_
      refine sxo_assign rfl rfl rfl ?_
      refine sxo_nil ?_
      refine sxq_next ?_
      refine sxc_ret ?_
      refine sxq_thenR ?_
      exact sxq_doneP () (.inl rfl) (res2 rfl rfl rfl) (fun h => by subst h; rfl) (fun h => by subst h; exact .nil)
    · refine sxc_skip ?_
      refine sxq_next ?_
      refine sxc_seq ?_
      refine sxc_region ?_
      refine sxo_loadB (i := 0) rfl rfl tf26 rfl rfl (by simp) rfl rfl ?_
      refine sxo_move rfl rfl rfl ?_
      refine sxo_conv rfl Try.underlying3 Try.underlying22 rfl rfl ?_
      refine sxo_move rfl rfl rfl ?_
      refine sxo_callM ent73 rfl rfl rfl (fun x18 e18 => C_rank_Place F x1 x2 a3 c4 (iconv .u64 x5) x6 x18 e18) .nil .nil (.consF 0 rfl .nil) (fun x18 e18 => ?_)
      intro _
      refine sxo_assign rfl rfl rfl ?_
      refine sxo_nil ?_
      refine sxq_next ?_
      refine sxc_seq ?_
      refine sxc_seq ?_
      refine sxc_region ?_
      refine sxo_move rfl rfl rfl ?_
      refine sxo_lss rfl rfl rfl rfl ?_
      refine sxo_nil ?_
      refine sxq_next ?_
      refine sxc_if rfl (fun h20 => ?_) (fun h20 => ?_)
      · refine sxc_seq ?_
        refine sxc_region ?_
        refine sxo_assign rfl rfl rfl ?_
        refine sxo_assign rfl rfl rfl ?_
        refine sxo_nil ?_
        refine sxq_next ?_
        refine sxc_ret ?_
        refine sxq_thenR ?_
        exact sxq_doneP () (.inl rfl) (res2 rfl rfl rfl) (fun h => by subst h; rfl) (fun h => by subst h; exact .nil)
      · refine sxc_skip ?_
        refine sxq_next ?_
        refine sxc_seq ?_
        refine sxc_region ?_
        refine sxo_move rfl rfl rfl ?_
        refine sxo_assign rfl rfl rfl ?_
        refine sxo_assign rfl rfl rfl ?_
        refine sxo_nil ?_
        refine sxq_next ?_
        refine sxc_ret ?_
        exact sxq_doneP () (.inl rfl) (res2 rfl rfl rfl) (fun h => by subst h; rfl) (fun h => by subst h; exact .nil)
end Go.Proofs.Ytecangnmnkejfaa
