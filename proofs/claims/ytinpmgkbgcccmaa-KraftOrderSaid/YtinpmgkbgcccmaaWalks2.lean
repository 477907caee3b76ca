/- Each Go function of this seat computes what its model says, part 2. -/
import Derived.Test.YtinpmgkbgcccmaaWalks
namespace Go.Proofs.Ytinpmgkbgcccmaa
open Go SX
set_option maxHeartbeats 4000000 in
theorem C_R_KraftApart (F : Nat) (x1 : List (Int × List Int)) (a2 : Option Addr) (c3 : (Nat × List (Option Addr × Nat))) (r : (Bool × Int)) (hm : M_R_KraftApart F x1 = some r) :
    Pure Try.prog 17 [.slice a2 x1.length c3.1] [SlN eN26 iN26 2 (.slice a2 x1.length c3.1) x1 c3.2] Unit (fun _ => .tuple #[.bool r.1, .int .i64 r.2]) (fun _ => []) (fun _ => []) := by
  refine pure_of Try.func17 rfl Try.ntmps17 rfl hm (fun w => ?_)
  refine sxc_env (l' := [(0, .slice a2 x1.length c3.1)]) rfl ?_
  refine sxc_seq ?_
  refine sxc_region ?_
  refine sxo_assign rfl rfl rfl ?_
  refine sxo_assign rfl rfl rfl ?_
  refine sxo_nil ?_
  refine sxq_next ?_
  refine sxc_seq ?_
  refine sxc_seq ?_
  refine sxc_region ?_
  refine sxo_move rfl rfl rfl ?_
  refine sxo_len rfl Try.underlying23 rfl rfl ?_
  refine sxo_gtr rfl rfl rfl rfl ?_
  refine sxo_nil ?_
  refine sxq_next ?_
  refine sxc_if rfl (fun h4669 => ?_) (fun h4669 => ?_)
  · refine sxc_seq ?_
    refine sxc_region ?_
    refine sxo_assign rfl rfl rfl ?_
    refine sxo_assign rfl rfl rfl ?_
    refine sxo_nil ?_
    refine sxq_next ?_
    refine sxc_ret ?_
    refine sxq_thenR ?_
    exact sxq_doneP () (.inl rfl) (res2 rfl rfl rfl) (fun h => by subst h; rfl) (fun h => by subst h; exact .nil)
  · refine sxc_skip ?_
    refine sxq_next ?_
    refine sxc_join (fun ((_, _) : (Unit × Unit)) => [(0, .slice a2 x1.length c3.1)]) (fun ((_, _) : (Unit × Unit)) => []) (fun ((_, _) : (Unit × Unit)) => []) (fun ((_, _) : (Unit × Unit)) => [SlN eN26 iN26 2 (.slice a2 x1.length c3.1) x1 c3.2]) (fun ((_, _) : (Unit × Unit)) => M_R_KraftApart_j2 F x1) ?_ ?_
    · refine sxc_seq ?_
      refine sxc_region ?_
      refine sxo_assign rfl rfl rfl ?_
      refine sxo_nil ?_
      refine sxq_next ?_
      refine sxc_block ?_
      refine sxc_loopP (fun ((x4639, _) : (Int × Unit)) => [(0, .slice a2 x1.length c3.1), (4, .int .i64 x4639)]) (fun ((x4639, _) : (Int × Unit)) => []) (fun ((x4639, _) : (Int × Unit)) => []) (fun ((x4639, _) : (Int × Unit)) => [SlN eN26 iN26 2 (.slice a2 x1.length c3.1) x1 c3.2]) (fun k (s : (Int × Unit)) => M_R_KraftApart_l96 F x1 k s.1) (0, ()) F (lk_cons rfl (lk_cons rfl lk_nil)) .nil .nil (fk_cons 0 rfl fk_nil) (fun _ => rfl) ?_
      intro k4654
      rintro ⟨x4639, _⟩
      try dsimp only
      refine sxc_meq (m' := M_R_KraftApart_b96 F x1 (M_R_KraftApart_l96 F x1 k4654) x4639) rfl ?_
      refine sxc_seq ?_
      refine sxc_seq ?_
      refine sxc_region ?_
      refine sxo_move rfl rfl rfl ?_
      refine sxo_move rfl rfl rfl ?_
      refine sxo_len rfl Try.underlying23 rfl rfl ?_
      refine sxo_lss rfl rfl rfl rfl ?_
      refine sxo_nil ?_
      refine sxq_next ?_
      refine sxc_if rfl (fun h4668 => ?_) (fun h4668 => ?_)
      · refine sxc_skip ?_
        refine sxq_next ?_
        refine sxc_seq ?_
        refine sxc_block ?_
        refine sxc_seq ?_
        refine sxc_region ?_
        refine sxo_move rfl rfl rfl ?_
        refine sxo_move rfl rfl rfl ?_
        refine sxo_indexN (j := 0) eN26_ok (by decide) rfl Try.underlying23 tf26 rfl rfl rfl rfl (fun x4662 e4662 g4665 b4663 o4664 => ?_)
        refine sxo_loadF (j := 0) rfl rfl tf26 rfl rfl (by simp) rfl rfl ?_
        refine sxo_call ent35 rfl rfl rfl (fun x4666 e4666 => C_R_BitsCheck F x4662.1 x4662.2 g4665.1 g4665.2 x4666 e4666) (.consF 1 rfl .nil) (fun x4666 e4666 => ?_)
        intro _
        refine sxo_assign rfl rfl rfl ?_
        refine sxo_nil ?_
        refine sxq_next ?_
        refine sxc_seq ?_
        refine sxc_region ?_
        refine sxo_move rfl rfl rfl ?_
        refine sxo_neq rfl rfl rfl rfl ?_
        refine sxo_nil ?_
        refine sxq_next ?_
        refine sxc_if rfl (fun h4667 => ?_) (fun h4667 => ?_)
        · refine sxc_seq ?_
          refine sxc_region ?_
          refine sxo_move rfl rfl rfl ?_
          refine sxo_assign rfl rfl rfl ?_
          refine sxo_assign rfl rfl rfl ?_
          refine sxo_nil ?_
          refine sxq_next ?_
          refine sxc_ret ?_
          refine sxq_blkR ?_
          refine sxq_thenR ?_
          refine sxq_thenR ?_
          refine sxq_blkR ?_
          refine sxq_thenR ?_
          exact sxq_doneP () (.inl rfl) (res2 rfl rfl rfl) (fun h => by subst h; rfl) (fun h => by subst h; exact .nil)
        · refine sxc_skip ?_
          refine sxq_blkN ?_
          refine sxq_next ?_
          refine sxc_region ?_
          refine sxo_move rfl rfl rfl ?_
          refine sxo_add rfl rfl rfl rfl ?_
          refine sxo_assign rfl rfl rfl ?_
          refine sxo_nil ?_
          exact sxq_againP (iadd .i64 x4639 1, ()) (lk_cons rfl (lk_cons rfl lk_nil)) .nil .nil (fk_cons 2 rfl fk_nil)
      · refine sxc_exit ?_
        refine sxq_thenX ?_
        refine sxq_thenX ?_
        refine sxq_blkX ?_
        exact sxq_meetP ((), ()) (lk_cons rfl lk_nil) .nil .nil (fk_cons 0 rfl fk_nil)
    · rintro ⟨_, _⟩
      try dsimp only
      refine sxc_join (fun ((_, _) : (Unit × Unit)) => []) (fun ((_, _) : (Unit × Unit)) => []) (fun ((_, _) : (Unit × Unit)) => []) (fun ((_, _) : (Unit × Unit)) => []) (fun ((_, _) : (Unit × Unit)) => M_R_KraftApart_j49 F) ?_ ?_
      · refine sxc_seq ?_
        refine sxc_region ?_
        refine sxo_assign rfl rfl rfl ?_
        refine sxo_nil ?_
        refine sxq_next ?_
        refine sxc_block ?_
        refine sxc_loopP (fun ((x3099, _) : (Int × Unit)) => [(0, .slice a2 x1.length c3.1), (6, .int .i64 x3099)]) (fun ((x3099, _) : (Int × Unit)) => []) (fun ((x3099, _) : (Int × Unit)) => []) (fun ((x3099, _) : (Int × Unit)) => [SlN eN26 iN26 2 (.slice a2 x1.length c3.1) x1 c3.2]) (fun k (s : (Int × Unit)) => M_R_KraftApart_l80 F x1 k s.1) (0, ()) F (lk_cons rfl (lk_cons rfl lk_nil)) .nil .nil (fk_cons 0 rfl fk_nil) (fun _ => rfl) ?_
        intro k3862
        rintro ⟨x3099, _⟩
        try dsimp only
        refine sxc_meq (m' := M_R_KraftApart_b80 F x1 (M_R_KraftApart_l80 F x1 k3862) x3099) rfl ?_
        refine sxc_seq ?_
        refine sxc_seq ?_
        refine sxc_region ?_
        refine sxo_move rfl rfl rfl ?_
        refine sxo_move rfl rfl rfl ?_
        refine sxo_len rfl Try.underlying23 rfl rfl ?_
        refine sxo_lss rfl rfl rfl rfl ?_
        refine sxo_nil ?_
        refine sxq_next ?_
        refine sxc_if rfl (fun h4624 => ?_) (fun h4624 => ?_)
        · refine sxc_skip ?_
          refine sxq_next ?_
          refine sxc_join (fun ((_, _) : (Unit × Unit)) => [(0, .slice a2 x1.length c3.1), (6, .int .i64 x3099)]) (fun ((_, _) : (Unit × Unit)) => []) (fun ((_, _) : (Unit × Unit)) => []) (fun ((_, _) : (Unit × Unit)) => [SlN eN26 iN26 2 (.slice a2 x1.length c3.1) x1 c3.2]) (fun ((_, _) : (Unit × Unit)) => M_R_KraftApart_j88 F (M_R_KraftApart_l80 F x1 k3862) x3099) ?_ ?_
          · refine sxc_block ?_
            refine sxc_seq ?_
            refine sxc_region ?_
            refine sxo_assign rfl rfl rfl ?_
            refine sxo_nil ?_
            refine sxq_next ?_
            refine sxc_block ?_
            refine sxc_loopP (fun ((x4370, _) : (Int × Unit)) => [(0, .slice a2 x1.length c3.1), (6, .int .i64 x3099), (7, .int .i64 x4370)]) (fun ((x4370, _) : (Int × Unit)) => []) (fun ((x4370, _) : (Int × Unit)) => []) (fun ((x4370, _) : (Int × Unit)) => [SlN eN26 iN26 2 (.slice a2 x1.length c3.1) x1 c3.2]) (fun k (s : (Int × Unit)) => M_R_KraftApart_l93 F (M_R_KraftApart_l80 F x1 k3862) x1 x3099 k s.1) (0, ()) F (lk_cons rfl (lk_cons rfl (lk_cons rfl lk_nil))) .nil .nil (fk_cons 0 rfl fk_nil) (fun _ => rfl) ?_
            intro k4497
            rintro ⟨x4370, _⟩
            try dsimp only
            refine sxc_meq (m' := M_R_KraftApart_b93 F (M_R_KraftApart_l80 F x1 k3862) x1 x3099 (M_R_KraftApart_l93 F (M_R_KraftApart_l80 F x1 k3862) x1 x3099 k4497) x4370) rfl ?_
            refine sxc_seq ?_
            refine sxc_seq ?_
            refine sxc_region ?_
            refine sxo_move rfl rfl rfl ?_
            refine sxo_move rfl rfl rfl ?_
            refine sxo_len rfl Try.underlying23 rfl rfl ?_
            refine sxo_lss rfl rfl rfl rfl ?_
            refine sxo_nil ?_
            refine sxq_next ?_
            refine sxc_if rfl (fun h4623 => ?_) (fun h4623 => ?_)
            · refine sxc_skip ?_
              refine sxq_next ?_
              refine sxc_seq ?_
              refine sxc_block ?_
              refine sxc_join (fun ((x4591, _) : (Bool × Unit)) => [(0, .slice a2 x1.length c3.1), (6, .int .i64 x3099), (7, .int .i64 x4370), (68, .bool x4591)]) (fun ((x4591, _) : (Bool × Unit)) => []) (fun ((x4591, _) : (Bool × Unit)) => []) (fun ((x4591, _) : (Bool × Unit)) => [SlN eN26 iN26 2 (.slice a2 x1.length c3.1) x1 c3.2]) (fun ((x4591, _) : (Bool × Unit)) => M_R_KraftApart_j95 F (M_R_KraftApart_l93 F (M_R_KraftApart_l80 F x1 k3862) x1 x3099 k4497) x4370 x4591) ?_ ?_
              · refine sxc_split (fun h4593 => ?_) (fun h4593 => ?_)
                · refine sxc_idxN (j := 0) eN26_ok (by decide) rfl (fun x4594 e4594 g4598 b4595 o4596 h4597 => ?_)
                  replace h4597 : a2 = some ⟨b4595, o4596, none⟩ := h4597
                  refine sxc_split (fun h4599 => ?_) (fun h4599 => ?_)
                  · refine sxc_idxN (j := 2) eN26_ok (by decide) rfl (fun x4600 e4600 g4604 b4601 o4602 h4603 => ?_)
                    replace h4603 : a2 = some ⟨b4601, o4602, none⟩ := h4603
                    refine sxc_split (fun h4605 => ?_) (fun h4605 => ?_)
                    · refine sxc_idxN (j := 4) eN26_ok (by decide) rfl (fun x4606 e4606 g4610 b4607 o4608 h4609 => ?_)
                      replace h4609 : a2 = some ⟨b4607, o4608, none⟩ := h4609
                      refine sxc_idxN (j := 6) eN26_ok (by decide) rfl (fun x4611 e4611 g4615 b4612 o4613 h4614 => ?_)
                      replace h4614 : a2 = some ⟨b4612, o4613, none⟩ := h4614
                      refine sxb_draw mixed [] [] [CellsAt b4612 (o4613 + x4370.toNat * 2) (eN26 (x4611, g4615)), Sl (eI .u8) 1 (.slice g4615.1 x4611.2.length g4615.2) x4611.2, CellsAt b4607 (o4608 + x3099.toNat * 2) (eN26 (x4606, g4610)), Sl (eI .u8) 1 (.slice g4610.1 x4606.2.length g4610.2) x4606.2, CellsAt b4601 (o4602 + x4370.toNat * 2) (eN26 (x4600, g4604)), Sl (eI .u8) 1 (.slice g4604.1 x4600.2.length g4604.2) x4600.2, CellsAt b4595 (o4596 + x3099.toNat * 2) (eN26 (x4594, g4598)), Sl (eI .u8) 1 (.slice g4598.1 x4594.2.length g4598.2) x4594.2, SlN eN26 iN26 2 (.slice a2 x1.length c3.1) x1 c3.2] .nil (gk_F 0 rfl (gk_F 1 rfl (gk_F 2 rfl (gk_F 3 rfl (gk_F 4 rfl (gk_F 5 rfl (gk_F 6 rfl (gk_F 7 rfl (gk_F 8 rfl gk_nil))))))))) 32 rfl ?_
                      refine sxb_takeP 0 (.int .i64 x3099) rfl rfl rfl rfl (by kernel_rfl) (by kernel_rfl) (by kernel_rfl) (by kernel_rfl) (by kernel_rfl) rfl (show _ = #[true, false, false, false, false, false, false, false, false, false, false, false, false, false, false, false, false, false, false, false, false, false, false, false, false, false, false, false, false, false, false, false] from rfl) (yv_pv rfl) ?_
                      refine sxb_takeP 1 (.int .i64 x4370) rfl rfl rfl rfl (by kernel_rfl) (by kernel_rfl) (by kernel_rfl) (by kernel_rfl) (by kernel_rfl) rfl (show _ = #[true, true, false, false, false, false, false, false, false, false, false, false, false, false, false, false, false, false, false, false, false, false, false, false, false, false, false, false, false, false, false, false] from rfl) (yv_pv rfl) ?_
                      refine sxb_takeP 2 (.bool ((x3099 : Int) != x4370)) rfl rfl rfl rfl (by kernel_rfl) (by kernel_rfl) (by kernel_rfl) (by kernel_rfl) (by kernel_rfl) rfl (show _ = #[true, true, true, false, false, false, false, false, false, false, false, false, false, false, false, false, false, false, false, false, false, false, false, false, false, false, false, false, false, false, false, false] from rfl) (yv_pv rfl) ?_
                      refine sxb_takeP 3 (.bool ((x3099 : Int) != x4370)) rfl rfl rfl rfl (by kernel_rfl) (by kernel_rfl) (by kernel_rfl) (by kernel_rfl) (by kernel_rfl) rfl (show _ = #[true, true, true, true, false, false, false, false, false, false, false, false, false, false, false, false, false, false, false, false, false, false, false, false, false, false, false, false, false, false, false, false] from rfl) (yv_pv rfl) ?_
                      refine sxb_again (d := 40) (v := .bool true) rfl (by rw [h4593] <;> rfl) ?_
                      refine sxb_takeP 4 (.slice a2 x1.length c3.1) rfl rfl rfl rfl (by kernel_rfl) (by kernel_rfl) (by kernel_rfl) (by kernel_rfl) (by kernel_rfl) rfl (show _ = #[true, true, true, true, true, false, false, false, false, false, false, false, false, false, false, false, false, false, false, false, false, false, false, false, false, false, false, false, false, false, false, false] from rfl) (yv_pv rfl) ?_
                      refine sxb_takeP 5 (.int .i64 x3099) rfl rfl rfl rfl (by kernel_rfl) (by kernel_rfl) (by kernel_rfl) (by kernel_rfl) (by kernel_rfl) rfl (show _ = #[true, true, true, true, true, true, false, false, false, false, false, false, false, false, false, false, false, false, false, false, false, false, false, false, false, false, false, false, false, false, false, false] from rfl) (yv_pv rfl) ?_
                      refine sxb_again (d := 41) (v := .slice (some ⟨b4595, o4596, none⟩) x1.length c3.1) rfl (by rw [h4597] <;> rfl) ?_
                      refine sxb_takeP 6 (.pointer (some ⟨b4595, (o4596 + x3099.toNat * 2), none⟩)) rfl rfl rfl rfl (by kernel_rfl) (by kernel_rfl) (by kernel_rfl) (by kernel_rfl) (by kernel_rfl) rfl (show _ = #[true, true, true, true, true, true, true, false, false, false, false, false, false, false, false, false, false, false, false, false, false, false, false, false, false, false, false, false, false, false, false, false] from rfl) (yv_idx Try.underlying23 tf26 rfl rfl (idx_get e4594).1 (idx_lt e4594)) ?_
                      refine sxb_again (d := 41) (v := .slice a2 x1.length c3.1) rfl (by rw [h4597] <;> rfl) ?_
                      refine sxb_takeP 7 (.pointer (some ⟨b4595, (o4596 + x3099.toNat * 2) + 0, none⟩)) rfl rfl rfl rfl (by kernel_rfl) (by kernel_rfl) (by kernel_rfl) (by kernel_rfl) (by kernel_rfl) rfl (show _ = #[true, true, true, true, true, true, true, true, false, false, false, false, false, false, false, false, false, false, false, false, false, false, false, false, false, false, false, false, false, false, false, false] from rfl) (yv_fieldAddr rfl ff26_0) ?_
                      refine sxb_take 8 (.int .i64 x4594.1) [] rfl rfl rfl rfl (by kernel_rfl) (by kernel_rfl) (by kernel_rfl) (by kernel_rfl) (by kernel_rfl) (by kernel_rfl) rfl (show _ = #[true, true, true, true, true, true, true, true, true, false, false, false, false, false, false, false, false, false, false, false, false, false, false, false, false, false, false, false, false, false, false, false] from rfl) (yv_loadFo (j := 6) (off := 0) rfl tf3 rfl rfl (fun _ => rfl) rfl) ?_
                      refine sxb_takeP 9 (.bool (decide (0 < x4594.1))) rfl rfl rfl rfl (by kernel_rfl) (by kernel_rfl) (by kernel_rfl) (by kernel_rfl) (by kernel_rfl) rfl (show _ = #[true, true, true, true, true, true, true, true, true, true, false, false, false, false, false, false, false, false, false, false, false, false, false, false, false, false, false, false, false, false, false, false] from rfl) (yv_pv rfl) ?_
                      refine sxb_takeP 10 (.bool (decide (0 < x4594.1))) rfl rfl rfl rfl (by kernel_rfl) (by kernel_rfl) (by kernel_rfl) (by kernel_rfl) (by kernel_rfl) rfl (show _ = #[true, true, true, true, true, true, true, true, true, true, true, false, false, false, false, false, false, false, false, false, false, false, false, false, false, false, false, false, false, false, false, false] from rfl) (yv_pv rfl) ?_
                      refine sxb_takeP 11 (.bool (decide (0 < x4594.1))) rfl rfl rfl rfl (by kernel_rfl) (by kernel_rfl) (by kernel_rfl) (by kernel_rfl) (by kernel_rfl) rfl (show _ = #[true, true, true, true, true, true, true, true, true, true, true, true, false, false, false, false, false, false, false, false, false, false, false, false, false, false, false, false, false, false, false, false] from rfl) (yv_pv rfl) ?_
                      refine sxb_again (d := 48) (v := .bool true) rfl (by rw [h4599] <;> rfl) ?_
                      refine sxb_takeP 12 (.slice a2 x1.length c3.1) rfl rfl rfl rfl (by kernel_rfl) (by kernel_rfl) (by kernel_rfl) (by kernel_rfl) (by kernel_rfl) rfl (show _ = #[true, true, true, true, true, true, true, true, true, true, true, true, true, false, false, false, false, false, false, false, false, false, false, false, false, false, false, false, false, false, false, false] from rfl) (yv_pv rfl) ?_
                      refine sxb_takeP 13 (.int .i64 x4370) rfl rfl rfl rfl (by kernel_rfl) (by kernel_rfl) (by kernel_rfl) (by kernel_rfl) (by kernel_rfl) rfl (show _ = #[true, true, true, true, true, true, true, true, true, true, true, true, true, true, false, false, false, false, false, false, false, false, false, false, false, false, false, false, false, false, false, false] from rfl) (yv_pv rfl) ?_
                      refine sxb_again (d := 49) (v := .slice (some ⟨b4601, o4602, none⟩) x1.length c3.1) rfl (by rw [h4603] <;> rfl) ?_
                      refine sxb_takeP 14 (.pointer (some ⟨b4601, (o4602 + x4370.toNat * 2), none⟩)) rfl rfl rfl rfl (by kernel_rfl) (by kernel_rfl) (by kernel_rfl) (by kernel_rfl) (by kernel_rfl) rfl (show _ = #[true, true, true, true, true, true, true, true, true, true, true, true, true, true, true, false, false, false, false, false, false, false, false, false, false, false, false, false, false, false, false, false] from rfl) (yv_idx Try.underlying23 tf26 rfl rfl (idx_get e4600).1 (idx_lt e4600)) ?_
                      refine sxb_again (d := 49) (v := .slice a2 x1.length c3.1) rfl (by rw [h4603] <;> rfl) ?_
                      refine sxb_takeP 15 (.pointer (some ⟨b4601, (o4602 + x4370.toNat * 2) + 0, none⟩)) rfl rfl rfl rfl (by kernel_rfl) (by kernel_rfl) (by kernel_rfl) (by kernel_rfl) (by kernel_rfl) rfl (show _ = #[true, true, true, true, true, true, true, true, true, true, true, true, true, true, true, true, false, false, false, false, false, false, false, false, false, false, false, false, false, false, false, false] from rfl) (yv_fieldAddr rfl ff26_0) ?_
                      refine sxb_take 16 (.int .i64 x4600.1) [] rfl rfl rfl rfl (by kernel_rfl) (by kernel_rfl) (by kernel_rfl) (by kernel_rfl) (by kernel_rfl) (by kernel_rfl) rfl (show _ = #[true, true, true, true, true, true, true, true, true, true, true, true, true, true, true, true, true, false, false, false, false, false, false, false, false, false, false, false, false, false, false, false] from rfl) (yv_loadFo (j := 4) (off := 0) rfl tf3 rfl rfl (fun _ => rfl) rfl) ?_
                      refine sxb_takeP 17 (.bool (decide (0 < x4600.1))) rfl rfl rfl rfl (by kernel_rfl) (by kernel_rfl) (by kernel_rfl) (by kernel_rfl) (by kernel_rfl) rfl (show _ = #[true, true, true, true, true, true, true, true, true, true, true, true, true, true, true, true, true, true, false, false, false, false, false, false, false, false, false, false, false, false, false, false] from rfl) (yv_pv rfl) ?_
                      refine sxb_takeP 18 (.bool (decide (0 < x4600.1))) rfl rfl rfl rfl (by kernel_rfl) (by kernel_rfl) (by kernel_rfl) (by kernel_rfl) (by kernel_rfl) rfl (show _ = #[true, true, true, true, true, true, true, true, true, true, true, true, true, true, true, true, true, true, true, false, false, false, false, false, false, false, false, false, false, false, false, false] from rfl) (yv_pv rfl) ?_
                      refine sxb_takeP 19 (.bool (decide (0 < x4600.1))) rfl rfl rfl rfl (by kernel_rfl) (by kernel_rfl) (by kernel_rfl) (by kernel_rfl) (by kernel_rfl) rfl (show _ = #[true, true, true, true, true, true, true, true, true, true, true, true, true, true, true, true, true, true, true, true, false, false, false, false, false, false, false, false, false, false, false, false] from rfl) (yv_pv rfl) ?_
                      refine sxb_again (d := 56) (v := .bool true) rfl (by rw [h4605] <;> rfl) ?_
                      refine sxb_takeP 20 (.slice a2 x1.length c3.1) rfl rfl rfl rfl (by kernel_rfl) (by kernel_rfl) (by kernel_rfl) (by kernel_rfl) (by kernel_rfl) rfl (show _ = #[true, true, true, true, true, true, true, true, true, true, true, true, true, true, true, true, true, true, true, true, true, false, false, false, false, false, false, false, false, false, false, false] from rfl) (yv_pv rfl) ?_
                      refine sxb_takeP 21 (.int .i64 x3099) rfl rfl rfl rfl (by kernel_rfl) (by kernel_rfl) (by kernel_rfl) (by kernel_rfl) (by kernel_rfl) rfl (show _ = #[true, true, true, true, true, true, true, true, true, true, true, true, true, true, true, true, true, true, true, true, true, true, false, false, false, false, false, false, false, false, false, false] from rfl) (yv_pv rfl) ?_
                      refine sxb_again (d := 57) (v := .slice (some ⟨b4607, o4608, none⟩) x1.length c3.1) rfl (by rw [h4609] <;> rfl) ?_
                      refine sxb_takeP 22 (.pointer (some ⟨b4607, (o4608 + x3099.toNat * 2), none⟩)) rfl rfl rfl rfl (by kernel_rfl) (by kernel_rfl) (by kernel_rfl) (by kernel_rfl) (by kernel_rfl) rfl (show _ = #[true, true, true, true, true, true, true, true, true, true, true, true, true, true, true, true, true, true, true, true, true, true, true, false, false, false, false, false, false, false, false, false] from rfl) (yv_idx Try.underlying23 tf26 rfl rfl (idx_get e4606).1 (idx_lt e4606)) ?_
                      refine sxb_again (d := 57) (v := .slice a2 x1.length c3.1) rfl (by rw [h4609] <;> rfl) ?_
                      refine sxb_take 23 (.agg #[.int .i64 x4606.1, .slice g4610.1 x4606.2.length g4610.2]) [] rfl rfl rfl rfl (by kernel_rfl) (by kernel_rfl) (by kernel_rfl) (by kernel_rfl) (by kernel_rfl) (by kernel_rfl) rfl (show _ = #[true, true, true, true, true, true, true, true, true, true, true, true, true, true, true, true, true, true, true, true, true, true, true, true, false, false, false, false, false, false, false, false] from rfl) (yv_loadF (j := 2) rfl tf26 rfl rfl (by simp) rfl) ?_
                      refine sxb_takeP 25 (.slice a2 x1.length c3.1) rfl rfl rfl rfl (by kernel_rfl) (by kernel_rfl) (by kernel_rfl) (by kernel_rfl) (by kernel_rfl) rfl (show _ = #[true, true, true, true, true, true, true, true, true, true, true, true, true, true, true, true, true, true, true, true, true, true, true, true, false, true, false, false, false, false, false, false] from rfl) (yv_pv rfl) ?_
                      refine sxb_takeP 26 (.int .i64 x4370) rfl rfl rfl rfl (by kernel_rfl) (by kernel_rfl) (by kernel_rfl) (by kernel_rfl) (by kernel_rfl) rfl (show _ = #[true, true, true, true, true, true, true, true, true, true, true, true, true, true, true, true, true, true, true, true, true, true, true, true, false, true, true, false, false, false, false, false] from rfl) (yv_pv rfl) ?_
                      refine sxb_again (d := 62) (v := .slice (some ⟨b4612, o4613, none⟩) x1.length c3.1) rfl (by rw [h4614] <;> rfl) ?_
                      refine sxb_takeP 27 (.pointer (some ⟨b4612, (o4613 + x4370.toNat * 2), none⟩)) rfl rfl rfl rfl (by kernel_rfl) (by kernel_rfl) (by kernel_rfl) (by kernel_rfl) (by kernel_rfl) rfl (show _ = #[true, true, true, true, true, true, true, true, true, true, true, true, true, true, true, true, true, true, true, true, true, true, true, true, false, true, true, true, false, false, false, false] from rfl) (yv_idx Try.underlying23 tf26 rfl rfl (idx_get e4611).1 (idx_lt e4611)) ?_
                      refine sxb_again (d := 62) (v := .slice a2 x1.length c3.1) rfl (by rw [h4614] <;> rfl) ?_
                      refine sxb_take 28 (.agg #[.int .i64 x4611.1, .slice g4615.1 x4611.2.length g4615.2]) [] rfl rfl rfl rfl (by kernel_rfl) (by kernel_rfl) (by kernel_rfl) (by kernel_rfl) (by kernel_rfl) (by kernel_rfl) rfl (show _ = #[true, true, true, true, true, true, true, true, true, true, true, true, true, true, true, true, true, true, true, true, true, true, true, true, false, true, true, true, true, false, false, false] from rfl) (yv_loadF (j := 0) rfl tf26 rfl rfl (by simp) rfl) ?_
                      refine sxb_step 24 rfl (by kernel_rfl) (show _ = #[true, true, true, true, true, true, true, true, true, true, true, true, true, true, true, true, true, true, true, true, true, true, true, true, true, true, true, true, true, false, false, false] from rfl) ?_
                      refine sxo_call ent37 rfl rfl rfl (fun x4616 e4616 => C_R_BitList F x4606.1 x4606.2 g4610.1 g4610.2 x4616 e4616) (.consF 3 rfl .nil) (fun x4616 e4616 => ?_)
                      rintro ⟨a4617, c4618⟩
                      refine sxo_nil ?_
                      refine sxq_anyB .nil (gk_F 0 rfl (gk_F 1 rfl (gk_F 2 rfl (gk_F 3 rfl (gk_F 4 rfl (gk_F 5 rfl (gk_F 6 rfl (gk_F 7 rfl (gk_F 8 rfl gk_nil))))))))) ?_
                      refine sxb_step 29 rfl (by kernel_rfl) (show _ = #[true, true, true, true, true, true, true, true, true, true, true, true, true, true, true, true, true, true, true, true, true, true, true, true, true, true, true, true, true, true, false, false] from rfl) ?_
                      refine sxo_call ent37 rfl rfl rfl (fun x4619 e4619 => C_R_BitList F x4611.1 x4611.2 g4615.1 g4615.2 x4619 e4619) (.consF 1 rfl .nil) (fun x4619 e4619 => ?_)
                      rintro ⟨a4620, c4621⟩
                      refine sxo_nil ?_
                      refine sxq_anyB .nil (gk_F 0 rfl (gk_F 1 rfl (gk_F 2 rfl (gk_F 3 rfl (gk_F 4 rfl (gk_F 5 rfl (gk_F 6 rfl (gk_F 7 rfl (gk_F 8 rfl gk_nil))))))))) ?_
                      refine sxb_step 30 rfl (by kernel_rfl) (show _ = #[true, true, true, true, true, true, true, true, true, true, true, true, true, true, true, true, true, true, true, true, true, true, true, true, true, true, true, true, true, true, true, false] from rfl) ?_
                      refine sxo_call ent36 rfl rfl rfl (fun x4622 e4622 => C_R_Starts F x4616 a4617 c4618 x4619 a4620 c4621 x4622 e4622) (.consR 1 (Ro (eI .i64) 3 1 (.slice a4617 x4616.length c4618) x4616) rfl (.consR 0 (Ro (eI .i64) 3 1 (.slice a4620 x4619.length c4621) x4619) rfl .nil)) (fun x4622 e4622 => ?_)
                      intro _
                      refine sxo_nil ?_
                      refine sxq_anyB .nil (gk_F 0 rfl (gk_F 1 rfl (gk_F 2 rfl (gk_F 3 rfl (gk_F 4 rfl (gk_F 5 rfl (gk_F 6 rfl (gk_F 7 rfl (gk_F 8 rfl gk_nil))))))))) ?_
                      refine sxb_takeP 31 (.bool x4622) rfl rfl rfl rfl (by kernel_rfl) (by kernel_rfl) (by kernel_rfl) (by kernel_rfl) (by kernel_rfl) rfl (show _ = #[true, true, true, true, true, true, true, true, true, true, true, true, true, true, true, true, true, true, true, true, true, true, true, true, true, true, true, true, true, true, true, true] from rfl) (yv_pv rfl) ?_
                      refine sxb_done (by kernel_rfl) ?_
                      refine sxq_np ?_ (by intro c h; cases h)
                      exact sxq_meetP (x4622, ()) (lk_cons rfl (lk_cons rfl (lk_cons rfl (lk_cons rfl lk_nil)))) .nil .nil (fk_cons 8 rfl fk_nil)
                    · refine sxb_draw mixed [] [] [CellsAt b4601 (o4602 + x4370.toNat * 2) (eN26 (x4600, g4604)), Sl (eI .u8) 1 (.slice g4604.1 x4600.2.length g4604.2) x4600.2, CellsAt b4595 (o4596 + x3099.toNat * 2) (eN26 (x4594, g4598)), Sl (eI .u8) 1 (.slice g4598.1 x4594.2.length g4598.2) x4594.2, SlN eN26 iN26 2 (.slice a2 x1.length c3.1) x1 c3.2] .nil (gk_F 0 rfl (gk_F 1 rfl (gk_F 2 rfl (gk_F 3 rfl (gk_F 4 rfl gk_nil))))) 32 rfl ?_
                      refine sxb_takeP 0 (.int .i64 x3099) rfl rfl rfl rfl (by kernel_rfl) (by kernel_rfl) (by kernel_rfl) (by kernel_rfl) (by kernel_rfl) rfl (show _ = #[true, false, false, false, false, false, false, false, false, false, false, false, false, false, false, false, false, false, false, false, false, false, false, false, false, false, false, false, false, false, false, false] from rfl) (yv_pv rfl) ?_
                      refine sxb_takeP 1 (.int .i64 x4370) rfl rfl rfl rfl (by kernel_rfl) (by kernel_rfl) (by kernel_rfl) (by kernel_rfl) (by kernel_rfl) rfl (show _ = #[true, true, false, false, false, false, false, false, false, false, false, false, false, false, false, false, false, false, false, false, false, false, false, false, false, false, false, false, false, false, false, false] from rfl) (yv_pv rfl) ?_
                      refine sxb_takeP 2 (.bool ((x3099 : Int) != x4370)) rfl rfl rfl rfl (by kernel_rfl) (by kernel_rfl) (by kernel_rfl) (by kernel_rfl) (by kernel_rfl) rfl (show _ = #[true, true, true, false, false, false, false, false, false, false, false, false, false, false, false, false, false, false, false, false, false, false, false, false, false, false, false, false, false, false, false, false] from rfl) (yv_pv rfl) ?_
                      refine sxb_takeP 3 (.bool ((x3099 : Int) != x4370)) rfl rfl rfl rfl (by kernel_rfl) (by kernel_rfl) (by kernel_rfl) (by kernel_rfl) (by kernel_rfl) rfl (show _ = #[true, true, true, true, false, false, false, false, false, false, false, false, false, false, false, false, false, false, false, false, false, false, false, false, false, false, false, false, false, false, false, false] from rfl) (yv_pv rfl) ?_
                      refine sxb_again (d := 40) (v := .bool true) rfl (by rw [h4593] <;> rfl) ?_
                      refine sxb_takeP 4 (.slice a2 x1.length c3.1) rfl rfl rfl rfl (by kernel_rfl) (by kernel_rfl) (by kernel_rfl) (by kernel_rfl) (by kernel_rfl) rfl (show _ = #[true, true, true, true, true, false, false, false, false, false, false, false, false, false, false, false, false, false, false, false, false, false, false, false, false, false, false, false, false, false, false, false] from rfl) (yv_pv rfl) ?_
                      refine sxb_takeP 5 (.int .i64 x3099) rfl rfl rfl rfl (by kernel_rfl) (by kernel_rfl) (by kernel_rfl) (by kernel_rfl) (by kernel_rfl) rfl (show _ = #[true, true, true, true, true, true, false, false, false, false, false, false, false, false, false, false, false, false, false, false, false, false, false, false, false, false, false, false, false, false, false, false] from rfl) (yv_pv rfl) ?_
                      refine sxb_again (d := 41) (v := .slice (some ⟨b4595, o4596, none⟩) x1.length c3.1) rfl (by rw [h4597] <;> rfl) ?_
                      refine sxb_takeP 6 (.pointer (some ⟨b4595, (o4596 + x3099.toNat * 2), none⟩)) rfl rfl rfl rfl (by kernel_rfl) (by kernel_rfl) (by kernel_rfl) (by kernel_rfl) (by kernel_rfl) rfl (show _ = #[true, true, true, true, true, true, true, false, false, false, false, false, false, false, false, false, false, false, false, false, false, false, false, false, false, false, false, false, false, false, false, false] from rfl) (yv_idx Try.underlying23 tf26 rfl rfl (idx_get e4594).1 (idx_lt e4594)) ?_
                      refine sxb_again (d := 41) (v := .slice a2 x1.length c3.1) rfl (by rw [h4597] <;> rfl) ?_
                      refine sxb_takeP 7 (.pointer (some ⟨b4595, (o4596 + x3099.toNat * 2) + 0, none⟩)) rfl rfl rfl rfl (by kernel_rfl) (by kernel_rfl) (by kernel_rfl) (by kernel_rfl) (by kernel_rfl) rfl (show _ = #[true, true, true, true, true, true, true, true, false, false, false, false, false, false, false, false, false, false, false, false, false, false, false, false, false, false, false, false, false, false, false, false] from rfl) (yv_fieldAddr rfl ff26_0) ?_
                      refine sxb_take 8 (.int .i64 x4594.1) [] rfl rfl rfl rfl (by kernel_rfl) (by kernel_rfl) (by kernel_rfl) (by kernel_rfl) (by kernel_rfl) (by kernel_rfl) rfl (show _ = #[true, true, true, true, true, true, true, true, true, false, false, false, false, false, false, false, false, false, false, false, false, false, false, false, false, false, false, false, false, false, false, false] from rfl) (yv_loadFo (j := 2) (off := 0) rfl tf3 rfl rfl (fun _ => rfl) rfl) ?_
                      refine sxb_takeP 9 (.bool (decide (0 < x4594.1))) rfl rfl rfl rfl (by kernel_rfl) (by kernel_rfl) (by kernel_rfl) (by kernel_rfl) (by kernel_rfl) rfl (show _ = #[true, true, true, true, true, true, true, true, true, true, false, false, false, false, false, false, false, false, false, false, false, false, false, false, false, false, false, false, false, false, false, false] from rfl) (yv_pv rfl) ?_
                      refine sxb_takeP 10 (.bool (decide (0 < x4594.1))) rfl rfl rfl rfl (by kernel_rfl) (by kernel_rfl) (by kernel_rfl) (by kernel_rfl) (by kernel_rfl) rfl (show _ = #[true, true, true, true, true, true, true, true, true, true, true, false, false, false, false, false, false, false, false, false, false, false, false, false, false, false, false, false, false, false, false, false] from rfl) (yv_pv rfl) ?_
                      refine sxb_takeP 11 (.bool (decide (0 < x4594.1))) rfl rfl rfl rfl (by kernel_rfl) (by kernel_rfl) (by kernel_rfl) (by kernel_rfl) (by kernel_rfl) rfl (show _ = #[true, true, true, true, true, true, true, true, true, true, true, true, false, false, false, false, false, false, false, false, false, false, false, false, false, false, false, false, false, false, false, false] from rfl) (yv_pv rfl) ?_
                      refine sxb_again (d := 48) (v := .bool true) rfl (by rw [h4599] <;> rfl) ?_
                      refine sxb_takeP 12 (.slice a2 x1.length c3.1) rfl rfl rfl rfl (by kernel_rfl) (by kernel_rfl) (by kernel_rfl) (by kernel_rfl) (by kernel_rfl) rfl (show _ = #[true, true, true, true, true, true, true, true, true, true, true, true, true, false, false, false, false, false, false, false, false, false, false, false, false, false, false, false, false, false, false, false] from rfl) (yv_pv rfl) ?_
                      refine sxb_takeP 13 (.int .i64 x4370) rfl rfl rfl rfl (by kernel_rfl) (by kernel_rfl) (by kernel_rfl) (by kernel_rfl) (by kernel_rfl) rfl (show _ = #[true, true, true, true, true, true, true, true, true, true, true, true, true, true, false, false, false, false, false, false, false, false, false, false, false, false, false, false, false, false, false, false] from rfl) (yv_pv rfl) ?_
                      refine sxb_again (d := 49) (v := .slice (some ⟨b4601, o4602, none⟩) x1.length c3.1) rfl (by rw [h4603] <;> rfl) ?_
                      refine sxb_takeP 14 (.pointer (some ⟨b4601, (o4602 + x4370.toNat * 2), none⟩)) rfl rfl rfl rfl (by kernel_rfl) (by kernel_rfl) (by kernel_rfl) (by kernel_rfl) (by kernel_rfl) rfl (show _ = #[true, true, true, true, true, true, true, true, true, true, true, true, true, true, true, false, false, false, false, false, false, false, false, false, false, false, false, false, false, false, false, false] from rfl) (yv_idx Try.underlying23 tf26 rfl rfl (idx_get e4600).1 (idx_lt e4600)) ?_
                      refine sxb_again (d := 49) (v := .slice a2 x1.length c3.1) rfl (by rw [h4603] <;> rfl) ?_
                      refine sxb_takeP 15 (.pointer (some ⟨b4601, (o4602 + x4370.toNat * 2) + 0, none⟩)) rfl rfl rfl rfl (by kernel_rfl) (by kernel_rfl) (by kernel_rfl) (by kernel_rfl) (by kernel_rfl) rfl (show _ = #[true, true, true, true, true, true, true, true, true, true, true, true, true, true, true, true, false, false, false, false, false, false, false, false, false, false, false, false, false, false, false, false] from rfl) (yv_fieldAddr rfl ff26_0) ?_
                      refine sxb_take 16 (.int .i64 x4600.1) [] rfl rfl rfl rfl (by kernel_rfl) (by kernel_rfl) (by kernel_rfl) (by kernel_rfl) (by kernel_rfl) (by kernel_rfl) rfl (show _ = #[true, true, true, true, true, true, true, true, true, true, true, true, true, true, true, true, true, false, false, false, false, false, false, false, false, false, false, false, false, false, false, false] from rfl) (yv_loadFo (j := 0) (off := 0) rfl tf3 rfl rfl (fun _ => rfl) rfl) ?_
                      refine sxb_takeP 17 (.bool (decide (0 < x4600.1))) rfl rfl rfl rfl (by kernel_rfl) (by kernel_rfl) (by kernel_rfl) (by kernel_rfl) (by kernel_rfl) rfl (show _ = #[true, true, true, true, true, true, true, true, true, true, true, true, true, true, true, true, true, true, false, false, false, false, false, false, false, false, false, false, false, false, false, false] from rfl) (yv_pv rfl) ?_
                      refine sxb_takeP 18 (.bool (decide (0 < x4600.1))) rfl rfl rfl rfl (by kernel_rfl) (by kernel_rfl) (by kernel_rfl) (by kernel_rfl) (by kernel_rfl) rfl (show _ = #[true, true, true, true, true, true, true, true, true, true, true, true, true, true, true, true, true, true, true, false, false, false, false, false, false, false, false, false, false, false, false, false] from rfl) (yv_pv rfl) ?_
                      refine sxb_takeP 19 (.bool (decide (0 < x4600.1))) rfl rfl rfl rfl (by kernel_rfl) (by kernel_rfl) (by kernel_rfl) (by kernel_rfl) (by kernel_rfl) rfl (show _ = #[true, true, true, true, true, true, true, true, true, true, true, true, true, true, true, true, true, true, true, true, false, false, false, false, false, false, false, false, false, false, false, false] from rfl) (yv_pv rfl) ?_
                      refine sxb_again (d := 56) (v := .bool false) rfl (by rw [h4605] <;> rfl) ?_
                      refine sxb_skip 20 rfl rfl rfl rfl (by kernel_rfl) (by kernel_rfl) (by kernel_rfl) (by kernel_rfl) (by kernel_rfl) rfl (show _ = #[true, true, true, true, true, true, true, true, true, true, true, true, true, true, true, true, true, true, true, true, true, false, false, false, false, false, false, false, false, false, false, false] from rfl) ?_
                      refine sxb_skip 21 rfl rfl rfl rfl (by kernel_rfl) (by kernel_rfl) (by kernel_rfl) (by kernel_rfl) (by kernel_rfl) rfl (show _ = #[true, true, true, true, true, true, true, true, true, true, true, true, true, true, true, true, true, true, true, true, true, true, false, false, false, false, false, false, false, false, false, false] from rfl) ?_
                      refine sxb_skip 22 rfl rfl rfl rfl (by kernel_rfl) (by kernel_rfl) (by kernel_rfl) (by kernel_rfl) (by kernel_rfl) rfl (show _ = #[true, true, true, true, true, true, true, true, true, true, true, true, true, true, true, true, true, true, true, true, true, true, true, false, false, false, false, false, false, false, false, false] from rfl) ?_
                      refine sxb_skip 23 rfl rfl rfl rfl (by kernel_rfl) (by kernel_rfl) (by kernel_rfl) (by kernel_rfl) (by kernel_rfl) rfl (show _ = #[true, true, true, true, true, true, true, true, true, true, true, true, true, true, true, true, true, true, true, true, true, true, true, true, false, false, false, false, false, false, false, false] from rfl) ?_
                      refine sxb_skip 24 rfl rfl rfl rfl (by kernel_rfl) (by kernel_rfl) (by kernel_rfl) (by kernel_rfl) (by kernel_rfl) rfl (show _ = #[true, true, true, true, true, true, true, true, true, true, true, true, true, true, true, true, true, true, true, true, true, true, true, true, true, false, false, false, false, false, false, false] from rfl) ?_
                      refine sxb_skip 25 rfl rfl rfl rfl (by kernel_rfl) (by kernel_rfl) (by kernel_rfl) (by kernel_rfl) (by kernel_rfl) rfl (show _ = #[true, true, true, true, true, true, true, true, true, true, true, true, true, true, true, true, true, true, true, true, true, true, true, true, true, true, false, false, false, false, false, false] from rfl) ?_
                      refine sxb_skip 26 rfl rfl rfl rfl (by kernel_rfl) (by kernel_rfl) (by kernel_rfl) (by kernel_rfl) (by kernel_rfl) rfl (show _ = #[true, true, true, true, true, true, true, true, true, true, true, true, true, true, true, true, true, true, true, true, true, true, true, true, true, true, true, false, false, false, false, false] from rfl) ?_
                      refine sxb_skip 27 rfl rfl rfl rfl (by kernel_rfl) (by kernel_rfl) (by kernel_rfl) (by kernel_rfl) (by kernel_rfl) rfl (show _ = #[true, true, true, true, true, true, true, true, true, true, true, true, true, true, true, true, true, true, true, true, true, true, true, true, true, true, true, true, false, false, false, false] from rfl) ?_
                      refine sxb_skip 28 rfl rfl rfl rfl (by kernel_rfl) (by kernel_rfl) (by kernel_rfl) (by kernel_rfl) (by kernel_rfl) rfl (show _ = #[true, true, true, true, true, true, true, true, true, true, true, true, true, true, true, true, true, true, true, true, true, true, true, true, true, true, true, true, true, false, false, false] from rfl) ?_
                      refine sxb_skip 29 rfl rfl rfl rfl (by kernel_rfl) (by kernel_rfl) (by kernel_rfl) (by kernel_rfl) (by kernel_rfl) rfl (show _ = #[true, true, true, true, true, true, true, true, true, true, true, true, true, true, true, true, true, true, true, true, true, true, true, true, true, true, true, true, true, true, false, false] from rfl) ?_
                      refine sxb_skip 30 rfl rfl rfl rfl (by kernel_rfl) (by kernel_rfl) (by kernel_rfl) (by kernel_rfl) (by kernel_rfl) rfl (show _ = #[true, true, true, true, true, true, true, true, true, true, true, true, true, true, true, true, true, true, true, true, true, true, true, true, true, true, true, true, true, true, true, false] from rfl) ?_
                      refine sxb_takeP 31 (.bool false) rfl rfl rfl rfl (by kernel_rfl) (by kernel_rfl) (by kernel_rfl) (by kernel_rfl) (by kernel_rfl) rfl (show _ = #[true, true, true, true, true, true, true, true, true, true, true, true, true, true, true, true, true, true, true, true, true, true, true, true, true, true, true, true, true, true, true, true] from rfl) (yv_pv rfl) ?_
                      refine sxb_done (by kernel_rfl) ?_
                      refine sxq_np ?_ (by intro c h; cases h)
                      exact sxq_meetP (false, ()) (lk_cons rfl (lk_cons rfl (lk_cons rfl (lk_cons rfl lk_nil)))) .nil .nil (fk_cons 4 rfl fk_nil)
                  · refine sxb_draw mixed [] [] [CellsAt b4595 (o4596 + x3099.toNat * 2) (eN26 (x4594, g4598)), Sl (eI .u8) 1 (.slice g4598.1 x4594.2.length g4598.2) x4594.2, SlN eN26 iN26 2 (.slice a2 x1.length c3.1) x1 c3.2] .nil (gk_F 0 rfl (gk_F 1 rfl (gk_F 2 rfl gk_nil))) 32 rfl ?_
                    refine sxb_takeP 0 (.int .i64 x3099) rfl rfl rfl rfl (by kernel_rfl) (by kernel_rfl) (by kernel_rfl) (by kernel_rfl) (by kernel_rfl) rfl (show _ = #[true, false, false, false, false, false, false, false, false, false, false, false, false, false, false, false, false, false, false, false, false, false, false, false, false, false, false, false, false, false, false, false] from rfl) (yv_pv rfl) ?_
                    refine sxb_takeP 1 (.int .i64 x4370) rfl rfl rfl rfl (by kernel_rfl) (by kernel_rfl) (by kernel_rfl) (by kernel_rfl) (by kernel_rfl) rfl (show _ = #[true, true, false, false, false, false, false, false, false, false, false, false, false, false, false, false, false, false, false, false, false, false, false, false, false, false, false, false, false, false, false, false] from rfl) (yv_pv rfl) ?_
                    refine sxb_takeP 2 (.bool ((x3099 : Int) != x4370)) rfl rfl rfl rfl (by kernel_rfl) (by kernel_rfl) (by kernel_rfl) (by kernel_rfl) (by kernel_rfl) rfl (show _ = #[true, true, true, false, false, false, false, false, false, false, false, false, false, false, false, false, false, false, false, false, false, false, false, false, false, false, false, false, false, false, false, false] from rfl) (yv_pv rfl) ?_
                    refine sxb_takeP 3 (.bool ((x3099 : Int) != x4370)) rfl rfl rfl rfl (by kernel_rfl) (by kernel_rfl) (by kernel_rfl) (by kernel_rfl) (by kernel_rfl) rfl (show _ = #[true, true, true, true, false, false, false, false, false, false, false, false, false, false, false, false, false, false, false, false, false, false, false, false, false, false, false, false, false, false, false, false] from rfl) (yv_pv rfl) ?_
                    refine sxb_again (d := 40) (v := .bool true) rfl (by rw [h4593] <;> rfl) ?_
                    refine sxb_takeP 4 (.slice a2 x1.length c3.1) rfl rfl rfl rfl (by kernel_rfl) (by kernel_rfl) (by kernel_rfl) (by kernel_rfl) (by kernel_rfl) rfl (show _ = #[true, true, true, true, true, false, false, false, false, false, false, false, false, false, false, false, false, false, false, false, false, false, false, false, false, false, false, false, false, false, false, false] from rfl) (yv_pv rfl) ?_
                    refine sxb_takeP 5 (.int .i64 x3099) rfl rfl rfl rfl (by kernel_rfl) (by kernel_rfl) (by kernel_rfl) (by kernel_rfl) (by kernel_rfl) rfl (show _ = #[true, true, true, true, true, true, false, false, false, false, false, false, false, false, false, false, false, false, false, false, false, false, false, false, false, false, false, false, false, false, false, false] from rfl) (yv_pv rfl) ?_
                    refine sxb_again (d := 41) (v := .slice (some ⟨b4595, o4596, none⟩) x1.length c3.1) rfl (by rw [h4597] <;> rfl) ?_
                    refine sxb_takeP 6 (.pointer (some ⟨b4595, (o4596 + x3099.toNat * 2), none⟩)) rfl rfl rfl rfl (by kernel_rfl) (by kernel_rfl) (by kernel_rfl) (by kernel_rfl) (by kernel_rfl) rfl (show _ = #[true, true, true, true, true, true, true, false, false, false, false, false, false, false, false, false, false, false, false, false, false, false, false, false, false, false, false, false, false, false, false, false] from rfl) (yv_idx Try.underlying23 tf26 rfl rfl (idx_get e4594).1 (idx_lt e4594)) ?_
                    refine sxb_again (d := 41) (v := .slice a2 x1.length c3.1) rfl (by rw [h4597] <;> rfl) ?_
                    refine sxb_takeP 7 (.pointer (some ⟨b4595, (o4596 + x3099.toNat * 2) + 0, none⟩)) rfl rfl rfl rfl (by kernel_rfl) (by kernel_rfl) (by kernel_rfl) (by kernel_rfl) (by kernel_rfl) rfl (show _ = #[true, true, true, true, true, true, true, true, false, false, false, false, false, false, false, false, false, false, false, false, false, false, false, false, false, false, false, false, false, false, false, false] from rfl) (yv_fieldAddr rfl ff26_0) ?_
                    refine sxb_take 8 (.int .i64 x4594.1) [] rfl rfl rfl rfl (by kernel_rfl) (by kernel_rfl) (by kernel_rfl) (by kernel_rfl) (by kernel_rfl) (by kernel_rfl) rfl (show _ = #[true, true, true, true, true, true, true, true, true, false, false, false, false, false, false, false, false, false, false, false, false, false, false, false, false, false, false, false, false, false, false, false] from rfl) (yv_loadFo (j := 0) (off := 0) rfl tf3 rfl rfl (fun _ => rfl) rfl) ?_
                    refine sxb_takeP 9 (.bool (decide (0 < x4594.1))) rfl rfl rfl rfl (by kernel_rfl) (by kernel_rfl) (by kernel_rfl) (by kernel_rfl) (by kernel_rfl) rfl (show _ = #[true, true, true, true, true, true, true, true, true, true, false, false, false, false, false, false, false, false, false, false, false, false, false, false, false, false, false, false, false, false, false, false] from rfl) (yv_pv rfl) ?_
                    refine sxb_takeP 10 (.bool (decide (0 < x4594.1))) rfl rfl rfl rfl (by kernel_rfl) (by kernel_rfl) (by kernel_rfl) (by kernel_rfl) (by kernel_rfl) rfl (show _ = #[true, true, true, true, true, true, true, true, true, true, true, false, false, false, false, false, false, false, false, false, false, false, false, false, false, false, false, false, false, false, false, false] from rfl) (yv_pv rfl) ?_
                    refine sxb_takeP 11 (.bool (decide (0 < x4594.1))) rfl rfl rfl rfl (by kernel_rfl) (by kernel_rfl) (by kernel_rfl) (by kernel_rfl) (by kernel_rfl) rfl (show _ = #[true, true, true, true, true, true, true, true, true, true, true, true, false, false, false, false, false, false, false, false, false, false, false, false, false, false, false, false, false, false, false, false] from rfl) (yv_pv rfl) ?_
                    refine sxb_again (d := 48) (v := .bool false) rfl (by rw [h4599] <;> rfl) ?_
                    refine sxb_skip 12 rfl rfl rfl rfl (by kernel_rfl) (by kernel_rfl) (by kernel_rfl) (by kernel_rfl) (by kernel_rfl) rfl (show _ = #[true, true, true, true, true, true, true, true, true, true, true, true, true, false, false, false, false, false, false, false, false, false, false, false, false, false, false, false, false, false, false, false] from rfl) ?_
                    refine sxb_skip 13 rfl rfl rfl rfl (by kernel_rfl) (by kernel_rfl) (by kernel_rfl) (by kernel_rfl) (by kernel_rfl) rfl (show _ = #[true, true, true, true, true, true, true, true, true, true, true, true, true, true, false, false, false, false, false, false, false, false, false, false, false, false, false, false, false, false, false, false] from rfl) ?_
                    refine sxb_skip 14 rfl rfl rfl rfl (by kernel_rfl) (by kernel_rfl) (by kernel_rfl) (by kernel_rfl) (by kernel_rfl) rfl (show _ = #[true, true, true, true, true, true, true, true, true, true, true, true, true, true, true, false, false, false, false, false, false, false, false, false, false, false, false, false, false, false, false, false] from rfl) ?_
                    refine sxb_skip 15 rfl rfl rfl rfl (by kernel_rfl) (by kernel_rfl) (by kernel_rfl) (by kernel_rfl) (by kernel_rfl) rfl (show _ = #[true, true, true, true, true, true, true, true, true, true, true, true, true, true, true, true, false, false, false, false, false, false, false, false, false, false, false, false, false, false, false, false] from rfl) ?_
                    refine sxb_skip 16 rfl rfl rfl rfl (by kernel_rfl) (by kernel_rfl) (by kernel_rfl) (by kernel_rfl) (by kernel_rfl) rfl (show _ = #[true, true, true, true, true, true, true, true, true, true, true, true, true, true, true, true, true, false, false, false, false, false, false, false, false, false, false, false, false, false, false, false] from rfl) ?_
                    refine sxb_skip 17 rfl rfl rfl rfl (by kernel_rfl) (by kernel_rfl) (by kernel_rfl) (by kernel_rfl) (by kernel_rfl) rfl (show _ = #[true, true, true, true, true, true, true, true, true, true, true, true, true, true, true, true, true, true, false, false, false, false, false, false, false, false, false, false, false, false, false, false] from rfl) ?_
                    refine sxb_takeP 18 (.bool false) rfl rfl rfl rfl (by kernel_rfl) (by kernel_rfl) (by kernel_rfl) (by kernel_rfl) (by kernel_rfl) rfl (show _ = #[true, true, true, true, true, true, true, true, true, true, true, true, true, true, true, true, true, true, true, false, false, false, false, false, false, false, false, false, false, false, false, false] from rfl) (yv_pv rfl) ?_
                    refine sxb_takeP 19 (.bool false) rfl rfl rfl rfl (by kernel_rfl) (by kernel_rfl) (by kernel_rfl) (by kernel_rfl) (by kernel_rfl) rfl (show _ = #[true, true, true, true, true, true, true, true, true, true, true, true, true, true, true, true, true, true, true, true, false, false, false, false, false, false, false, false, false, false, false, false] from rfl) (yv_pv rfl) ?_
                    refine sxb_skip 20 rfl rfl rfl rfl (by kernel_rfl) (by kernel_rfl) (by kernel_rfl) (by kernel_rfl) (by kernel_rfl) rfl (show _ = #[true, true, true, true, true, true, true, true, true, true, true, true, true, true, true, true, true, true, true, true, true, false, false, false, false, false, false, false, false, false, false, false] from rfl) ?_
                    refine sxb_skip 21 rfl rfl rfl rfl (by kernel_rfl) (by kernel_rfl) (by kernel_rfl) (by kernel_rfl) (by kernel_rfl) rfl (show _ = #[true, true, true, true, true, true, true, true, true, true, true, true, true, true, true, true, true, true, true, true, true, true, false, false, false, false, false, false, false, false, false, false] from rfl) ?_
                    refine sxb_skip 22 rfl rfl rfl rfl (by kernel_rfl) (by kernel_rfl) (by kernel_rfl) (by kernel_rfl) (by kernel_rfl) rfl (show _ = #[true, true, true, true, true, true, true, true, true, true, true, true, true, true, true, true, true, true, true, true, true, true, true, false, false, false, false, false, false, false, false, false] from rfl) ?_
                    refine sxb_skip 23 rfl rfl rfl rfl (by kernel_rfl) (by kernel_rfl) (by kernel_rfl) (by kernel_rfl) (by kernel_rfl) rfl (show _ = #[true, true, true, true, true, true, true, true, true, true, true, true, true, true, true, true, true, true, true, true, true, true, true, true, false, false, false, false, false, false, false, false] from rfl) ?_
                    refine sxb_skip 24 rfl rfl rfl rfl (by kernel_rfl) (by kernel_rfl) (by kernel_rfl) (by kernel_rfl) (by kernel_rfl) rfl (show _ = #[true, true, true, true, true, true, true, true, true, true, true, true, true, true, true, true, true, true, true, true, true, true, true, true, true, false, false, false, false, false, false, false] from rfl) ?_
                    refine sxb_skip 25 rfl rfl rfl rfl (by kernel_rfl) (by kernel_rfl) (by kernel_rfl) (by kernel_rfl) (by kernel_rfl) rfl (show _ = #[true, true, true, true, true, true, true, true, true, true, true, true, true, true, true, true, true, true, true, true, true, true, true, true, true, true, false, false, false, false, false, false] from rfl) ?_
                    refine sxb_skip 26 rfl rfl rfl rfl (by kernel_rfl) (by kernel_rfl) (by kernel_rfl) (by kernel_rfl) (by kernel_rfl) rfl (show _ = #[true, true, true, true, true, true, true, true, true, true, true, true, true, true, true, true, true, true, true, true, true, true, true, true, true, true, true, false, false, false, false, false] from rfl) ?_
                    refine sxb_skip 27 rfl rfl rfl rfl (by kernel_rfl) (by kernel_rfl) (by kernel_rfl) (by kernel_rfl) (by kernel_rfl) rfl (show _ = #[true, true, true, true, true, true, true, true, true, true, true, true, true, true, true, true, true, true, true, true, true, true, true, true, true, true, true, true, false, false, false, false] from rfl) ?_
                    refine sxb_skip 28 rfl rfl rfl rfl (by kernel_rfl) (by kernel_rfl) (by kernel_rfl) (by kernel_rfl) (by kernel_rfl) rfl (show _ = #[true, true, true, true, true, true, true, true, true, true, true, true, true, true, true, true, true, true, true, true, true, true, true, true, true, true, true, true, true, false, false, false] from rfl) ?_
                    refine sxb_skip 29 rfl rfl rfl rfl (by kernel_rfl) (by kernel_rfl) (by kernel_rfl) (by kernel_rfl) (by kernel_rfl) rfl (show _ = #[true, true, true, true, true, true, true, true, true, true, true, true, true, true, true, true, true, true, true, true, true, true, true, true, true, true, true, true, true, true, false, false] from rfl) ?_
                    refine sxb_skip 30 rfl rfl rfl rfl (by kernel_rfl) (by kernel_rfl) (by kernel_rfl) (by kernel_rfl) (by kernel_rfl) rfl (show _ = #[true, true, true, true, true, true, true, true, true, true, true, true, true, true, true, true, true, true, true, true, true, true, true, true, true, true, true, true, true, true, true, false] from rfl) ?_
                    refine sxb_takeP 31 (.bool false) rfl rfl rfl rfl (by kernel_rfl) (by kernel_rfl) (by kernel_rfl) (by kernel_rfl) (by kernel_rfl) rfl (show _ = #[true, true, true, true, true, true, true, true, true, true, true, true, true, true, true, true, true, true, true, true, true, true, true, true, true, true, true, true, true, true, true, true] from rfl) (yv_pv rfl) ?_
                    refine sxb_done (by kernel_rfl) ?_
                    refine sxq_np ?_ (by intro c h; cases h)
                    exact sxq_meetP (false, ()) (lk_cons rfl (lk_cons rfl (lk_cons rfl (lk_cons rfl lk_nil)))) .nil .nil (fk_cons 2 rfl fk_nil)
                · refine sxb_draw mixed [] [] [SlN eN26 iN26 2 (.slice a2 x1.length c3.1) x1 c3.2] .nil (gk_F 0 rfl gk_nil) 32 rfl ?_
                  refine sxb_takeP 0 (.int .i64 x3099) rfl rfl rfl rfl (by kernel_rfl) (by kernel_rfl) (by kernel_rfl) (by kernel_rfl) (by kernel_rfl) rfl (show _ = #[true, false, false, false, false, false, false, false, false, false, false, false, false, false, false, false, false, false, false, false, false, false, false, false, false, false, false, false, false, false, false, false] from rfl) (yv_pv rfl) ?_
                  refine sxb_takeP 1 (.int .i64 x4370) rfl rfl rfl rfl (by kernel_rfl) (by kernel_rfl) (by kernel_rfl) (by kernel_rfl) (by kernel_rfl) rfl (show _ = #[true, true, false, false, false, false, false, false, false, false, false, false, false, false, false, false, false, false, false, false, false, false, false, false, false, false, false, false, false, false, false, false] from rfl) (yv_pv rfl) ?_
                  refine sxb_takeP 2 (.bool ((x3099 : Int) != x4370)) rfl rfl rfl rfl (by kernel_rfl) (by kernel_rfl) (by kernel_rfl) (by kernel_rfl) (by kernel_rfl) rfl (show _ = #[true, true, true, false, false, false, false, false, false, false, false, false, false, false, false, false, false, false, false, false, false, false, false, false, false, false, false, false, false, false, false, false] from rfl) (yv_pv rfl) ?_
                  refine sxb_takeP 3 (.bool ((x3099 : Int) != x4370)) rfl rfl rfl rfl (by kernel_rfl) (by kernel_rfl) (by kernel_rfl) (by kernel_rfl) (by kernel_rfl) rfl (show _ = #[true, true, true, true, false, false, false, false, false, false, false, false, false, false, false, false, false, false, false, false, false, false, false, false, false, false, false, false, false, false, false, false] from rfl) (yv_pv rfl) ?_
                  refine sxb_again (d := 40) (v := .bool false) rfl (by rw [h4593] <;> rfl) ?_
                  refine sxb_skip 4 rfl rfl rfl rfl (by kernel_rfl) (by kernel_rfl) (by kernel_rfl) (by kernel_rfl) (by kernel_rfl) rfl (show _ = #[true, true, true, true, true, false, false, false, false, false, false, false, false, false, false, false, false, false, false, false, false, false, false, false, false, false, false, false, false, false, false, false] from rfl) ?_
                  refine sxb_skip 5 rfl rfl rfl rfl (by kernel_rfl) (by kernel_rfl) (by kernel_rfl) (by kernel_rfl) (by kernel_rfl) rfl (show _ = #[true, true, true, true, true, true, false, false, false, false, false, false, false, false, false, false, false, false, false, false, false, false, false, false, false, false, false, false, false, false, false, false] from rfl) ?_
                  refine sxb_skip 6 rfl rfl rfl rfl (by kernel_rfl) (by kernel_rfl) (by kernel_rfl) (by kernel_rfl) (by kernel_rfl) rfl (show _ = #[true, true, true, true, true, true, true, false, false, false, false, false, false, false, false, false, false, false, false, false, false, false, false, false, false, false, false, false, false, false, false, false] from rfl) ?_
                  refine sxb_skip 7 rfl rfl rfl rfl (by kernel_rfl) (by kernel_rfl) (by kernel_rfl) (by kernel_rfl) (by kernel_rfl) rfl (show _ = #[true, true, true, true, true, true, true, true, false, false, false, false, false, false, false, false, false, false, false, false, false, false, false, false, false, false, false, false, false, false, false, false] from rfl) ?_
                  refine sxb_skip 8 rfl rfl rfl rfl (by kernel_rfl) (by kernel_rfl) (by kernel_rfl) (by kernel_rfl) (by kernel_rfl) rfl (show _ = #[true, true, true, true, true, true, true, true, true, false, false, false, false, false, false, false, false, false, false, false, false, false, false, false, false, false, false, false, false, false, false, false] from rfl) ?_
                  refine sxb_skip 9 rfl rfl rfl rfl (by kernel_rfl) (by kernel_rfl) (by kernel_rfl) (by kernel_rfl) (by kernel_rfl) rfl (show _ = #[true, true, true, true, true, true, true, true, true, true, false, false, false, false, false, false, false, false, false, false, false, false, false, false, false, false, false, false, false, false, false, false] from rfl) ?_
                  refine sxb_takeP 10 (.bool false) rfl rfl rfl rfl (by kernel_rfl) (by kernel_rfl) (by kernel_rfl) (by kernel_rfl) (by kernel_rfl) rfl (show _ = #[true, true, true, true, true, true, true, true, true, true, true, false, false, false, false, false, false, false, false, false, false, false, false, false, false, false, false, false, false, false, false, false] from rfl) (yv_pv rfl) ?_
                  refine sxb_takeP 11 (.bool false) rfl rfl rfl rfl (by kernel_rfl) (by kernel_rfl) (by kernel_rfl) (by kernel_rfl) (by kernel_rfl) rfl (show _ = #[true, true, true, true, true, true, true, true, true, true, true, true, false, false, false, false, false, false, false, false, false, false, false, false, false, false, false, false, false, false, false, false] from rfl) (yv_pv rfl) ?_
                  refine sxb_skip 12 rfl rfl rfl rfl (by kernel_rfl) (by kernel_rfl) (by kernel_rfl) (by kernel_rfl) (by kernel_rfl) rfl (show _ = #[true, true, true, true, true, true, true, true, true, true, true, true, true, false, false, false, false, false, false, false, false, false, false, false, false, false, false, false, false, false, false, false] from rfl) ?_
                  refine sxb_skip 13 rfl rfl rfl rfl (by kernel_rfl) (by kernel_rfl) (by kernel_rfl) (by kernel_rfl) (by kernel_rfl) rfl (show _ = #[true, true, true, true, true, true, true, true, true, true, true, true, true, true, false, false, false, false, false, false, false, false, false, false, false, false, false, false, false, false, false, false] from rfl) ?_
                  refine sxb_skip 14 rfl rfl rfl rfl (by kernel_rfl) (by kernel_rfl) (by kernel_rfl) (by kernel_rfl) (by kernel_rfl) rfl (show _ = #[true, true, true, true, true, true, true, true, true, true, true, true, true, true, true, false, false, false, false, false, false, false, false, false, false, false, false, false, false, false, false, false] from rfl) ?_
                  refine sxb_skip 15 rfl rfl rfl rfl (by kernel_rfl) (by kernel_rfl) (by kernel_rfl) (by kernel_rfl) (by kernel_rfl) rfl (show _ = #[true, true, true, true, true, true, true, true, true, true, true, true, true, true, true, true, false, false, false, false, false, false, false, false, false, false, false, false, false, false, false, false] from rfl) ?_
                  refine sxb_skip 16 rfl rfl rfl rfl (by kernel_rfl) (by kernel_rfl) (by kernel_rfl) (by kernel_rfl) (by kernel_rfl) rfl (show _ = #[true, true, true, true, true, true, true, true, true, true, true, true, true, true, true, true, true, false, false, false, false, false, false, false, false, false, false, false, false, false, false, false] from rfl) ?_
                  refine sxb_skip 17 rfl rfl rfl rfl (by kernel_rfl) (by kernel_rfl) (by kernel_rfl) (by kernel_rfl) (by kernel_rfl) rfl (show _ = #[true, true, true, true, true, true, true, true, true, true, true, true, true, true, true, true, true, true, false, false, false, false, false, false, false, false, false, false, false, false, false, false] from rfl) ?_
                  refine sxb_takeP 18 (.bool false) rfl rfl rfl rfl (by kernel_rfl) (by kernel_rfl) (by kernel_rfl) (by kernel_rfl) (by kernel_rfl) rfl (show _ = #[true, true, true, true, true, true, true, true, true, true, true, true, true, true, true, true, true, true, true, false, false, false, false, false, false, false, false, false, false, false, false, false] from rfl) (yv_pv rfl) ?_
                  refine sxb_takeP 19 (.bool false) rfl rfl rfl rfl (by kernel_rfl) (by kernel_rfl) (by kernel_rfl) (by kernel_rfl) (by kernel_rfl) rfl (show _ = #[true, true, true, true, true, true, true, true, true, true, true, true, true, true, true, true, true, true, true, true, false, false, false, false, false, false, false, false, false, false, false, false] from rfl) (yv_pv rfl) ?_
                  refine sxb_skip 20 rfl rfl rfl rfl (by kernel_rfl) (by kernel_rfl) (by kernel_rfl) (by kernel_rfl) (by kernel_rfl) rfl (show _ = #[true, true, true, true, true, true, true, true, true, true, true, true, true, true, true, true, true, true, true, true, true, false, false, false, false, false, false, false, false, false, false, false] from rfl) ?_
                  refine sxb_skip 21 rfl rfl rfl rfl (by kernel_rfl) (by kernel_rfl) (by kernel_rfl) (by kernel_rfl) (by kernel_rfl) rfl (show _ = #[true, true, true, true, true, true, true, true, true, true, true, true, true, true, true, true, true, true, true, true, true, true, false, false, false, false, false, false, false, false, false, false] from rfl) ?_
                  refine sxb_skip 22 rfl rfl rfl rfl (by kernel_rfl) (by kernel_rfl) (by kernel_rfl) (by kernel_rfl) (by kernel_rfl) rfl (show _ = #[true, true, true, true, true, true, true, true, true, true, true, true, true, true, true, true, true, true, true, true, true, true, true, false, false, false, false, false, false, false, false, false] from rfl) ?_
                  refine sxb_skip 23 rfl rfl rfl rfl (by kernel_rfl) (by kernel_rfl) (by kernel_rfl) (by kernel_rfl) (by kernel_rfl) rfl (show _ = #[true, true, true, true, true, true, true, true, true, true, true, true, true, true, true, true, true, true, true, true, true, true, true, true, false, false, false, false, false, false, false, false] from rfl) ?_
                  refine sxb_skip 24 rfl rfl rfl rfl (by kernel_rfl) (by kernel_rfl) (by kernel_rfl) (by kernel_rfl) (by kernel_rfl) rfl (show _ = #[true, true, true, true, true, true, true, true, true, true, true, true, true, true, true, true, true, true, true, true, true, true, true, true, true, false, false, false, false, false, false, false] from rfl) ?_
                  refine sxb_skip 25 rfl rfl rfl rfl (by kernel_rfl) (by kernel_rfl) (by kernel_rfl) (by kernel_rfl) (by kernel_rfl) rfl (show _ = #[true, true, true, true, true, true, true, true, true, true, true, true, true, true, true, true, true, true, true, true, true, true, true, true, true, true, false, false, false, false, false, false] from rfl) ?_
                  refine sxb_skip 26 rfl rfl rfl rfl (by kernel_rfl) (by kernel_rfl) (by kernel_rfl) (by kernel_rfl) (by kernel_rfl) rfl (show _ = #[true, true, true, true, true, true, true, true, true, true, true, true, true, true, true, true, true, true, true, true, true, true, true, true, true, true, true, false, false, false, false, false] from rfl) ?_
                  refine sxb_skip 27 rfl rfl rfl rfl (by kernel_rfl) (by kernel_rfl) (by kernel_rfl) (by kernel_rfl) (by kernel_rfl) rfl (show _ = #[true, true, true, true, true, true, true, true, true, true, true, true, true, true, true, true, true, true, true, true, true, true, true, true, true, true, true, true, false, false, false, false] from rfl) ?_
                  refine sxb_skip 28 rfl rfl rfl rfl (by kernel_rfl) (by kernel_rfl) (by kernel_rfl) (by kernel_rfl) (by kernel_rfl) rfl (show _ = #[true, true, true, true, true, true, true, true, true, true, true, true, true, true, true, true, true, true, true, true, true, true, true, true, true, true, true, true, true, false, false, false] from rfl) ?_
                  refine sxb_skip 29 rfl rfl rfl rfl (by kernel_rfl) (by kernel_rfl) (by kernel_rfl) (by kernel_rfl) (by kernel_rfl) rfl (show _ = #[true, true, true, true, true, true, true, true, true, true, true, true, true, true, true, true, true, true, true, true, true, true, true, true, true, true, true, true, true, true, false, false] from rfl) ?_
                  refine sxb_skip 30 rfl rfl rfl rfl (by kernel_rfl) (by kernel_rfl) (by kernel_rfl) (by kernel_rfl) (by kernel_rfl) rfl (show _ = #[true, true, true, true, true, true, true, true, true, true, true, true, true, true, true, true, true, true, true, true, true, true, true, true, true, true, true, true, true, true, true, false] from rfl) ?_
                  refine sxb_takeP 31 (.bool false) rfl rfl rfl rfl (by kernel_rfl) (by kernel_rfl) (by kernel_rfl) (by kernel_rfl) (by kernel_rfl) rfl (show _ = #[true, true, true, true, true, true, true, true, true, true, true, true, true, true, true, true, true, true, true, true, true, true, true, true, true, true, true, true, true, true, true, true] from rfl) (yv_pv rfl) ?_
                  refine sxb_done (by kernel_rfl) ?_
                  refine sxq_np ?_ (by intro c h; cases h)
                  exact sxq_meetP (false, ()) (lk_cons rfl (lk_cons rfl (lk_cons rfl (lk_cons rfl lk_nil)))) .nil .nil (fk_cons 0 rfl fk_nil)
              · rintro ⟨x4591, _⟩
                try dsimp only
                refine sxc_if rfl (fun h4592 => ?_) (fun h4592 => ?_)
                · refine sxc_seq ?_
                  refine sxc_region ?_
                  refine sxo_assign rfl rfl rfl ?_
                  refine sxo_assign rfl rfl rfl ?_
                  refine sxo_nil ?_
                  refine sxq_next ?_
                  refine sxc_ret ?_
                  refine sxq_blkR ?_
                  refine sxq_thenR ?_
                  refine sxq_thenR ?_
                  refine sxq_blkR ?_
                  refine sxq_blkR ?_
                  refine sxq_thenR ?_
                  refine sxq_thenR ?_
                  refine sxq_blkR ?_
                  refine sxq_thenR ?_
                  exact sxq_doneP () (.inl rfl) (res2 rfl rfl rfl) (fun h => by subst h; rfl) (fun h => by subst h; exact .nil)
                · refine sxc_skip ?_
                  refine sxq_blkN ?_
                  refine sxq_next ?_
                  refine sxc_region ?_
                  refine sxo_move rfl rfl rfl ?_
                  refine sxo_add rfl rfl rfl rfl ?_
                  refine sxo_assign rfl rfl rfl ?_
                  refine sxo_nil ?_
                  exact sxq_againP (iadd .i64 x4370 1, ()) (lk_cons rfl (lk_cons rfl (lk_cons rfl lk_nil))) .nil .nil (fk_cons 0 rfl fk_nil)
            · refine sxc_exit ?_
              refine sxq_thenX ?_
              refine sxq_thenX ?_
              refine sxq_blkX ?_
              refine sxq_blkN ?_
              exact sxq_meetP ((), ()) (lk_cons rfl (lk_cons rfl lk_nil)) .nil .nil (fk_cons 0 rfl fk_nil)
          · rintro ⟨_, _⟩
            try dsimp only
            refine sxc_region ?_
            refine sxo_move rfl rfl rfl ?_
            refine sxo_add rfl rfl rfl rfl ?_
            refine sxo_assign rfl rfl rfl ?_
            refine sxo_nil ?_
            exact sxq_againP (iadd .i64 x3099 1, ()) (lk_cons rfl (lk_cons rfl lk_nil)) .nil .nil (fk_cons 0 rfl fk_nil)
        · refine sxc_exit ?_
          refine sxq_thenX ?_
          refine sxq_thenX ?_
          refine sxq_blkX ?_
          exact sxq_meetP ((), ()) lk_nil .nil .nil fk_nil
      · rintro ⟨_, _⟩
        try dsimp only
        refine sxc_seq ?_
        refine sxc_region ?_
        refine sxo_assign rfl rfl rfl ?_
        refine sxo_assign rfl rfl rfl ?_
        refine sxo_nil ?_
        refine sxq_next ?_
        refine sxc_ret ?_
        exact sxq_doneP () (.inl rfl) (res2 rfl rfl rfl) (fun h => by subst h; rfl) (fun h => by subst h; exact .nil)

theorem C_R_ReadErr (F : Nat) (x1 : Int) (x2 : List Int) (a3 : Option Addr) (c4 : Nat) (x5 : Int) (r : Int) (hm : M_R_ReadErr F x1 x2 x5 = some r) :
    Pure Try.prog 38 [.agg #[.int .i64 x1, .slice a3 x2.length c4], .int .i64 x5] [Sl (eI .u8) 1 (.slice a3 x2.length c4) x2] Unit (fun _ => .int .i64 r) (fun _ => []) (fun _ => []) := by
  refine pure_of Try.func38 rfl Try.ntmps38 rfl hm (fun w => ?_)
  refine sxc_env (l' := [(0, .agg #[.int .i64 x1, .slice a3 x2.length c4]), (1, .int .i64 x5)]) rfl ?_
  refine sxc_seq ?_
  refine sxc_region ?_
  refine sxo_box rfl rfl rfl (fun g6 => ?_)
  refine sxo_assign rfl rfl rfl ?_
  refine sxo_nil ?_
  refine sxq_next ?_
  refine sxc_seq ?_
  refine sxc_region ?_
  refine sxo_loadB (i := 0) rfl rfl tf26 rfl rfl (by simp) rfl rfl ?_
  refine sxo_call ent35 rfl rfl rfl (fun x7 e7 => C_R_BitsCheck F x1 x2 a3 c4 x7 e7) (.consF 0 rfl .nil) (fun x7 e7 => ?_)
  intro _
  refine sxo_assign rfl rfl rfl ?_
  refine sxo_nil ?_
  refine sxq_next ?_
  refine sxc_join (fun ((x13, _) : (Int × Unit)) => [(5, .int .i64 x13)]) (fun ((x13, _) : (Int × Unit)) => []) (fun ((x13, _) : (Int × Unit)) => []) (fun ((x13, _) : (Int × Unit)) => []) (fun ((x13, _) : (Int × Unit)) => M_R_ReadErr_j2 F x13) ?_ ?_
  · refine sxc_seq ?_
    refine sxc_region ?_
    refine sxo_move rfl rfl rfl ?_
    refine sxo_eql rfl rfl rfl rfl ?_
    refine sxo_move rfl rfl rfl ?_
    refine sxo_join 6 (fun ((x16, _) : (Bool × Unit)) => [(5, .int .i64 x7), (16, .bool x16)]) (fun ((x16, _) : (Bool × Unit)) => []) (fun ((x16, _) : (Bool × Unit)) => []) (fun ((x16, _) : (Bool × Unit)) => []) (fun ((x16, _) : (Bool × Unit)) => M_R_ReadErr_j3 F x7 x16) ?_ ?_
    · refine sxo_take (os := _) rfl ?_
      refine sxo_if (fun h14 => ?_) (fun h14 => ?_)
      · refine sxo_isT (k := 10) rfl h14 ?_
        refine sxo_move rfl rfl rfl ?_
        refine sxo_fieldAddr rfl rfl ff26_0 rfl ?_
        refine sxo_loadB (i := 0) rfl rfl tf3 rfl rfl (fun _ => rfl) rfl rfl ?_
        refine sxo_call ent32 rfl rfl rfl (fun x18 e18 => C_R_between F x5 0 x1 x18 e18) .nil (fun x18 e18 => ?_)
        intro _
        refine sxo_not rfl rfl rfl ?_
        refine sxo_pick (b := true) rfl rfl rfl rfl ?_
        refine sxo_nil ?_
        exact sxq_meetP ((!x18), ()) (lk_cons rfl (lk_cons rfl lk_nil)) .nil .nil fk_nil
      · refine sxo_isF (k := 10) rfl h14 ?_
        refine sxo_skip rfl rfl rfl ?_
        refine sxo_skip rfl rfl rfl ?_
        refine sxo_skip rfl rfl rfl ?_
        refine sxo_skip rfl rfl rfl ?_
        refine sxo_skip rfl rfl rfl ?_
        refine sxo_pick (b := false) rfl rfl rfl rfl ?_
        refine sxo_nil ?_
        exact sxq_meetP (false, ()) (lk_cons rfl (lk_cons rfl lk_nil)) .nil .nil fk_nil
    · rintro ⟨x16, _⟩
      try dsimp only
      refine sxo_take (os := _) rfl ?_
      refine sxo_nil ?_
      refine sxq_next ?_
      refine sxc_if rfl (fun h17 => ?_) (fun h17 => ?_)
      · refine sxc_region ?_
        refine sxo_assign rfl rfl rfl ?_
        refine sxo_nil ?_
        exact sxq_meetP (3, ()) (lk_cons rfl lk_nil) .nil .nil fk_nil
      · refine sxc_skip ?_
        exact sxq_meetP (x7, ()) (lk_cons rfl lk_nil) .nil .nil fk_nil
  · rintro ⟨x13, _⟩
    try dsimp only
    refine sxc_seq ?_
    refine sxc_region ?_
    refine sxo_move rfl rfl rfl ?_
    refine sxo_assign rfl rfl rfl ?_
    refine sxo_nil ?_
    refine sxq_next ?_
    refine sxc_ret ?_
    exact sxq_doneP () (.inl rfl) (res1 rfl rfl) (fun h => by subst h; rfl) (fun h => by subst h; exact .nil)

set_option maxHeartbeats 4000000 in
theorem C_R_KraftSign (F : Nat) (x1 : List Int) (a2 : Option Addr) (c3 : Nat) (x4 : Int) (x5 : List Int) (a6 : Option Addr) (c7 : Nat) (x8 : Int) (r : (Int × Int × Int)) (hm : M_R_KraftSign F x1 x4 x5 x8 = some r) :
    Pure Try.prog 18 [.slice a2 x1.length c3, .agg #[.int .i64 x4, .slice a6 x5.length c7], .int .i64 x8] [Sl (eI .i64) 1 (.slice a2 x1.length c3) x1, Sl (eI .u8) 1 (.slice a6 x5.length c7) x5] Unit (fun _ => .tuple #[.int .i64 r.1, .int .i64 r.2.1, .int .i64 r.2.2]) (fun _ => []) (fun _ => []) := by
  refine pure_of Try.func18 rfl Try.ntmps18 rfl hm (fun w => ?_)
  refine sxc_env (l' := [(0, .slice a2 x1.length c3), (1, .agg #[.int .i64 x4, .slice a6 x5.length c7]), (2, .int .i64 x8)]) rfl ?_
  refine sxc_seq ?_
  refine sxc_region ?_
  refine sxo_box rfl rfl rfl (fun g9 => ?_)
  refine sxo_assign rfl rfl rfl ?_
  refine sxo_assign rfl rfl rfl ?_
  refine sxo_assign rfl rfl rfl ?_
  refine sxo_nil ?_
  refine sxq_next ?_
  refine sxc_seq ?_
  refine sxc_region ?_
  refine sxo_move rfl rfl rfl ?_
  refine sxo_call ent16 rfl rfl rfl (fun x10 e10 => C_R_KraftCodes F x1 a2 c3 x10 e10) (.consF 0 rfl .nil) (fun x10 e10 => ?_)
  rintro ⟨a11, c12⟩
  refine sxo_move rfl rfl rfl ?_
  refine sxo_extract rfl rfl rfl rfl ?_
  refine sxo_extract rfl rfl rfl rfl ?_
  refine sxo_assign rfl rfl rfl ?_
  refine sxo_assign rfl rfl rfl ?_
  refine sxo_nil ?_
  refine sxq_next ?_
  refine sxc_join (fun ((x15, _) : (Int × Unit)) => [(2, .int .i64 x8), (4, .pointer (some ⟨g9, 0, none⟩)), (9, .slice a11 x10.1.length c12.1), (10, .int .i64 x15)]) (fun ((x15, _) : (Int × Unit)) => [⟨g9, 26, [.int .i64 x4, .slice a6 x5.length c7]⟩]) (fun ((x15, _) : (Int × Unit)) => [RoN eN26 rN26 26 2 (.slice a11 x10.1.length c12.1) x10.1 c12.2 []]) (fun ((x15, _) : (Int × Unit)) => [Sl (eI .u8) 1 (.slice a6 x5.length c7) x5]) (fun ((x15, _) : (Int × Unit)) => M_R_KraftSign_j1 F x4 x5 x8 x10 x15) ?_ ?_
  · refine sxc_seq ?_
    refine sxc_region ?_
    refine sxo_move rfl rfl rfl ?_
    refine sxo_eql rfl rfl rfl rfl ?_
    refine sxo_nil ?_
    refine sxq_next ?_
    refine sxc_if rfl (fun h378 => ?_) (fun h378 => ?_)
    · refine sxc_region ?_
      refine sxo_loadB (i := 0) rfl rfl tf26 rfl rfl (by simp) rfl rfl ?_
      refine sxo_move rfl rfl rfl ?_
      refine sxo_call ent38 rfl rfl rfl (fun x377 e377 => C_R_ReadErr F x4 x5 a6 c7 x8 x377 e377) (.consF 1 rfl .nil) (fun x377 e377 => ?_)
      intro _
      refine sxo_assign rfl rfl rfl ?_
      refine sxo_nil ?_
      exact sxq_meetP (x377, ()) (lk_cons rfl (lk_cons rfl (lk_cons rfl (lk_cons rfl lk_nil)))) (.cons 0 rfl .nil) (.cons 0 rfl .nil) (fk_cons 1 rfl fk_nil)
    · refine sxc_skip ?_
      exact sxq_meetP (x10.2, ()) (lk_cons rfl (lk_cons rfl (lk_cons rfl (lk_cons rfl lk_nil)))) (.cons 0 rfl .nil) (.cons 0 rfl .nil) (fk_cons 1 rfl fk_nil)
  · rintro ⟨x15, _⟩
    try dsimp only
    refine sxc_seq ?_
    refine sxc_seq ?_
    refine sxc_region ?_
    refine sxo_move rfl rfl rfl ?_
    refine sxo_neq rfl rfl rfl rfl ?_
    refine sxo_nil ?_
    refine sxq_next ?_
    refine sxc_if rfl (fun h376 => ?_) (fun h376 => ?_)
    · refine sxc_seq ?_
      refine sxc_region ?_
      refine sxo_move rfl rfl rfl ?_
      refine sxo_assign rfl rfl rfl ?_
      refine sxo_assign rfl rfl rfl ?_
      refine sxo_assign rfl rfl rfl ?_
      refine sxo_nil ?_
      refine sxq_next ?_
      refine sxc_ret ?_
      refine sxq_thenR ?_
      exact sxq_doneP () (.inl rfl) (res3 rfl rfl rfl rfl) (fun h => by subst h; rfl) (fun h => by subst h; exact .nil)
    · refine sxc_skip ?_
      refine sxq_next ?_
      refine sxc_seq ?_
      refine sxc_region ?_
      refine sxo_loadB (i := 0) rfl rfl tf26 rfl rfl (by simp) rfl rfl ?_
      refine sxo_call ent37 rfl rfl rfl (fun x17 e17 => C_R_BitList F x4 x5 a6 c7 x17 e17) (.consF 0 rfl .nil) (fun x17 e17 => ?_)
      rintro ⟨a18, c19⟩
      refine sxo_move rfl rfl rfl ?_
      refine sxo_freeze 0 rfl ?_
      refine sxo_cut (j := 0) (eI_ok .i64) rfl Try.underlying22 tf3 rfl rfl rfl rfl rfl (fun x20 e20 a21 c22 => ?_)
      refine sxo_assign rfl rfl rfl ?_
      refine sxo_nil ?_
      refine sxq_next ?_
      refine sxc_seq ?_
      refine sxc_region ?_
      refine sxo_assign rfl rfl rfl ?_
      refine sxo_nil ?_
      refine sxq_next ?_
      refine sxc_join (fun ((x198, _) : (Bool × Unit)) => [(12, .bool x198)]) (fun ((x198, _) : (Bool × Unit)) => []) (fun ((x198, _) : (Bool × Unit)) => []) (fun ((x198, _) : (Bool × Unit)) => []) (fun ((x198, _) : (Bool × Unit)) => M_R_KraftSign_j29 F x198) ?_ ?_
      · refine sxc_seq ?_
        refine sxc_region ?_
        refine sxo_assign rfl rfl rfl ?_
        refine sxo_nil ?_
        refine sxq_next ?_
        refine sxc_block ?_
        refine sxc_loopP (fun (((x249, x250), _) : ((Bool × Int) × Unit)) => [(2, .int .i64 x8), (9, .slice a11 x10.1.length c12.1), (11, .slice a21 x20.length c22), (12, .bool x249), (13, .int .i64 x250)]) (fun (((x249, x250), _) : ((Bool × Int) × Unit)) => []) (fun (((x249, x250), _) : ((Bool × Int) × Unit)) => [RoN eN26 rN26 26 2 (.slice a11 x10.1.length c12.1) x10.1 c12.2 []]) (fun (((x249, x250), _) : ((Bool × Int) × Unit)) => [Sl (eI .i64) 1 (.slice a21 x20.length c22) x20]) (fun k (s : ((Bool × Int) × Unit)) => M_R_KraftSign_l46 F x8 x10 x20 k s.1) ((false, 0), ()) F (lk_cons rfl (lk_cons rfl (lk_cons rfl (lk_cons rfl (lk_cons rfl lk_nil))))) .nil (.cons 0 rfl .nil) (fk_cons 0 rfl fk_nil) (fun _ => rfl) ?_
        intro k313
        rintro ⟨⟨x249, x250⟩, _⟩
        try dsimp only
        refine sxc_meq (m' := M_R_KraftSign_b46 F x8 x10 x20 (M_R_KraftSign_l46 F x8 x10 x20 k313) x249 x250) rfl ?_
        refine sxc_seq ?_
        refine sxc_seq ?_
        refine sxc_region ?_
        refine sxo_move rfl rfl rfl ?_
        refine sxo_move rfl rfl rfl ?_
        refine sxo_len rfl Try.underlying23 rfl rfl ?_
        refine sxo_lss rfl rfl rfl rfl ?_
        refine sxo_nil ?_
        refine sxq_next ?_
        refine sxc_if rfl (fun h375 => ?_) (fun h375 => ?_)
        · refine sxc_skip ?_
          refine sxq_next ?_
          refine sxc_seq ?_
          refine sxc_block ?_
          refine sxc_seq ?_
          refine sxc_region ?_
          refine sxo_move rfl rfl rfl ?_
          refine sxo_move rfl rfl rfl ?_
          refine sxo_idxP (j := 0) rfl Try.underlying23 tf26 rfl rfl rfl rfl (fun x345 e345 g346 h347 g348 h349 => ?_)
          refine sxo_openN (i := 0) rfl h347 (List.not_mem_nil) ?_
          refine sxo_loadN0 (j := 1) (p := (x345, g346)) eN26_ok rfl rfl tf26 rfl h349 h347 rfl (by simp) rfl rfl ?_
          refine sxo_call ent37 rfl rfl rfl (fun x350 e350 => C_R_BitList F x345.1 x345.2 g346.1 g346.2 x350 e350) (.consR 0 (Ro (eI .u8) 5 1 (.slice g346.1 x345.2.length g346.2) x345.2) rfl .nil) (fun x350 e350 => ?_)
          rintro ⟨a351, c352⟩
          refine sxo_assign rfl rfl rfl ?_
          refine sxo_nil ?_
          refine sxq_next ?_
          refine sxc_seq ?_
          refine sxc_seq ?_
          refine sxc_closeN (rin := rN26) (p := (x345, g346)) (i := 1) (k := 0) (.cons 1 rfl .nil) rfl rfl h347 ?_
          refine sxc_region ?_
          refine sxo_move rfl rfl rfl ?_
          refine sxo_len rfl Try.underlying22 rfl rfl ?_
          refine sxo_gtr rfl rfl rfl rfl ?_
          refine sxo_move rfl rfl rfl ?_
          refine sxo_join 4 (fun ((x360, _) : (Bool × Unit)) => [(2, .int .i64 x8), (9, .slice a11 x10.1.length c12.1), (11, .slice a21 x20.length c22), (12, .bool x249), (13, .int .i64 x250), (14, .slice a351 x350.length c352), (50, .bool x360)]) (fun ((x360, _) : (Bool × Unit)) => []) (fun ((x360, _) : (Bool × Unit)) => [RoN eN26 rN26 26 2 (.slice a11 x10.1.length c12.1) x10.1 c12.2 [], Ro (eI .i64) 3 1 (.slice a351 x350.length c352) x350]) (fun ((x360, _) : (Bool × Unit)) => [Sl (eI .i64) 1 (.slice a21 x20.length c22) x20]) (fun ((x360, _) : (Bool × Unit)) => M_R_KraftSign_j53 F (M_R_KraftSign_l46 F x8 x10 x20 k313) x8 x20 x249 x250 x350 x360) ?_ ?_
          · refine sxo_take (os := _) rfl ?_
            refine sxo_if (fun h358 => ?_) (fun h358 => ?_)
            · refine sxo_isT (k := 46) rfl h358 ?_
              refine sxo_move rfl rfl rfl ?_
              refine sxo_move rfl rfl rfl ?_
              refine sxo_call ent36 rfl rfl rfl (fun x374 e374 => C_R_Starts F x20 a21 c22 x350 a351 c352 x374 e374) (.consF 0 rfl (.consR 1 (Ro (eI .i64) 3 1 (.slice a351 x350.length c352) x350) rfl .nil)) (fun x374 e374 => ?_)
              intro _
              refine sxo_pick (b := true) rfl rfl rfl rfl ?_
              refine sxo_nil ?_
              exact sxq_meetP (x374, ()) (lk_cons rfl (lk_cons rfl (lk_cons rfl (lk_cons rfl (lk_cons rfl (lk_cons rfl (lk_cons rfl lk_nil))))))) .nil (.cons 0 rfl (.cons 0 rfl .nil)) (fk_cons 0 rfl fk_nil)
            · refine sxo_isF (k := 46) rfl h358 ?_
              refine sxo_skip rfl rfl rfl ?_
              refine sxo_skip rfl rfl rfl ?_
              refine sxo_skip rfl rfl rfl ?_
              refine sxo_pick (b := false) rfl rfl rfl rfl ?_
              refine sxo_nil ?_
              exact sxq_meetP (false, ()) (lk_cons rfl (lk_cons rfl (lk_cons rfl (lk_cons rfl (lk_cons rfl (lk_cons rfl (lk_cons rfl lk_nil))))))) .nil (.cons 0 rfl (.cons 0 rfl .nil)) (fk_cons 0 rfl fk_nil)
          · rintro ⟨x360, _⟩
            try dsimp only
            refine sxo_take (os := _) rfl ?_
            refine sxo_nil ?_
            refine sxq_next ?_
            refine sxc_if rfl (fun h373 => ?_) (fun h373 => ?_)
            · refine sxc_seq ?_
              refine sxc_region ?_
              refine sxo_move rfl rfl rfl ?_
              refine sxo_move rfl rfl rfl ?_
              refine sxo_move rfl rfl rfl ?_
              refine sxo_len rfl Try.underlying22 rfl rfl ?_
              refine sxo_add rfl rfl rfl rfl ?_
              refine sxo_assign rfl rfl rfl ?_
              refine sxo_assign rfl rfl rfl ?_
              refine sxo_assign rfl rfl rfl ?_
              refine sxo_nil ?_
              refine sxq_next ?_
              refine sxc_ret ?_
              refine sxq_thenR ?_
              refine sxq_blkR ?_
              refine sxq_thenR ?_
              refine sxq_thenR ?_
              refine sxq_blkR ?_
              refine sxq_thenR ?_
              exact sxq_doneP () (.inl rfl) (res3 rfl rfl rfl rfl) (fun h => by subst h; rfl) (fun h => by subst h; exact .nil)
            · refine sxc_skip ?_
              refine sxq_next ?_
              refine sxc_region ?_
              refine sxo_move rfl rfl rfl ?_
              refine sxo_move rfl rfl rfl ?_
              refine sxo_join 11 (fun ((x367, _) : (Bool × Unit)) => [(2, .int .i64 x8), (9, .slice a11 x10.1.length c12.1), (11, .slice a21 x20.length c22), (13, .int .i64 x250), (68, .bool x367)]) (fun ((x367, _) : (Bool × Unit)) => []) (fun ((x367, _) : (Bool × Unit)) => [RoN eN26 rN26 26 2 (.slice a11 x10.1.length c12.1) x10.1 c12.2 []]) (fun ((x367, _) : (Bool × Unit)) => [Sl (eI .i64) 1 (.slice a21 x20.length c22) x20]) (fun ((x367, _) : (Bool × Unit)) => M_R_KraftSign_j55 F (M_R_KraftSign_l46 F x8 x10 x20 k313) x250 x367) ?_ ?_
              · refine sxo_take (os := _) rfl ?_
                refine sxo_if (fun h361 => ?_) (fun h361 => ?_)
                · refine sxo_isT (k := 57) rfl h361 ?_
                  refine sxo_skip rfl rfl rfl ?_
                  refine sxo_skip rfl rfl rfl ?_
                  refine sxo_skip rfl rfl rfl ?_
                  refine sxo_skip rfl rfl rfl ?_
                  refine sxo_skip rfl rfl rfl ?_
                  refine sxo_skip rfl rfl rfl ?_
                  refine sxo_skip rfl rfl rfl ?_
                  refine sxo_skip rfl rfl rfl ?_
                  refine sxo_skip rfl rfl rfl ?_
                  refine sxo_skip rfl rfl rfl ?_
                  refine sxo_pick (b := true) rfl rfl rfl rfl ?_
                  refine sxo_nil ?_
                  exact sxq_meetP (true, ()) (lk_cons rfl (lk_cons rfl (lk_cons rfl (lk_cons rfl (lk_cons rfl lk_nil))))) .nil (.cons 0 rfl .nil) (fk_cons 0 rfl fk_nil)
                · refine sxo_isF (k := 57) rfl h361 ?_
                  refine sxo_move rfl rfl rfl ?_
                  refine sxo_len rfl Try.underlying22 rfl rfl ?_
                  refine sxo_move rfl rfl rfl ?_
                  refine sxo_len rfl Try.underlying22 rfl rfl ?_
                  refine sxo_gtr rfl rfl rfl rfl ?_
                  refine sxo_move rfl rfl rfl ?_
                  refine sxo_join 4 (fun (((x370, x371), _) : ((Bool × Bool) × Unit)) => [(2, .int .i64 x8), (9, .slice a11 x10.1.length c12.1), (11, .slice a21 x20.length c22), (13, .int .i64 x250), (57, .bool false), (58, .slice a351 x350.length c352), (59, .int .i64 (x350.length : Int)), (60, .slice a21 x20.length c22), (61, .int .i64 (x20.length : Int)), (62, .bool (decide ((x20.length : Int) < (x350.length : Int)))), (63, .bool x370), (67, .bool x371)]) (fun (((x370, x371), _) : ((Bool × Bool) × Unit)) => []) (fun (((x370, x371), _) : ((Bool × Bool) × Unit)) => [RoN eN26 rN26 26 2 (.slice a11 x10.1.length c12.1) x10.1 c12.2 [], Ro (eI .i64) 3 1 (.slice a351 x350.length c352) x350]) (fun (((x370, x371), _) : ((Bool × Bool) × Unit)) => [Sl (eI .i64) 1 (.slice a21 x20.length c22) x20]) (fun (((x370, x371), _) : ((Bool × Bool) × Unit)) => M_R_KraftSign_j56 F (M_R_KraftSign_l46 F x8 x10 x20 k313) x250 x370 x371) ?_ ?_
                  · refine sxo_take (os := _) rfl ?_
                    refine sxo_if (fun h368 => ?_) (fun h368 => ?_)
                    · refine sxo_isT (k := 63) rfl h368 ?_
                      refine sxo_move rfl rfl rfl ?_
                      refine sxo_move rfl rfl rfl ?_
                      refine sxo_call ent36 rfl rfl rfl (fun x372 e372 => C_R_Starts F x350 a351 c352 x20 a21 c22 x372 e372) (.consR 1 (Ro (eI .i64) 3 1 (.slice a351 x350.length c352) x350) rfl (.consF 0 rfl .nil)) (fun x372 e372 => ?_)
                      intro _
                      refine sxo_pick (b := true) rfl rfl rfl rfl ?_
                      refine sxo_nil ?_
                      exact sxq_meetP ((true, x372), ()) (lk_cons rfl (lk_cons rfl (lk_cons rfl (lk_cons rfl (lk_cons rfl (lk_cons rfl (lk_cons rfl (lk_cons rfl (lk_cons rfl (lk_cons rfl (lk_cons rfl (lk_cons rfl lk_nil)))))))))))) .nil (.cons 0 rfl (.cons 0 rfl .nil)) (fk_cons 0 rfl fk_nil)
                    · refine sxo_isF (k := 63) rfl h368 ?_
                      refine sxo_skip rfl rfl rfl ?_
                      refine sxo_skip rfl rfl rfl ?_
                      refine sxo_skip rfl rfl rfl ?_
                      refine sxo_pick (b := false) rfl rfl rfl rfl ?_
                      refine sxo_nil ?_
                      exact sxq_meetP ((false, false), ()) (lk_cons rfl (lk_cons rfl (lk_cons rfl (lk_cons rfl (lk_cons rfl (lk_cons rfl (lk_cons rfl (lk_cons rfl (lk_cons rfl (lk_cons rfl (lk_cons rfl (lk_cons rfl lk_nil)))))))))))) .nil (.cons 0 rfl (.cons 0 rfl .nil)) (fk_cons 0 rfl fk_nil)
                  · rintro ⟨⟨x370, x371⟩, _⟩
                    try dsimp only
                    refine sxo_take (os := _) rfl ?_
                    refine sxo_pick (b := false) rfl rfl rfl rfl ?_
                    refine sxo_nil ?_
                    exact sxq_meetP (x371, ()) (lk_cons rfl (lk_cons rfl (lk_cons rfl (lk_cons rfl (lk_cons rfl lk_nil))))) .nil (.cons 0 rfl .nil) (fk_cons 0 rfl fk_nil)
              · rintro ⟨x367, _⟩
                try dsimp only
                refine sxo_take (os := _) rfl ?_
                refine sxo_assign rfl rfl rfl ?_
                refine sxo_nil ?_
                refine sxq_blkN ?_
                refine sxq_next ?_
                refine sxc_region ?_
                refine sxo_move rfl rfl rfl ?_
                refine sxo_add rfl rfl rfl rfl ?_
                refine sxo_assign rfl rfl rfl ?_
                refine sxo_nil ?_
                exact sxq_againP ((x367, iadd .i64 x250 1), ()) (lk_cons rfl (lk_cons rfl (lk_cons rfl (lk_cons rfl (lk_cons rfl lk_nil))))) .nil (.cons 0 rfl .nil) (fk_cons 0 rfl fk_nil)
        · refine sxc_exit ?_
          refine sxq_thenX ?_
          refine sxq_thenX ?_
          refine sxq_blkX ?_
          exact sxq_meetP (x249, ()) (lk_cons rfl lk_nil) .nil .nil fk_nil
      · rintro ⟨x198, _⟩
        try dsimp only
        refine sxc_seq ?_
        refine sxc_seq ?_
        refine sxc_region ?_
        refine sxo_move rfl rfl rfl ?_
        refine sxo_nil ?_
        refine sxq_next ?_
        refine sxc_if rfl (fun h200 => ?_) (fun h200 => ?_)
        · refine sxc_seq ?_
          refine sxc_region ?_
          refine sxo_assign rfl rfl rfl ?_
          refine sxo_assign rfl rfl rfl ?_
          refine sxo_assign rfl rfl rfl ?_
          refine sxo_nil ?_
          refine sxq_next ?_
          refine sxc_ret ?_
          refine sxq_thenR ?_
          exact sxq_doneP () (.inl rfl) (res3 rfl rfl rfl rfl) (fun h => by subst h; rfl) (fun h => by subst h; exact .nil)
        · refine sxc_skip ?_
          refine sxq_next ?_
          refine sxc_seq ?_
          refine sxc_region ?_
          refine sxo_assign rfl rfl rfl ?_
          refine sxo_assign rfl rfl rfl ?_
          refine sxo_assign rfl rfl rfl ?_
          refine sxo_nil ?_
          refine sxq_next ?_
          refine sxc_ret ?_
          exact sxq_doneP () (.inl rfl) (res3 rfl rfl rfl rfl) (fun h => by subst h; rfl) (fun h => by subst h; exact .nil)

theorem C_R_SameBytes (F : Nat) (x1 : List Int) (a2 : Option Addr) (c3 : Nat) (x4 : List Int) (a5 : Option Addr) (c6 : Nat) (r : Bool) (hm : M_R_SameBytes F x1 x4 = some r) :
    Pure Try.prog 41 [.slice a2 x1.length c3, .slice a5 x4.length c6] [Sl (eI .u8) 1 (.slice a2 x1.length c3) x1, Sl (eI .u8) 1 (.slice a5 x4.length c6) x4] Unit (fun _ => .bool r) (fun _ => []) (fun _ => []) := by
  refine pure_of Try.func41 rfl Try.ntmps41 rfl hm (fun w => ?_)
  refine sxc_env (l' := [(0, .slice a2 x1.length c3), (1, .slice a5 x4.length c6)]) rfl ?_
  refine sxc_seq ?_
  refine sxc_region ?_
  refine sxo_assign rfl rfl rfl ?_
  refine sxo_nil ?_
  refine sxq_next ?_
  refine sxc_seq ?_
  refine sxc_seq ?_
  refine sxc_region ?_
  refine sxo_move rfl rfl rfl ?_
  refine sxo_len rfl Try.underlying24 rfl rfl ?_
  refine sxo_move rfl rfl rfl ?_
  refine sxo_len rfl Try.underlying24 rfl rfl ?_
  refine sxo_neq rfl rfl rfl rfl ?_
  refine sxo_nil ?_
  refine sxq_next ?_
  refine sxc_if rfl (fun h228 => ?_) (fun h228 => ?_)
  · refine sxc_seq ?_
    refine sxc_region ?_
    refine sxo_assign rfl rfl rfl ?_
    refine sxo_nil ?_
    refine sxq_next ?_
    refine sxc_ret ?_
    refine sxq_thenR ?_
    exact sxq_doneP () (.inl rfl) (res1 rfl rfl) (fun h => by subst h; rfl) (fun h => by subst h; exact .nil)
  · refine sxc_skip ?_
    refine sxq_next ?_
    refine sxc_join (fun ((_, _) : (Unit × Unit)) => []) (fun ((_, _) : (Unit × Unit)) => []) (fun ((_, _) : (Unit × Unit)) => []) (fun ((_, _) : (Unit × Unit)) => []) (fun ((_, _) : (Unit × Unit)) => M_R_SameBytes_j2 F) ?_ ?_
    · refine sxc_seq ?_
      refine sxc_region ?_
      refine sxo_assign rfl rfl rfl ?_
      refine sxo_nil ?_
      refine sxq_next ?_
      refine sxc_block ?_
      refine sxc_loopP (fun ((x154, _) : (Int × Unit)) => [(0, .slice a2 x1.length c3), (1, .slice a5 x4.length c6), (5, .int .i64 x154)]) (fun ((x154, _) : (Int × Unit)) => []) (fun ((x154, _) : (Int × Unit)) => []) (fun ((x154, _) : (Int × Unit)) => [Sl (eI .u8) 1 (.slice a2 x1.length c3) x1, Sl (eI .u8) 1 (.slice a5 x4.length c6) x4]) (fun k (s : (Int × Unit)) => M_R_SameBytes_l3 F x1 x4 k s.1) (0, ()) F (lk_cons rfl (lk_cons rfl (lk_cons rfl lk_nil))) .nil .nil (fk_cons 0 rfl (fk_cons 1 rfl fk_nil)) (fun _ => rfl) ?_
      intro k191
      rintro ⟨x154, _⟩
      try dsimp only
      refine sxc_meq (m' := M_R_SameBytes_b3 F x1 x4 (M_R_SameBytes_l3 F x1 x4 k191) x154) rfl ?_
      refine sxc_seq ?_
      refine sxc_seq ?_
      refine sxc_region ?_
      refine sxo_move rfl rfl rfl ?_
      refine sxo_move rfl rfl rfl ?_
      refine sxo_len rfl Try.underlying24 rfl rfl ?_
      refine sxo_lss rfl rfl rfl rfl ?_
      refine sxo_nil ?_
      refine sxq_next ?_
      refine sxc_if rfl (fun h227 => ?_) (fun h227 => ?_)
      · refine sxc_skip ?_
        refine sxq_next ?_
        refine sxc_seq ?_
        refine sxc_block ?_
        refine sxc_seq ?_
        refine sxc_idxF (j := 0) (eI_ok .u8) (by decide) rfl (fun x218 e218 b219 o220 h221 => ?_)
        replace h221 : a2 = some ⟨b219, o220, none⟩ := h221
        refine sxc_idxF (j := 2) (eI_ok .u8) (by decide) rfl (fun x222 e222 b223 o224 h225 => ?_)
        replace h225 : a5 = some ⟨b223, o224, none⟩ := h225
        refine sxb_draw mixed [] [] [CellsAt b223 (o224 + x154.toNat * 1) ((eI .u8) x222), CellsAt b219 (o220 + x154.toNat * 1) ((eI .u8) x218), Sl (eI .u8) 1 (.slice a2 x1.length c3) x1, Sl (eI .u8) 1 (.slice a5 x4.length c6) x4] .nil (gk_F 0 rfl (gk_F 1 rfl (gk_F 2 rfl (gk_F 3 rfl gk_nil)))) 9 rfl ?_
        refine sxb_takeP 0 (.slice a2 x1.length c3) rfl rfl rfl rfl (by kernel_rfl) (by kernel_rfl) (by kernel_rfl) (by kernel_rfl) (by kernel_rfl) rfl (show _ = #[true, false, false, false, false, false, false, false, false] from rfl) (yv_pv rfl) ?_
        refine sxb_takeP 1 (.int .i64 x154) rfl rfl rfl rfl (by kernel_rfl) (by kernel_rfl) (by kernel_rfl) (by kernel_rfl) (by kernel_rfl) rfl (show _ = #[true, true, false, false, false, false, false, false, false] from rfl) (yv_pv rfl) ?_
        refine sxb_again (d := 17) (v := .slice (some ⟨b219, o220, none⟩) x1.length c3) rfl (by rw [h221] <;> rfl) ?_
        refine sxb_takeP 2 (.pointer (some ⟨b219, (o220 + x154.toNat * 1), none⟩)) rfl rfl rfl rfl (by kernel_rfl) (by kernel_rfl) (by kernel_rfl) (by kernel_rfl) (by kernel_rfl) rfl (show _ = #[true, true, true, false, false, false, false, false, false] from rfl) (yv_idx Try.underlying24 tf5 rfl rfl (idx_get e218).1 (idx_lt e218)) ?_
        refine sxb_again (d := 17) (v := .slice a2 x1.length c3) rfl (by rw [h221] <;> rfl) ?_
        refine sxb_take 3 (.int .u8 x218) [] rfl rfl rfl rfl (by kernel_rfl) (by kernel_rfl) (by kernel_rfl) (by kernel_rfl) (by kernel_rfl) (by kernel_rfl) rfl (show _ = #[true, true, true, true, false, false, false, false, false] from rfl) (yv_loadF (j := 1) rfl tf5 rfl rfl (fun _ => rfl) rfl) ?_
        refine sxb_takeP 4 (.slice a5 x4.length c6) rfl rfl rfl rfl (by kernel_rfl) (by kernel_rfl) (by kernel_rfl) (by kernel_rfl) (by kernel_rfl) rfl (show _ = #[true, true, true, true, true, false, false, false, false] from rfl) (yv_pv rfl) ?_
        refine sxb_takeP 5 (.int .i64 x154) rfl rfl rfl rfl (by kernel_rfl) (by kernel_rfl) (by kernel_rfl) (by kernel_rfl) (by kernel_rfl) rfl (show _ = #[true, true, true, true, true, true, false, false, false] from rfl) (yv_pv rfl) ?_
        refine sxb_again (d := 21) (v := .slice (some ⟨b223, o224, none⟩) x4.length c6) rfl (by rw [h225] <;> rfl) ?_
        refine sxb_takeP 6 (.pointer (some ⟨b223, (o224 + x154.toNat * 1), none⟩)) rfl rfl rfl rfl (by kernel_rfl) (by kernel_rfl) (by kernel_rfl) (by kernel_rfl) (by kernel_rfl) rfl (show _ = #[true, true, true, true, true, true, true, false, false] from rfl) (yv_idx Try.underlying24 tf5 rfl rfl (idx_get e222).1 (idx_lt e222)) ?_
        refine sxb_again (d := 21) (v := .slice a5 x4.length c6) rfl (by rw [h225] <;> rfl) ?_
        refine sxb_take 7 (.int .u8 x222) [] rfl rfl rfl rfl (by kernel_rfl) (by kernel_rfl) (by kernel_rfl) (by kernel_rfl) (by kernel_rfl) (by kernel_rfl) rfl (show _ = #[true, true, true, true, true, true, true, true, false] from rfl) (yv_loadF (j := 0) rfl tf5 rfl rfl (fun _ => rfl) rfl) ?_
        refine sxb_takeP 8 (.bool ((x218 : Int) != x222)) rfl rfl rfl rfl (by kernel_rfl) (by kernel_rfl) (by kernel_rfl) (by kernel_rfl) (by kernel_rfl) rfl (show _ = #[true, true, true, true, true, true, true, true, true] from rfl) (yv_pv rfl) ?_
        refine sxb_done (by kernel_rfl) ?_
        refine sxq_np ?_ (by intro c h; cases h)
        refine sxq_next ?_
        refine sxc_if rfl (fun h226 => ?_) (fun h226 => ?_)
        · refine sxc_seq ?_
          refine sxc_region ?_
          refine sxo_assign rfl rfl rfl ?_
          refine sxo_nil ?_
          refine sxq_next ?_
          refine sxc_ret ?_
          refine sxq_blkR ?_
          refine sxq_thenR ?_
          refine sxq_thenR ?_
          refine sxq_blkR ?_
          refine sxq_thenR ?_
          exact sxq_doneP () (.inl rfl) (res1 rfl rfl) (fun h => by subst h; rfl) (fun h => by subst h; exact .nil)
        · refine sxc_skip ?_
          refine sxq_blkN ?_
          refine sxq_next ?_
          refine sxc_region ?_
          refine sxo_move rfl rfl rfl ?_
          refine sxo_add rfl rfl rfl rfl ?_
          refine sxo_assign rfl rfl rfl ?_
          refine sxo_nil ?_
          exact sxq_againP (iadd .i64 x154 1, ()) (lk_cons rfl (lk_cons rfl (lk_cons rfl lk_nil))) .nil .nil (fk_cons 2 rfl (fk_cons 3 rfl fk_nil))
      · refine sxc_exit ?_
        refine sxq_thenX ?_
        refine sxq_thenX ?_
        refine sxq_blkX ?_
        exact sxq_meetP ((), ()) lk_nil .nil .nil fk_nil
    · rintro ⟨_, _⟩
      try dsimp only
      refine sxc_seq ?_
      refine sxc_region ?_
      refine sxo_assign rfl rfl rfl ?_
      refine sxo_nil ?_
      refine sxq_next ?_
      refine sxc_ret ?_
      exact sxq_doneP () (.inl rfl) (res1 rfl rfl) (fun h => by subst h; rfl) (fun h => by subst h; exact .nil)

theorem C_R_SameBits (F : Nat) (x1 : Int) (x2 : List Int) (a3 : Option Addr) (c4 : Nat) (x5 : Int) (x6 : List Int) (a7 : Option Addr) (c8 : Nat) (r : Bool) (hm : M_R_SameBits F x1 x2 x5 x6 = some r) :
    Pure Try.prog 21 [.agg #[.int .i64 x1, .slice a3 x2.length c4], .agg #[.int .i64 x5, .slice a7 x6.length c8]] [Sl (eI .u8) 1 (.slice a3 x2.length c4) x2, Sl (eI .u8) 1 (.slice a7 x6.length c8) x6] Unit (fun _ => .bool r) (fun _ => []) (fun _ => []) := by
  refine pure_of Try.func21 rfl Try.ntmps21 rfl hm (fun w => ?_)
  refine sxc_env (l' := [(0, .agg #[.int .i64 x1, .slice a3 x2.length c4]), (1, .agg #[.int .i64 x5, .slice a7 x6.length c8])]) rfl ?_
  refine sxc_seq ?_
  refine sxc_region ?_
  refine sxo_box rfl rfl rfl (fun g9 => ?_)
  refine sxo_box rfl rfl rfl (fun g10 => ?_)
  refine sxo_assign rfl rfl rfl ?_
  refine sxo_nil ?_
  refine sxq_next ?_
  refine sxc_seq ?_
  refine sxc_region ?_
  refine sxo_fieldAddr rfl rfl ff26_0 rfl ?_
  refine sxo_loadB (i := 1) rfl rfl tf3 rfl rfl (fun _ => rfl) rfl rfl ?_
  refine sxo_fieldAddr rfl rfl ff26_0 rfl ?_
  refine sxo_loadB (i := 0) rfl rfl tf3 rfl rfl (fun _ => rfl) rfl rfl ?_
  refine sxo_eql rfl rfl rfl rfl ?_
  refine sxo_move rfl rfl rfl ?_
  refine sxo_join 6 (fun ((x13, _) : (Bool × Unit)) => [(16, .bool x13)]) (fun ((x13, _) : (Bool × Unit)) => []) (fun ((x13, _) : (Bool × Unit)) => []) (fun ((x13, _) : (Bool × Unit)) => []) (fun ((x13, _) : (Bool × Unit)) => M_R_SameBits_j1 F x13) ?_ ?_
  · refine sxo_take (os := _) rfl ?_
    refine sxo_if (fun h11 => ?_) (fun h11 => ?_)
    · refine sxo_isT (k := 10) rfl h11 ?_
      refine sxo_fieldAddr rfl rfl ff26_1 rfl ?_
      refine sxo_loadB (i := 1) rfl rfl tf24 rfl rfl (fun _ => rfl) rfl rfl ?_
      refine sxo_fieldAddr rfl rfl ff26_1 rfl ?_
      refine sxo_loadB (i := 0) rfl rfl tf24 rfl rfl (fun _ => rfl) rfl rfl ?_
      refine sxo_call ent41 rfl rfl rfl (fun x14 e14 => C_R_SameBytes F x2 a3 c4 x6 a7 c8 x14 e14) (.consF 0 rfl (.consF 1 rfl .nil)) (fun x14 e14 => ?_)
      intro _
      refine sxo_pick (b := true) rfl rfl rfl rfl ?_
      refine sxo_nil ?_
      exact sxq_meetP (x14, ()) (lk_cons rfl lk_nil) .nil .nil fk_nil
    · refine sxo_isF (k := 10) rfl h11 ?_
      refine sxo_skip rfl rfl rfl ?_
      refine sxo_skip rfl rfl rfl ?_
      refine sxo_skip rfl rfl rfl ?_
      refine sxo_skip rfl rfl rfl ?_
      refine sxo_skip rfl rfl rfl ?_
      refine sxo_pick (b := false) rfl rfl rfl rfl ?_
      refine sxo_nil ?_
      exact sxq_meetP (false, ()) (lk_cons rfl lk_nil) .nil .nil fk_nil
  · rintro ⟨x13, _⟩
    try dsimp only
    refine sxo_take (os := _) rfl ?_
    refine sxo_assign rfl rfl rfl ?_
    refine sxo_nil ?_
    refine sxq_next ?_
    refine sxc_ret ?_
    exact sxq_doneP () (.inl rfl) (res1 rfl rfl) (fun h => by subst h; rfl) (fun h => by subst h; exact .nil)

set_option maxHeartbeats 4000000 in
theorem C_L_kraftBegun (F : Nat)  (r : Bool) (hm : M_L_kraftBegun F  = some r) :
    Pure Try.prog 19 [] [] Unit (fun _ => .bool r) (fun _ => []) (fun _ => []) := by
  refine pure_of Try.func19 rfl Try.ntmps19 rfl hm (fun w => ?_)
  refine sxc_env (l' := []) rfl ?_
  refine sxc_seq ?_
  refine sxc_region ?_
  refine sxo_assign rfl rfl rfl ?_
  refine sxo_nil ?_
  refine sxq_next ?_
  refine sxc_seq ?_
  refine sxc_region ?_
  refine sxo_slit (vs := [.int .i64 2, .int .i64 0, .int .i64 1, .int .i64 3, .int .i64 3]) (ys := ([2, 0, 1, 3, 3] : List Int)) (eI_ok .i64) (by decide) rfl Try.underlying22 tf3 rfl rfl rfl rfl rfl (by decide) (fun a1 c2 => ?_)
  refine sxo_assign rfl rfl rfl ?_
  refine sxo_nil ?_
  refine sxq_next ?_
  refine sxc_seq ?_
  refine sxc_region ?_
  refine sxo_move rfl rfl rfl ?_
  refine sxo_call ent10 rfl rfl rfl (fun x3 e3 => C_kraft_Room F ([2, 0, 1, 3, 3] : List Int) a1 c2 x3 e3) (.consR 0 (Ro (eI .i64) 3 1 (.slice a1 ([2, 0, 1, 3, 3] : List Int).length c2) ([2, 0, 1, 3, 3] : List Int)) rfl .nil) (fun x3 e3 => ?_)
  intro _
  refine sxo_move rfl rfl rfl ?_
  refine sxo_extract rfl rfl rfl rfl ?_
  refine sxo_extract rfl rfl rfl rfl ?_
  refine sxo_assign rfl rfl rfl ?_
  refine sxo_assign rfl rfl rfl ?_
  refine sxo_nil ?_
  refine sxq_next ?_
  refine sxc_seq ?_
  refine sxc_region ?_
  refine sxo_move rfl rfl rfl ?_
  refine sxo_call ent11 rfl rfl rfl (fun x4 e4 => C_kraft_Codes F ([2, 0, 1, 3, 3] : List Int) a1 c2 x4 e4) (.consR 0 (Ro (eI .i64) 3 1 (.slice a1 ([2, 0, 1, 3, 3] : List Int).length c2) ([2, 0, 1, 3, 3] : List Int)) rfl .nil) (fun x4 e4 => ?_)
  rintro ⟨a5, c6⟩
  refine sxo_move rfl rfl rfl ?_
  refine sxo_extract rfl rfl rfl rfl ?_
  refine sxo_extract rfl rfl rfl rfl ?_
  refine sxo_assign rfl rfl rfl ?_
  refine sxo_assign rfl rfl rfl ?_
  refine sxo_nil ?_
  refine sxq_next ?_
  refine sxc_seq ?_
  refine sxc_seq ?_
  refine sxc_region ?_
  refine sxo_move rfl rfl rfl ?_
  refine sxo_neq rfl rfl rfl rfl ?_
  refine sxo_move rfl rfl rfl ?_
  refine sxo_case 3 ((x3.2 : Int) != 0) [(1, .slice a1 ([2, 0, 1, 3, 3] : List Int).length c2), (2, .int .i64 x3.1), (4, .slice a5 x4.1.length c6.1), (32, .bool (((x3.2 : Int) != 0) || ((x4.2 : Int) != 0)))] (fun h10 => ?_) (fun h10 => ?_) ?_
  · refine sxo_take (os := _) rfl ?_
    refine sxo_isT (k := 29) rfl h10 ?_
    refine sxo_skip rfl rfl rfl ?_
    refine sxo_skip rfl rfl rfl ?_
    refine sxo_pick (b := true) rfl rfl rfl rfl ?_
    refine sxo_again (d := 32) (v := .bool (((x3.2 : Int) != 0) || ((x4.2 : Int) != 0))) rfl (by rw [h10]; simp only [Bool.true_or]) ?_
    refine sxo_nil ?_
    exact sxq_case (lk_cons rfl (lk_cons rfl (lk_cons rfl (lk_cons rfl lk_nil))))
  · refine sxo_take (os := _) rfl ?_
    refine sxo_isF (k := 29) rfl h10 ?_
    refine sxo_move rfl rfl rfl ?_
    refine sxo_neq rfl rfl rfl rfl ?_
    refine sxo_pick (b := false) rfl rfl rfl rfl ?_
    refine sxo_again (d := 32) (v := .bool (((x3.2 : Int) != 0) || ((x4.2 : Int) != 0))) rfl (by rw [h10]; simp only [Bool.false_or]) ?_
    refine sxo_nil ?_
    exact sxq_case (lk_cons rfl (lk_cons rfl (lk_cons rfl (lk_cons rfl lk_nil))))
  refine sxo_take (os := _) rfl ?_
  refine sxo_move rfl rfl rfl ?_
  refine sxo_case 4 (((x3.2 : Int) != 0) || ((x4.2 : Int) != 0)) [(1, .slice a1 ([2, 0, 1, 3, 3] : List Int).length c2), (2, .int .i64 x3.1), (4, .slice a5 x4.1.length c6.1), (37, .bool ((((x3.2 : Int) != 0) || ((x4.2 : Int) != 0)) || (((x4.1.length : Int) : Int) != 5)))] (fun h11 => ?_) (fun h11 => ?_) ?_
  · refine sxo_take (os := _) rfl ?_
    refine sxo_isT (k := 33) rfl h11 ?_
    refine sxo_skip rfl rfl rfl ?_
    refine sxo_skip rfl rfl rfl ?_
    refine sxo_skip rfl rfl rfl ?_
    refine sxo_pick (b := true) rfl rfl rfl rfl ?_
    refine sxo_again (d := 37) (v := .bool ((((x3.2 : Int) != 0) || ((x4.2 : Int) != 0)) || (((x4.1.length : Int) : Int) != 5))) rfl (by rw [h11]; simp only [Bool.true_or]) ?_
    refine sxo_nil ?_
    exact sxq_case (lk_cons rfl (lk_cons rfl (lk_cons rfl (lk_cons rfl lk_nil))))
  · refine sxo_take (os := _) rfl ?_
    refine sxo_isF (k := 33) rfl h11 ?_
    refine sxo_move rfl rfl rfl ?_
    refine sxo_len rfl Try.underlying23 rfl rfl ?_
    refine sxo_neq rfl rfl rfl rfl ?_
    refine sxo_pick (b := false) rfl rfl rfl rfl ?_
    refine sxo_again (d := 37) (v := .bool ((((x3.2 : Int) != 0) || ((x4.2 : Int) != 0)) || (((x4.1.length : Int) : Int) != 5))) rfl (by rw [h11]; simp only [Bool.false_or]) ?_
    refine sxo_nil ?_
    exact sxq_case (lk_cons rfl (lk_cons rfl (lk_cons rfl (lk_cons rfl lk_nil))))
  refine sxo_take (os := _) rfl ?_
  refine sxo_nil ?_
  refine sxq_next ?_
  refine sxc_if rfl (fun h87 => ?_) (fun h87 => ?_)
  · refine sxc_seq ?_
    refine sxc_region ?_
    refine sxo_assign rfl rfl rfl ?_
    refine sxo_nil ?_
    refine sxq_next ?_
    refine sxc_ret ?_
    refine sxq_thenR ?_
    exact sxq_doneP () (.inl rfl) (res1 rfl rfl) (fun h => by subst h; rfl) (fun h => by subst h; exact .nil)
  · refine sxc_skip ?_
    refine sxq_next ?_
    refine sxc_seq ?_
    refine sxc_region ?_
    refine sxo_move rfl rfl rfl ?_
    refine sxo_call ent12 rfl rfl rfl (fun x12 e12 => C_kraft_Apart F x4.1 a5 c6 x12 e12) (.consG 0 rfl (nest_sl rN26_in) .nil) (fun x12 e12 => ?_)
    intro _
    refine sxo_move rfl rfl rfl ?_
    refine sxo_extract rfl rfl rfl rfl ?_
    refine sxo_extract rfl rfl rfl rfl ?_
    refine sxo_assign rfl rfl rfl ?_
    refine sxo_assign rfl rfl rfl ?_
    refine sxo_nil ?_
    refine sxq_next ?_
    refine sxc_seq ?_
    refine sxc_region ?_
    refine sxo_move rfl rfl rfl ?_
    refine sxo_slit (vs := [.int .u8 96]) (ys := ([96] : List Int)) (eI_ok .u8) (by decide) rfl Try.underlying24 tf5 rfl rfl rfl rfl rfl (by decide) (fun a13 c14 => ?_)
    refine sxo_build (cells := [.int .i64 4, .slice a13 ([96] : List Int).length c14]) rfl st26 rfl (by kernel_rfl) rfl ?_
    refine sxo_call ent13 rfl rfl rfl (fun x15 e15 => C_kraft_Sign F ([2, 0, 1, 3, 3] : List Int) a1 c2 4 ([96] : List Int) a13 c14 1 x15 e15) (.consR 2 (Ro (eI .i64) 3 1 (.slice a1 ([2, 0, 1, 3, 3] : List Int).length c2) ([2, 0, 1, 3, 3] : List Int)) rfl (.consR 0 (Ro (eI .u8) 5 1 (.slice a13 ([96] : List Int).length c14) ([96] : List Int)) rfl .nil)) (fun x15 e15 => ?_)
    intro _
    refine sxo_move rfl rfl rfl ?_
    refine sxo_extract rfl rfl rfl rfl ?_
    refine sxo_extract rfl rfl rfl rfl ?_
    refine sxo_extract rfl rfl rfl rfl ?_
    refine sxo_assign rfl rfl rfl ?_
    refine sxo_assign rfl rfl rfl ?_
    refine sxo_assign rfl rfl rfl ?_
    refine sxo_nil ?_
    refine sxq_next ?_
    refine sxc_seq ?_
    refine sxc_region ?_
    refine sxo_slit (vs := [.int .i64 1, .int .i64 1, .int .i64 1]) (ys := ([1, 1, 1] : List Int)) (eI_ok .i64) (by decide) rfl Try.underlying22 tf3 rfl rfl rfl rfl rfl (by decide) (fun a16 c17 => ?_)
    refine sxo_call ent11 rfl rfl rfl (fun x18 e18 => C_kraft_Codes F ([1, 1, 1] : List Int) a16 c17 x18 e18) (.consR 0 (Ro (eI .i64) 3 1 (.slice a16 ([1, 1, 1] : List Int).length c17) ([1, 1, 1] : List Int)) rfl .nil) (fun x18 e18 => ?_)
    rintro ⟨a19, c20⟩
    refine sxo_move rfl rfl rfl ?_
    refine sxo_extract rfl rfl rfl rfl ?_
    refine sxo_extract rfl rfl rfl rfl ?_
    refine sxo_assign rfl rfl rfl ?_
    refine sxo_assign rfl rfl rfl ?_
    refine sxo_nil ?_
    refine sxq_next ?_
    refine sxc_seq ?_
    refine sxc_region ?_
    refine sxo_slit (vs := [.int .i64 2]) (ys := ([2] : List Int)) (eI_ok .i64) (by decide) rfl Try.underlying22 tf3 rfl rfl rfl rfl rfl (by decide) (fun a21 c22 => ?_)
    refine sxo_slit (vs := [.int .u8 128]) (ys := ([128] : List Int)) (eI_ok .u8) (by decide) rfl Try.underlying24 tf5 rfl rfl rfl rfl rfl (by decide) (fun a23 c24 => ?_)
    refine sxo_build (cells := [.int .i64 1, .slice a23 ([128] : List Int).length c24]) rfl st26 rfl (by kernel_rfl) rfl ?_
    refine sxo_call ent13 rfl rfl rfl (fun x25 e25 => C_kraft_Sign F ([2] : List Int) a21 c22 1 ([128] : List Int) a23 c24 0 x25 e25) (.consR 1 (Ro (eI .i64) 3 1 (.slice a21 ([2] : List Int).length c22) ([2] : List Int)) rfl (.consR 0 (Ro (eI .u8) 5 1 (.slice a23 ([128] : List Int).length c24) ([128] : List Int)) rfl .nil)) (fun x25 e25 => ?_)
    intro _
    refine sxo_move rfl rfl rfl ?_
    refine sxo_extract rfl rfl rfl rfl ?_
    refine sxo_extract rfl rfl rfl rfl ?_
    refine sxo_extract rfl rfl rfl rfl ?_
    refine sxo_assign rfl rfl rfl ?_
    refine sxo_assign rfl rfl rfl ?_
    refine sxo_assign rfl rfl rfl ?_
    refine sxo_nil ?_
    refine sxq_next ?_
    refine sxc_seq ?_
    refine sxc_region ?_
    refine sxo_move rfl rfl rfl ?_
    refine sxo_eql rfl rfl rfl rfl ?_
    refine sxo_move rfl rfl rfl ?_
    refine sxo_join 7 (fun ((x35, _) : (Bool × Unit)) => [(4, .slice a5 x4.1.length c6.1), (6, .bool x12.1), (7, .int .i64 x12.2), (8, .int .i64 x15.1), (9, .int .i64 x15.2.1), (10, .int .i64 x15.2.2), (12, .int .i64 x18.2), (15, .int .i64 x25.2.2), (73, .bool x35)]) (fun ((x35, _) : (Bool × Unit)) => []) (fun ((x35, _) : (Bool × Unit)) => [RoN eN26 rN26 26 2 (.slice a5 x4.1.length c6.1) x4.1 c6.2 []]) (fun ((x35, _) : (Bool × Unit)) => []) (fun ((x35, _) : (Bool × Unit)) => M_L_kraftBegun_j1 F x4 x12 x15 x18 x25 x35) ?_ ?_
    · refine sxo_take (os := _) rfl ?_
      refine sxo_if (fun h26 => ?_) (fun h26 => ?_)
      · refine sxo_isT (k := 66) rfl h26 ?_
        refine sxo_move rfl rfl rfl ?_
        refine sxo_idxP (j := 5) rfl Try.underlying23 tf26 rfl rfl rfl rfl (fun x79 e79 g80 h81 g82 h83 => ?_)
        refine sxo_openN (i := 5) rfl h81 (List.not_mem_nil) ?_
        refine sxo_loadN0 (j := 1) (p := (x79, g80)) eN26_ok rfl rfl tf26 rfl h83 h81 rfl (by simp) rfl rfl ?_
        refine sxo_slit (vs := [.int .u8 128]) (ys := ([128] : List Int)) (eI_ok .u8) (by decide) rfl Try.underlying24 tf5 rfl rfl rfl rfl rfl (by decide) (fun a84 c85 => ?_)
        refine sxo_build (cells := [.int .i64 2, .slice a84 ([128] : List Int).length c85]) rfl st26 rfl (by kernel_rfl) rfl ?_
        refine sxo_call ent21 rfl rfl rfl (fun x86 e86 => C_R_SameBits F x79.1 x79.2 g80.1 g80.2 2 ([128] : List Int) a84 c85 x86 e86) (.consR 1 (Ro (eI .u8) 5 1 (.slice g80.1 x79.2.length g80.2) x79.2) rfl (.consR 0 (Ro (eI .u8) 5 1 (.slice a84 ([128] : List Int).length c85) ([128] : List Int)) rfl .nil)) (fun x86 e86 => ?_)
        intro _
        refine sxo_pick (b := true) rfl rfl rfl rfl ?_
        refine sxo_nil ?_
        refine sxq_closeN (rin := rN26) (p := (x79, g80)) (i := 1) (k := 0) (.cons 1 rfl .nil) rfl rfl h81 ?_
        exact sxq_meetP (x86, ()) (lk_cons rfl (lk_cons rfl (lk_cons rfl (lk_cons rfl (lk_cons rfl (lk_cons rfl (lk_cons rfl (lk_cons rfl (lk_cons rfl lk_nil))))))))) .nil (.cons 0 rfl .nil) fk_nil
      · refine sxo_isF (k := 66) rfl h26 ?_
        refine sxo_skip rfl rfl rfl ?_
        refine sxo_skip rfl rfl rfl ?_
        refine sxo_skip rfl rfl rfl ?_
        refine sxo_skip rfl rfl rfl ?_
        refine sxo_skip rfl rfl rfl ?_
        refine sxo_skip rfl rfl rfl ?_
        refine sxo_pick (b := false) rfl rfl rfl rfl ?_
        refine sxo_nil ?_
        exact sxq_meetP (false, ()) (lk_cons rfl (lk_cons rfl (lk_cons rfl (lk_cons rfl (lk_cons rfl (lk_cons rfl (lk_cons rfl (lk_cons rfl (lk_cons rfl lk_nil))))))))) .nil (.cons 5 rfl .nil) fk_nil
    · rintro ⟨x35, _⟩
      try dsimp only
      refine sxo_take (os := _) rfl ?_
      refine sxo_move rfl rfl rfl ?_
      refine sxo_join 7 (fun ((x45, _) : (Bool × Unit)) => [(4, .slice a5 x4.1.length c6.1), (6, .bool x12.1), (7, .int .i64 x12.2), (8, .int .i64 x15.1), (9, .int .i64 x15.2.1), (10, .int .i64 x15.2.2), (12, .int .i64 x18.2), (15, .int .i64 x25.2.2), (81, .bool x45)]) (fun ((x45, _) : (Bool × Unit)) => []) (fun ((x45, _) : (Bool × Unit)) => [RoN eN26 rN26 26 2 (.slice a5 x4.1.length c6.1) x4.1 c6.2 []]) (fun ((x45, _) : (Bool × Unit)) => []) (fun ((x45, _) : (Bool × Unit)) => M_L_kraftBegun_j2 F x4 x12 x15 x18 x25 x45) ?_ ?_
      · refine sxo_take (os := _) rfl ?_
        refine sxo_if (fun h36 => ?_) (fun h36 => ?_)
        · refine sxo_isT (k := 74) rfl h36 ?_
          refine sxo_move rfl rfl rfl ?_
          refine sxo_idxP (j := 0) rfl Try.underlying23 tf26 rfl rfl rfl rfl (fun x71 e71 g72 h73 g74 h75 => ?_)
          refine sxo_openN (i := 0) rfl h73 (List.not_mem_nil) ?_
          refine sxo_loadN0 (j := 1) (p := (x71, g72)) eN26_ok rfl rfl tf26 rfl h75 h73 rfl (by simp) rfl rfl ?_
          refine sxo_slit (vs := [.int .u8 0]) (ys := ([0] : List Int)) (eI_ok .u8) (by decide) rfl Try.underlying24 tf5 rfl rfl rfl rfl rfl (by decide) (fun a76 c77 => ?_)
          refine sxo_build (cells := [.int .i64 1, .slice a76 ([0] : List Int).length c77]) rfl st26 rfl (by kernel_rfl) rfl ?_
          refine sxo_call ent21 rfl rfl rfl (fun x78 e78 => C_R_SameBits F x71.1 x71.2 g72.1 g72.2 1 ([0] : List Int) a76 c77 x78 e78) (.consR 1 (Ro (eI .u8) 5 1 (.slice g72.1 x71.2.length g72.2) x71.2) rfl (.consR 0 (Ro (eI .u8) 5 1 (.slice a76 ([0] : List Int).length c77) ([0] : List Int)) rfl .nil)) (fun x78 e78 => ?_)
          intro _
          refine sxo_pick (b := true) rfl rfl rfl rfl ?_
          refine sxo_nil ?_
          refine sxq_closeN (rin := rN26) (p := (x71, g72)) (i := 1) (k := 0) (.cons 1 rfl .nil) rfl rfl h73 ?_
          exact sxq_meetP (x78, ()) (lk_cons rfl (lk_cons rfl (lk_cons rfl (lk_cons rfl (lk_cons rfl (lk_cons rfl (lk_cons rfl (lk_cons rfl (lk_cons rfl lk_nil))))))))) .nil (.cons 0 rfl .nil) fk_nil
        · refine sxo_isF (k := 74) rfl h36 ?_
          refine sxo_skip rfl rfl rfl ?_
          refine sxo_skip rfl rfl rfl ?_
          refine sxo_skip rfl rfl rfl ?_
          refine sxo_skip rfl rfl rfl ?_
          refine sxo_skip rfl rfl rfl ?_
          refine sxo_skip rfl rfl rfl ?_
          refine sxo_pick (b := false) rfl rfl rfl rfl ?_
          refine sxo_nil ?_
          exact sxq_meetP (false, ()) (lk_cons rfl (lk_cons rfl (lk_cons rfl (lk_cons rfl (lk_cons rfl (lk_cons rfl (lk_cons rfl (lk_cons rfl (lk_cons rfl lk_nil))))))))) .nil (.cons 0 rfl .nil) fk_nil
      · rintro ⟨x45, _⟩
        try dsimp only
        refine sxo_take (os := _) rfl ?_
        refine sxo_move rfl rfl rfl ?_
        refine sxo_join 7 (fun ((x55, _) : (Bool × Unit)) => [(6, .bool x12.1), (7, .int .i64 x12.2), (8, .int .i64 x15.1), (9, .int .i64 x15.2.1), (10, .int .i64 x15.2.2), (12, .int .i64 x18.2), (15, .int .i64 x25.2.2), (89, .bool x55)]) (fun ((x55, _) : (Bool × Unit)) => []) (fun ((x55, _) : (Bool × Unit)) => []) (fun ((x55, _) : (Bool × Unit)) => []) (fun ((x55, _) : (Bool × Unit)) => M_L_kraftBegun_j3 F x12 x15 x18 x25 x55) ?_ ?_
        · refine sxo_take (os := _) rfl ?_
          refine sxo_if (fun h46 => ?_) (fun h46 => ?_)
          · refine sxo_isT (k := 82) rfl h46 ?_
            refine sxo_move rfl rfl rfl ?_
            refine sxo_idxP (j := 0) rfl Try.underlying23 tf26 rfl rfl rfl rfl (fun x63 e63 g64 h65 g66 h67 => ?_)
            refine sxo_openN (i := 0) rfl h65 (List.not_mem_nil) ?_
            refine sxo_loadN0 (j := 1) (p := (x63, g64)) eN26_ok rfl rfl tf26 rfl h67 h65 rfl (by simp) rfl rfl ?_
            refine sxo_slit (vs := [.int .u8 224]) (ys := ([224] : List Int)) (eI_ok .u8) (by decide) rfl Try.underlying24 tf5 rfl rfl rfl rfl rfl (by decide) (fun a68 c69 => ?_)
            refine sxo_build (cells := [.int .i64 3, .slice a68 ([224] : List Int).length c69]) rfl st26 rfl (by kernel_rfl) rfl ?_
            refine sxo_call ent21 rfl rfl rfl (fun x70 e70 => C_R_SameBits F x63.1 x63.2 g64.1 g64.2 3 ([224] : List Int) a68 c69 x70 e70) (.consR 1 (Ro (eI .u8) 5 1 (.slice g64.1 x63.2.length g64.2) x63.2) rfl (.consR 0 (Ro (eI .u8) 5 1 (.slice a68 ([224] : List Int).length c69) ([224] : List Int)) rfl .nil)) (fun x70 e70 => ?_)
            intro _
            refine sxo_pick (b := true) rfl rfl rfl rfl ?_
            refine sxo_nil ?_
            refine sxq_closeN (rin := rN26) (p := (x63, g64)) (i := 1) (k := 0) (.cons 1 rfl .nil) rfl rfl h65 ?_
            exact sxq_meetP (x70, ()) (lk_cons rfl (lk_cons rfl (lk_cons rfl (lk_cons rfl (lk_cons rfl (lk_cons rfl (lk_cons rfl (lk_cons rfl lk_nil)))))))) .nil .nil fk_nil
          · refine sxo_isF (k := 82) rfl h46 ?_
            refine sxo_skip rfl rfl rfl ?_
            refine sxo_skip rfl rfl rfl ?_
            refine sxo_skip rfl rfl rfl ?_
            refine sxo_skip rfl rfl rfl ?_
            refine sxo_skip rfl rfl rfl ?_
            refine sxo_skip rfl rfl rfl ?_
            refine sxo_pick (b := false) rfl rfl rfl rfl ?_
            refine sxo_nil ?_
            exact sxq_meetP (false, ()) (lk_cons rfl (lk_cons rfl (lk_cons rfl (lk_cons rfl (lk_cons rfl (lk_cons rfl (lk_cons rfl (lk_cons rfl lk_nil)))))))) .nil .nil fk_nil
        · rintro ⟨x55, _⟩
          try dsimp only
          refine sxo_take (os := _) rfl ?_
          refine sxo_move rfl rfl rfl ?_
          refine sxo_case 2 x55 [(7, .int .i64 x12.2), (8, .int .i64 x15.1), (9, .int .i64 x15.2.1), (10, .int .i64 x15.2.2), (12, .int .i64 x18.2), (15, .int .i64 x25.2.2), (92, .bool (x55 && x12.1))] (fun h56 => ?_) (fun h56 => ?_) ?_
          · refine sxo_take (os := _) rfl ?_
            refine sxo_isT (k := 90) rfl h56 ?_
            refine sxo_move rfl rfl rfl ?_
            refine sxo_pick (b := true) rfl rfl rfl rfl ?_
            refine sxo_again (d := 92) (v := .bool (x55 && x12.1)) rfl (by rw [h56]; simp only [Bool.true_and]) ?_
            refine sxo_nil ?_
            exact sxq_case (lk_cons rfl (lk_cons rfl (lk_cons rfl (lk_cons rfl (lk_cons rfl (lk_cons rfl (lk_cons rfl lk_nil)))))))
          · refine sxo_take (os := _) rfl ?_
            refine sxo_isF (k := 90) rfl h56 ?_
            refine sxo_skip rfl rfl rfl ?_
            refine sxo_pick (b := false) rfl rfl rfl rfl ?_
            refine sxo_again (d := 92) (v := .bool (x55 && x12.1)) rfl (by rw [h56]; simp only [Bool.false_and]) ?_
            refine sxo_nil ?_
            exact sxq_case (lk_cons rfl (lk_cons rfl (lk_cons rfl (lk_cons rfl (lk_cons rfl (lk_cons rfl (lk_cons rfl lk_nil)))))))
          refine sxo_take (os := _) rfl ?_
          refine sxo_move rfl rfl rfl ?_
          refine sxo_case 3 (x55 && x12.1) [(8, .int .i64 x15.1), (9, .int .i64 x15.2.1), (10, .int .i64 x15.2.2), (12, .int .i64 x18.2), (15, .int .i64 x25.2.2), (96, .bool ((x55 && x12.1) && ((x12.2 : Int) == 0)))] (fun h57 => ?_) (fun h57 => ?_) ?_
          · refine sxo_take (os := _) rfl ?_
            refine sxo_isT (k := 93) rfl h57 ?_
            refine sxo_move rfl rfl rfl ?_
            refine sxo_eql rfl rfl rfl rfl ?_
            refine sxo_pick (b := true) rfl rfl rfl rfl ?_
            refine sxo_again (d := 96) (v := .bool ((x55 && x12.1) && ((x12.2 : Int) == 0))) rfl (by rw [h57]; simp only [Bool.true_and]) ?_
            refine sxo_nil ?_
            exact sxq_case (lk_cons rfl (lk_cons rfl (lk_cons rfl (lk_cons rfl (lk_cons rfl (lk_cons rfl lk_nil))))))
          · refine sxo_take (os := _) rfl ?_
            refine sxo_isF (k := 93) rfl h57 ?_
            refine sxo_skip rfl rfl rfl ?_
            refine sxo_skip rfl rfl rfl ?_
            refine sxo_pick (b := false) rfl rfl rfl rfl ?_
            refine sxo_again (d := 96) (v := .bool ((x55 && x12.1) && ((x12.2 : Int) == 0))) rfl (by rw [h57]; simp only [Bool.false_and]) ?_
            refine sxo_nil ?_
            exact sxq_case (lk_cons rfl (lk_cons rfl (lk_cons rfl (lk_cons rfl (lk_cons rfl (lk_cons rfl lk_nil))))))
          refine sxo_take (os := _) rfl ?_
          refine sxo_move rfl rfl rfl ?_
          refine sxo_case 3 ((x55 && x12.1) && ((x12.2 : Int) == 0)) [(9, .int .i64 x15.2.1), (10, .int .i64 x15.2.2), (12, .int .i64 x18.2), (15, .int .i64 x25.2.2), (100, .bool (((x55 && x12.1) && ((x12.2 : Int) == 0)) && ((x15.1 : Int) == 3)))] (fun h58 => ?_) (fun h58 => ?_) ?_
          · refine sxo_take (os := _) rfl ?_
            refine sxo_isT (k := 97) rfl h58 ?_
            refine sxo_move rfl rfl rfl ?_
            refine sxo_eql rfl rfl rfl rfl ?_
            refine sxo_pick (b := true) rfl rfl rfl rfl ?_
            refine sxo_again (d := 100) (v := .bool (((x55 && x12.1) && ((x12.2 : Int) == 0)) && ((x15.1 : Int) == 3))) rfl (by rw [h58]; simp only [Bool.true_and]) ?_
            refine sxo_nil ?_
            exact sxq_case (lk_cons rfl (lk_cons rfl (lk_cons rfl (lk_cons rfl (lk_cons rfl lk_nil)))))
          · refine sxo_take (os := _) rfl ?_
            refine sxo_isF (k := 97) rfl h58 ?_
            refine sxo_skip rfl rfl rfl ?_
            refine sxo_skip rfl rfl rfl ?_
            refine sxo_pick (b := false) rfl rfl rfl rfl ?_
            refine sxo_again (d := 100) (v := .bool (((x55 && x12.1) && ((x12.2 : Int) == 0)) && ((x15.1 : Int) == 3))) rfl (by rw [h58]; simp only [Bool.false_and]) ?_
            refine sxo_nil ?_
            exact sxq_case (lk_cons rfl (lk_cons rfl (lk_cons rfl (lk_cons rfl (lk_cons rfl lk_nil)))))
          refine sxo_take (os := _) rfl ?_
          refine sxo_move rfl rfl rfl ?_
          refine sxo_case 3 (((x55 && x12.1) && ((x12.2 : Int) == 0)) && ((x15.1 : Int) == 3)) [(10, .int .i64 x15.2.2), (12, .int .i64 x18.2), (15, .int .i64 x25.2.2), (104, .bool ((((x55 && x12.1) && ((x12.2 : Int) == 0)) && ((x15.1 : Int) == 3)) && ((x15.2.1 : Int) == 4)))] (fun h59 => ?_) (fun h59 => ?_) ?_
          · refine sxo_take (os := _) rfl ?_
            refine sxo_isT (k := 101) rfl h59 ?_
            refine sxo_move rfl rfl rfl ?_
            refine sxo_eql rfl rfl rfl rfl ?_
            refine sxo_pick (b := true) rfl rfl rfl rfl ?_
            refine sxo_again (d := 104) (v := .bool ((((x55 && x12.1) && ((x12.2 : Int) == 0)) && ((x15.1 : Int) == 3)) && ((x15.2.1 : Int) == 4))) rfl (by rw [h59]; simp only [Bool.true_and]) ?_
            refine sxo_nil ?_
            exact sxq_case (lk_cons rfl (lk_cons rfl (lk_cons rfl (lk_cons rfl lk_nil))))
          · refine sxo_take (os := _) rfl ?_
            refine sxo_isF (k := 101) rfl h59 ?_
            refine sxo_skip rfl rfl rfl ?_
            refine sxo_skip rfl rfl rfl ?_
            refine sxo_pick (b := false) rfl rfl rfl rfl ?_
            refine sxo_again (d := 104) (v := .bool ((((x55 && x12.1) && ((x12.2 : Int) == 0)) && ((x15.1 : Int) == 3)) && ((x15.2.1 : Int) == 4))) rfl (by rw [h59]; simp only [Bool.false_and]) ?_
            refine sxo_nil ?_
            exact sxq_case (lk_cons rfl (lk_cons rfl (lk_cons rfl (lk_cons rfl lk_nil))))
          refine sxo_take (os := _) rfl ?_
          refine sxo_move rfl rfl rfl ?_
          refine sxo_case 3 ((((x55 && x12.1) && ((x12.2 : Int) == 0)) && ((x15.1 : Int) == 3)) && ((x15.2.1 : Int) == 4)) [(12, .int .i64 x18.2), (15, .int .i64 x25.2.2), (108, .bool (((((x55 && x12.1) && ((x12.2 : Int) == 0)) && ((x15.1 : Int) == 3)) && ((x15.2.1 : Int) == 4)) && ((x15.2.2 : Int) == 0)))] (fun h60 => ?_) (fun h60 => ?_) ?_
          · refine sxo_take (os := _) rfl ?_
            refine sxo_isT (k := 105) rfl h60 ?_
            refine sxo_move rfl rfl rfl ?_
            refine sxo_eql rfl rfl rfl rfl ?_
            refine sxo_pick (b := true) rfl rfl rfl rfl ?_
            refine sxo_again (d := 108) (v := .bool (((((x55 && x12.1) && ((x12.2 : Int) == 0)) && ((x15.1 : Int) == 3)) && ((x15.2.1 : Int) == 4)) && ((x15.2.2 : Int) == 0))) rfl (by rw [h60]; simp only [Bool.true_and]) ?_
            refine sxo_nil ?_
            exact sxq_case (lk_cons rfl (lk_cons rfl (lk_cons rfl lk_nil)))
          · refine sxo_take (os := _) rfl ?_
            refine sxo_isF (k := 105) rfl h60 ?_
            refine sxo_skip rfl rfl rfl ?_
            refine sxo_skip rfl rfl rfl ?_
            refine sxo_pick (b := false) rfl rfl rfl rfl ?_
            refine sxo_again (d := 108) (v := .bool (((((x55 && x12.1) && ((x12.2 : Int) == 0)) && ((x15.1 : Int) == 3)) && ((x15.2.1 : Int) == 4)) && ((x15.2.2 : Int) == 0))) rfl (by rw [h60]; simp only [Bool.false_and]) ?_
            refine sxo_nil ?_
            exact sxq_case (lk_cons rfl (lk_cons rfl (lk_cons rfl lk_nil)))
          refine sxo_take (os := _) rfl ?_
          refine sxo_move rfl rfl rfl ?_
          refine sxo_case 3 (((((x55 && x12.1) && ((x12.2 : Int) == 0)) && ((x15.1 : Int) == 3)) && ((x15.2.1 : Int) == 4)) && ((x15.2.2 : Int) == 0)) [(15, .int .i64 x25.2.2), (112, .bool ((((((x55 && x12.1) && ((x12.2 : Int) == 0)) && ((x15.1 : Int) == 3)) && ((x15.2.1 : Int) == 4)) && ((x15.2.2 : Int) == 0)) && ((x18.2 : Int) == 8)))] (fun h61 => ?_) (fun h61 => ?_) ?_
          · refine sxo_take (os := _) rfl ?_
            refine sxo_isT (k := 109) rfl h61 ?_
            refine sxo_move rfl rfl rfl ?_
            refine sxo_eql rfl rfl rfl rfl ?_
            refine sxo_pick (b := true) rfl rfl rfl rfl ?_
            refine sxo_again (d := 112) (v := .bool ((((((x55 && x12.1) && ((x12.2 : Int) == 0)) && ((x15.1 : Int) == 3)) && ((x15.2.1 : Int) == 4)) && ((x15.2.2 : Int) == 0)) && ((x18.2 : Int) == 8))) rfl (by rw [h61]; simp only [Bool.true_and]) ?_
            refine sxo_nil ?_
            exact sxq_case (lk_cons rfl (lk_cons rfl lk_nil))
          · refine sxo_take (os := _) rfl ?_
            refine sxo_isF (k := 109) rfl h61 ?_
            refine sxo_skip rfl rfl rfl ?_
            refine sxo_skip rfl rfl rfl ?_
            refine sxo_pick (b := false) rfl rfl rfl rfl ?_
            refine sxo_again (d := 112) (v := .bool ((((((x55 && x12.1) && ((x12.2 : Int) == 0)) && ((x15.1 : Int) == 3)) && ((x15.2.1 : Int) == 4)) && ((x15.2.2 : Int) == 0)) && ((x18.2 : Int) == 8))) rfl (by rw [h61]; simp only [Bool.false_and]) ?_
            refine sxo_nil ?_
            exact sxq_case (lk_cons rfl (lk_cons rfl lk_nil))
          refine sxo_take (os := _) rfl ?_
          refine sxo_move rfl rfl rfl ?_
          refine sxo_case 3 ((((((x55 && x12.1) && ((x12.2 : Int) == 0)) && ((x15.1 : Int) == 3)) && ((x15.2.1 : Int) == 4)) && ((x15.2.2 : Int) == 0)) && ((x18.2 : Int) == 8)) [(116, .bool (((((((x55 && x12.1) && ((x12.2 : Int) == 0)) && ((x15.1 : Int) == 3)) && ((x15.2.1 : Int) == 4)) && ((x15.2.2 : Int) == 0)) && ((x18.2 : Int) == 8)) && ((x25.2.2 : Int) == 5)))] (fun h62 => ?_) (fun h62 => ?_) ?_
          · refine sxo_take (os := _) rfl ?_
            refine sxo_isT (k := 113) rfl h62 ?_
            refine sxo_move rfl rfl rfl ?_
            refine sxo_eql rfl rfl rfl rfl ?_
            refine sxo_pick (b := true) rfl rfl rfl rfl ?_
            refine sxo_again (d := 116) (v := .bool (((((((x55 && x12.1) && ((x12.2 : Int) == 0)) && ((x15.1 : Int) == 3)) && ((x15.2.1 : Int) == 4)) && ((x15.2.2 : Int) == 0)) && ((x18.2 : Int) == 8)) && ((x25.2.2 : Int) == 5))) rfl (by rw [h62]; simp only [Bool.true_and]) ?_
            refine sxo_nil ?_
            exact sxq_case (lk_cons rfl lk_nil)
          · refine sxo_take (os := _) rfl ?_
            refine sxo_isF (k := 113) rfl h62 ?_
            refine sxo_skip rfl rfl rfl ?_
            refine sxo_skip rfl rfl rfl ?_
            refine sxo_pick (b := false) rfl rfl rfl rfl ?_
            refine sxo_again (d := 116) (v := .bool (((((((x55 && x12.1) && ((x12.2 : Int) == 0)) && ((x15.1 : Int) == 3)) && ((x15.2.1 : Int) == 4)) && ((x15.2.2 : Int) == 0)) && ((x18.2 : Int) == 8)) && ((x25.2.2 : Int) == 5))) rfl (by rw [h62]; simp only [Bool.false_and]) ?_
            refine sxo_nil ?_
            exact sxq_case (lk_cons rfl lk_nil)
          refine sxo_take (os := _) rfl ?_
          refine sxo_assign rfl rfl rfl ?_
          refine sxo_nil ?_
          refine sxq_next ?_
          refine sxc_ret ?_
          exact sxq_doneP () (.inl rfl) (res1 rfl rfl) (fun h => by subst h; rfl) (fun h => by subst h; exact .nil)

set_option maxHeartbeats 4000000 in
theorem C_L_KraftTells (F : Nat) (x1 : List Int) (a2 : Option Addr) (c3 : Nat) (x4 : List (Int × List Int)) (a5 : Option Addr) (c6 : (Nat × List (Option Addr × Nat))) (x7 : Int) (x8 : List Int) (a9 : Option Addr) (c10 : Nat) (x11 : Int) (r : Bool) (hm : M_L_KraftTells F x1 x4 x7 x8 x11 = some r) :
    Pure Try.prog 3 [.slice a2 x1.length c3, .slice a5 x4.length c6.1, .agg #[.int .i64 x7, .slice a9 x8.length c10], .int .i64 x11] [Sl (eI .i64) 1 (.slice a2 x1.length c3) x1, SlN eN26 iN26 2 (.slice a5 x4.length c6.1) x4 c6.2, Sl (eI .u8) 1 (.slice a9 x8.length c10) x8] Unit (fun _ => .bool r) (fun _ => []) (fun _ => []) := by
  refine pure_of Try.func3 rfl Try.ntmps3 rfl hm (fun w => ?_)
  refine sxc_env (l' := [(0, .slice a2 x1.length c3), (1, .slice a5 x4.length c6.1), (2, .agg #[.int .i64 x7, .slice a9 x8.length c10]), (3, .int .i64 x11)]) rfl ?_
  refine sxc_seq ?_
  refine sxc_region ?_
  refine sxo_box rfl rfl rfl (fun g12 => ?_)
  refine sxo_assign rfl rfl rfl ?_
  refine sxo_nil ?_
  refine sxq_next ?_
  refine sxc_seq ?_
  refine sxc_region ?_
  refine sxo_move rfl rfl rfl ?_
  refine sxo_call ent10 rfl rfl rfl (fun x13 e13 => C_kraft_Room F x1 a2 c3 x13 e13) (.consF 0 rfl .nil) (fun x13 e13 => ?_)
  intro _
  refine sxo_move rfl rfl rfl ?_
  refine sxo_extract rfl rfl rfl rfl ?_
  refine sxo_extract rfl rfl rfl rfl ?_
  refine sxo_assign rfl rfl rfl ?_
  refine sxo_assign rfl rfl rfl ?_
  refine sxo_nil ?_
  refine sxq_next ?_
  refine sxc_seq ?_
  refine sxc_region ?_
  refine sxo_move rfl rfl rfl ?_
  refine sxo_call ent11 rfl rfl rfl (fun x14 e14 => C_kraft_Codes F x1 a2 c3 x14 e14) (.consF 0 rfl .nil) (fun x14 e14 => ?_)
  rintro ⟨a15, c16⟩
  refine sxo_move rfl rfl rfl ?_
  refine sxo_extract rfl rfl rfl rfl ?_
  refine sxo_extract rfl rfl rfl rfl ?_
  refine sxo_assign rfl rfl rfl ?_
  refine sxo_assign rfl rfl rfl ?_
  refine sxo_nil ?_
  refine sxq_next ?_
  refine sxc_seq ?_
  refine sxc_region ?_
  refine sxo_move rfl rfl rfl ?_
  refine sxo_call ent12 rfl rfl rfl (fun x17 e17 => C_kraft_Apart F x4 a5 c6 x17 e17) (.consF 1 rfl .nil) (fun x17 e17 => ?_)
  intro _
  refine sxo_move rfl rfl rfl ?_
  refine sxo_extract rfl rfl rfl rfl ?_
  refine sxo_extract rfl rfl rfl rfl ?_
  refine sxo_assign rfl rfl rfl ?_
  refine sxo_assign rfl rfl rfl ?_
  refine sxo_nil ?_
  refine sxq_next ?_
  refine sxc_seq ?_
  refine sxc_region ?_
  refine sxo_move rfl rfl rfl ?_
  refine sxo_loadB (i := 0) rfl rfl tf26 rfl rfl (by simp) rfl rfl ?_
  refine sxo_move rfl rfl rfl ?_
  refine sxo_call ent13 rfl rfl rfl (fun x18 e18 => C_kraft_Sign F x1 a2 c3 x7 x8 a9 c10 x11 x18 e18) (.consF 0 rfl (.consF 2 rfl .nil)) (fun x18 e18 => ?_)
  intro _
  refine sxo_move rfl rfl rfl ?_
  refine sxo_extract rfl rfl rfl rfl ?_
  refine sxo_extract rfl rfl rfl rfl ?_
  refine sxo_extract rfl rfl rfl rfl ?_
  refine sxo_assign rfl rfl rfl ?_
  refine sxo_assign rfl rfl rfl ?_
  refine sxo_assign rfl rfl rfl ?_
  refine sxo_nil ?_
  refine sxq_next ?_
  refine sxc_seq ?_
  refine sxc_region ?_
  refine sxo_move rfl rfl rfl ?_
  refine sxo_call ent14 rfl rfl rfl (fun x19 e19 => C_R_KraftCheck F x1 a2 c3 x19 e19) (.consF 0 rfl .nil) (fun x19 e19 => ?_)
  intro _
  refine sxo_assign rfl rfl rfl ?_
  refine sxo_assign rfl rfl rfl ?_
  refine sxo_nil ?_
  refine sxq_next ?_
  refine sxc_join (fun ((x22, _) : (Int × Unit)) => [(0, .slice a2 x1.length c3), (1, .slice a5 x4.length c6.1), (3, .int .i64 x11), (6, .pointer (some ⟨g12, 0, none⟩)), (9, .int .i64 x13.1), (10, .int .i64 x13.2), (11, .slice a15 x14.1.length c16.1), (12, .int .i64 x14.2), (13, .bool x17.1), (14, .int .i64 x17.2), (15, .int .i64 x18.1), (16, .int .i64 x18.2.1), (17, .int .i64 x18.2.2), (18, .int .i64 x19), (19, .int .i64 x22)]) (fun ((x22, _) : (Int × Unit)) => [⟨g12, 26, [.int .i64 x7, .slice a9 x8.length c10]⟩]) (fun ((x22, _) : (Int × Unit)) => [RoN eN26 rN26 26 2 (.slice a15 x14.1.length c16.1) x14.1 c16.2 []]) (fun ((x22, _) : (Int × Unit)) => [Sl (eI .i64) 1 (.slice a2 x1.length c3) x1, SlN eN26 iN26 2 (.slice a5 x4.length c6.1) x4 c6.2, Sl (eI .u8) 1 (.slice a9 x8.length c10) x8]) (fun ((x22, _) : (Int × Unit)) => M_L_KraftTells_j1 F x1 x4 x7 x8 x11 x13 x14 x17 x18 x19 x22) ?_ ?_
  · refine sxc_seq ?_
    refine sxc_region ?_
    refine sxo_move rfl rfl rfl ?_
    refine sxo_eql rfl rfl rfl rfl ?_
    refine sxo_nil ?_
    refine sxq_next ?_
    refine sxc_if rfl (fun h399 => ?_) (fun h399 => ?_)
    · refine sxc_region ?_
      refine sxo_move rfl rfl rfl ?_
      refine sxo_call ent15 rfl rfl rfl (fun x398 e398 => C_R_KraftRoom F x1 a2 c3 x398 e398) (.consF 0 rfl .nil) (fun x398 e398 => ?_)
      intro _
      refine sxo_assign rfl rfl rfl ?_
      refine sxo_nil ?_
      exact sxq_meetP (x398, ()) (lk_cons rfl (lk_cons rfl (lk_cons rfl (lk_cons rfl (lk_cons rfl (lk_cons rfl (lk_cons rfl (lk_cons rfl (lk_cons rfl (lk_cons rfl (lk_cons rfl (lk_cons rfl (lk_cons rfl (lk_cons rfl (lk_cons rfl lk_nil))))))))))))))) (.cons 0 rfl .nil) (.cons 0 rfl .nil) (fk_cons 0 rfl (fk_cons 1 rfl (fk_cons 2 rfl fk_nil)))
    · refine sxc_skip ?_
      exact sxq_meetP (0, ()) (lk_cons rfl (lk_cons rfl (lk_cons rfl (lk_cons rfl (lk_cons rfl (lk_cons rfl (lk_cons rfl (lk_cons rfl (lk_cons rfl (lk_cons rfl (lk_cons rfl (lk_cons rfl (lk_cons rfl (lk_cons rfl (lk_cons rfl lk_nil))))))))))))))) (.cons 0 rfl .nil) (.cons 0 rfl .nil) (fk_cons 0 rfl (fk_cons 1 rfl (fk_cons 2 rfl fk_nil)))
  · rintro ⟨x22, _⟩
    try dsimp only
    refine sxc_seq ?_
    refine sxc_region ?_
    refine sxo_move rfl rfl rfl ?_
    refine sxo_call ent16 rfl rfl rfl (fun x23 e23 => C_R_KraftCodes F x1 a2 c3 x23 e23) (.consF 0 rfl .nil) (fun x23 e23 => ?_)
    rintro ⟨a24, c25⟩
    refine sxo_move rfl rfl rfl ?_
    refine sxo_extract rfl rfl rfl rfl ?_
    refine sxo_extract rfl rfl rfl rfl ?_
    refine sxo_assign rfl rfl rfl ?_
    refine sxo_assign rfl rfl rfl ?_
    refine sxo_nil ?_
    refine sxq_next ?_
    refine sxc_seq ?_
    refine sxc_region ?_
    refine sxo_move rfl rfl rfl ?_
    refine sxo_call ent17 rfl rfl rfl (fun x26 e26 => C_R_KraftApart F x4 a5 c6 x26 e26) (.consF 1 rfl .nil) (fun x26 e26 => ?_)
    intro _
    refine sxo_move rfl rfl rfl ?_
    refine sxo_extract rfl rfl rfl rfl ?_
    refine sxo_extract rfl rfl rfl rfl ?_
    refine sxo_assign rfl rfl rfl ?_
    refine sxo_assign rfl rfl rfl ?_
    refine sxo_nil ?_
    refine sxq_next ?_
    refine sxc_seq ?_
    refine sxc_region ?_
    refine sxo_move rfl rfl rfl ?_
    refine sxo_loadB (i := 0) rfl rfl tf26 rfl rfl (by simp) rfl rfl ?_
    refine sxo_move rfl rfl rfl ?_
    refine sxo_call ent18 rfl rfl rfl (fun x27 e27 => C_R_KraftSign F x1 a2 c3 x7 x8 a9 c10 x11 x27 e27) (.consF 0 rfl (.consF 2 rfl .nil)) (fun x27 e27 => ?_)
    intro _
    refine sxo_move rfl rfl rfl ?_
    refine sxo_extract rfl rfl rfl rfl ?_
    refine sxo_extract rfl rfl rfl rfl ?_
    refine sxo_extract rfl rfl rfl rfl ?_
    refine sxo_assign rfl rfl rfl ?_
    refine sxo_assign rfl rfl rfl ?_
    refine sxo_assign rfl rfl rfl ?_
    refine sxo_nil ?_
    refine sxq_next ?_
    refine sxc_seq ?_
    refine sxc_seq ?_
    refine sxc_region ?_
    refine sxo_call ent19 rfl rfl rfl (fun x43 e43 => C_L_kraftBegun F  x43 e43) .nil (fun x43 e43 => ?_)
    intro _
    refine sxo_not rfl rfl rfl ?_
    refine sxo_move rfl rfl rfl ?_
    refine sxo_join 5 (fun ((x46, _) : (Bool × Unit)) => [(9, .int .i64 x13.1), (10, .int .i64 x13.2), (11, .slice a15 x14.1.length c16.1), (12, .int .i64 x14.2), (13, .bool x17.1), (14, .int .i64 x17.2), (15, .int .i64 x18.1), (16, .int .i64 x18.2.1), (17, .int .i64 x18.2.2), (18, .int .i64 x19), (19, .int .i64 x22), (20, .slice a24 x23.1.length c25.1), (21, .int .i64 x23.2), (22, .bool x26.1), (23, .int .i64 x26.2), (24, .int .i64 x27.1), (25, .int .i64 x27.2.1), (26, .int .i64 x27.2.2), (82, .bool x46)]) (fun ((x46, _) : (Bool × Unit)) => []) (fun ((x46, _) : (Bool × Unit)) => [RoN eN26 rN26 26 2 (.slice a15 x14.1.length c16.1) x14.1 c16.2 [], RoN eN26 rN26 26 2 (.slice a24 x23.1.length c25.1) x23.1 c25.2 []]) (fun ((x46, _) : (Bool × Unit)) => []) (fun ((x46, _) : (Bool × Unit)) => M_L_KraftTells_j3 F x13 x14 x17 x18 x19 x22 x23 x26 x27 x46) ?_ ?_
    · refine sxo_take (os := _) rfl ?_
      refine sxo_if (fun h44 => ?_) (fun h44 => ?_)
      · refine sxo_isT (k := 77) rfl h44 ?_
        refine sxo_skip rfl rfl rfl ?_
        refine sxo_skip rfl rfl rfl ?_
        refine sxo_skip rfl rfl rfl ?_
        refine sxo_skip rfl rfl rfl ?_
        refine sxo_pick (b := true) rfl rfl rfl rfl ?_
        refine sxo_nil ?_
        exact sxq_meetP (true, ()) (lk_cons rfl (lk_cons rfl (lk_cons rfl (lk_cons rfl (lk_cons rfl (lk_cons rfl (lk_cons rfl (lk_cons rfl (lk_cons rfl (lk_cons rfl (lk_cons rfl (lk_cons rfl (lk_cons rfl (lk_cons rfl (lk_cons rfl (lk_cons rfl (lk_cons rfl (lk_cons rfl (lk_cons rfl lk_nil))))))))))))))))))) .nil (.cons 1 rfl (.cons 0 rfl .nil)) fk_nil
      · refine sxo_isF (k := 77) rfl h44 ?_
        refine sxo_move rfl rfl rfl ?_
        refine sxo_call ent20 rfl rfl rfl (fun x397 e397 => C_kraft_Check F x1 a2 c3 x397 e397) (.consF 0 rfl .nil) (fun x397 e397 => ?_)
        intro _
        refine sxo_move rfl rfl rfl ?_
        refine sxo_neq rfl rfl rfl rfl ?_
        refine sxo_pick (b := false) rfl rfl rfl rfl ?_
        refine sxo_nil ?_
        exact sxq_meetP (((x397 : Int) != x19), ()) (lk_cons rfl (lk_cons rfl (lk_cons rfl (lk_cons rfl (lk_cons rfl (lk_cons rfl (lk_cons rfl (lk_cons rfl (lk_cons rfl (lk_cons rfl (lk_cons rfl (lk_cons rfl (lk_cons rfl (lk_cons rfl (lk_cons rfl (lk_cons rfl (lk_cons rfl (lk_cons rfl (lk_cons rfl lk_nil))))))))))))))))))) .nil (.cons 1 rfl (.cons 0 rfl .nil)) fk_nil
    · rintro ⟨x46, _⟩
      try dsimp only
      refine sxo_take (os := _) rfl ?_
      refine sxo_move rfl rfl rfl ?_
      refine sxo_case 4 x46 [(10, .int .i64 x13.2), (11, .slice a15 x14.1.length c16.1), (12, .int .i64 x14.2), (13, .bool x17.1), (14, .int .i64 x17.2), (15, .int .i64 x18.1), (16, .int .i64 x18.2.1), (17, .int .i64 x18.2.2), (18, .int .i64 x19), (20, .slice a24 x23.1.length c25.1), (21, .int .i64 x23.2), (22, .bool x26.1), (23, .int .i64 x26.2), (24, .int .i64 x27.1), (25, .int .i64 x27.2.1), (26, .int .i64 x27.2.2), (87, .bool (x46 || ((x13.1 : Int) != x22)))] (fun h47 => ?_) (fun h47 => ?_) ?_
      · refine sxo_take (os := _) rfl ?_
        refine sxo_isT (k := 83) rfl h47 ?_
        refine sxo_skip rfl rfl rfl ?_
        refine sxo_skip rfl rfl rfl ?_
        refine sxo_skip rfl rfl rfl ?_
        refine sxo_pick (b := true) rfl rfl rfl rfl ?_
        refine sxo_again (d := 87) (v := .bool (x46 || ((x13.1 : Int) != x22))) rfl (by rw [h47]; simp only [Bool.true_or]) ?_
        refine sxo_nil ?_
        exact sxq_case (lk_cons rfl (lk_cons rfl (lk_cons rfl (lk_cons rfl (lk_cons rfl (lk_cons rfl (lk_cons rfl (lk_cons rfl (lk_cons rfl (lk_cons rfl (lk_cons rfl (lk_cons rfl (lk_cons rfl (lk_cons rfl (lk_cons rfl (lk_cons rfl (lk_cons rfl lk_nil)))))))))))))))))
      · refine sxo_take (os := _) rfl ?_
        refine sxo_isF (k := 83) rfl h47 ?_
        refine sxo_move rfl rfl rfl ?_
        refine sxo_move rfl rfl rfl ?_
        refine sxo_neq rfl rfl rfl rfl ?_
        refine sxo_pick (b := false) rfl rfl rfl rfl ?_
        refine sxo_again (d := 87) (v := .bool (x46 || ((x13.1 : Int) != x22))) rfl (by rw [h47]; simp only [Bool.false_or]) ?_
        refine sxo_nil ?_
        exact sxq_case (lk_cons rfl (lk_cons rfl (lk_cons rfl (lk_cons rfl (lk_cons rfl (lk_cons rfl (lk_cons rfl (lk_cons rfl (lk_cons rfl (lk_cons rfl (lk_cons rfl (lk_cons rfl (lk_cons rfl (lk_cons rfl (lk_cons rfl (lk_cons rfl (lk_cons rfl lk_nil)))))))))))))))))
      refine sxo_take (os := _) rfl ?_
      refine sxo_move rfl rfl rfl ?_
      refine sxo_case 4 (x46 || ((x13.1 : Int) != x22)) [(11, .slice a15 x14.1.length c16.1), (12, .int .i64 x14.2), (13, .bool x17.1), (14, .int .i64 x17.2), (15, .int .i64 x18.1), (16, .int .i64 x18.2.1), (17, .int .i64 x18.2.2), (20, .slice a24 x23.1.length c25.1), (21, .int .i64 x23.2), (22, .bool x26.1), (23, .int .i64 x26.2), (24, .int .i64 x27.1), (25, .int .i64 x27.2.1), (26, .int .i64 x27.2.2), (92, .bool ((x46 || ((x13.1 : Int) != x22)) || ((x13.2 : Int) != x19)))] (fun h48 => ?_) (fun h48 => ?_) ?_
      · refine sxo_take (os := _) rfl ?_
        refine sxo_isT (k := 88) rfl h48 ?_
        refine sxo_skip rfl rfl rfl ?_
        refine sxo_skip rfl rfl rfl ?_
        refine sxo_skip rfl rfl rfl ?_
        refine sxo_pick (b := true) rfl rfl rfl rfl ?_
        refine sxo_again (d := 92) (v := .bool ((x46 || ((x13.1 : Int) != x22)) || ((x13.2 : Int) != x19))) rfl (by rw [h48]; simp only [Bool.true_or]) ?_
        refine sxo_nil ?_
        exact sxq_case (lk_cons rfl (lk_cons rfl (lk_cons rfl (lk_cons rfl (lk_cons rfl (lk_cons rfl (lk_cons rfl (lk_cons rfl (lk_cons rfl (lk_cons rfl (lk_cons rfl (lk_cons rfl (lk_cons rfl (lk_cons rfl (lk_cons rfl lk_nil)))))))))))))))
      · refine sxo_take (os := _) rfl ?_
        refine sxo_isF (k := 88) rfl h48 ?_
        refine sxo_move rfl rfl rfl ?_
        refine sxo_move rfl rfl rfl ?_
        refine sxo_neq rfl rfl rfl rfl ?_
        refine sxo_pick (b := false) rfl rfl rfl rfl ?_
        refine sxo_again (d := 92) (v := .bool ((x46 || ((x13.1 : Int) != x22)) || ((x13.2 : Int) != x19))) rfl (by rw [h48]; simp only [Bool.false_or]) ?_
        refine sxo_nil ?_
        exact sxq_case (lk_cons rfl (lk_cons rfl (lk_cons rfl (lk_cons rfl (lk_cons rfl (lk_cons rfl (lk_cons rfl (lk_cons rfl (lk_cons rfl (lk_cons rfl (lk_cons rfl (lk_cons rfl (lk_cons rfl (lk_cons rfl (lk_cons rfl lk_nil)))))))))))))))
      refine sxo_take (os := _) rfl ?_
      refine sxo_move rfl rfl rfl ?_
      refine sxo_case 4 ((x46 || ((x13.1 : Int) != x22)) || ((x13.2 : Int) != x19)) [(11, .slice a15 x14.1.length c16.1), (13, .bool x17.1), (14, .int .i64 x17.2), (15, .int .i64 x18.1), (16, .int .i64 x18.2.1), (17, .int .i64 x18.2.2), (20, .slice a24 x23.1.length c25.1), (22, .bool x26.1), (23, .int .i64 x26.2), (24, .int .i64 x27.1), (25, .int .i64 x27.2.1), (26, .int .i64 x27.2.2), (97, .bool (((x46 || ((x13.1 : Int) != x22)) || ((x13.2 : Int) != x19)) || ((x14.2 : Int) != x23.2)))] (fun h49 => ?_) (fun h49 => ?_) ?_
      · refine sxo_take (os := _) rfl ?_
        refine sxo_isT (k := 93) rfl h49 ?_
        refine sxo_skip rfl rfl rfl ?_
        refine sxo_skip rfl rfl rfl ?_
        refine sxo_skip rfl rfl rfl ?_
        refine sxo_pick (b := true) rfl rfl rfl rfl ?_
        refine sxo_again (d := 97) (v := .bool (((x46 || ((x13.1 : Int) != x22)) || ((x13.2 : Int) != x19)) || ((x14.2 : Int) != x23.2))) rfl (by rw [h49]; simp only [Bool.true_or]) ?_
        refine sxo_nil ?_
        exact sxq_case (lk_cons rfl (lk_cons rfl (lk_cons rfl (lk_cons rfl (lk_cons rfl (lk_cons rfl (lk_cons rfl (lk_cons rfl (lk_cons rfl (lk_cons rfl (lk_cons rfl (lk_cons rfl (lk_cons rfl lk_nil)))))))))))))
      · refine sxo_take (os := _) rfl ?_
        refine sxo_isF (k := 93) rfl h49 ?_
        refine sxo_move rfl rfl rfl ?_
        refine sxo_move rfl rfl rfl ?_
        refine sxo_neq rfl rfl rfl rfl ?_
        refine sxo_pick (b := false) rfl rfl rfl rfl ?_
        refine sxo_again (d := 97) (v := .bool (((x46 || ((x13.1 : Int) != x22)) || ((x13.2 : Int) != x19)) || ((x14.2 : Int) != x23.2))) rfl (by rw [h49]; simp only [Bool.false_or]) ?_
        refine sxo_nil ?_
        exact sxq_case (lk_cons rfl (lk_cons rfl (lk_cons rfl (lk_cons rfl (lk_cons rfl (lk_cons rfl (lk_cons rfl (lk_cons rfl (lk_cons rfl (lk_cons rfl (lk_cons rfl (lk_cons rfl (lk_cons rfl lk_nil)))))))))))))
      refine sxo_take (os := _) rfl ?_
      refine sxo_move rfl rfl rfl ?_
      refine sxo_case 4 (((x46 || ((x13.1 : Int) != x22)) || ((x13.2 : Int) != x19)) || ((x14.2 : Int) != x23.2)) [(11, .slice a15 x14.1.length c16.1), (14, .int .i64 x17.2), (15, .int .i64 x18.1), (16, .int .i64 x18.2.1), (17, .int .i64 x18.2.2), (20, .slice a24 x23.1.length c25.1), (23, .int .i64 x26.2), (24, .int .i64 x27.1), (25, .int .i64 x27.2.1), (26, .int .i64 x27.2.2), (102, .bool ((((x46 || ((x13.1 : Int) != x22)) || ((x13.2 : Int) != x19)) || ((x14.2 : Int) != x23.2)) || (x17.1 != x26.1)))] (fun h50 => ?_) (fun h50 => ?_) ?_
      · refine sxo_take (os := _) rfl ?_
        refine sxo_isT (k := 98) rfl h50 ?_
        refine sxo_skip rfl rfl rfl ?_
        refine sxo_skip rfl rfl rfl ?_
        refine sxo_skip rfl rfl rfl ?_
        refine sxo_pick (b := true) rfl rfl rfl rfl ?_
        refine sxo_again (d := 102) (v := .bool ((((x46 || ((x13.1 : Int) != x22)) || ((x13.2 : Int) != x19)) || ((x14.2 : Int) != x23.2)) || (x17.1 != x26.1))) rfl (by rw [h50]; simp only [Bool.true_or]) ?_
        refine sxo_nil ?_
        exact sxq_case (lk_cons rfl (lk_cons rfl (lk_cons rfl (lk_cons rfl (lk_cons rfl (lk_cons rfl (lk_cons rfl (lk_cons rfl (lk_cons rfl (lk_cons rfl (lk_cons rfl lk_nil)))))))))))
      · refine sxo_take (os := _) rfl ?_
        refine sxo_isF (k := 98) rfl h50 ?_
        refine sxo_move rfl rfl rfl ?_
        refine sxo_move rfl rfl rfl ?_
        refine sxo_neb rfl Try.underlying4 rfl rfl rfl ?_
        refine sxo_pick (b := false) rfl rfl rfl rfl ?_
        refine sxo_again (d := 102) (v := .bool ((((x46 || ((x13.1 : Int) != x22)) || ((x13.2 : Int) != x19)) || ((x14.2 : Int) != x23.2)) || (x17.1 != x26.1))) rfl (by rw [h50]; simp only [Bool.false_or]) ?_
        refine sxo_nil ?_
        exact sxq_case (lk_cons rfl (lk_cons rfl (lk_cons rfl (lk_cons rfl (lk_cons rfl (lk_cons rfl (lk_cons rfl (lk_cons rfl (lk_cons rfl (lk_cons rfl (lk_cons rfl lk_nil)))))))))))
      refine sxo_take (os := _) rfl ?_
      refine sxo_move rfl rfl rfl ?_
      refine sxo_case 4 ((((x46 || ((x13.1 : Int) != x22)) || ((x13.2 : Int) != x19)) || ((x14.2 : Int) != x23.2)) || (x17.1 != x26.1)) [(11, .slice a15 x14.1.length c16.1), (15, .int .i64 x18.1), (16, .int .i64 x18.2.1), (17, .int .i64 x18.2.2), (20, .slice a24 x23.1.length c25.1), (24, .int .i64 x27.1), (25, .int .i64 x27.2.1), (26, .int .i64 x27.2.2), (107, .bool (((((x46 || ((x13.1 : Int) != x22)) || ((x13.2 : Int) != x19)) || ((x14.2 : Int) != x23.2)) || (x17.1 != x26.1)) || ((x17.2 : Int) != x26.2)))] (fun h51 => ?_) (fun h51 => ?_) ?_
      · refine sxo_take (os := _) rfl ?_
        refine sxo_isT (k := 103) rfl h51 ?_
        refine sxo_skip rfl rfl rfl ?_
        refine sxo_skip rfl rfl rfl ?_
        refine sxo_skip rfl rfl rfl ?_
        refine sxo_pick (b := true) rfl rfl rfl rfl ?_
        refine sxo_again (d := 107) (v := .bool (((((x46 || ((x13.1 : Int) != x22)) || ((x13.2 : Int) != x19)) || ((x14.2 : Int) != x23.2)) || (x17.1 != x26.1)) || ((x17.2 : Int) != x26.2))) rfl (by rw [h51]; simp only [Bool.true_or]) ?_
        refine sxo_nil ?_
        exact sxq_case (lk_cons rfl (lk_cons rfl (lk_cons rfl (lk_cons rfl (lk_cons rfl (lk_cons rfl (lk_cons rfl (lk_cons rfl (lk_cons rfl lk_nil)))))))))
      · refine sxo_take (os := _) rfl ?_
        refine sxo_isF (k := 103) rfl h51 ?_
        refine sxo_move rfl rfl rfl ?_
        refine sxo_move rfl rfl rfl ?_
        refine sxo_neq rfl rfl rfl rfl ?_
        refine sxo_pick (b := false) rfl rfl rfl rfl ?_
        refine sxo_again (d := 107) (v := .bool (((((x46 || ((x13.1 : Int) != x22)) || ((x13.2 : Int) != x19)) || ((x14.2 : Int) != x23.2)) || (x17.1 != x26.1)) || ((x17.2 : Int) != x26.2))) rfl (by rw [h51]; simp only [Bool.false_or]) ?_
        refine sxo_nil ?_
        exact sxq_case (lk_cons rfl (lk_cons rfl (lk_cons rfl (lk_cons rfl (lk_cons rfl (lk_cons rfl (lk_cons rfl (lk_cons rfl (lk_cons rfl lk_nil)))))))))
      refine sxo_take (os := _) rfl ?_
      refine sxo_move rfl rfl rfl ?_
      refine sxo_case 4 (((((x46 || ((x13.1 : Int) != x22)) || ((x13.2 : Int) != x19)) || ((x14.2 : Int) != x23.2)) || (x17.1 != x26.1)) || ((x17.2 : Int) != x26.2)) [(11, .slice a15 x14.1.length c16.1), (16, .int .i64 x18.2.1), (17, .int .i64 x18.2.2), (20, .slice a24 x23.1.length c25.1), (25, .int .i64 x27.2.1), (26, .int .i64 x27.2.2), (112, .bool ((((((x46 || ((x13.1 : Int) != x22)) || ((x13.2 : Int) != x19)) || ((x14.2 : Int) != x23.2)) || (x17.1 != x26.1)) || ((x17.2 : Int) != x26.2)) || ((x18.1 : Int) != x27.1)))] (fun h52 => ?_) (fun h52 => ?_) ?_
      · refine sxo_take (os := _) rfl ?_
        refine sxo_isT (k := 108) rfl h52 ?_
        refine sxo_skip rfl rfl rfl ?_
        refine sxo_skip rfl rfl rfl ?_
        refine sxo_skip rfl rfl rfl ?_
        refine sxo_pick (b := true) rfl rfl rfl rfl ?_
        refine sxo_again (d := 112) (v := .bool ((((((x46 || ((x13.1 : Int) != x22)) || ((x13.2 : Int) != x19)) || ((x14.2 : Int) != x23.2)) || (x17.1 != x26.1)) || ((x17.2 : Int) != x26.2)) || ((x18.1 : Int) != x27.1))) rfl (by rw [h52]; simp only [Bool.true_or]) ?_
        refine sxo_nil ?_
        exact sxq_case (lk_cons rfl (lk_cons rfl (lk_cons rfl (lk_cons rfl (lk_cons rfl (lk_cons rfl (lk_cons rfl lk_nil)))))))
      · refine sxo_take (os := _) rfl ?_
        refine sxo_isF (k := 108) rfl h52 ?_
        refine sxo_move rfl rfl rfl ?_
        refine sxo_move rfl rfl rfl ?_
        refine sxo_neq rfl rfl rfl rfl ?_
        refine sxo_pick (b := false) rfl rfl rfl rfl ?_
        refine sxo_again (d := 112) (v := .bool ((((((x46 || ((x13.1 : Int) != x22)) || ((x13.2 : Int) != x19)) || ((x14.2 : Int) != x23.2)) || (x17.1 != x26.1)) || ((x17.2 : Int) != x26.2)) || ((x18.1 : Int) != x27.1))) rfl (by rw [h52]; simp only [Bool.false_or]) ?_
        refine sxo_nil ?_
        exact sxq_case (lk_cons rfl (lk_cons rfl (lk_cons rfl (lk_cons rfl (lk_cons rfl (lk_cons rfl (lk_cons rfl lk_nil)))))))
      refine sxo_take (os := _) rfl ?_
      refine sxo_move rfl rfl rfl ?_
      refine sxo_case 4 ((((((x46 || ((x13.1 : Int) != x22)) || ((x13.2 : Int) != x19)) || ((x14.2 : Int) != x23.2)) || (x17.1 != x26.1)) || ((x17.2 : Int) != x26.2)) || ((x18.1 : Int) != x27.1)) [(11, .slice a15 x14.1.length c16.1), (17, .int .i64 x18.2.2), (20, .slice a24 x23.1.length c25.1), (26, .int .i64 x27.2.2), (117, .bool (((((((x46 || ((x13.1 : Int) != x22)) || ((x13.2 : Int) != x19)) || ((x14.2 : Int) != x23.2)) || (x17.1 != x26.1)) || ((x17.2 : Int) != x26.2)) || ((x18.1 : Int) != x27.1)) || ((x18.2.1 : Int) != x27.2.1)))] (fun h53 => ?_) (fun h53 => ?_) ?_
      · refine sxo_take (os := _) rfl ?_
        refine sxo_isT (k := 113) rfl h53 ?_
        refine sxo_skip rfl rfl rfl ?_
        refine sxo_skip rfl rfl rfl ?_
        refine sxo_skip rfl rfl rfl ?_
        refine sxo_pick (b := true) rfl rfl rfl rfl ?_
        refine sxo_again (d := 117) (v := .bool (((((((x46 || ((x13.1 : Int) != x22)) || ((x13.2 : Int) != x19)) || ((x14.2 : Int) != x23.2)) || (x17.1 != x26.1)) || ((x17.2 : Int) != x26.2)) || ((x18.1 : Int) != x27.1)) || ((x18.2.1 : Int) != x27.2.1))) rfl (by rw [h53]; simp only [Bool.true_or]) ?_
        refine sxo_nil ?_
        exact sxq_case (lk_cons rfl (lk_cons rfl (lk_cons rfl (lk_cons rfl (lk_cons rfl lk_nil)))))
      · refine sxo_take (os := _) rfl ?_
        refine sxo_isF (k := 113) rfl h53 ?_
        refine sxo_move rfl rfl rfl ?_
        refine sxo_move rfl rfl rfl ?_
        refine sxo_neq rfl rfl rfl rfl ?_
        refine sxo_pick (b := false) rfl rfl rfl rfl ?_
        refine sxo_again (d := 117) (v := .bool (((((((x46 || ((x13.1 : Int) != x22)) || ((x13.2 : Int) != x19)) || ((x14.2 : Int) != x23.2)) || (x17.1 != x26.1)) || ((x17.2 : Int) != x26.2)) || ((x18.1 : Int) != x27.1)) || ((x18.2.1 : Int) != x27.2.1))) rfl (by rw [h53]; simp only [Bool.false_or]) ?_
        refine sxo_nil ?_
        exact sxq_case (lk_cons rfl (lk_cons rfl (lk_cons rfl (lk_cons rfl (lk_cons rfl lk_nil)))))
      refine sxo_take (os := _) rfl ?_
      refine sxo_move rfl rfl rfl ?_
      refine sxo_case 4 (((((((x46 || ((x13.1 : Int) != x22)) || ((x13.2 : Int) != x19)) || ((x14.2 : Int) != x23.2)) || (x17.1 != x26.1)) || ((x17.2 : Int) != x26.2)) || ((x18.1 : Int) != x27.1)) || ((x18.2.1 : Int) != x27.2.1)) [(11, .slice a15 x14.1.length c16.1), (20, .slice a24 x23.1.length c25.1), (122, .bool ((((((((x46 || ((x13.1 : Int) != x22)) || ((x13.2 : Int) != x19)) || ((x14.2 : Int) != x23.2)) || (x17.1 != x26.1)) || ((x17.2 : Int) != x26.2)) || ((x18.1 : Int) != x27.1)) || ((x18.2.1 : Int) != x27.2.1)) || ((x18.2.2 : Int) != x27.2.2)))] (fun h54 => ?_) (fun h54 => ?_) ?_
      · refine sxo_take (os := _) rfl ?_
        refine sxo_isT (k := 118) rfl h54 ?_
        refine sxo_skip rfl rfl rfl ?_
        refine sxo_skip rfl rfl rfl ?_
        refine sxo_skip rfl rfl rfl ?_
        refine sxo_pick (b := true) rfl rfl rfl rfl ?_
        refine sxo_again (d := 122) (v := .bool ((((((((x46 || ((x13.1 : Int) != x22)) || ((x13.2 : Int) != x19)) || ((x14.2 : Int) != x23.2)) || (x17.1 != x26.1)) || ((x17.2 : Int) != x26.2)) || ((x18.1 : Int) != x27.1)) || ((x18.2.1 : Int) != x27.2.1)) || ((x18.2.2 : Int) != x27.2.2))) rfl (by rw [h54]; simp only [Bool.true_or]) ?_
        refine sxo_nil ?_
        exact sxq_case (lk_cons rfl (lk_cons rfl (lk_cons rfl lk_nil)))
      · refine sxo_take (os := _) rfl ?_
        refine sxo_isF (k := 118) rfl h54 ?_
        refine sxo_move rfl rfl rfl ?_
        refine sxo_move rfl rfl rfl ?_
        refine sxo_neq rfl rfl rfl rfl ?_
        refine sxo_pick (b := false) rfl rfl rfl rfl ?_
        refine sxo_again (d := 122) (v := .bool ((((((((x46 || ((x13.1 : Int) != x22)) || ((x13.2 : Int) != x19)) || ((x14.2 : Int) != x23.2)) || (x17.1 != x26.1)) || ((x17.2 : Int) != x26.2)) || ((x18.1 : Int) != x27.1)) || ((x18.2.1 : Int) != x27.2.1)) || ((x18.2.2 : Int) != x27.2.2))) rfl (by rw [h54]; simp only [Bool.false_or]) ?_
        refine sxo_nil ?_
        exact sxq_case (lk_cons rfl (lk_cons rfl (lk_cons rfl lk_nil)))
      refine sxo_take (os := _) rfl ?_
      refine sxo_move rfl rfl rfl ?_
      refine sxo_case 6 ((((((((x46 || ((x13.1 : Int) != x22)) || ((x13.2 : Int) != x19)) || ((x14.2 : Int) != x23.2)) || (x17.1 != x26.1)) || ((x17.2 : Int) != x26.2)) || ((x18.1 : Int) != x27.1)) || ((x18.2.1 : Int) != x27.2.1)) || ((x18.2.2 : Int) != x27.2.2)) [(11, .slice a15 x14.1.length c16.1), (20, .slice a24 x23.1.length c25.1), (129, .bool (((((((((x46 || ((x13.1 : Int) != x22)) || ((x13.2 : Int) != x19)) || ((x14.2 : Int) != x23.2)) || (x17.1 != x26.1)) || ((x17.2 : Int) != x26.2)) || ((x18.1 : Int) != x27.1)) || ((x18.2.1 : Int) != x27.2.1)) || ((x18.2.2 : Int) != x27.2.2)) || (((x14.1.length : Int) : Int) != (x23.1.length : Int))))] (fun h55 => ?_) (fun h55 => ?_) ?_
      · refine sxo_take (os := _) rfl ?_
        refine sxo_isT (k := 123) rfl h55 ?_
        refine sxo_skip rfl rfl rfl ?_
        refine sxo_skip rfl rfl rfl ?_
        refine sxo_skip rfl rfl rfl ?_
        refine sxo_skip rfl rfl rfl ?_
        refine sxo_skip rfl rfl rfl ?_
        refine sxo_pick (b := true) rfl rfl rfl rfl ?_
        refine sxo_again (d := 129) (v := .bool (((((((((x46 || ((x13.1 : Int) != x22)) || ((x13.2 : Int) != x19)) || ((x14.2 : Int) != x23.2)) || (x17.1 != x26.1)) || ((x17.2 : Int) != x26.2)) || ((x18.1 : Int) != x27.1)) || ((x18.2.1 : Int) != x27.2.1)) || ((x18.2.2 : Int) != x27.2.2)) || (((x14.1.length : Int) : Int) != (x23.1.length : Int)))) rfl (by rw [h55]; simp only [Bool.true_or]) ?_
        refine sxo_nil ?_
        exact sxq_case (lk_cons rfl (lk_cons rfl (lk_cons rfl lk_nil)))
      · refine sxo_take (os := _) rfl ?_
        refine sxo_isF (k := 123) rfl h55 ?_
        refine sxo_move rfl rfl rfl ?_
        refine sxo_len rfl Try.underlying23 rfl rfl ?_
        refine sxo_move rfl rfl rfl ?_
        refine sxo_len rfl Try.underlying23 rfl rfl ?_
        refine sxo_neq rfl rfl rfl rfl ?_
        refine sxo_pick (b := false) rfl rfl rfl rfl ?_
        refine sxo_again (d := 129) (v := .bool (((((((((x46 || ((x13.1 : Int) != x22)) || ((x13.2 : Int) != x19)) || ((x14.2 : Int) != x23.2)) || (x17.1 != x26.1)) || ((x17.2 : Int) != x26.2)) || ((x18.1 : Int) != x27.1)) || ((x18.2.1 : Int) != x27.2.1)) || ((x18.2.2 : Int) != x27.2.2)) || (((x14.1.length : Int) : Int) != (x23.1.length : Int)))) rfl (by rw [h55]; simp only [Bool.false_or]) ?_
        refine sxo_nil ?_
        exact sxq_case (lk_cons rfl (lk_cons rfl (lk_cons rfl lk_nil)))
      refine sxo_take (os := _) rfl ?_
      refine sxo_nil ?_
      refine sxq_next ?_
      refine sxc_if rfl (fun h396 => ?_) (fun h396 => ?_)
      · refine sxc_seq ?_
        refine sxc_region ?_
        refine sxo_assign rfl rfl rfl ?_
        refine sxo_nil ?_
        refine sxq_next ?_
        refine sxc_ret ?_
        refine sxq_thenR ?_
        exact sxq_doneP () (.inl rfl) (res1 rfl rfl) (fun h => by subst h; rfl) (fun h => by subst h; exact .nil)
      · refine sxc_skip ?_
        refine sxq_next ?_
        refine sxc_join (fun ((_, _) : (Unit × Unit)) => []) (fun ((_, _) : (Unit × Unit)) => []) (fun ((_, _) : (Unit × Unit)) => []) (fun ((_, _) : (Unit × Unit)) => []) (fun ((_, _) : (Unit × Unit)) => M_L_KraftTells_j5 F) ?_ ?_
        · refine sxc_seq ?_
          refine sxc_region ?_
          refine sxo_assign rfl rfl rfl ?_
          refine sxo_nil ?_
          refine sxq_next ?_
          refine sxc_block ?_
          refine sxc_loopP (fun ((x282, _) : (Int × Unit)) => [(11, .slice a15 x14.1.length c16.1), (20, .slice a24 x23.1.length c25.1), (27, .int .i64 x282)]) (fun ((x282, _) : (Int × Unit)) => []) (fun ((x282, _) : (Int × Unit)) => [RoN eN26 rN26 26 2 (.slice a15 x14.1.length c16.1) x14.1 c16.2 [], RoN eN26 rN26 26 2 (.slice a24 x23.1.length c25.1) x23.1 c25.2 []]) (fun ((x282, _) : (Int × Unit)) => []) (fun k (s : (Int × Unit)) => M_L_KraftTells_l6 F x14 x23 k s.1) (0, ()) F (lk_cons rfl (lk_cons rfl (lk_cons rfl lk_nil))) .nil (.cons 0 rfl (.cons 0 rfl .nil)) fk_nil (fun _ => rfl) ?_
          intro k339
          rintro ⟨x282, _⟩
          try dsimp only
          refine sxc_meq (m' := M_L_KraftTells_b6 F x14 x23 (M_L_KraftTells_l6 F x14 x23 k339) x282) rfl ?_
          refine sxc_seq ?_
          refine sxc_seq ?_
          refine sxc_region ?_
          refine sxo_move rfl rfl rfl ?_
          refine sxo_move rfl rfl rfl ?_
          refine sxo_len rfl Try.underlying23 rfl rfl ?_
          refine sxo_lss rfl rfl rfl rfl ?_
          refine sxo_nil ?_
          refine sxq_next ?_
          refine sxc_if rfl (fun h395 => ?_) (fun h395 => ?_)
          · refine sxc_skip ?_
            refine sxq_next ?_
            refine sxc_seq ?_
            refine sxc_block ?_
            refine sxc_seq ?_
            refine sxc_idxP (j := 0) rfl (fun x381 e381 g382 h383 g384 h385 => ?_)
            replace h385 : a15 = some ⟨g384, 0, none⟩ := h385
            have h386 := own_of (k := x14.1.length) (c := c16.1) h385
            refine sxc_openN (i := 0) rfl h383 (List.not_mem_nil) ?_
            refine sxc_idxP (j := 2) rfl (fun x387 e387 g388 h389 g390 h391 => ?_)
            replace h391 : a24 = some ⟨g390, 0, none⟩ := h391
            have h392 := own_of (k := x23.1.length) (c := c25.1) h391
            refine sxc_openN (i := 2) rfl h389 (List.not_mem_nil) ?_
            refine sxb_draw mixed [] [] [CellsAt g384 (x282.toNat * 2) (eN26 (x381, g382)), CellsAt g390 (x282.toNat * 2) (eN26 (x387, g388))] .nil (gk_R 3 rfl (at_rowN eN26_ok h383 h385) (gk_R 1 rfl (at_rowN eN26_ok h389 h391) gk_nil)) 10 rfl ?_
            refine sxb_takeP 0 (.slice a15 x14.1.length c16.1) rfl rfl rfl rfl (by kernel_rfl) (by kernel_rfl) (by kernel_rfl) (by kernel_rfl) (by kernel_rfl) rfl (show _ = #[true, false, false, false, false, false, false, false, false, false] from rfl) (yv_pv rfl) ?_
            refine sxb_takeP 1 (.int .i64 x282) rfl rfl rfl rfl (by kernel_rfl) (by kernel_rfl) (by kernel_rfl) (by kernel_rfl) (by kernel_rfl) rfl (show _ = #[true, true, false, false, false, false, false, false, false, false] from rfl) (yv_pv rfl) ?_
            refine sxb_again (d := 136) (v := .slice (some ⟨g384, 0, none⟩) x14.1.length c16.1) rfl (by rw [h385] <;> rfl) ?_
            refine sxb_takeP 2 (.pointer (some ⟨g384, x282.toNat * 2, none⟩)) rfl rfl rfl rfl (by kernel_rfl) (by kernel_rfl) (by kernel_rfl) (by kernel_rfl) (by kernel_rfl) rfl (show _ = #[true, true, true, false, false, false, false, false, false, false] from rfl) (yv_idxO Try.underlying23 tf26 rfl rfl (idx_get e381).1 (idx_lt e381)) ?_
            refine sxb_again (d := 136) (v := .slice a15 x14.1.length c16.1) rfl (by rw [h385] <;> rfl) ?_
            refine sxb_take 3 (.agg #[.int .i64 x381.1, .slice g382.1 x381.2.length g382.2]) [] rfl rfl rfl rfl (by kernel_rfl) (by kernel_rfl) (by kernel_rfl) (by kernel_rfl) (by kernel_rfl) (by kernel_rfl) rfl (show _ = #[true, true, true, true, false, false, false, false, false, false] from rfl) (yv_loadF (j := 0) rfl tf26 rfl rfl (by simp) rfl) ?_
            refine sxb_takeP 4 (.slice a24 x23.1.length c25.1) rfl rfl rfl rfl (by kernel_rfl) (by kernel_rfl) (by kernel_rfl) (by kernel_rfl) (by kernel_rfl) rfl (show _ = #[true, true, true, true, true, false, false, false, false, false] from rfl) (yv_pv rfl) ?_
            refine sxb_takeP 5 (.int .i64 x282) rfl rfl rfl rfl (by kernel_rfl) (by kernel_rfl) (by kernel_rfl) (by kernel_rfl) (by kernel_rfl) rfl (show _ = #[true, true, true, true, true, true, false, false, false, false] from rfl) (yv_pv rfl) ?_
            refine sxb_again (d := 140) (v := .slice (some ⟨g390, 0, none⟩) x23.1.length c25.1) rfl (by rw [h391] <;> rfl) ?_
            refine sxb_takeP 6 (.pointer (some ⟨g390, x282.toNat * 2, none⟩)) rfl rfl rfl rfl (by kernel_rfl) (by kernel_rfl) (by kernel_rfl) (by kernel_rfl) (by kernel_rfl) rfl (show _ = #[true, true, true, true, true, true, true, false, false, false] from rfl) (yv_idxO Try.underlying23 tf26 rfl rfl (idx_get e387).1 (idx_lt e387)) ?_
            refine sxb_again (d := 140) (v := .slice a24 x23.1.length c25.1) rfl (by rw [h391] <;> rfl) ?_
            refine sxb_take 7 (.agg #[.int .i64 x387.1, .slice g388.1 x387.2.length g388.2]) [] rfl rfl rfl rfl (by kernel_rfl) (by kernel_rfl) (by kernel_rfl) (by kernel_rfl) (by kernel_rfl) (by kernel_rfl) rfl (show _ = #[true, true, true, true, true, true, true, true, false, false] from rfl) (yv_loadF (j := 1) rfl tf26 rfl rfl (by simp) rfl) ?_
            refine sxb_step 8 rfl (by kernel_rfl) (show _ = #[true, true, true, true, true, true, true, true, true, false] from rfl) ?_
            refine sxo_call ent21 rfl rfl rfl (fun x393 e393 => C_R_SameBits F x381.1 x381.2 g382.1 g382.2 x387.1 x387.2 g388.1 g388.2 x393 e393) (.consR 2 (Ro (eI .u8) 5 1 (.slice g382.1 x381.2.length g382.2) x381.2) rfl (.consR 0 (Ro (eI .u8) 5 1 (.slice g388.1 x387.2.length g388.2) x387.2) rfl .nil)) (fun x393 e393 => ?_)
            intro _
            refine sxo_nil ?_
            refine sxq_anyB .nil (gk_R 3 rfl (at_rowN eN26_ok h383 h385) (gk_R 1 rfl (at_rowN eN26_ok h389 h391) gk_nil)) ?_
            refine sxb_takeP 9 (.bool (!x393)) rfl rfl rfl rfl (by kernel_rfl) (by kernel_rfl) (by kernel_rfl) (by kernel_rfl) (by kernel_rfl) rfl (show _ = #[true, true, true, true, true, true, true, true, true, true] from rfl) (yv_pv rfl) ?_
            refine sxb_done (by kernel_rfl) ?_
            refine sxq_np ?_ (by intro c h; cases h)
            refine sxq_next ?_
            refine sxc_if rfl (fun h394 => ?_) (fun h394 => ?_)
            · refine sxc_seq ?_
              refine sxc_closeN (rin := rN26) (p := (x387, g388)) (i := 0) (k := 0) (.cons 0 rfl .nil) rfl rfl h389 ?_
              refine sxc_closeN (rin := rN26) (p := (x381, g382)) (i := 1) (k := 0) (.cons 1 rfl .nil) rfl rfl h383 ?_
              refine sxc_region ?_
              refine sxo_assign rfl rfl rfl ?_
              refine sxo_nil ?_
              refine sxq_next ?_
              refine sxc_ret ?_
              refine sxq_blkR ?_
              refine sxq_thenR ?_
              refine sxq_thenR ?_
              refine sxq_blkR ?_
              refine sxq_thenR ?_
              exact sxq_doneP () (.inl rfl) (res1 rfl rfl) (fun h => by subst h; rfl) (fun h => by subst h; exact .nil)
            · refine sxc_skip ?_
              refine sxq_blkN ?_
              refine sxq_next ?_
              refine sxc_closeN (rin := rN26) (p := (x387, g388)) (i := 0) (k := 0) (.cons 0 rfl .nil) rfl rfl h389 ?_
              refine sxc_closeN (rin := rN26) (p := (x381, g382)) (i := 1) (k := 0) (.cons 1 rfl .nil) rfl rfl h383 ?_
              refine sxc_region ?_
              refine sxo_move rfl rfl rfl ?_
              refine sxo_add rfl rfl rfl rfl ?_
              refine sxo_assign rfl rfl rfl ?_
              refine sxo_nil ?_
              exact sxq_againP (iadd .i64 x282 1, ()) (lk_cons rfl (lk_cons rfl (lk_cons rfl lk_nil))) .nil (.cons 0 rfl (.cons 0 rfl .nil)) fk_nil
          · refine sxc_exit ?_
            refine sxq_thenX ?_
            refine sxq_thenX ?_
            refine sxq_blkX ?_
            exact sxq_meetP ((), ()) lk_nil .nil .nil fk_nil
        · rintro ⟨_, _⟩
          try dsimp only
          refine sxc_seq ?_
          refine sxc_region ?_
          refine sxo_assign rfl rfl rfl ?_
          refine sxo_nil ?_
          refine sxq_next ?_
          refine sxc_ret ?_
          exact sxq_doneP () (.inl rfl) (res1 rfl rfl) (fun h => by subst h; rfl) (fun h => by subst h; exact .nil)

set_option maxHeartbeats 4000000 in
theorem C_L_KraftCodes (F : Nat) (x1 : List Int) (a2 : Option Addr) (c3 : Nat) (r : Bool) (hm : M_L_KraftCodes F x1 = some r) :
    Pure Try.prog 4 [.slice a2 x1.length c3] [Sl (eI .i64) 1 (.slice a2 x1.length c3) x1] Unit (fun _ => .bool r) (fun _ => []) (fun _ => []) := by
  refine pure_of Try.func4 rfl Try.ntmps4 rfl hm (fun w => ?_)
  refine sxc_env (l' := [(0, .slice a2 x1.length c3)]) rfl ?_
  refine sxc_seq ?_
  refine sxc_region ?_
  refine sxo_assign rfl rfl rfl ?_
  refine sxo_nil ?_
  refine sxq_next ?_
  refine sxc_seq ?_
  refine sxc_region ?_
  refine sxo_move rfl rfl rfl ?_
  refine sxo_call ent10 rfl rfl rfl (fun x4 e4 => C_kraft_Room F x1 a2 c3 x4 e4) (.consF 0 rfl .nil) (fun x4 e4 => ?_)
  intro _
  refine sxo_move rfl rfl rfl ?_
  refine sxo_extract rfl rfl rfl rfl ?_
  refine sxo_extract rfl rfl rfl rfl ?_
  refine sxo_assign rfl rfl rfl ?_
  refine sxo_assign rfl rfl rfl ?_
  refine sxo_nil ?_
  refine sxq_next ?_
  refine sxc_seq ?_
  refine sxc_region ?_
  refine sxo_move rfl rfl rfl ?_
  refine sxo_call ent11 rfl rfl rfl (fun x5 e5 => C_kraft_Codes F x1 a2 c3 x5 e5) (.consF 0 rfl .nil) (fun x5 e5 => ?_)
  rintro ⟨a6, c7⟩
  refine sxo_move rfl rfl rfl ?_
  refine sxo_extract rfl rfl rfl rfl ?_
  refine sxo_extract rfl rfl rfl rfl ?_
  refine sxo_assign rfl rfl rfl ?_
  refine sxo_assign rfl rfl rfl ?_
  refine sxo_nil ?_
  refine sxq_next ?_
  refine sxc_seq ?_
  refine sxc_seq ?_
  refine sxc_region ?_
  refine sxo_call ent19 rfl rfl rfl (fun x10 e10 => C_L_kraftBegun F  x10 e10) .nil (fun x10 e10 => ?_)
  intro _
  refine sxo_not rfl rfl rfl ?_
  refine sxo_nil ?_
  refine sxq_next ?_
  refine sxc_if rfl (fun h296 => ?_) (fun h296 => ?_)
  · refine sxc_seq ?_
    refine sxc_region ?_
    refine sxo_assign rfl rfl rfl ?_
    refine sxo_nil ?_
    refine sxq_next ?_
    refine sxc_ret ?_
    refine sxq_thenR ?_
    exact sxq_doneP () (.inl rfl) (res1 rfl rfl) (fun h => by subst h; rfl) (fun h => by subst h; exact .nil)
  · refine sxc_skip ?_
    refine sxq_next ?_
    refine sxc_seq ?_
    refine sxc_seq ?_
    refine sxc_region ?_
    refine sxo_move rfl rfl rfl ?_
    refine sxo_neq rfl rfl rfl rfl ?_
    refine sxo_nil ?_
    refine sxq_next ?_
    refine sxc_if rfl (fun h295 => ?_) (fun h295 => ?_)
    · refine sxc_seq ?_
      refine sxc_region ?_
      refine sxo_move rfl rfl rfl ?_
      refine sxo_move rfl rfl rfl ?_
      refine sxo_eql rfl rfl rfl rfl ?_
      refine sxo_move rfl rfl rfl ?_
      refine sxo_case 4 ((x4.2 : Int) == x5.2) [(31, .bool (((x4.2 : Int) == x5.2) && (((x5.1.length : Int) : Int) == 0)))] (fun h13 => ?_) (fun h13 => ?_) ?_
      · refine sxo_take (os := _) rfl ?_
        refine sxo_isT (k := 27) rfl h13 ?_
        refine sxo_move rfl rfl rfl ?_
        refine sxo_len rfl Try.underlying23 rfl rfl ?_
        refine sxo_eql rfl rfl rfl rfl ?_
        refine sxo_pick (b := true) rfl rfl rfl rfl ?_
        refine sxo_again (d := 31) (v := .bool (((x4.2 : Int) == x5.2) && (((x5.1.length : Int) : Int) == 0))) rfl (by rw [h13]; simp only [Bool.true_and]) ?_
        refine sxo_nil ?_
        exact sxq_case (lk_cons rfl lk_nil)
      · refine sxo_take (os := _) rfl ?_
        refine sxo_isF (k := 27) rfl h13 ?_
        refine sxo_skip rfl rfl rfl ?_
        refine sxo_skip rfl rfl rfl ?_
        refine sxo_skip rfl rfl rfl ?_
        refine sxo_pick (b := false) rfl rfl rfl rfl ?_
        refine sxo_again (d := 31) (v := .bool (((x4.2 : Int) == x5.2) && (((x5.1.length : Int) : Int) == 0))) rfl (by rw [h13]; simp only [Bool.false_and]) ?_
        refine sxo_nil ?_
        exact sxq_case (lk_cons rfl lk_nil)
      refine sxo_take (os := _) rfl ?_
      refine sxo_assign rfl rfl rfl ?_
      refine sxo_nil ?_
      refine sxq_next ?_
      refine sxc_ret ?_
      refine sxq_thenR ?_
      exact sxq_doneP () (.inl rfl) (res1 rfl rfl) (fun h => by subst h; rfl) (fun h => by subst h; exact .nil)
    · refine sxc_skip ?_
      refine sxq_next ?_
      refine sxc_seq ?_
      refine sxc_seq ?_
      refine sxc_region ?_
      refine sxo_move rfl rfl rfl ?_
      refine sxo_geq rfl rfl rfl rfl ?_
      refine sxo_move rfl rfl rfl ?_
      refine sxo_eql rfl rfl rfl rfl ?_
      refine sxo_neb rfl Try.underlying4 rfl rfl rfl ?_
      refine sxo_move rfl rfl rfl ?_
      refine sxo_case 3 ((decide (0 ≤ x4.1)) != ((x5.2 : Int) == 0)) [(0, .slice a2 x1.length c3), (3, .int .i64 x4.1), (5, .slice a6 x5.1.length c7.1), (6, .int .i64 x5.2), (40, .bool (((decide (0 ≤ x4.1)) != ((x5.2 : Int) == 0)) || ((x5.2 : Int) != 0)))] (fun h17 => ?_) (fun h17 => ?_) ?_
      · refine sxo_take (os := _) rfl ?_
        refine sxo_isT (k := 37) rfl h17 ?_
        refine sxo_skip rfl rfl rfl ?_
        refine sxo_skip rfl rfl rfl ?_
        refine sxo_pick (b := true) rfl rfl rfl rfl ?_
        refine sxo_again (d := 40) (v := .bool (((decide (0 ≤ x4.1)) != ((x5.2 : Int) == 0)) || ((x5.2 : Int) != 0))) rfl (by rw [h17]; simp only [Bool.true_or]) ?_
        refine sxo_nil ?_
        exact sxq_case (lk_cons rfl (lk_cons rfl (lk_cons rfl (lk_cons rfl (lk_cons rfl lk_nil)))))
      · refine sxo_take (os := _) rfl ?_
        refine sxo_isF (k := 37) rfl h17 ?_
        refine sxo_move rfl rfl rfl ?_
        refine sxo_neq rfl rfl rfl rfl ?_
        refine sxo_pick (b := false) rfl rfl rfl rfl ?_
        refine sxo_again (d := 40) (v := .bool (((decide (0 ≤ x4.1)) != ((x5.2 : Int) == 0)) || ((x5.2 : Int) != 0))) rfl (by rw [h17]; simp only [Bool.false_or]) ?_
        refine sxo_nil ?_
        exact sxq_case (lk_cons rfl (lk_cons rfl (lk_cons rfl (lk_cons rfl (lk_cons rfl lk_nil)))))
      refine sxo_take (os := _) rfl ?_
      refine sxo_nil ?_
      refine sxq_next ?_
      refine sxc_if rfl (fun h294 => ?_) (fun h294 => ?_)
      · refine sxc_seq ?_
        refine sxc_region ?_
        refine sxo_move rfl rfl rfl ?_
        refine sxo_lss rfl rfl rfl rfl ?_
        refine sxo_move rfl rfl rfl ?_
        refine sxo_case 3 (decide (x4.1 < 0)) [(46, .bool ((decide (x4.1 < 0)) && ((x5.2 : Int) == 8)))] (fun h18 => ?_) (fun h18 => ?_) ?_
        · refine sxo_take (os := _) rfl ?_
          refine sxo_isT (k := 43) rfl h18 ?_
          refine sxo_move rfl rfl rfl ?_
          refine sxo_eql rfl rfl rfl rfl ?_
          refine sxo_pick (b := true) rfl rfl rfl rfl ?_
          refine sxo_again (d := 46) (v := .bool ((decide (x4.1 < 0)) && ((x5.2 : Int) == 8))) rfl (by rw [h18]; simp only [Bool.true_and]) ?_
          refine sxo_nil ?_
          exact sxq_case (lk_cons rfl lk_nil)
        · refine sxo_take (os := _) rfl ?_
          refine sxo_isF (k := 43) rfl h18 ?_
          refine sxo_skip rfl rfl rfl ?_
          refine sxo_skip rfl rfl rfl ?_
          refine sxo_pick (b := false) rfl rfl rfl rfl ?_
          refine sxo_again (d := 46) (v := .bool ((decide (x4.1 < 0)) && ((x5.2 : Int) == 8))) rfl (by rw [h18]; simp only [Bool.false_and]) ?_
          refine sxo_nil ?_
          exact sxq_case (lk_cons rfl lk_nil)
        refine sxo_take (os := _) rfl ?_
        refine sxo_assign rfl rfl rfl ?_
        refine sxo_nil ?_
        refine sxq_next ?_
        refine sxc_ret ?_
        refine sxq_thenR ?_
        exact sxq_doneP () (.inl rfl) (res1 rfl rfl) (fun h => by subst h; rfl) (fun h => by subst h; exact .nil)
      · refine sxc_skip ?_
        refine sxq_next ?_
        refine sxc_seq ?_
        refine sxc_region ?_
        refine sxo_move rfl rfl rfl ?_
        refine sxo_call ent12 rfl rfl rfl (fun x19 e19 => C_kraft_Apart F x5.1 a6 c7 x19 e19) (.consG 0 rfl (nest_sl rN26_in) .nil) (fun x19 e19 => ?_)
        intro _
        refine sxo_move rfl rfl rfl ?_
        refine sxo_extract rfl rfl rfl rfl ?_
        refine sxo_extract rfl rfl rfl rfl ?_
        refine sxo_assign rfl rfl rfl ?_
        refine sxo_assign rfl rfl rfl ?_
        refine sxo_nil ?_
        refine sxq_next ?_
        refine sxc_seq ?_
        refine sxc_seq ?_
        refine sxc_region ?_
        refine sxo_move rfl rfl rfl ?_
        refine sxo_neq rfl rfl rfl rfl ?_
        refine sxo_move rfl rfl rfl ?_
        refine sxo_case 3 ((x19.2 : Int) != 0) [(0, .slice a2 x1.length c3), (5, .slice a6 x5.1.length c7.1), (57, .bool (((x19.2 : Int) != 0) || (!x19.1)))] (fun h23 => ?_) (fun h23 => ?_) ?_
        · refine sxo_take (os := _) rfl ?_
          refine sxo_isT (k := 54) rfl h23 ?_
          refine sxo_skip rfl rfl rfl ?_
          refine sxo_skip rfl rfl rfl ?_
          refine sxo_pick (b := true) rfl rfl rfl rfl ?_
          refine sxo_again (d := 57) (v := .bool (((x19.2 : Int) != 0) || (!x19.1))) rfl (by rw [h23]; simp only [Bool.true_or]) ?_
          refine sxo_nil ?_
          exact sxq_case (lk_cons rfl (lk_cons rfl (lk_cons rfl lk_nil)))
        · refine sxo_take (os := _) rfl ?_
          refine sxo_isF (k := 54) rfl h23 ?_
          refine sxo_move rfl rfl rfl ?_
          refine sxo_not rfl rfl rfl ?_
          refine sxo_pick (b := false) rfl rfl rfl rfl ?_
          refine sxo_again (d := 57) (v := .bool (((x19.2 : Int) != 0) || (!x19.1))) rfl (by rw [h23]; simp only [Bool.false_or]) ?_
          refine sxo_nil ?_
          exact sxq_case (lk_cons rfl (lk_cons rfl (lk_cons rfl lk_nil)))
        refine sxo_take (os := _) rfl ?_
        refine sxo_move rfl rfl rfl ?_
        refine sxo_case 6 (((x19.2 : Int) != 0) || (!x19.1)) [(0, .slice a2 x1.length c3), (5, .slice a6 x5.1.length c7.1), (64, .bool ((((x19.2 : Int) != 0) || (!x19.1)) || (((x5.1.length : Int) : Int) != (x1.length : Int))))] (fun h24 => ?_) (fun h24 => ?_) ?_
        · refine sxo_take (os := _) rfl ?_
          refine sxo_isT (k := 58) rfl h24 ?_
          refine sxo_skip rfl rfl rfl ?_
          refine sxo_skip rfl rfl rfl ?_
          refine sxo_skip rfl rfl rfl ?_
          refine sxo_skip rfl rfl rfl ?_
          refine sxo_skip rfl rfl rfl ?_
          refine sxo_pick (b := true) rfl rfl rfl rfl ?_
          refine sxo_again (d := 64) (v := .bool ((((x19.2 : Int) != 0) || (!x19.1)) || (((x5.1.length : Int) : Int) != (x1.length : Int)))) rfl (by rw [h24]; simp only [Bool.true_or]) ?_
          refine sxo_nil ?_
          exact sxq_case (lk_cons rfl (lk_cons rfl (lk_cons rfl lk_nil)))
        · refine sxo_take (os := _) rfl ?_
          refine sxo_isF (k := 58) rfl h24 ?_
          refine sxo_move rfl rfl rfl ?_
          refine sxo_len rfl Try.underlying23 rfl rfl ?_
          refine sxo_move rfl rfl rfl ?_
          refine sxo_len rfl Try.underlying22 rfl rfl ?_
          refine sxo_neq rfl rfl rfl rfl ?_
          refine sxo_pick (b := false) rfl rfl rfl rfl ?_
          refine sxo_again (d := 64) (v := .bool ((((x19.2 : Int) != 0) || (!x19.1)) || (((x5.1.length : Int) : Int) != (x1.length : Int)))) rfl (by rw [h24]; simp only [Bool.false_or]) ?_
          refine sxo_nil ?_
          exact sxq_case (lk_cons rfl (lk_cons rfl (lk_cons rfl lk_nil)))
        refine sxo_take (os := _) rfl ?_
        refine sxo_nil ?_
        refine sxq_next ?_
        refine sxc_if rfl (fun h293 => ?_) (fun h293 => ?_)
        · refine sxc_seq ?_
          refine sxc_region ?_
          refine sxo_assign rfl rfl rfl ?_
          refine sxo_nil ?_
          refine sxq_next ?_
          refine sxc_ret ?_
          refine sxq_thenR ?_
          exact sxq_doneP () (.inl rfl) (res1 rfl rfl) (fun h => by subst h; rfl) (fun h => by subst h; exact .nil)
        · refine sxc_skip ?_
          refine sxq_next ?_
          refine sxc_join (fun ((_, _) : (Unit × Unit)) => []) (fun ((_, _) : (Unit × Unit)) => []) (fun ((_, _) : (Unit × Unit)) => []) (fun ((_, _) : (Unit × Unit)) => []) (fun ((_, _) : (Unit × Unit)) => M_L_KraftCodes_j2 F) ?_ ?_
          · refine sxc_seq ?_
            refine sxc_region ?_
            refine sxo_assign rfl rfl rfl ?_
            refine sxo_nil ?_
            refine sxq_next ?_
            refine sxc_block ?_
            refine sxc_loopP (fun ((x203, _) : (Int × Unit)) => [(0, .slice a2 x1.length c3), (5, .slice a6 x5.1.length c7.1), (9, .int .i64 x203)]) (fun ((x203, _) : (Int × Unit)) => []) (fun ((x203, _) : (Int × Unit)) => [RoN eN26 rN26 26 2 (.slice a6 x5.1.length c7.1) x5.1 c7.2 []]) (fun ((x203, _) : (Int × Unit)) => [Sl (eI .i64) 1 (.slice a2 x1.length c3) x1]) (fun k (s : (Int × Unit)) => M_L_KraftCodes_l3 F x1 x5 k s.1) (0, ()) F (lk_cons rfl (lk_cons rfl (lk_cons rfl lk_nil))) .nil (.cons 0 rfl .nil) (fk_cons 0 rfl fk_nil) (fun _ => rfl) ?_
            intro k248
            rintro ⟨x203, _⟩
            try dsimp only
            refine sxc_meq (m' := M_L_KraftCodes_b3 F x1 x5 (M_L_KraftCodes_l3 F x1 x5 k248) x203) rfl ?_
            refine sxc_seq ?_
            refine sxc_seq ?_
            refine sxc_region ?_
            refine sxo_move rfl rfl rfl ?_
            refine sxo_move rfl rfl rfl ?_
            refine sxo_len rfl Try.underlying23 rfl rfl ?_
            refine sxo_lss rfl rfl rfl rfl ?_
            refine sxo_nil ?_
            refine sxq_next ?_
            refine sxc_if rfl (fun h292 => ?_) (fun h292 => ?_)
            · refine sxc_skip ?_
              refine sxq_next ?_
              refine sxc_seq ?_
              refine sxc_block ?_
              refine sxc_seq ?_
              refine sxc_idxP (j := 0) rfl (fun x281 e281 g282 h283 g284 h285 => ?_)
              replace h285 : a6 = some ⟨g284, 0, none⟩ := h285
              have h286 := own_of (k := x5.1.length) (c := c7.1) h285
              refine sxc_openN (i := 0) rfl h283 (List.not_mem_nil) ?_
              refine sxc_idxF (j := 0) (eI_ok .i64) (by decide) rfl (fun x287 e287 b288 o289 h290 => ?_)
              replace h290 : a2 = some ⟨b288, o289, none⟩ := h290
              refine sxb_draw mixed [] [] [CellsAt b288 (o289 + x203.toNat * 1) ((eI .i64) x287), Sl (eI .i64) 1 (.slice a2 x1.length c3) x1, CellsAt g284 (x203.toNat * 2) (eN26 (x281, g282))] .nil (gk_F 0 rfl (gk_F 1 rfl (gk_R 1 rfl (at_rowN eN26_ok h283 h285) gk_nil))) 10 rfl ?_
              refine sxb_takeP 0 (.slice a6 x5.1.length c7.1) rfl rfl rfl rfl (by kernel_rfl) (by kernel_rfl) (by kernel_rfl) (by kernel_rfl) (by kernel_rfl) rfl (show _ = #[true, false, false, false, false, false, false, false, false, false] from rfl) (yv_pv rfl) ?_
              refine sxb_takeP 1 (.int .i64 x203) rfl rfl rfl rfl (by kernel_rfl) (by kernel_rfl) (by kernel_rfl) (by kernel_rfl) (by kernel_rfl) rfl (show _ = #[true, true, false, false, false, false, false, false, false, false] from rfl) (yv_pv rfl) ?_
              refine sxb_again (d := 71) (v := .slice (some ⟨g284, 0, none⟩) x5.1.length c7.1) rfl (by rw [h285] <;> rfl) ?_
              refine sxb_takeP 2 (.pointer (some ⟨g284, x203.toNat * 2, none⟩)) rfl rfl rfl rfl (by kernel_rfl) (by kernel_rfl) (by kernel_rfl) (by kernel_rfl) (by kernel_rfl) rfl (show _ = #[true, true, true, false, false, false, false, false, false, false] from rfl) (yv_idxO Try.underlying23 tf26 rfl rfl (idx_get e281).1 (idx_lt e281)) ?_
              refine sxb_again (d := 71) (v := .slice a6 x5.1.length c7.1) rfl (by rw [h285] <;> rfl) ?_
              refine sxb_takeP 3 (.pointer (some ⟨g284, x203.toNat * 2 + 0, none⟩)) rfl rfl rfl rfl (by kernel_rfl) (by kernel_rfl) (by kernel_rfl) (by kernel_rfl) (by kernel_rfl) rfl (show _ = #[true, true, true, true, false, false, false, false, false, false] from rfl) (yv_fieldAddr rfl ff26_0) ?_
              refine sxb_take 4 (.int .i64 x281.1) [] rfl rfl rfl rfl (by kernel_rfl) (by kernel_rfl) (by kernel_rfl) (by kernel_rfl) (by kernel_rfl) (by kernel_rfl) rfl (show _ = #[true, true, true, true, true, false, false, false, false, false] from rfl) (yv_loadFo (j := 2) (off := 0) rfl tf3 rfl rfl (fun _ => rfl) rfl) ?_
              refine sxb_takeP 5 (.slice a2 x1.length c3) rfl rfl rfl rfl (by kernel_rfl) (by kernel_rfl) (by kernel_rfl) (by kernel_rfl) (by kernel_rfl) rfl (show _ = #[true, true, true, true, true, true, false, false, false, false] from rfl) (yv_pv rfl) ?_
              refine sxb_takeP 6 (.int .i64 x203) rfl rfl rfl rfl (by kernel_rfl) (by kernel_rfl) (by kernel_rfl) (by kernel_rfl) (by kernel_rfl) rfl (show _ = #[true, true, true, true, true, true, true, false, false, false] from rfl) (yv_pv rfl) ?_
              refine sxb_again (d := 76) (v := .slice (some ⟨b288, o289, none⟩) x1.length c3) rfl (by rw [h290] <;> rfl) ?_
              refine sxb_takeP 7 (.pointer (some ⟨b288, (o289 + x203.toNat * 1), none⟩)) rfl rfl rfl rfl (by kernel_rfl) (by kernel_rfl) (by kernel_rfl) (by kernel_rfl) (by kernel_rfl) rfl (show _ = #[true, true, true, true, true, true, true, true, false, false] from rfl) (yv_idx Try.underlying22 tf3 rfl rfl (idx_get e287).1 (idx_lt e287)) ?_
              refine sxb_again (d := 76) (v := .slice a2 x1.length c3) rfl (by rw [h290] <;> rfl) ?_
              refine sxb_take 8 (.int .i64 x287) [] rfl rfl rfl rfl (by kernel_rfl) (by kernel_rfl) (by kernel_rfl) (by kernel_rfl) (by kernel_rfl) (by kernel_rfl) rfl (show _ = #[true, true, true, true, true, true, true, true, true, false] from rfl) (yv_loadF (j := 0) rfl tf3 rfl rfl (fun _ => rfl) rfl) ?_
              refine sxb_takeP 9 (.bool ((x281.1 : Int) != x287)) rfl rfl rfl rfl (by kernel_rfl) (by kernel_rfl) (by kernel_rfl) (by kernel_rfl) (by kernel_rfl) rfl (show _ = #[true, true, true, true, true, true, true, true, true, true] from rfl) (yv_pv rfl) ?_
              refine sxb_done (by kernel_rfl) ?_
              refine sxq_np ?_ (by intro c h; cases h)
              refine sxq_next ?_
              refine sxc_if rfl (fun h291 => ?_) (fun h291 => ?_)
              · refine sxc_seq ?_
                refine sxc_closeN (rin := rN26) (p := (x281, g282)) (i := 0) (k := 0) (.cons 0 rfl .nil) rfl rfl h283 ?_
                refine sxc_region ?_
                refine sxo_assign rfl rfl rfl ?_
                refine sxo_nil ?_
                refine sxq_next ?_
                refine sxc_ret ?_
                refine sxq_blkR ?_
                refine sxq_thenR ?_
                refine sxq_thenR ?_
                refine sxq_blkR ?_
                refine sxq_thenR ?_
                exact sxq_doneP () (.inl rfl) (res1 rfl rfl) (fun h => by subst h; rfl) (fun h => by subst h; exact .nil)
              · refine sxc_skip ?_
                refine sxq_blkN ?_
                refine sxq_next ?_
                refine sxc_closeN (rin := rN26) (p := (x281, g282)) (i := 0) (k := 0) (.cons 0 rfl .nil) rfl rfl h283 ?_
                refine sxc_region ?_
                refine sxo_move rfl rfl rfl ?_
                refine sxo_add rfl rfl rfl rfl ?_
                refine sxo_assign rfl rfl rfl ?_
                refine sxo_nil ?_
                exact sxq_againP (iadd .i64 x203 1, ()) (lk_cons rfl (lk_cons rfl (lk_cons rfl lk_nil))) .nil (.cons 0 rfl .nil) (fk_cons 1 rfl fk_nil)
            · refine sxc_exit ?_
              refine sxq_thenX ?_
              refine sxq_thenX ?_
              refine sxq_blkX ?_
              exact sxq_meetP ((), ()) lk_nil .nil .nil fk_nil
          · rintro ⟨_, _⟩
            try dsimp only
            refine sxc_seq ?_
            refine sxc_region ?_
            refine sxo_assign rfl rfl rfl ?_
            refine sxo_nil ?_
            refine sxq_next ?_
            refine sxc_ret ?_
            exact sxq_doneP () (.inl rfl) (res1 rfl rfl) (fun h => by subst h; rfl) (fun h => by subst h; exact .nil)

set_option maxHeartbeats 4000000 in
theorem C_L_KraftMust (F : Nat) (x1 : List (Int × List Int)) (a2 : Option Addr) (c3 : (Nat × List (Option Addr × Nat))) (r : Bool) (hm : M_L_KraftMust F x1 = some r) :
    Pure Try.prog 5 [.slice a2 x1.length c3.1] [SlN eN26 iN26 2 (.slice a2 x1.length c3.1) x1 c3.2] Unit (fun _ => .bool r) (fun _ => []) (fun _ => []) := by
  refine pure_of Try.func5 rfl Try.ntmps5 rfl hm (fun w => ?_)
  refine sxc_env (l' := [(0, .slice a2 x1.length c3.1)]) rfl ?_
  refine sxc_seq ?_
  refine sxc_region ?_
  refine sxo_assign rfl rfl rfl ?_
  refine sxo_nil ?_
  refine sxq_next ?_
  refine sxc_seq ?_
  refine sxc_region ?_
  refine sxo_move rfl rfl rfl ?_
  refine sxo_call ent12 rfl rfl rfl (fun x4 e4 => C_kraft_Apart F x1 a2 c3 x4 e4) (.consF 0 rfl .nil) (fun x4 e4 => ?_)
  intro _
  refine sxo_move rfl rfl rfl ?_
  refine sxo_extract rfl rfl rfl rfl ?_
  refine sxo_extract rfl rfl rfl rfl ?_
  refine sxo_assign rfl rfl rfl ?_
  refine sxo_assign rfl rfl rfl ?_
  refine sxo_nil ?_
  refine sxq_next ?_
  refine sxc_seq ?_
  refine sxc_seq ?_
  refine sxc_region ?_
  refine sxo_call ent19 rfl rfl rfl (fun x7 e7 => C_L_kraftBegun F  x7 e7) .nil (fun x7 e7 => ?_)
  intro _
  refine sxo_not rfl rfl rfl ?_
  refine sxo_nil ?_
  refine sxq_next ?_
  refine sxc_if rfl (fun h267 => ?_) (fun h267 => ?_)
  · refine sxc_seq ?_
    refine sxc_region ?_
    refine sxo_assign rfl rfl rfl ?_
    refine sxo_nil ?_
    refine sxq_next ?_
    refine sxc_ret ?_
    refine sxq_thenR ?_
    exact sxq_doneP () (.inl rfl) (res1 rfl rfl) (fun h => by subst h; rfl) (fun h => by subst h; exact .nil)
  · refine sxc_skip ?_
    refine sxq_next ?_
    refine sxc_seq ?_
    refine sxc_seq ?_
    refine sxc_region ?_
    refine sxo_move rfl rfl rfl ?_
    refine sxo_neq rfl rfl rfl rfl ?_
    refine sxo_move rfl rfl rfl ?_
    refine sxo_case 3 ((x4.2 : Int) != 0) [(0, .slice a2 x1.length c3.1), (21, .bool (((x4.2 : Int) != 0) || (!x4.1)))] (fun h10 => ?_) (fun h10 => ?_) ?_
    · refine sxo_take (os := _) rfl ?_
      refine sxo_isT (k := 18) rfl h10 ?_
      refine sxo_skip rfl rfl rfl ?_
      refine sxo_skip rfl rfl rfl ?_
      refine sxo_pick (b := true) rfl rfl rfl rfl ?_
      refine sxo_again (d := 21) (v := .bool (((x4.2 : Int) != 0) || (!x4.1))) rfl (by rw [h10]; simp only [Bool.true_or]) ?_
      refine sxo_nil ?_
      exact sxq_case (lk_cons rfl (lk_cons rfl lk_nil))
    · refine sxo_take (os := _) rfl ?_
      refine sxo_isF (k := 18) rfl h10 ?_
      refine sxo_move rfl rfl rfl ?_
      refine sxo_not rfl rfl rfl ?_
      refine sxo_pick (b := false) rfl rfl rfl rfl ?_
      refine sxo_again (d := 21) (v := .bool (((x4.2 : Int) != 0) || (!x4.1))) rfl (by rw [h10]; simp only [Bool.false_or]) ?_
      refine sxo_nil ?_
      exact sxq_case (lk_cons rfl (lk_cons rfl lk_nil))
    refine sxo_take (os := _) rfl ?_
    refine sxo_nil ?_
    refine sxq_next ?_
    refine sxc_if rfl (fun h266 => ?_) (fun h266 => ?_)
    · refine sxc_seq ?_
      refine sxc_region ?_
      refine sxo_assign rfl rfl rfl ?_
      refine sxo_nil ?_
      refine sxq_next ?_
      refine sxc_ret ?_
      refine sxq_thenR ?_
      exact sxq_doneP () (.inl rfl) (res1 rfl rfl) (fun h => by subst h; rfl) (fun h => by subst h; exact .nil)
    · refine sxc_skip ?_
      refine sxq_next ?_
      refine sxc_seq ?_
      refine sxc_region ?_
      refine sxo_assign rfl rfl rfl ?_
      refine sxo_nil ?_
      refine sxq_next ?_
      refine sxc_join (fun ((x138, (a136, c137)) : (List Int × (Option Addr × Nat))) => [(5, .slice a136 x138.length c137)]) (fun ((x138, (a136, c137)) : (List Int × (Option Addr × Nat))) => []) (fun ((x138, (a136, c137)) : (List Int × (Option Addr × Nat))) => [Ro (eI .i64) 3 1 (.slice a136 x138.length c137) x138]) (fun ((x138, (a136, c137)) : (List Int × (Option Addr × Nat))) => []) (fun ((x138, _) : (List Int × (Option Addr × Nat))) => M_L_KraftMust_j2 F x138) ?_ ?_
      · refine sxc_seq ?_
        refine sxc_region ?_
        refine sxo_assign rfl rfl rfl ?_
        refine sxo_nil ?_
        refine sxq_next ?_
        refine sxc_block ?_
        refine sxc_nilrow Int (eI .i64) 3 1 ?_
        refine sxc_loopP (fun (((x183, x184), (a181, c182)) : ((List Int × Int) × (Option Addr × Nat))) => [(0, .slice a2 x1.length c3.1), (5, .slice a181 x183.length c182), (6, .int .i64 x184)]) (fun (((x183, x184), (a181, c182)) : ((List Int × Int) × (Option Addr × Nat))) => []) (fun (((x183, x184), (a181, c182)) : ((List Int × Int) × (Option Addr × Nat))) => [Ro (eI .i64) 3 1 (.slice a181 x183.length c182) x183]) (fun (((x183, x184), (a181, c182)) : ((List Int × Int) × (Option Addr × Nat))) => [SlN eN26 iN26 2 (.slice a2 x1.length c3.1) x1 c3.2]) (fun k (s : ((List Int × Int) × (Option Addr × Nat))) => M_L_KraftMust_l3 F x1 k s.1) ((([] : List Int), 0), (none, 0)) F (lk_cons rfl (lk_cons rfl (lk_cons rfl lk_nil))) .nil (.cons 0 rfl .nil) (fk_cons 0 rfl fk_nil) (fun _ => rfl) ?_
        intro k225
        rintro ⟨⟨x183, x184⟩, ⟨a181, c182⟩⟩
        try dsimp only
        refine sxc_meq (m' := M_L_KraftMust_b3 F x1 (M_L_KraftMust_l3 F x1 k225) x183 x184) rfl ?_
        refine sxc_seq ?_
        refine sxc_seq ?_
        refine sxc_region ?_
        refine sxo_move rfl rfl rfl ?_
        refine sxo_move rfl rfl rfl ?_
        refine sxo_len rfl Try.underlying23 rfl rfl ?_
        refine sxo_lss rfl rfl rfl rfl ?_
        refine sxo_nil ?_
        refine sxq_next ?_
        refine sxc_if rfl (fun h265 => ?_) (fun h265 => ?_)
        · refine sxc_skip ?_
          refine sxq_next ?_
          refine sxc_seq ?_
          refine sxc_block ?_
          refine sxc_seq ?_
          refine sxc_seq ?_
          refine sxc_region ?_
          refine sxo_move rfl rfl rfl ?_
          refine sxo_move rfl rfl rfl ?_
          refine sxo_indexN (j := 0) eN26_ok (by decide) rfl Try.underlying23 tf26 rfl rfl rfl rfl (fun x251 e251 g254 b252 o253 => ?_)
          refine sxo_fieldAddr rfl rfl ff26_0 rfl ?_
          refine sxo_loadFo (j := 0) (off := 0) rfl rfl tf3 rfl rfl (fun _ => rfl) rfl rfl ?_
          refine sxo_gtr rfl rfl rfl rfl ?_
          refine sxo_nil ?_
          refine sxq_next ?_
          refine sxc_if rfl (fun h264 => ?_) (fun h264 => ?_)
          · refine sxc_seq ?_
            refine sxc_region ?_
            refine sxo_assign rfl rfl rfl ?_
            refine sxo_nil ?_
            refine sxq_next ?_
            refine sxc_ret ?_
            refine sxq_thenR ?_
            refine sxq_blkR ?_
            refine sxq_thenR ?_
            refine sxq_thenR ?_
            refine sxq_blkR ?_
            refine sxq_thenR ?_
            exact sxq_doneP () (.inl rfl) (res1 rfl rfl) (fun h => by subst h; rfl) (fun h => by subst h; exact .nil)
          · refine sxc_skip ?_
            refine sxq_next ?_
            refine sxc_region ?_
            refine sxo_move rfl rfl rfl ?_
            refine sxo_move rfl rfl rfl ?_
            refine sxo_move rfl rfl rfl ?_
            refine sxo_indexN (j := 2) eN26_ok (by decide) rfl Try.underlying23 tf26 rfl rfl rfl rfl (fun x255 e255 g258 b256 o257 => ?_)
            refine sxo_fieldAddr rfl rfl ff26_0 rfl ?_
            refine sxo_loadFo (j := 0) (off := 0) rfl rfl tf3 rfl rfl (fun _ => rfl) rfl rfl ?_
            refine sxo_slit (vs := [.int .i64 x255.1]) (ys := ([x255.1] : List Int)) (eI_ok .i64) (by decide) rfl Try.underlying22 tf3 rfl rfl rfl rfl rfl (by decide) (fun a259 c260 => ?_)
            refine sxo_app 1 (eI_ok .i64) rfl Try.underlying22 tf3 rfl rfl rfl rfl rfl (.inl ⟨0, _, rfl⟩) rfl rfl (fun x261 e261 a262 c263 => ?_)
            refine sxo_assign rfl rfl rfl ?_
            refine sxo_nil ?_
            refine sxq_blkN ?_
            refine sxq_next ?_
            refine sxc_region ?_
            refine sxo_move rfl rfl rfl ?_
            refine sxo_add rfl rfl rfl rfl ?_
            refine sxo_assign rfl rfl rfl ?_
            refine sxo_nil ?_
            exact sxq_againP ((x261, iadd .i64 x184 1), (a262, c263)) (lk_cons rfl (lk_cons rfl (lk_cons rfl lk_nil))) .nil (.cons 0 rfl .nil) (fk_cons 4 rfl fk_nil)
        · refine sxc_exit ?_
          refine sxq_thenX ?_
          refine sxq_thenX ?_
          refine sxq_blkX ?_
          exact sxq_meetP (x183, (a181, c182)) (lk_cons rfl lk_nil) .nil (.cons 0 rfl .nil) fk_nil
      · rintro ⟨x138, ⟨a136, c137⟩⟩
        try dsimp only
        refine sxc_seq ?_
        refine sxc_region ?_
        refine sxo_move rfl rfl rfl ?_
        refine sxo_call ent10 rfl rfl rfl (fun x139 e139 => C_kraft_Room F x138 a136 c137 x139 e139) (.consR 0 (Ro (eI .i64) 3 1 (.slice a136 x138.length c137) x138) rfl .nil) (fun x139 e139 => ?_)
        intro _
        refine sxo_move rfl rfl rfl ?_
        refine sxo_extract rfl rfl rfl rfl ?_
        refine sxo_extract rfl rfl rfl rfl ?_
        refine sxo_assign rfl rfl rfl ?_
        refine sxo_assign rfl rfl rfl ?_
        refine sxo_nil ?_
        refine sxq_next ?_
        refine sxc_seq ?_
        refine sxc_region ?_
        refine sxo_move rfl rfl rfl ?_
        refine sxo_eql rfl rfl rfl rfl ?_
        refine sxo_move rfl rfl rfl ?_
        refine sxo_case 3 ((x139.2 : Int) == 0) [(52, .bool (((x139.2 : Int) == 0) && (decide (0 ≤ x139.1))))] (fun h140 => ?_) (fun h140 => ?_) ?_
        · refine sxo_take (os := _) rfl ?_
          refine sxo_isT (k := 49) rfl h140 ?_
          refine sxo_move rfl rfl rfl ?_
          refine sxo_geq rfl rfl rfl rfl ?_
          refine sxo_pick (b := true) rfl rfl rfl rfl ?_
          refine sxo_again (d := 52) (v := .bool (((x139.2 : Int) == 0) && (decide (0 ≤ x139.1)))) rfl (by rw [h140]; simp only [Bool.true_and]) ?_
          refine sxo_nil ?_
          exact sxq_case (lk_cons rfl lk_nil)
        · refine sxo_take (os := _) rfl ?_
          refine sxo_isF (k := 49) rfl h140 ?_
          refine sxo_skip rfl rfl rfl ?_
          refine sxo_skip rfl rfl rfl ?_
          refine sxo_pick (b := false) rfl rfl rfl rfl ?_
          refine sxo_again (d := 52) (v := .bool (((x139.2 : Int) == 0) && (decide (0 ≤ x139.1)))) rfl (by rw [h140]; simp only [Bool.false_and]) ?_
          refine sxo_nil ?_
          exact sxq_case (lk_cons rfl lk_nil)
        refine sxo_take (os := _) rfl ?_
        refine sxo_assign rfl rfl rfl ?_
        refine sxo_nil ?_
        refine sxq_next ?_
        refine sxc_ret ?_
        exact sxq_doneP () (.inl rfl) (res1 rfl rfl) (fun h => by subst h; rfl) (fun h => by subst h; exact .nil)

set_option maxHeartbeats 4000000 in
theorem C_L_KraftFull (F : Nat) (x1 : List Int) (a2 : Option Addr) (c3 : Nat) (x4 : Int) (x5 : List Int) (a6 : Option Addr) (c7 : Nat) (r : Bool) (hm : M_L_KraftFull F x1 x4 x5 = some r) :
    Pure Try.prog 6 [.slice a2 x1.length c3, .agg #[.int .i64 x4, .slice a6 x5.length c7]] [Sl (eI .i64) 1 (.slice a2 x1.length c3) x1, Sl (eI .u8) 1 (.slice a6 x5.length c7) x5] Unit (fun _ => .bool r) (fun _ => []) (fun _ => []) := by
  refine pure_of Try.func6 rfl Try.ntmps6 rfl hm (fun w => ?_)
  refine sxc_env (l' := [(0, .slice a2 x1.length c3), (1, .agg #[.int .i64 x4, .slice a6 x5.length c7])]) rfl ?_
  refine sxc_seq ?_
  refine sxc_region ?_
  refine sxo_box rfl rfl rfl (fun g8 => ?_)
  refine sxo_assign rfl rfl rfl ?_
  refine sxo_nil ?_
  refine sxq_next ?_
  refine sxc_seq ?_
  refine sxc_region ?_
  refine sxo_move rfl rfl rfl ?_
  refine sxo_call ent10 rfl rfl rfl (fun x9 e9 => C_kraft_Room F x1 a2 c3 x9 e9) (.consF 0 rfl .nil) (fun x9 e9 => ?_)
  intro _
  refine sxo_move rfl rfl rfl ?_
  refine sxo_extract rfl rfl rfl rfl ?_
  refine sxo_extract rfl rfl rfl rfl ?_
  refine sxo_assign rfl rfl rfl ?_
  refine sxo_assign rfl rfl rfl ?_
  refine sxo_nil ?_
  refine sxq_next ?_
  refine sxc_seq ?_
  refine sxc_region ?_
  refine sxo_move rfl rfl rfl ?_
  refine sxo_loadB (i := 0) rfl rfl tf26 rfl rfl (by simp) rfl rfl ?_
  refine sxo_call ent13 rfl rfl rfl (fun x10 e10 => C_kraft_Sign F x1 a2 c3 x4 x5 a6 c7 0 x10 e10) (.consF 0 rfl (.consF 1 rfl .nil)) (fun x10 e10 => ?_)
  intro _
  refine sxo_move rfl rfl rfl ?_
  refine sxo_extract rfl rfl rfl rfl ?_
  refine sxo_extract rfl rfl rfl rfl ?_
  refine sxo_extract rfl rfl rfl rfl ?_
  refine sxo_assign rfl rfl rfl ?_
  refine sxo_assign rfl rfl rfl ?_
  refine sxo_assign rfl rfl rfl ?_
  refine sxo_nil ?_
  refine sxq_next ?_
  refine sxc_seq ?_
  refine sxc_seq ?_
  refine sxc_region ?_
  refine sxo_call ent19 rfl rfl rfl (fun x13 e13 => C_L_kraftBegun F  x13 e13) .nil (fun x13 e13 => ?_)
  intro _
  refine sxo_not rfl rfl rfl ?_
  refine sxo_nil ?_
  refine sxq_next ?_
  refine sxc_if rfl (fun h36 => ?_) (fun h36 => ?_)
  · refine sxc_seq ?_
    refine sxc_region ?_
    refine sxo_assign rfl rfl rfl ?_
    refine sxo_nil ?_
    refine sxq_next ?_
    refine sxc_ret ?_
    refine sxq_thenR ?_
    exact sxq_doneP () (.inl rfl) (res1 rfl rfl) (fun h => by subst h; rfl) (fun h => by subst h; exact .nil)
  · refine sxc_skip ?_
    refine sxq_next ?_
    refine sxc_seq ?_
    refine sxc_seq ?_
    refine sxc_region ?_
    refine sxo_move rfl rfl rfl ?_
    refine sxo_neq rfl rfl rfl rfl ?_
    refine sxo_move rfl rfl rfl ?_
    refine sxo_case 3 ((x9.2 : Int) != 0) [(0, .slice a2 x1.length c3), (3, .pointer (some ⟨g8, 0, none⟩)), (5, .int .i64 x9.1), (9, .int .i64 x10.2.2), (33, .bool (((x9.2 : Int) != 0) || (decide (x9.1 < 0))))] (fun h18 => ?_) (fun h18 => ?_) ?_
    · refine sxo_take (os := _) rfl ?_
      refine sxo_isT (k := 30) rfl h18 ?_
      refine sxo_skip rfl rfl rfl ?_
      refine sxo_skip rfl rfl rfl ?_
      refine sxo_pick (b := true) rfl rfl rfl rfl ?_
      refine sxo_again (d := 33) (v := .bool (((x9.2 : Int) != 0) || (decide (x9.1 < 0)))) rfl (by rw [h18]; simp only [Bool.true_or]) ?_
      refine sxo_nil ?_
      exact sxq_case (lk_cons rfl (lk_cons rfl (lk_cons rfl (lk_cons rfl (lk_cons rfl lk_nil)))))
    · refine sxo_take (os := _) rfl ?_
      refine sxo_isF (k := 30) rfl h18 ?_
      refine sxo_move rfl rfl rfl ?_
      refine sxo_lss rfl rfl rfl rfl ?_
      refine sxo_pick (b := false) rfl rfl rfl rfl ?_
      refine sxo_again (d := 33) (v := .bool (((x9.2 : Int) != 0) || (decide (x9.1 < 0)))) rfl (by rw [h18]; simp only [Bool.false_or]) ?_
      refine sxo_nil ?_
      exact sxq_case (lk_cons rfl (lk_cons rfl (lk_cons rfl (lk_cons rfl (lk_cons rfl lk_nil)))))
    refine sxo_take (os := _) rfl ?_
    refine sxo_move rfl rfl rfl ?_
    refine sxo_case 3 (((x9.2 : Int) != 0) || (decide (x9.1 < 0))) [(0, .slice a2 x1.length c3), (3, .pointer (some ⟨g8, 0, none⟩)), (5, .int .i64 x9.1), (9, .int .i64 x10.2.2), (37, .bool ((((x9.2 : Int) != 0) || (decide (x9.1 < 0))) || ((x10.2.2 : Int) == 3)))] (fun h19 => ?_) (fun h19 => ?_) ?_
    · refine sxo_take (os := _) rfl ?_
      refine sxo_isT (k := 34) rfl h19 ?_
      refine sxo_skip rfl rfl rfl ?_
      refine sxo_skip rfl rfl rfl ?_
      refine sxo_pick (b := true) rfl rfl rfl rfl ?_
      refine sxo_again (d := 37) (v := .bool ((((x9.2 : Int) != 0) || (decide (x9.1 < 0))) || ((x10.2.2 : Int) == 3))) rfl (by rw [h19]; simp only [Bool.true_or]) ?_
      refine sxo_nil ?_
      exact sxq_case (lk_cons rfl (lk_cons rfl (lk_cons rfl (lk_cons rfl (lk_cons rfl lk_nil)))))
    · refine sxo_take (os := _) rfl ?_
      refine sxo_isF (k := 34) rfl h19 ?_
      refine sxo_move rfl rfl rfl ?_
      refine sxo_eql rfl rfl rfl rfl ?_
      refine sxo_pick (b := false) rfl rfl rfl rfl ?_
      refine sxo_again (d := 37) (v := .bool ((((x9.2 : Int) != 0) || (decide (x9.1 < 0))) || ((x10.2.2 : Int) == 3))) rfl (by rw [h19]; simp only [Bool.false_or]) ?_
      refine sxo_nil ?_
      exact sxq_case (lk_cons rfl (lk_cons rfl (lk_cons rfl (lk_cons rfl (lk_cons rfl lk_nil)))))
    refine sxo_take (os := _) rfl ?_
    refine sxo_move rfl rfl rfl ?_
    refine sxo_case 3 ((((x9.2 : Int) != 0) || (decide (x9.1 < 0))) || ((x10.2.2 : Int) == 3)) [(0, .slice a2 x1.length c3), (3, .pointer (some ⟨g8, 0, none⟩)), (5, .int .i64 x9.1), (9, .int .i64 x10.2.2), (41, .bool (((((x9.2 : Int) != 0) || (decide (x9.1 < 0))) || ((x10.2.2 : Int) == 3)) || ((x10.2.2 : Int) == 1)))] (fun h20 => ?_) (fun h20 => ?_) ?_
    · refine sxo_take (os := _) rfl ?_
      refine sxo_isT (k := 38) rfl h20 ?_
      refine sxo_skip rfl rfl rfl ?_
      refine sxo_skip rfl rfl rfl ?_
      refine sxo_pick (b := true) rfl rfl rfl rfl ?_
      refine sxo_again (d := 41) (v := .bool (((((x9.2 : Int) != 0) || (decide (x9.1 < 0))) || ((x10.2.2 : Int) == 3)) || ((x10.2.2 : Int) == 1))) rfl (by rw [h20]; simp only [Bool.true_or]) ?_
      refine sxo_nil ?_
      exact sxq_case (lk_cons rfl (lk_cons rfl (lk_cons rfl (lk_cons rfl (lk_cons rfl lk_nil)))))
    · refine sxo_take (os := _) rfl ?_
      refine sxo_isF (k := 38) rfl h20 ?_
      refine sxo_move rfl rfl rfl ?_
      refine sxo_eql rfl rfl rfl rfl ?_
      refine sxo_pick (b := false) rfl rfl rfl rfl ?_
      refine sxo_again (d := 41) (v := .bool (((((x9.2 : Int) != 0) || (decide (x9.1 < 0))) || ((x10.2.2 : Int) == 3)) || ((x10.2.2 : Int) == 1))) rfl (by rw [h20]; simp only [Bool.false_or]) ?_
      refine sxo_nil ?_
      exact sxq_case (lk_cons rfl (lk_cons rfl (lk_cons rfl (lk_cons rfl (lk_cons rfl lk_nil)))))
    refine sxo_take (os := _) rfl ?_
    refine sxo_nil ?_
    refine sxq_next ?_
    refine sxc_if rfl (fun h35 => ?_) (fun h35 => ?_)
    · refine sxc_seq ?_
      refine sxc_region ?_
      refine sxo_assign rfl rfl rfl ?_
      refine sxo_nil ?_
      refine sxq_next ?_
      refine sxc_ret ?_
      refine sxq_thenR ?_
      exact sxq_doneP () (.inl rfl) (res1 rfl rfl) (fun h => by subst h; rfl) (fun h => by subst h; exact .nil)
    · refine sxc_skip ?_
      refine sxq_next ?_
      refine sxc_seq ?_
      refine sxc_seq ?_
      refine sxc_region ?_
      refine sxo_move rfl rfl rfl ?_
      refine sxo_eql rfl rfl rfl rfl ?_
      refine sxo_nil ?_
      refine sxq_next ?_
      refine sxc_if rfl (fun h34 => ?_) (fun h34 => ?_)
      · refine sxc_seq ?_
        refine sxc_region ?_
        refine sxo_move rfl rfl rfl ?_
        refine sxo_eql rfl rfl rfl rfl ?_
        refine sxo_move rfl rfl rfl ?_
        refine sxo_join 8 (fun ((x28, _) : (Bool × Unit)) => [(54, .bool x28)]) (fun ((x28, _) : (Bool × Unit)) => []) (fun ((x28, _) : (Bool × Unit)) => []) (fun ((x28, _) : (Bool × Unit)) => []) (fun ((x28, _) : (Bool × Unit)) => M_L_KraftFull_j2 F x28) ?_ ?_
        · refine sxo_take (os := _) rfl ?_
          refine sxo_if (fun h26 => ?_) (fun h26 => ?_)
          · refine sxo_isT (k := 46) rfl h26 ?_
            refine sxo_skip rfl rfl rfl ?_
            refine sxo_skip rfl rfl rfl ?_
            refine sxo_skip rfl rfl rfl ?_
            refine sxo_skip rfl rfl rfl ?_
            refine sxo_skip rfl rfl rfl ?_
            refine sxo_skip rfl rfl rfl ?_
            refine sxo_skip rfl rfl rfl ?_
            refine sxo_pick (b := true) rfl rfl rfl rfl ?_
            refine sxo_nil ?_
            exact sxq_meetP (true, ()) (lk_cons rfl lk_nil) .nil .nil fk_nil
          · refine sxo_isF (k := 46) rfl h26 ?_
            refine sxo_move rfl rfl rfl ?_
            refine sxo_eql rfl rfl rfl rfl ?_
            refine sxo_move rfl rfl rfl ?_
            refine sxo_case 4 ((x10.2.2 : Int) == 7) [(46, .bool false), (53, .bool (((x10.2.2 : Int) == 7) && (decide (x4 < 24))))] (fun h29 => ?_) (fun h29 => ?_) ?_
            · refine sxo_take (os := _) rfl ?_
              refine sxo_isT (k := 49) rfl h29 ?_
              refine sxo_fieldAddr rfl rfl ff26_0 rfl ?_
              refine sxo_loadB (i := 0) rfl rfl tf3 rfl rfl (fun _ => rfl) rfl rfl ?_
              refine sxo_lss rfl rfl rfl rfl ?_
              refine sxo_pick (b := true) rfl rfl rfl rfl ?_
              refine sxo_again (d := 53) (v := .bool (((x10.2.2 : Int) == 7) && (decide (x4 < 24)))) rfl (by rw [h29]; simp only [Bool.true_and]) ?_
              refine sxo_nil ?_
              exact sxq_case (lk_cons rfl (lk_cons rfl lk_nil))
            · refine sxo_take (os := _) rfl ?_
              refine sxo_isF (k := 49) rfl h29 ?_
              refine sxo_skip rfl rfl rfl ?_
              refine sxo_skip rfl rfl rfl ?_
              refine sxo_skip rfl rfl rfl ?_
              refine sxo_pick (b := false) rfl rfl rfl rfl ?_
              refine sxo_again (d := 53) (v := .bool (((x10.2.2 : Int) == 7) && (decide (x4 < 24)))) rfl (by rw [h29]; simp only [Bool.false_and]) ?_
              refine sxo_nil ?_
              exact sxq_case (lk_cons rfl (lk_cons rfl lk_nil))
            refine sxo_take (os := _) rfl ?_
            refine sxo_pick (b := false) rfl rfl rfl rfl ?_
            refine sxo_nil ?_
            exact sxq_meetP ((((x10.2.2 : Int) == 7) && (decide (x4 < 24))), ()) (lk_cons rfl lk_nil) .nil .nil fk_nil
        · rintro ⟨x28, _⟩
          try dsimp only
          refine sxo_take (os := _) rfl ?_
          refine sxo_assign rfl rfl rfl ?_
          refine sxo_nil ?_
          refine sxq_next ?_
          refine sxc_ret ?_
          refine sxq_thenR ?_
          exact sxq_doneP () (.inl rfl) (res1 rfl rfl) (fun h => by subst h; rfl) (fun h => by subst h; exact .nil)
      · refine sxc_skip ?_
        refine sxq_next ?_
        refine sxc_seq ?_
        refine sxc_region ?_
        refine sxo_slit (vs := [.int .u8 255, .int .u8 255, .int .u8 255]) (ys := ([255, 255, 255] : List Int)) (eI_ok .u8) (by decide) rfl Try.underlying24 tf5 rfl rfl rfl rfl rfl (by decide) (fun a30 c31 => ?_)
        refine sxo_build (cells := [.int .i64 24, .slice a30 ([255, 255, 255] : List Int).length c31]) rfl st26 rfl (by kernel_rfl) rfl ?_
        refine sxo_alloc rfl tf26 rfl (fun g32 => ?_)
        refine sxo_storeB (i := 0) rfl rfl rfl tf26 rfl rfl rfl rfl rfl ?_
        refine sxo_nil ?_
        refine sxq_next ?_
        refine sxc_seq ?_
        refine sxc_region ?_
        refine sxo_move rfl rfl rfl ?_
        refine sxo_loadB (i := 0) rfl rfl tf26 rfl rfl (by simp) rfl rfl ?_
        refine sxo_call ent13 rfl rfl rfl (fun x33 e33 => C_kraft_Sign F x1 a2 c3 24 ([255, 255, 255] : List Int) a30 c31 0 x33 e33) (.consF 0 rfl (.consR 0 (Ro (eI .u8) 5 1 (.slice a30 ([255, 255, 255] : List Int).length c31) ([255, 255, 255] : List Int)) rfl .nil)) (fun x33 e33 => ?_)
        intro _
        refine sxo_move rfl rfl rfl ?_
        refine sxo_extract rfl rfl rfl rfl ?_
        refine sxo_extract rfl rfl rfl rfl ?_
        refine sxo_extract rfl rfl rfl rfl ?_
        refine sxo_assign rfl rfl rfl ?_
        refine sxo_assign rfl rfl rfl ?_
        refine sxo_assign rfl rfl rfl ?_
        refine sxo_nil ?_
        refine sxq_next ?_
        refine sxc_seq ?_
        refine sxc_region ?_
        refine sxo_move rfl rfl rfl ?_
        refine sxo_eql rfl rfl rfl rfl ?_
        refine sxo_assign rfl rfl rfl ?_
        refine sxo_nil ?_
        refine sxq_next ?_
        refine sxc_ret ?_
        exact sxq_doneP () (.inl rfl) (res1 rfl rfl) (fun h => by subst h; rfl) (fun h => by subst h; exact .nil)

set_option maxHeartbeats 4000000 in
theorem C_L_KraftTurn (F : Nat) (x1 : List Int) (a2 : Option Addr) (c3 : Nat) (x4 : Int) (r : Bool) (hm : M_L_KraftTurn F x1 x4 = some r) :
    Pure Try.prog 7 [.slice a2 x1.length c3, .int .i64 x4] [Sl (eI .i64) 1 (.slice a2 x1.length c3) x1] Unit (fun _ => .bool r) (fun _ => []) (fun _ => []) := by
  refine pure_of Try.func7 rfl Try.ntmps7 rfl hm (fun w => ?_)
  refine sxc_env (l' := [(0, .slice a2 x1.length c3), (1, .int .i64 x4)]) rfl ?_
  refine sxc_seq ?_
  refine sxc_region ?_
  refine sxo_assign rfl rfl rfl ?_
  refine sxo_nil ?_
  refine sxq_next ?_
  refine sxc_seq ?_
  refine sxc_region ?_
  refine sxo_move rfl rfl rfl ?_
  refine sxo_call ent10 rfl rfl rfl (fun x5 e5 => C_kraft_Room F x1 a2 c3 x5 e5) (.consF 0 rfl .nil) (fun x5 e5 => ?_)
  intro _
  refine sxo_move rfl rfl rfl ?_
  refine sxo_extract rfl rfl rfl rfl ?_
  refine sxo_extract rfl rfl rfl rfl ?_
  refine sxo_assign rfl rfl rfl ?_
  refine sxo_assign rfl rfl rfl ?_
  refine sxo_nil ?_
  refine sxq_next ?_
  refine sxc_seq ?_
  refine sxc_seq ?_
  refine sxc_region ?_
  refine sxo_call ent19 rfl rfl rfl (fun x8 e8 => C_L_kraftBegun F  x8 e8) .nil (fun x8 e8 => ?_)
  intro _
  refine sxo_not rfl rfl rfl ?_
  refine sxo_nil ?_
  refine sxq_next ?_
  refine sxc_if rfl (fun h190 => ?_) (fun h190 => ?_)
  · refine sxc_seq ?_
    refine sxc_region ?_
    refine sxo_assign rfl rfl rfl ?_
    refine sxo_nil ?_
    refine sxq_next ?_
    refine sxc_ret ?_
    refine sxq_thenR ?_
    exact sxq_doneP () (.inl rfl) (res1 rfl rfl) (fun h => by subst h; rfl) (fun h => by subst h; exact .nil)
  · refine sxc_skip ?_
    refine sxq_next ?_
    refine sxc_seq ?_
    refine sxc_seq ?_
    refine sxc_region ?_
    refine sxo_move rfl rfl rfl ?_
    refine sxo_neq rfl rfl rfl rfl ?_
    refine sxo_nil ?_
    refine sxq_next ?_
    refine sxc_if rfl (fun h189 => ?_) (fun h189 => ?_)
    · refine sxc_seq ?_
      refine sxc_region ?_
      refine sxo_move rfl rfl rfl ?_
      refine sxo_eql rfl rfl rfl rfl ?_
      refine sxo_assign rfl rfl rfl ?_
      refine sxo_nil ?_
      refine sxq_next ?_
      refine sxc_ret ?_
      refine sxq_thenR ?_
      exact sxq_doneP () (.inl rfl) (res1 rfl rfl) (fun h => by subst h; rfl) (fun h => by subst h; exact .nil)
    · refine sxc_skip ?_
      refine sxq_next ?_
      refine sxc_seq ?_
      refine sxc_region ?_
      refine sxo_assign rfl rfl rfl ?_
      refine sxo_nil ?_
      refine sxq_next ?_
      refine sxc_join (fun ((x72, (a70, c71)) : (List Int × (Option Addr × Nat))) => [(0, .slice a2 x1.length c3), (1, .int .i64 x4), (5, .int .i64 x5.1), (7, .slice a70 x72.length c71)]) (fun ((x72, (a70, c71)) : (List Int × (Option Addr × Nat))) => []) (fun ((x72, (a70, c71)) : (List Int × (Option Addr × Nat))) => [Ro (eI .i64) 3 1 (.slice a70 x72.length c71) x72]) (fun ((x72, (a70, c71)) : (List Int × (Option Addr × Nat))) => [Sl (eI .i64) 1 (.slice a2 x1.length c3) x1]) (fun ((x72, _) : (List Int × (Option Addr × Nat))) => M_L_KraftTurn_j2 F x1 x4 x5 x72) ?_ ?_
      · refine sxc_seq ?_
        refine sxc_region ?_
        refine sxo_move rfl rfl rfl ?_
        refine sxo_len rfl Try.underlying22 rfl rfl ?_
        refine sxo_sub rfl rfl rfl rfl ?_
        refine sxo_assign rfl rfl rfl ?_
        refine sxo_nil ?_
        refine sxq_next ?_
        refine sxc_block ?_
        refine sxc_nilrow Int (eI .i64) 3 1 ?_
        refine sxc_loopP (fun (((x150, x151), (a148, c149)) : ((List Int × Int) × (Option Addr × Nat))) => [(0, .slice a2 x1.length c3), (1, .int .i64 x4), (5, .int .i64 x5.1), (7, .slice a148 x150.length c149), (8, .int .i64 x151)]) (fun (((x150, x151), (a148, c149)) : ((List Int × Int) × (Option Addr × Nat))) => []) (fun (((x150, x151), (a148, c149)) : ((List Int × Int) × (Option Addr × Nat))) => [Ro (eI .i64) 3 1 (.slice a148 x150.length c149) x150]) (fun (((x150, x151), (a148, c149)) : ((List Int × Int) × (Option Addr × Nat))) => [Sl (eI .i64) 1 (.slice a2 x1.length c3) x1]) (fun k (s : ((List Int × Int) × (Option Addr × Nat))) => M_L_KraftTurn_l4 F x1 x4 x5 k s.1) ((([] : List Int), isub .i64 (x1.length : Int) 1), (none, 0)) F (lk_cons rfl (lk_cons rfl (lk_cons rfl (lk_cons rfl (lk_cons rfl lk_nil))))) .nil (.cons 0 rfl .nil) (fk_cons 0 rfl fk_nil) (fun _ => rfl) ?_
        intro k170
        rintro ⟨⟨x150, x151⟩, ⟨a148, c149⟩⟩
        try dsimp only
        refine sxc_meq (m' := M_L_KraftTurn_b4 F x1 x4 x5 (M_L_KraftTurn_l4 F x1 x4 x5 k170) x150 x151) rfl ?_
        refine sxc_seq ?_
        refine sxc_seq ?_
        refine sxc_region ?_
        refine sxo_move rfl rfl rfl ?_
        refine sxo_geq rfl rfl rfl rfl ?_
        refine sxo_nil ?_
        refine sxq_next ?_
        refine sxc_if rfl (fun h188 => ?_) (fun h188 => ?_)
        · refine sxc_skip ?_
          refine sxq_next ?_
          refine sxc_seq ?_
          refine sxc_block ?_
          refine sxc_region ?_
          refine sxo_move rfl rfl rfl ?_
          refine sxo_move rfl rfl rfl ?_
          refine sxo_move rfl rfl rfl ?_
          refine sxo_indexF (j := 0) (eI_ok .i64) (by decide) rfl Try.underlying22 tf3 rfl rfl rfl rfl (fun x180 e180 b181 o182 => ?_)
          refine sxo_loadF (j := 0) rfl rfl tf3 rfl rfl (fun _ => rfl) rfl rfl ?_
          refine sxo_slit (vs := [.int .i64 x180]) (ys := ([x180] : List Int)) (eI_ok .i64) (by decide) rfl Try.underlying22 tf3 rfl rfl rfl rfl rfl (by decide) (fun a183 c184 => ?_)
          refine sxo_app 1 (eI_ok .i64) rfl Try.underlying22 tf3 rfl rfl rfl rfl rfl (.inl ⟨0, _, rfl⟩) rfl rfl (fun x185 e185 a186 c187 => ?_)
          refine sxo_assign rfl rfl rfl ?_
          refine sxo_nil ?_
          refine sxq_blkN ?_
          refine sxq_next ?_
          refine sxc_region ?_
          refine sxo_move rfl rfl rfl ?_
          refine sxo_sub rfl rfl rfl rfl ?_
          refine sxo_assign rfl rfl rfl ?_
          refine sxo_nil ?_
          exact sxq_againP ((x185, isub .i64 x151 1), (a186, c187)) (lk_cons rfl (lk_cons rfl (lk_cons rfl (lk_cons rfl (lk_cons rfl lk_nil))))) .nil (.cons 0 rfl .nil) (fk_cons 1 rfl fk_nil)
        · refine sxc_exit ?_
          refine sxq_thenX ?_
          refine sxq_thenX ?_
          refine sxq_blkX ?_
          exact sxq_meetP (x150, (a148, c149)) (lk_cons rfl (lk_cons rfl (lk_cons rfl (lk_cons rfl lk_nil)))) .nil (.cons 0 rfl .nil) (fk_cons 0 rfl fk_nil)
      · rintro ⟨x72, ⟨a70, c71⟩⟩
        try dsimp only
        refine sxc_seq ?_
        refine sxc_region ?_
        refine sxo_move rfl rfl rfl ?_
        refine sxo_call ent10 rfl rfl rfl (fun x73 e73 => C_kraft_Room F x72 a70 c71 x73 e73) (.consR 0 (Ro (eI .i64) 3 1 (.slice a70 x72.length c71) x72) rfl .nil) (fun x73 e73 => ?_)
        intro _
        refine sxo_move rfl rfl rfl ?_
        refine sxo_extract rfl rfl rfl rfl ?_
        refine sxo_extract rfl rfl rfl rfl ?_
        refine sxo_assign rfl rfl rfl ?_
        refine sxo_assign rfl rfl rfl ?_
        refine sxo_nil ?_
        refine sxq_next ?_
        refine sxc_seq ?_
        refine sxc_seq ?_
        refine sxc_region ?_
        refine sxo_move rfl rfl rfl ?_
        refine sxo_neq rfl rfl rfl rfl ?_
        refine sxo_move rfl rfl rfl ?_
        refine sxo_case 4 ((x73.2 : Int) != 0) [(0, .slice a2 x1.length c3), (1, .int .i64 x4), (5, .int .i64 x5.1), (49, .bool (((x73.2 : Int) != 0) || ((x73.1 : Int) != x5.1)))] (fun h76 => ?_) (fun h76 => ?_) ?_
        · refine sxo_take (os := _) rfl ?_
          refine sxo_isT (k := 45) rfl h76 ?_
          refine sxo_skip rfl rfl rfl ?_
          refine sxo_skip rfl rfl rfl ?_
          refine sxo_skip rfl rfl rfl ?_
          refine sxo_pick (b := true) rfl rfl rfl rfl ?_
          refine sxo_again (d := 49) (v := .bool (((x73.2 : Int) != 0) || ((x73.1 : Int) != x5.1))) rfl (by rw [h76]; simp only [Bool.true_or]) ?_
          refine sxo_nil ?_
          exact sxq_case (lk_cons rfl (lk_cons rfl (lk_cons rfl (lk_cons rfl lk_nil))))
        · refine sxo_take (os := _) rfl ?_
          refine sxo_isF (k := 45) rfl h76 ?_
          refine sxo_move rfl rfl rfl ?_
          refine sxo_move rfl rfl rfl ?_
          refine sxo_neq rfl rfl rfl rfl ?_
          refine sxo_pick (b := false) rfl rfl rfl rfl ?_
          refine sxo_again (d := 49) (v := .bool (((x73.2 : Int) != 0) || ((x73.1 : Int) != x5.1))) rfl (by rw [h76]; simp only [Bool.false_or]) ?_
          refine sxo_nil ?_
          exact sxq_case (lk_cons rfl (lk_cons rfl (lk_cons rfl (lk_cons rfl lk_nil))))
        refine sxo_take (os := _) rfl ?_
        refine sxo_nil ?_
        refine sxq_next ?_
        refine sxc_if rfl (fun h128 => ?_) (fun h128 => ?_)
        · refine sxc_seq ?_
          refine sxc_region ?_
          refine sxo_assign rfl rfl rfl ?_
          refine sxo_nil ?_
          refine sxq_next ?_
          refine sxc_ret ?_
          refine sxq_thenR ?_
          exact sxq_doneP () (.inl rfl) (res1 rfl rfl) (fun h => by subst h; rfl) (fun h => by subst h; exact .nil)
        · refine sxc_skip ?_
          refine sxq_next ?_
          refine sxc_seq ?_
          refine sxc_seq ?_
          refine sxc_region ?_
          refine sxo_move rfl rfl rfl ?_
          refine sxo_lss rfl rfl rfl rfl ?_
          refine sxo_move rfl rfl rfl ?_
          refine sxo_case 5 (decide (x4 < 0)) [(0, .slice a2 x1.length c3), (1, .int .i64 x4), (5, .int .i64 x5.1), (57, .bool ((decide (x4 < 0)) || (decide ((x1.length : Int) ≤ x4))))] (fun h79 => ?_) (fun h79 => ?_) ?_
          · refine sxo_take (os := _) rfl ?_
            refine sxo_isT (k := 52) rfl h79 ?_
            refine sxo_skip rfl rfl rfl ?_
            refine sxo_skip rfl rfl rfl ?_
            refine sxo_skip rfl rfl rfl ?_
            refine sxo_skip rfl rfl rfl ?_
            refine sxo_pick (b := true) rfl rfl rfl rfl ?_
            refine sxo_again (d := 57) (v := .bool ((decide (x4 < 0)) || (decide ((x1.length : Int) ≤ x4)))) rfl (by rw [h79]; simp only [Bool.true_or]) ?_
            refine sxo_nil ?_
            exact sxq_case (lk_cons rfl (lk_cons rfl (lk_cons rfl (lk_cons rfl lk_nil))))
          · refine sxo_take (os := _) rfl ?_
            refine sxo_isF (k := 52) rfl h79 ?_
            refine sxo_move rfl rfl rfl ?_
            refine sxo_move rfl rfl rfl ?_
            refine sxo_len rfl Try.underlying22 rfl rfl ?_
            refine sxo_geq rfl rfl rfl rfl ?_
            refine sxo_pick (b := false) rfl rfl rfl rfl ?_
            refine sxo_again (d := 57) (v := .bool ((decide (x4 < 0)) || (decide ((x1.length : Int) ≤ x4)))) rfl (by rw [h79]; simp only [Bool.false_or]) ?_
            refine sxo_nil ?_
            exact sxq_case (lk_cons rfl (lk_cons rfl (lk_cons rfl (lk_cons rfl lk_nil))))
          refine sxo_take (os := _) rfl ?_
          refine sxo_nil ?_
          refine sxq_next ?_
          refine sxc_if rfl (fun h127 => ?_) (fun h127 => ?_)
          · refine sxc_seq ?_
            refine sxc_region ?_
            refine sxo_assign rfl rfl rfl ?_
            refine sxo_nil ?_
            refine sxq_next ?_
            refine sxc_ret ?_
            refine sxq_thenR ?_
            exact sxq_doneP () (.inl rfl) (res1 rfl rfl) (fun h => by subst h; rfl) (fun h => by subst h; exact .nil)
          · refine sxc_skip ?_
            refine sxq_next ?_
            refine sxc_seq ?_
            refine sxc_cutH 0 (eI_ok .i64) rfl (fun x99 e99 a100 c101 h102 h103 => ?_)
            refine sxc_cutH 1 (eI_ok .i64) rfl (fun x104 e104 a105 c106 h107 h108 => ?_)
            refine sxb_draw mixed [] [] [Sl (eI .i64) 1 (.slice a105 x104.length c106) x104, Sl (eI .i64) 1 (.slice a100 x99.length c101) x99, Sl (eI .i64) 1 (.slice a2 x1.length c3) x1] .nil (gk_F 0 rfl (gk_F 1 rfl (gk_F 2 rfl gk_nil))) 16 rfl ?_
            refine sxb_takeP 1 (.slice a2 x1.length c3) rfl rfl rfl rfl (by kernel_rfl) (by kernel_rfl) (by kernel_rfl) (by kernel_rfl) (by kernel_rfl) rfl (show _ = #[false, true, false, false, false, false, false, false, false, false, false, false, false, false, false, false] from rfl) (yv_pv rfl) ?_
            refine sxb_takeP 2 (.int .i64 x4) rfl rfl rfl rfl (by kernel_rfl) (by kernel_rfl) (by kernel_rfl) (by kernel_rfl) (by kernel_rfl) rfl (show _ = #[false, true, true, false, false, false, false, false, false, false, false, false, false, false, false, false] from rfl) (yv_pv rfl) ?_
            refine sxb_takeP 3 (.slice a100 x99.length c101) rfl rfl rfl rfl (by kernel_rfl) (by kernel_rfl) (by kernel_rfl) (by kernel_rfl) (by kernel_rfl) rfl (show _ = #[false, true, true, true, false, false, false, false, false, false, false, false, false, false, false, false] from rfl) (yv_cut Try.underlying22 tf3 rfl rfl rfl e99 h103 h102) ?_
            refine sxb_takeP 5 (.slice a2 x1.length c3) rfl rfl rfl rfl (by kernel_rfl) (by kernel_rfl) (by kernel_rfl) (by kernel_rfl) (by kernel_rfl) rfl (show _ = #[false, true, true, true, false, true, false, false, false, false, false, false, false, false, false, false] from rfl) (yv_pv rfl) ?_
            refine sxb_takeP 6 (.int .i64 x4) rfl rfl rfl rfl (by kernel_rfl) (by kernel_rfl) (by kernel_rfl) (by kernel_rfl) (by kernel_rfl) rfl (show _ = #[false, true, true, true, false, true, true, false, false, false, false, false, false, false, false, false] from rfl) (yv_pv rfl) ?_
            refine sxb_takeP 7 (.int .i64 (iadd .i64 x4 1)) rfl rfl rfl rfl (by kernel_rfl) (by kernel_rfl) (by kernel_rfl) (by kernel_rfl) (by kernel_rfl) rfl (show _ = #[false, true, true, true, false, true, true, true, false, false, false, false, false, false, false, false] from rfl) (yv_pv rfl) ?_
            refine sxb_takeP 8 (.slice a105 x104.length c106) rfl rfl rfl rfl (by kernel_rfl) (by kernel_rfl) (by kernel_rfl) (by kernel_rfl) (by kernel_rfl) rfl (show _ = #[false, true, true, true, false, true, true, true, true, false, false, false, false, false, false, false] from rfl) (yv_cut Try.underlying22 tf3 rfl rfl rfl e104 h108 h107) ?_
            refine sxb_step 0 rfl (by kernel_rfl) (show _ = #[true, true, true, true, false, true, true, true, true, false, false, false, false, false, false, false] from rfl) ?_
            refine sxo_slit (vs := []) (ys := ([] : List Int)) (eI_ok .i64) (by decide) rfl Try.underlying22 tf3 rfl rfl rfl rfl rfl (by decide) (fun a109 c110 => ?_)
            refine sxo_nil ?_
            refine sxq_anyB .nil (gk_F 0 rfl (gk_F 1 rfl (gk_F 2 rfl gk_nil))) ?_
            refine sxb_step 4 rfl (by kernel_rfl) (show _ = #[true, true, true, true, true, true, true, true, true, false, false, false, false, false, false, false] from rfl) ?_
            refine sxo_app 0 (eI_ok .i64) rfl Try.underlying22 tf3 rfl rfl rfl rfl rfl (.inr ⟨1, rfl⟩) rfl rfl (fun x111 e111 a112 c113 => ?_)
            refine sxo_nil ?_
            refine sxq_anyB .nil (gk_F 0 rfl (gk_F 1 rfl (gk_F 2 rfl gk_nil))) ?_
            refine sxb_step 9 rfl (by kernel_rfl) (show _ = #[true, true, true, true, true, true, true, true, true, true, false, false, false, false, false, false] from rfl) ?_
            refine sxo_app 0 (eI_ok .i64) rfl Try.underlying22 tf3 rfl rfl rfl rfl rfl (.inr ⟨0, rfl⟩) rfl rfl (fun x114 e114 a115 c116 => ?_)
            refine sxo_nil ?_
            refine sxq_anyB .nil (gk_F 0 rfl (gk_F 1 rfl (gk_F 2 rfl gk_nil))) ?_
            refine sxb_step 10 rfl (by kernel_rfl) (show _ = #[true, true, true, true, true, true, true, true, true, true, true, false, false, false, false, false] from rfl) ?_
            refine sxo_call ent10 rfl rfl rfl (fun x117 e117 => C_kraft_Room F x114 a115 c116 x117 e117) (.consR 0 (Ro (eI .i64) 3 1 (.slice a115 x114.length c116) x114) rfl .nil) (fun x117 e117 => ?_)
            intro _
            refine sxo_nil ?_
            refine sxq_anyB .nil (gk_F 0 rfl (gk_F 1 rfl (gk_F 2 rfl gk_nil))) ?_
            refine sxb_takeP 11 (.tuple #[.int .i64 x117.1, .int .i64 x117.2]) rfl rfl rfl rfl (by kernel_rfl) (by kernel_rfl) (by kernel_rfl) (by kernel_rfl) (by kernel_rfl) rfl (show _ = #[true, true, true, true, true, true, true, true, true, true, true, true, false, false, false, false] from rfl) (yv_pv rfl) ?_
            refine sxb_takeP 12 (.int .i64 x117.1) rfl rfl rfl rfl (by kernel_rfl) (by kernel_rfl) (by kernel_rfl) (by kernel_rfl) (by kernel_rfl) rfl (show _ = #[true, true, true, true, true, true, true, true, true, true, true, true, true, false, false, false] from rfl) (yv_pv rfl) ?_
            refine sxb_takeP 13 (.int .i64 x117.2) rfl rfl rfl rfl (by kernel_rfl) (by kernel_rfl) (by kernel_rfl) (by kernel_rfl) (by kernel_rfl) rfl (show _ = #[true, true, true, true, true, true, true, true, true, true, true, true, true, true, false, false] from rfl) (yv_pv rfl) ?_
            refine sxb_takeP 14 (.int .i64 x117.1) rfl rfl rfl rfl (by kernel_rfl) (by kernel_rfl) (by kernel_rfl) (by kernel_rfl) (by kernel_rfl) rfl (show _ = #[true, true, true, true, true, true, true, true, true, true, true, true, true, true, true, false] from rfl) (yv_pv rfl) ?_
            refine sxb_takeP 15 (.int .i64 x117.2) rfl rfl rfl rfl (by kernel_rfl) (by kernel_rfl) (by kernel_rfl) (by kernel_rfl) (by kernel_rfl) rfl (show _ = #[true, true, true, true, true, true, true, true, true, true, true, true, true, true, true, true] from rfl) (yv_pv rfl) ?_
            refine sxb_done (by kernel_rfl) ?_
            refine sxq_np ?_ (by intro c h; cases h)
            refine sxq_next ?_
            refine sxc_seq ?_
            refine sxc_region ?_
            refine sxo_move rfl rfl rfl ?_
            refine sxo_eql rfl rfl rfl rfl ?_
            refine sxo_move rfl rfl rfl ?_
            refine sxo_case 4 ((x117.2 : Int) == 0) [(0, .slice a2 x1.length c3), (1, .int .i64 x4), (5, .int .i64 x5.1), (11, .int .i64 x117.1), (78, .bool (((x117.2 : Int) == 0) && (decide (x5.1 ≤ x117.1))))] (fun h118 => ?_) (fun h118 => ?_) ?_
            · refine sxo_take (os := _) rfl ?_
              refine sxo_isT (k := 74) rfl h118 ?_
              refine sxo_move rfl rfl rfl ?_
              refine sxo_move rfl rfl rfl ?_
              refine sxo_geq rfl rfl rfl rfl ?_
              refine sxo_pick (b := true) rfl rfl rfl rfl ?_
              refine sxo_again (d := 78) (v := .bool (((x117.2 : Int) == 0) && (decide (x5.1 ≤ x117.1)))) rfl (by rw [h118]; simp only [Bool.true_and]) ?_
              refine sxo_nil ?_
              exact sxq_case (lk_cons rfl (lk_cons rfl (lk_cons rfl (lk_cons rfl (lk_cons rfl lk_nil)))))
            · refine sxo_take (os := _) rfl ?_
              refine sxo_isF (k := 74) rfl h118 ?_
              refine sxo_skip rfl rfl rfl ?_
              refine sxo_skip rfl rfl rfl ?_
              refine sxo_skip rfl rfl rfl ?_
              refine sxo_pick (b := false) rfl rfl rfl rfl ?_
              refine sxo_again (d := 78) (v := .bool (((x117.2 : Int) == 0) && (decide (x5.1 ≤ x117.1)))) rfl (by rw [h118]; simp only [Bool.false_and]) ?_
              refine sxo_nil ?_
              exact sxq_case (lk_cons rfl (lk_cons rfl (lk_cons rfl (lk_cons rfl (lk_cons rfl lk_nil)))))
            refine sxo_take (os := _) rfl ?_
            refine sxo_move rfl rfl rfl ?_
            refine sxo_join 10 (fun ((x123, _) : (Bool × Unit)) => [(89, .bool x123)]) (fun ((x123, _) : (Bool × Unit)) => []) (fun ((x123, _) : (Bool × Unit)) => []) (fun ((x123, _) : (Bool × Unit)) => []) (fun ((x123, _) : (Bool × Unit)) => M_L_KraftTurn_j3 F x123) ?_ ?_
            · refine sxo_take (os := _) rfl ?_
              refine sxo_if (fun h119 => ?_) (fun h119 => ?_)
              · refine sxo_isT (k := 79) rfl h119 ?_
                refine sxo_move rfl rfl rfl ?_
                refine sxo_move rfl rfl rfl ?_
                refine sxo_gtr rfl rfl rfl rfl ?_
                refine sxo_move rfl rfl rfl ?_
                refine sxo_move rfl rfl rfl ?_
                refine sxo_indexF (j := 2) (eI_ok .i64) (by decide) rfl Try.underlying22 tf3 rfl rfl rfl rfl (fun x124 e124 b125 o126 => ?_)
                refine sxo_loadF (j := 0) rfl rfl tf3 rfl rfl (fun _ => rfl) rfl rfl ?_
                refine sxo_gtr rfl rfl rfl rfl ?_
                refine sxo_eqb rfl Try.underlying4 rfl rfl rfl ?_
                refine sxo_pick (b := true) rfl rfl rfl rfl ?_
                refine sxo_nil ?_
                exact sxq_meetP (((decide (x5.1 < x117.1)) == (decide (0 < x124))), ()) (lk_cons rfl lk_nil) .nil .nil fk_nil
              · refine sxo_isF (k := 79) rfl h119 ?_
                refine sxo_skip rfl rfl rfl ?_
                refine sxo_skip rfl rfl rfl ?_
                refine sxo_skip rfl rfl rfl ?_
                refine sxo_skip rfl rfl rfl ?_
                refine sxo_skip rfl rfl rfl ?_
                refine sxo_skip rfl rfl rfl ?_
                refine sxo_skip rfl rfl rfl ?_
                refine sxo_skip rfl rfl rfl ?_
                refine sxo_skip rfl rfl rfl ?_
                refine sxo_pick (b := false) rfl rfl rfl rfl ?_
                refine sxo_nil ?_
                exact sxq_meetP (false, ()) (lk_cons rfl lk_nil) .nil .nil fk_nil
            · rintro ⟨x123, _⟩
              try dsimp only
              refine sxo_take (os := _) rfl ?_
              refine sxo_assign rfl rfl rfl ?_
              refine sxo_nil ?_
              refine sxq_next ?_
              refine sxc_ret ?_
              exact sxq_doneP () (.inl rfl) (res1 rfl rfl) (fun h => by subst h; rfl) (fun h => by subst h; exact .nil)

theorem C_bits_places (F : Nat) (x1 : Int) (x2 : List Int) (a3 : Option Addr) (c4 : Nat) (x5 : Int) (x6 : Int) (r : Unit) (hm : M_bits_places F x1 x2 x5 x6 = some r) :
    PureM Try.prog 55 [.agg #[.int .i64 x1, .slice a3 x2.length c4], .int .i64 x5, .int .i64 x6] [] [] [Sl (eI .u8) 1 (.slice a3 x2.length c4) x2] (Nat × Nat × Nat) (fun g => .func (.func 61) #[] #[.pointer (some ⟨g.1, 0, none⟩), .pointer (some ⟨g.2.1, 0, none⟩), .pointer (some ⟨g.2.2, 0, none⟩)]) (fun g => [⟨g.1, 3, [.int .i64 x5]⟩, ⟨g.2.1, 3, [.int .i64 x6]⟩, ⟨g.2.2, 26, [.int .i64 x1, .slice a3 x2.length c4]⟩]) (fun _ => []) := by
  refine pureM_of Try.func55 rfl Try.ntmps55 rfl hm (fun w => ?_)
  refine sxc_env (l' := [(0, .agg #[.int .i64 x1, .slice a3 x2.length c4]), (1, .int .i64 x5), (2, .int .i64 x6)]) rfl ?_
  refine sxc_seq ?_
  refine sxc_region ?_
  refine sxo_box rfl rfl rfl (fun g7 => ?_)
  refine sxo_box rfl rfl rfl (fun g8 => ?_)
  refine sxo_box rfl rfl rfl (fun g9 => ?_)
  refine sxo_assign rfl rfl rfl ?_
  refine sxo_nil ?_
  refine sxq_next ?_
  refine sxc_seq ?_
  refine sxc_region ?_
  refine sxo_makeFunc rfl rfl rfl ?_
  refine sxo_assign rfl rfl rfl ?_
  refine sxo_nil ?_
  refine sxq_next ?_
  refine sxc_ret ?_
  exact sxq_doneM (g8, g9, g7) (.inl rfl) (res1 rfl rfl) (fun h => by subst h; rfl) (fun h => by subst h; exact (.cons 1 rfl (.cons 0 rfl (.cons 0 rfl .nil)))) (fun h => by subst h; exact .nil)

theorem C_bits_places_1 (F : Nat) {σ τ : Type} {J : Rounds σ τ} {yy : σ → Int → Option (σ ⊕ τ)} {L : Nat} (hY : YieldC Try.prog L (fun (p : Int) => [.int .u64 p]) J yy) (s0 : σ) (gs0 : J.γ) (g1 : Nat) (x2 : Int) (g3 : Nat) (x4 : Int) (g5 : Nat) (x6 : Int) (x7 : List Int) (a8 : Option Addr) (c9 : Nat) (r : σ ⊕ τ) (hm : M_bits_places_1 F yy x2 x4 x6 x7 s0 = some r) :
    PureM Try.prog 61 ([.func (.yield L) #[] #[], .pointer (some ⟨g1, 0, none⟩), .pointer (some ⟨g3, 0, none⟩), .pointer (some ⟨g5, 0, none⟩)]) ([⟨g1, 3, [.int .i64 x2]⟩, ⟨g3, 3, [.int .i64 x4]⟩, ⟨g5, 26, [.int .i64 x6, .slice a8 x7.length c9]⟩] ++ J.IB s0 gs0) (J.IR s0 gs0) [J.F, Sl (eI .u8) 1 (.slice a8 x7.length c9) x7] (J.G r) (fun _ => .tuple #[]) (fun g => [⟨g1, 3, [.int .i64 x2]⟩, ⟨g3, 3, [.int .i64 x4]⟩, ⟨g5, 26, [.int .i64 x6, .slice a8 x7.length c9]⟩] ++ J.bs r g) (fun g => J.rs r g) := by
  refine pureM_of Try.func61 rfl Try.ntmps61 rfl hm (fun w => ?_)
  refine sxc_env (l' := [(0, .func (.yield L) #[] #[]), (1, .pointer (some ⟨g1, 0, none⟩)), (2, .pointer (some ⟨g3, 0, none⟩)), (3, .pointer (some ⟨g5, 0, none⟩))]) rfl ?_
  refine sxc_seq ?_
  refine sxc_region ?_
  refine sxo_loadB (i := 0) rfl rfl tf3 rfl rfl (fun _ => rfl) rfl rfl ?_
  refine sxo_assign rfl rfl rfl ?_
  refine sxo_nil ?_
  refine sxq_next ?_
  refine sxc_block ?_
  refine sxc_loopP (fun (((x22, x23), g24) : ((Int × σ) × J.γ)) => [(0, .func (.yield L) #[] #[]), (2, .pointer (some ⟨g3, 0, none⟩)), (3, .pointer (some ⟨g5, 0, none⟩)), (5, .int .i64 x22)]) (fun (((x22, x23), g24) : ((Int × σ) × J.γ)) => [⟨g1, 3, [.int .i64 x2]⟩, ⟨g3, 3, [.int .i64 x4]⟩, ⟨g5, 26, [.int .i64 x6, .slice a8 x7.length c9]⟩] ++ J.IB x23 g24) (fun (((x22, x23), g24) : ((Int × σ) × J.γ)) => [] ++ J.IR x23 g24) (fun (((x22, x23), g24) : ((Int × σ) × J.γ)) => [Sl (eI .u8) 1 (.slice a8 x7.length c9) x7, J.F]) (fun k (s : ((Int × σ) × J.γ)) => M_bits_places_1_l1 F yy x4 x6 x7 k s.1) ((x2, s0), gs0) F (lk_cons rfl (lk_cons rfl (lk_cons rfl (lk_cons rfl lk_nil)))) (.cons 0 rfl (.cons 0 rfl (.cons 0 rfl (pick_rest 0 rfl)))) (pick_rest 0 rfl) (fk_cons 1 rfl (fk_cons 0 rfl fk_nil)) (fun _ => rfl) ?_
  intro k37
  rintro ⟨⟨x22, x23⟩, g24⟩
  try dsimp only
  refine sxc_meq (m' := M_bits_places_1_b1 F yy x4 x6 x7 (M_bits_places_1_l1 F yy x4 x6 x7 k37) x22 x23) rfl ?_
  refine sxc_seq ?_
  refine sxc_seq ?_
  refine sxc_region ?_
  refine sxo_move rfl rfl rfl ?_
  refine sxo_loadB (i := 1) rfl rfl tf3 rfl rfl (fun _ => rfl) rfl rfl ?_
  refine sxo_lss rfl rfl rfl rfl ?_
  refine sxo_nil ?_
  refine sxq_next ?_
  refine sxc_if rfl (fun h49 => ?_) (fun h49 => ?_)
  · refine sxc_skip ?_
    refine sxq_next ?_
    refine sxc_seq ?_
    refine sxc_block ?_
    refine sxc_seq ?_
    refine sxc_region ?_
    refine sxo_move rfl rfl rfl ?_
    refine sxo_loadB (i := 2) rfl rfl tf26 rfl rfl (by simp) rfl rfl ?_
    refine sxo_move rfl rfl rfl ?_
    refine sxo_call ent52 rfl rfl rfl (fun x44 e44 => C_bits_At F x6 x7 a8 c9 x22 x44 e44) (.consF 0 rfl .nil) (fun x44 e44 => ?_)
    intro _
    refine sxo_yield hY x23 x44 g24 (B1 := [⟨g1, 3, [.int .i64 x2]⟩, ⟨g3, 3, [.int .i64 x4]⟩, ⟨g5, 26, [.int .i64 x6, .slice a8 x7.length c9]⟩]) (R1 := []) (j := 1) rfl rfl rfl rfl rfl rfl rfl (fun x45 _ g47 => ?_) (fun x46 _ g47 => ?_)
    · refine sxo_not rfl rfl rfl ?_
      refine sxo_nil ?_
      refine sxq_next ?_
      refine sxc_cond (b := false) rfl (fun h => by cases h) (fun _ => ?_)
      refine sxc_skip ?_
      refine sxq_blkN ?_
      refine sxq_next ?_
      refine sxc_region ?_
      refine sxo_move rfl rfl rfl ?_
      refine sxo_add rfl rfl rfl rfl ?_
      refine sxo_assign rfl rfl rfl ?_
      refine sxo_nil ?_
      exact sxq_againP ((iadd .i64 x22 1, x45), g47) (lk_cons rfl (lk_cons rfl (lk_cons rfl (lk_cons rfl lk_nil)))) (.cons 0 rfl (.cons 0 rfl (.cons 0 rfl (pick_rest 0 rfl)))) (pick_rest 0 rfl) (fk_cons 0 rfl (fk_cons 1 rfl fk_nil))
    · refine sxo_not rfl rfl rfl ?_
      refine sxo_nil ?_
      refine sxq_next ?_
      refine sxc_cond (b := true) rfl (fun _ => ?_) (fun h => by cases h)
      refine sxc_ret ?_
      refine sxq_blkR ?_
      refine sxq_thenR ?_
      refine sxq_thenR ?_
      refine sxq_blkR ?_
      exact sxq_doneI (B0 := [⟨g1, 3, [.int .i64 x2]⟩, ⟨g3, 3, [.int .i64 x4]⟩, ⟨g5, 26, [.int .i64 x6, .slice a8 x7.length c9]⟩]) (x := .inr x46) g47 (.inl rfl) (res0 rfl) (.cons 0 rfl (.cons 0 rfl (.cons 0 rfl (pick_rest 0 rfl)))) (pick_rest 0 rfl)
  · refine sxc_exit ?_
    refine sxq_thenX ?_
    refine sxq_thenX ?_
    refine sxq_blkX ?_
    exact sxq_doneI (B0 := [⟨g1, 3, [.int .i64 x2]⟩, ⟨g3, 3, [.int .i64 x4]⟩, ⟨g5, 26, [.int .i64 x6, .slice a8 x7.length c9]⟩]) (x := .inl x23) g24 (.inr rfl) (res0 rfl) (.cons 0 rfl (.cons 0 rfl (.cons 0 rfl (pick_rest 0 rfl)))) (pick_rest 0 rfl)

theorem C_bits_Both (F : Nat) (x1 : Int) (x2 : List Int) (a3 : Option Addr) (c4 : Nat) (x5 : Int) (x6 : List Int) (a7 : Option Addr) (c8 : Nat) (r : (Int × List Int)) (hm : M_bits_Both F x1 x2 x5 x6 = some r) :
    PureM Try.prog 44 [.agg #[.int .i64 x1, .slice a3 x2.length c4], .agg #[.int .i64 x5, .slice a7 x6.length c8]] [] [] [Sl (eI .u8) 1 (.slice a3 x2.length c4) x2, Sl (eI .u8) 1 (.slice a7 x6.length c8) x6] (Option Addr × Nat) (fun g => .agg #[.int .i64 r.1, .slice g.1 r.2.length g.2]) (fun _ => []) (fun g => [Ro (eI .u8) 5 1 (.slice g.1 r.2.length g.2) r.2]) := by
  refine pureX_of Try.func44 rfl Try.ntmps44 rfl hm (fun w => ?_)
  refine sxc_env (l' := [(0, .agg #[.int .i64 x1, .slice a3 x2.length c4]), (1, .agg #[.int .i64 x5, .slice a7 x6.length c8])]) rfl ?_
  refine sxc_seq ?_
  refine sxc_region ?_
  refine sxo_box rfl rfl rfl (fun g9 => ?_)
  refine sxo_box rfl rfl rfl (fun g10 => ?_)
  refine sxo_alloc rfl tf26 rfl (fun g11 => ?_)
  refine sxo_nil ?_
  refine sxq_next ?_
  refine sxc_seq ?_
  refine sxc_region ?_
  refine sxo_loadB (i := 2) rfl rfl tf26 rfl rfl (by simp) rfl rfl ?_
  refine sxo_callM ent50 rfl rfl rfl (fun x12 e12 => C_bits_own F x1 x2 a3 c4 x12 e12) .nil .nil (.consF 0 rfl .nil) (fun x12 e12 => ?_)
  rintro ⟨⟨a13, c14⟩, g15⟩
  refine sxo_alloc rfl tf73 rfl (fun g16 => ?_)
  refine sxo_storeB (i := 0) rfl rfl rfl tf73 rfl rfl rfl rfl rfl ?_
  refine sxo_nil ?_
  refine sxq_next ?_
  refine sxc_seq ?_
  refine sxc_seq ?_
  refine sxc_region ?_
  refine sxo_loadB (i := 3) rfl rfl tf26 rfl rfl (by simp) rfl rfl ?_
  refine sxo_fieldAddr rfl rfl ff26_0 rfl ?_
  refine sxo_loadB (i := 3) rfl rfl tf3 rfl rfl (fun _ => rfl) rfl rfl ?_
  refine sxo_callM ent55 rfl rfl rfl (fun x37 e37 => C_bits_places F x5 x6 a7 c8 0 x5 x37 e37) .nil .nil (.consF 1 rfl .nil) (fun x37 e37 => ?_)
  rintro ⟨g38, g39, g40⟩
  refine sxo_nil ?_
  refine sxq_next ?_
  refine sxc_block ?_
  refine sxc_range (encs := (fun (p : Int) => [.int .u64 p])) (y := (fun ((x45, x48) : (Int × List Int)) (x53 : Int) => M_bits_Both_r2 F x45 x48 x53)) (lb := [.pointer (some ⟨g38, 0, none⟩), .pointer (some ⟨g39, 0, none⟩), .pointer (some ⟨g40, 0, none⟩)]) (fun ((x45, x48) : (Int × List Int)) ((a46, c47) : (Option Addr × Nat)) => [⟨g16, 73, [.pointer (some ⟨g15, 0, none⟩)]⟩, ⟨g15, 77, [.int .i64 x45, .slice a46 x48.length c47]⟩, ⟨g11, 26, [.int .i64 0, .slice none 0 0]⟩, ⟨g10, 26, [.int .i64 x5, .slice a7 x6.length c8]⟩, ⟨g9, 26, [.int .i64 x1, .slice a3 x2.length c4]⟩]) (fun ((x45, x48) : (Int × List Int)) ((a46, c47) : (Option Addr × Nat)) => [Ro (eI .u8) 5 1 (.slice a46 x48.length c47) x48]) (fun (_ : Empty) (_ : Unit) => []) (fun (_ : Empty) (_ : Unit) => []) (fun _ => .skip) (x12.1, x12.2) (a13, c14) rfl ent61 (fun _ => rfl) rfl (.cons 0 rfl (.cons 0 rfl (.cons 0 rfl .nil))) (.cons 0 rfl (.cons 0 rfl (.cons 0 rfl (.cons 0 rfl (.cons 0 rfl .nil))))) (.cons 0 rfl .nil) (.consF 1 rfl .nil) (fun z hz _ _ _ hY => C_bits_places_1 F hY (x12.1, x12.2) (a13, c14) g38 0 g39 x5 g40 x5 x6 a7 c8 z hz) ?_ ?_ ?_
  · rintro rc1 L1 D1 ⟨x45, x48⟩ ⟨a46, c47⟩ x53 z w M _
    try dsimp only
    refine sxc_less [(0, .agg #[.int .i64 x1, .slice a3 x2.length c4]), (1, .agg #[.int .i64 x5, .slice a7 x6.length c8]), (2, .pointer (some ⟨g9, 0, none⟩)), (3, .pointer (some ⟨g10, 0, none⟩)), (4, .pointer (some ⟨g11, 0, none⟩)), (5, .pointer (some ⟨g16, 0, none⟩)), (7, .agg #[.int .i64 x1, .slice a3 x2.length c4]), (8, .pointer (some ⟨g15, 0, none⟩)), (9, .agg #[.int .i64 x5, .slice a7 x6.length c8]), (10, .pointer (some ⟨g10, 0, none⟩)), (11, .int .i64 x5), (12, .func (.func 61) #[] #[.pointer (some ⟨g38, 0, none⟩), .pointer (some ⟨g39, 0, none⟩), .pointer (some ⟨g40, 0, none⟩)]), (13, .int .u64 x53)] (lk_cons rfl (lk_cons rfl (lk_cons rfl (lk_cons rfl (lk_cons rfl (lk_cons rfl (lk_cons rfl (lk_cons rfl (lk_cons rfl (lk_cons rfl (lk_cons rfl (lk_cons rfl (lk_cons rfl lk_nil))))))))))))) ?_
    refine sxc_region ?_
    refine sxo_assign rfl rfl rfl ?_
    refine sxo_nil ?_
    refine sxq_begin (i := 5) rfl ?_
    refine sxc_block ?_
    refine sxc_region ?_
    refine sxo_loadB (i := 0) rfl rfl tf73 rfl rfl (fun _ => rfl) rfl rfl ?_
    refine sxo_move rfl rfl rfl ?_
    refine sxo_callM ent56 rfl rfl rfl (fun x54 e54 => C_bits_writer_bit F g15 x45 x48 a46 c47 x53 x54 e54) (.cons 1 rfl .nil) (.cons 0 rfl .nil) .nil (fun x54 e54 => ?_)
    rintro ⟨a55, c56⟩
    refine sxo_nil ?_
    refine sxq_blkN ?_
    exact sxq_round (rc := rc1) rfl (.cons 5 rfl .nil) rfl (a55, c56) (.cons 2 rfl (.cons 1 rfl (.cons 1 rfl (.cons 1 rfl (.cons 1 rfl (.cons 0 rfl (.cons 0 rfl .nil))))))) (.cons 0 rfl .nil)
  · rintro ⟨x45, x48⟩ _ ⟨a46, c47⟩ D1
    try dsimp only
    refine sxq_blkN ?_
    refine sxq_next ?_
    refine sxc_seq ?_
    refine sxc_region ?_
    refine sxo_loadB (i := 4) rfl rfl tf73 rfl rfl (fun _ => rfl) rfl rfl ?_
    refine sxo_nilCheck rfl rfl rfl ?_
    refine sxo_fieldAddr rfl rfl ff77_0 rfl ?_
    refine sxo_loadB (i := 5) rfl rfl tf26 rfl rfl (by simp) rfl rfl ?_
    refine sxo_storeB (i := 6) rfl rfl rfl tf26 rfl rfl rfl rfl rfl ?_
    refine sxo_nil ?_
    refine sxq_next ?_
    refine sxc_ret ?_
    exact sxq_doneX [D1] (a46, c47) (.inl rfl) rfl (.cons 0 rfl .nil) (resL (rs := [.cell 4 26]) rfl (.cell (i := 5) rfl tf26 rfl rfl (by simp) rfl ResOk.nil) rfl) (fun h => by subst h; rfl) (fun h => by subst h; exact .nil) (fun h => by subst h; exact (.cons 0 rfl .nil))
  · intro t; exact t.elim

theorem C_bits_Join (F : Nat) (x1 : Int) (x2 : List Int) (a3 : Option Addr) (c4 : Nat) (x5 : Int) (x6 : List Int) (a7 : Option Addr) (c8 : Nat) (r : (Int × List Int × Int)) (hm : M_bits_Join F x1 x2 x5 x6 = some r) :
    Pure Try.prog 23 [.agg #[.int .i64 x1, .slice a3 x2.length c4], .agg #[.int .i64 x5, .slice a7 x6.length c8]] [Sl (eI .u8) 1 (.slice a3 x2.length c4) x2, Sl (eI .u8) 1 (.slice a7 x6.length c8) x6] (Option Addr × Nat) (fun g => .tuple #[.agg #[.int .i64 r.1, .slice g.1 r.2.1.length g.2], .int .i64 r.2.2]) (fun g => [Ro (eI .u8) 5 1 (.slice g.1 r.2.1.length g.2) r.2.1]) (fun _ => []) := by
  refine pure_of Try.func23 rfl Try.ntmps23 rfl hm (fun w => ?_)
  refine sxc_env (l' := [(0, .agg #[.int .i64 x1, .slice a3 x2.length c4]), (1, .agg #[.int .i64 x5, .slice a7 x6.length c8])]) rfl ?_
  refine sxc_seq ?_
  refine sxc_region ?_
  refine sxo_box rfl rfl rfl (fun g9 => ?_)
  refine sxo_box rfl rfl rfl (fun g10 => ?_)
  refine sxo_alloc rfl tf26 rfl (fun g11 => ?_)
  refine sxo_assign rfl rfl rfl ?_
  refine sxo_nil ?_
  refine sxq_next ?_
  refine sxc_seq ?_
  refine sxc_region ?_
  refine sxo_loadB (i := 2) rfl rfl tf26 rfl rfl (by simp) rfl rfl ?_
  refine sxo_call ent28 rfl rfl rfl (fun x12 e12 => C_bits_Check F x1 x2 a3 c4 x12 e12) (.consF 0 rfl .nil) (fun x12 e12 => ?_)
  intro _
  refine sxo_assign rfl rfl rfl ?_
  refine sxo_nil ?_
  refine sxq_next ?_
  refine sxc_join (fun ((x15, _) : (Int × Unit)) => [(2, .pointer (some ⟨g9, 0, none⟩)), (3, .pointer (some ⟨g10, 0, none⟩)), (4, .pointer (some ⟨g11, 0, none⟩)), (6, .int .i64 x15)]) (fun ((x15, _) : (Int × Unit)) => [⟨g11, 26, [.int .i64 0, .slice none 0 0]⟩, ⟨g10, 26, [.int .i64 x5, .slice a7 x6.length c8]⟩, ⟨g9, 26, [.int .i64 x1, .slice a3 x2.length c4]⟩]) (fun ((x15, _) : (Int × Unit)) => []) (fun ((x15, _) : (Int × Unit)) => [Sl (eI .u8) 1 (.slice a7 x6.length c8) x6, Sl (eI .u8) 1 (.slice a3 x2.length c4) x2]) (fun ((x15, _) : (Int × Unit)) => M_bits_Join_j1 F x1 x2 x5 x6 x15) ?_ ?_
  · refine sxc_seq ?_
    refine sxc_region ?_
    refine sxo_move rfl rfl rfl ?_
    refine sxo_eql rfl rfl rfl rfl ?_
    refine sxo_nil ?_
    refine sxq_next ?_
    refine sxc_if rfl (fun h27 => ?_) (fun h27 => ?_)
    · refine sxc_region ?_
      refine sxo_loadB (i := 1) rfl rfl tf26 rfl rfl (by simp) rfl rfl ?_
      refine sxo_call ent28 rfl rfl rfl (fun x26 e26 => C_bits_Check F x5 x6 a7 c8 x26 e26) (.consF 1 rfl .nil) (fun x26 e26 => ?_)
      intro _
      refine sxo_assign rfl rfl rfl ?_
      refine sxo_nil ?_
      exact sxq_meetP (x26, ()) (lk_cons rfl (lk_cons rfl (lk_cons rfl (lk_cons rfl lk_nil)))) (.cons 0 rfl (.cons 0 rfl (.cons 0 rfl .nil))) .nil (fk_cons 1 rfl (fk_cons 0 rfl fk_nil))
    · refine sxc_skip ?_
      exact sxq_meetP (x12, ()) (lk_cons rfl (lk_cons rfl (lk_cons rfl (lk_cons rfl lk_nil)))) (.cons 0 rfl (.cons 0 rfl (.cons 0 rfl .nil))) .nil (fk_cons 1 rfl (fk_cons 0 rfl fk_nil))
  · rintro ⟨x15, _⟩
    try dsimp only
    refine sxc_join (fun ((x18, _) : (Int × Unit)) => [(2, .pointer (some ⟨g9, 0, none⟩)), (3, .pointer (some ⟨g10, 0, none⟩)), (4, .pointer (some ⟨g11, 0, none⟩)), (6, .int .i64 x18)]) (fun ((x18, _) : (Int × Unit)) => [⟨g11, 26, [.int .i64 0, .slice none 0 0]⟩, ⟨g10, 26, [.int .i64 x5, .slice a7 x6.length c8]⟩, ⟨g9, 26, [.int .i64 x1, .slice a3 x2.length c4]⟩]) (fun ((x18, _) : (Int × Unit)) => []) (fun ((x18, _) : (Int × Unit)) => [Sl (eI .u8) 1 (.slice a7 x6.length c8) x6, Sl (eI .u8) 1 (.slice a3 x2.length c4) x2]) (fun ((x18, _) : (Int × Unit)) => M_bits_Join_j2 F x1 x2 x5 x6 x18) ?_ ?_
    · refine sxc_seq ?_
      refine sxc_region ?_
      refine sxo_move rfl rfl rfl ?_
      refine sxo_eql rfl rfl rfl rfl ?_
      refine sxo_move rfl rfl rfl ?_
      refine sxo_case 7 ((x15 : Int) == 0) [(2, .pointer (some ⟨g9, 0, none⟩)), (3, .pointer (some ⟨g10, 0, none⟩)), (4, .pointer (some ⟨g11, 0, none⟩)), (6, .int .i64 x15), (22, .bool (((x15 : Int) == 0) && (decide (8192 < (iadd .i64 x1 x5)))))] (fun h24 => ?_) (fun h24 => ?_) ?_
      · refine sxo_take (os := _) rfl ?_
        refine sxo_isT (k := 15) rfl h24 ?_
        refine sxo_fieldAddr rfl rfl ff26_0 rfl ?_
        refine sxo_loadB (i := 2) rfl rfl tf3 rfl rfl (fun _ => rfl) rfl rfl ?_
        refine sxo_fieldAddr rfl rfl ff26_0 rfl ?_
        refine sxo_loadB (i := 1) rfl rfl tf3 rfl rfl (fun _ => rfl) rfl rfl ?_
        refine sxo_add rfl rfl rfl rfl ?_
        refine sxo_gtr rfl rfl rfl rfl ?_
        refine sxo_pick (b := true) rfl rfl rfl rfl ?_
        refine sxo_again (d := 22) (v := .bool (((x15 : Int) == 0) && (decide (8192 < (iadd .i64 x1 x5))))) rfl (by rw [h24]; simp only [Bool.true_and]) ?_
        refine sxo_nil ?_
        exact sxq_case (lk_cons rfl (lk_cons rfl (lk_cons rfl (lk_cons rfl (lk_cons rfl lk_nil)))))
      · refine sxo_take (os := _) rfl ?_
        refine sxo_isF (k := 15) rfl h24 ?_
        refine sxo_skip rfl rfl rfl ?_
        refine sxo_skip rfl rfl rfl ?_
        refine sxo_skip rfl rfl rfl ?_
        refine sxo_skip rfl rfl rfl ?_
        refine sxo_skip rfl rfl rfl ?_
        refine sxo_skip rfl rfl rfl ?_
        refine sxo_pick (b := false) rfl rfl rfl rfl ?_
        refine sxo_again (d := 22) (v := .bool (((x15 : Int) == 0) && (decide (8192 < (iadd .i64 x1 x5))))) rfl (by rw [h24]; simp only [Bool.false_and]) ?_
        refine sxo_nil ?_
        exact sxq_case (lk_cons rfl (lk_cons rfl (lk_cons rfl (lk_cons rfl (lk_cons rfl lk_nil)))))
      refine sxo_take (os := _) rfl ?_
      refine sxo_nil ?_
      refine sxq_next ?_
      refine sxc_if rfl (fun h25 => ?_) (fun h25 => ?_)
      · refine sxc_region ?_
        refine sxo_assign rfl rfl rfl ?_
        refine sxo_nil ?_
        exact sxq_meetP (8, ()) (lk_cons rfl (lk_cons rfl (lk_cons rfl (lk_cons rfl lk_nil)))) (.cons 0 rfl (.cons 0 rfl (.cons 0 rfl .nil))) .nil (fk_cons 0 rfl (fk_cons 1 rfl fk_nil))
      · refine sxc_skip ?_
        exact sxq_meetP (x15, ()) (lk_cons rfl (lk_cons rfl (lk_cons rfl (lk_cons rfl lk_nil)))) (.cons 0 rfl (.cons 0 rfl (.cons 0 rfl .nil))) .nil (fk_cons 0 rfl (fk_cons 1 rfl fk_nil))
    · rintro ⟨x18, _⟩
      try dsimp only
      refine sxc_seq ?_
      refine sxc_seq ?_
      refine sxc_region ?_
      refine sxo_move rfl rfl rfl ?_
      refine sxo_neq rfl rfl rfl rfl ?_
      refine sxo_nil ?_
      refine sxq_next ?_
      refine sxc_if rfl (fun h23 => ?_) (fun h23 => ?_)
      · refine sxc_seq ?_
        refine sxc_region ?_
        refine sxo_build (cells := [.int .i64 0, .slice none 0 0]) rfl st26 rfl (by kernel_rfl) rfl ?_
        refine sxo_move rfl rfl rfl ?_
        refine sxo_storeB (i := 0) rfl rfl rfl tf26 rfl rfl rfl rfl rfl ?_
        refine sxo_assign rfl rfl rfl ?_
        refine sxo_nil ?_
        refine sxq_next ?_
        refine sxc_ret ?_
        refine sxq_thenR ?_
        refine sxq_nilrow Int (eI .u8) 5 1 ?_
        exact sxq_doneP (none, 0) (.inl rfl) (resL (rs := [.cell 4 26, .tmp 5]) rfl (.cell (i := 0) rfl tf26 rfl rfl (by simp) rfl (.tmp rfl ResOk.nil)) rfl) (fun h => by subst h; rfl) (fun h => by subst h; exact (.cons 0 rfl .nil))
      · refine sxc_skip ?_
        refine sxq_next ?_
        refine sxc_seq ?_
        refine sxc_region ?_
        refine sxo_loadB (i := 2) rfl rfl tf26 rfl rfl (by simp) rfl rfl ?_
        refine sxo_loadB (i := 1) rfl rfl tf26 rfl rfl (by simp) rfl rfl ?_
        refine sxo_callM ent44 rfl rfl rfl (fun x20 e20 => C_bits_Both F x1 x2 a3 c4 x5 x6 a7 c8 x20 e20) .nil .nil (.consF 1 rfl (.consF 0 rfl .nil)) (fun x20 e20 => ?_)
        rintro ⟨a21, c22⟩
        refine sxo_storeB (i := 0) rfl rfl rfl tf26 rfl rfl rfl rfl rfl ?_
        refine sxo_assign rfl rfl rfl ?_
        refine sxo_nil ?_
        refine sxq_next ?_
        refine sxc_ret ?_
        exact sxq_doneP (a21, c22) (.inl rfl) (resL (rs := [.cell 4 26, .tmp 5]) rfl (.cell (i := 0) rfl tf26 rfl rfl (by simp) rfl (.tmp rfl ResOk.nil)) rfl) (fun h => by subst h; rfl) (fun h => by subst h; exact (.cons 0 rfl .nil))

theorem C_bits_Read (F : Nat) (x1 : Int) (x2 : List Int) (a3 : Option Addr) (c4 : Nat) (x5 : Int) (x6 : Int) (r : (Int × Bool)) (hm : M_bits_Read F x1 x2 x5 x6 = some r) :
    Pure Try.prog 45 [.agg #[.int .i64 x1, .slice a3 x2.length c4], .int .i64 x5, .int .i64 x6] [Sl (eI .u8) 1 (.slice a3 x2.length c4) x2] Unit (fun _ => .tuple #[.int .u64 r.1, .bool r.2]) (fun _ => []) (fun _ => []) := by
  refine pure_of Try.func45 rfl Try.ntmps45 rfl hm (fun w => ?_)
  refine sxc_env (l' := [(0, .agg #[.int .i64 x1, .slice a3 x2.length c4]), (1, .int .i64 x5), (2, .int .i64 x6)]) rfl ?_
  refine sxc_seq ?_
  refine sxc_region ?_
  refine sxo_box rfl rfl rfl (fun g7 => ?_)
  refine sxo_assign rfl rfl rfl ?_
  refine sxo_assign rfl rfl rfl ?_
  refine sxo_nil ?_
  refine sxq_next ?_
  refine sxc_seq ?_
  refine sxc_seq ?_
  refine sxc_region ?_
  refine sxo_fieldAddr rfl rfl ff26_0 rfl ?_
  refine sxo_loadB (i := 0) rfl rfl tf3 rfl rfl (fun _ => rfl) rfl rfl ?_
  refine sxo_move rfl rfl rfl ?_
  refine sxo_sub rfl rfl rfl rfl ?_
  refine sxo_move rfl rfl rfl ?_
  refine sxo_lss rfl rfl rfl rfl ?_
  refine sxo_nil ?_
  refine sxq_next ?_
  refine sxc_if rfl (fun h40 => ?_) (fun h40 => ?_)
  · refine sxc_seq ?_
    refine sxc_region ?_
    refine sxo_assign rfl rfl rfl ?_
    refine sxo_assign rfl rfl rfl ?_
    refine sxo_nil ?_
    refine sxq_next ?_
    refine sxc_ret ?_
    refine sxq_thenR ?_
    exact sxq_doneP () (.inl rfl) (res2 rfl rfl rfl) (fun h => by subst h; rfl) (fun h => by subst h; exact .nil)
  · refine sxc_skip ?_
    refine sxq_next ?_
    refine sxc_join (fun ((x24, _) : (Int × Unit)) => [(6, .int .u64 x24)]) (fun ((x24, _) : (Int × Unit)) => []) (fun ((x24, _) : (Int × Unit)) => []) (fun ((x24, _) : (Int × Unit)) => []) (fun ((x24, _) : (Int × Unit)) => M_bits_Read_j2 F x24) ?_ ?_
    · refine sxc_seq ?_
      refine sxc_region ?_
      refine sxo_move rfl rfl rfl ?_
      refine sxo_move rfl rfl rfl ?_
      refine sxo_nil ?_
      refine sxq_next ?_
      refine sxc_block ?_
      refine sxc_loopP (fun (((x29, x30), _) : ((Int × Int) × Unit)) => [(1, .int .i64 x5), (3, .pointer (some ⟨g7, 0, none⟩)), (6, .int .u64 x29), (15, .int .i64 x6), (16, .int .i64 x30)]) (fun (((x29, x30), _) : ((Int × Int) × Unit)) => [⟨g7, 26, [.int .i64 x1, .slice a3 x2.length c4]⟩]) (fun (((x29, x30), _) : ((Int × Int) × Unit)) => []) (fun (((x29, x30), _) : ((Int × Int) × Unit)) => [Sl (eI .u8) 1 (.slice a3 x2.length c4) x2]) (fun k (s : ((Int × Int) × Unit)) => M_bits_Read_l3 F x1 x2 x5 x6 k s.1) ((0, 0), ()) F (lk_cons rfl (lk_cons rfl (lk_cons rfl (lk_cons rfl (lk_cons rfl lk_nil))))) (.cons 0 rfl .nil) .nil (fk_cons 0 rfl fk_nil) (fun _ => rfl) ?_
      intro k35
      rintro ⟨⟨x29, x30⟩, _⟩
      try dsimp only
      refine sxc_meq (m' := M_bits_Read_b3 F x1 x2 x5 x6 (M_bits_Read_l3 F x1 x2 x5 x6 k35) x29 x30) rfl ?_
      refine sxc_seq ?_
      refine sxc_region ?_
      refine sxo_lss rfl rfl rfl rfl ?_
      refine sxo_nil ?_
      refine sxq_next ?_
      refine sxc_seq ?_
      refine sxc_if rfl (fun h39 => ?_) (fun h39 => ?_)
      · refine sxc_skip ?_
        refine sxq_next ?_
        refine sxc_seq ?_
        refine sxc_block ?_
        refine sxc_seq ?_
        refine sxc_region ?_
        refine sxo_move rfl rfl rfl ?_
        refine sxo_assign rfl rfl rfl ?_
        refine sxo_nil ?_
        refine sxq_next ?_
        refine sxc_region ?_
        refine sxo_move rfl rfl rfl ?_
        refine sxo_shl rfl rfl rfl rfl rfl ?_
        refine sxo_loadB (i := 0) rfl rfl tf26 rfl rfl (by simp) rfl rfl ?_
        refine sxo_move rfl rfl rfl ?_
        refine sxo_move rfl rfl rfl ?_
        refine sxo_add rfl rfl rfl rfl ?_
        refine sxo_call ent52 rfl rfl rfl (fun x38 e38 => C_bits_At F x1 x2 a3 c4 (iadd .i64 x5 x30) x38 e38) (.consF 0 rfl .nil) (fun x38 e38 => ?_)
        intro _
        refine sxo_or rfl rfl rfl rfl ?_
        refine sxo_assign rfl rfl rfl ?_
        refine sxo_nil ?_
        refine sxq_blkN ?_
        refine sxq_next ?_
        refine sxc_region ?_
        refine sxo_add rfl rfl rfl rfl ?_
        refine sxo_move rfl rfl rfl ?_
        refine sxo_nil ?_
        exact sxq_againP ((ior .u64 (ishl .u64 x29 1) x38, iadd .i64 x30 1), ()) (lk_cons rfl (lk_cons rfl (lk_cons rfl (lk_cons rfl (lk_cons rfl lk_nil))))) (.cons 0 rfl .nil) .nil (fk_cons 0 rfl fk_nil)
      · refine sxc_exit ?_
        refine sxq_thenX ?_
        refine sxq_thenX ?_
        refine sxq_blkX ?_
        exact sxq_meetP (x29, ()) (lk_cons rfl lk_nil) .nil .nil fk_nil
    · rintro ⟨x24, _⟩
      try dsimp only
      refine sxc_seq ?_
      refine sxc_region ?_
      refine sxo_move rfl rfl rfl ?_
      refine sxo_assign rfl rfl rfl ?_
      refine sxo_assign rfl rfl rfl ?_
      refine sxo_nil ?_
      refine sxq_next ?_
      refine sxc_ret ?_
      exact sxq_doneP () (.inl rfl) (res2 rfl rfl rfl) (fun h => by subst h; rfl) (fun h => by subst h; exact .nil)

theorem C_bits_Get (F : Nat) (x1 : Int) (x2 : List Int) (a3 : Option Addr) (c4 : Nat) (x5 : Int) (x6 : Int) (r : (Int × Int)) (hm : M_bits_Get F x1 x2 x5 x6 = some r) :
    Pure Try.prog 24 [.agg #[.int .i64 x1, .slice a3 x2.length c4], .int .i64 x5, .int .i64 x6] [Sl (eI .u8) 1 (.slice a3 x2.length c4) x2] Unit (fun _ => .tuple #[.int .u64 r.1, .int .i64 r.2]) (fun _ => []) (fun _ => []) := by
  refine pure_of Try.func24 rfl Try.ntmps24 rfl hm (fun w => ?_)
  refine sxc_env (l' := [(0, .agg #[.int .i64 x1, .slice a3 x2.length c4]), (1, .int .i64 x5), (2, .int .i64 x6)]) rfl ?_
  refine sxc_seq ?_
  refine sxc_region ?_
  refine sxo_box rfl rfl rfl (fun g7 => ?_)
  refine sxo_assign rfl rfl rfl ?_
  refine sxo_assign rfl rfl rfl ?_
  refine sxo_nil ?_
  refine sxq_next ?_
  refine sxc_seq ?_
  refine sxc_region ?_
  refine sxo_loadB (i := 0) rfl rfl tf26 rfl rfl (by simp) rfl rfl ?_
  refine sxo_call ent28 rfl rfl rfl (fun x8 e8 => C_bits_Check F x1 x2 a3 c4 x8 e8) (.consF 0 rfl .nil) (fun x8 e8 => ?_)
  intro _
  refine sxo_assign rfl rfl rfl ?_
  refine sxo_nil ?_
  refine sxq_next ?_
  refine sxc_join (fun ((x18, _) : (Int × Unit)) => [(1, .int .i64 x5), (2, .int .i64 x6), (3, .pointer (some ⟨g7, 0, none⟩)), (8, .int .i64 x18)]) (fun ((x18, _) : (Int × Unit)) => [⟨g7, 26, [.int .i64 x1, .slice a3 x2.length c4]⟩]) (fun ((x18, _) : (Int × Unit)) => []) (fun ((x18, _) : (Int × Unit)) => [Sl (eI .u8) 1 (.slice a3 x2.length c4) x2]) (fun ((x18, _) : (Int × Unit)) => M_bits_Get_j2 F x1 x2 x5 x6 x18) ?_ ?_
  · refine sxc_seq ?_
    refine sxc_region ?_
    refine sxo_move rfl rfl rfl ?_
    refine sxo_eql rfl rfl rfl rfl ?_
    refine sxo_move rfl rfl rfl ?_
    refine sxo_join 17 (fun ((x28, _) : (Bool × Unit)) => [(1, .int .i64 x5), (2, .int .i64 x6), (3, .pointer (some ⟨g7, 0, none⟩)), (8, .int .i64 x8), (32, .bool x28)]) (fun ((x28, _) : (Bool × Unit)) => [⟨g7, 26, [.int .i64 x1, .slice a3 x2.length c4]⟩]) (fun ((x28, _) : (Bool × Unit)) => []) (fun ((x28, _) : (Bool × Unit)) => [Sl (eI .u8) 1 (.slice a3 x2.length c4) x2]) (fun ((x28, _) : (Bool × Unit)) => M_bits_Get_j3 F x1 x2 x5 x6 x8 x28) ?_ ?_
    · refine sxo_take (os := _) rfl ?_
      refine sxo_if (fun h24 => ?_) (fun h24 => ?_)
      · refine sxo_isT (k := 15) rfl h24 ?_
        refine sxo_move rfl rfl rfl ?_
        refine sxo_lss rfl rfl rfl rfl ?_
        refine sxo_move rfl rfl rfl ?_
        refine sxo_case 3 (decide (x6 < 0)) [(1, .int .i64 x5), (2, .int .i64 x6), (3, .pointer (some ⟨g7, 0, none⟩)), (8, .int .i64 x8), (15, .bool true), (21, .bool ((decide (x6 < 0)) || (decide (64 < x6))))] (fun h30 => ?_) (fun h30 => ?_) ?_
        · refine sxo_take (os := _) rfl ?_
          refine sxo_isT (k := 18) rfl h30 ?_
          refine sxo_skip rfl rfl rfl ?_
          refine sxo_skip rfl rfl rfl ?_
          refine sxo_pick (b := true) rfl rfl rfl rfl ?_
          refine sxo_again (d := 21) (v := .bool ((decide (x6 < 0)) || (decide (64 < x6)))) rfl (by rw [h30]; simp only [Bool.true_or]) ?_
          refine sxo_nil ?_
          exact sxq_case (lk_cons rfl (lk_cons rfl (lk_cons rfl (lk_cons rfl (lk_cons rfl (lk_cons rfl lk_nil))))))
        · refine sxo_take (os := _) rfl ?_
          refine sxo_isF (k := 18) rfl h30 ?_
          refine sxo_move rfl rfl rfl ?_
          refine sxo_gtr rfl rfl rfl rfl ?_
          refine sxo_pick (b := false) rfl rfl rfl rfl ?_
          refine sxo_again (d := 21) (v := .bool ((decide (x6 < 0)) || (decide (64 < x6)))) rfl (by rw [h30]; simp only [Bool.false_or]) ?_
          refine sxo_nil ?_
          exact sxq_case (lk_cons rfl (lk_cons rfl (lk_cons rfl (lk_cons rfl (lk_cons rfl (lk_cons rfl lk_nil))))))
        refine sxo_take (os := _) rfl ?_
        refine sxo_move rfl rfl rfl ?_
        refine sxo_case 3 ((decide (x6 < 0)) || (decide (64 < x6))) [(1, .int .i64 x5), (2, .int .i64 x6), (3, .pointer (some ⟨g7, 0, none⟩)), (8, .int .i64 x8), (15, .bool true), (25, .bool (((decide (x6 < 0)) || (decide (64 < x6))) || (decide (x5 < 0))))] (fun h31 => ?_) (fun h31 => ?_) ?_
        · refine sxo_take (os := _) rfl ?_
          refine sxo_isT (k := 22) rfl h31 ?_
          refine sxo_skip rfl rfl rfl ?_
          refine sxo_skip rfl rfl rfl ?_
          refine sxo_pick (b := true) rfl rfl rfl rfl ?_
          refine sxo_again (d := 25) (v := .bool (((decide (x6 < 0)) || (decide (64 < x6))) || (decide (x5 < 0)))) rfl (by rw [h31]; simp only [Bool.true_or]) ?_
          refine sxo_nil ?_
          exact sxq_case (lk_cons rfl (lk_cons rfl (lk_cons rfl (lk_cons rfl (lk_cons rfl (lk_cons rfl lk_nil))))))
        · refine sxo_take (os := _) rfl ?_
          refine sxo_isF (k := 22) rfl h31 ?_
          refine sxo_move rfl rfl rfl ?_
          refine sxo_lss rfl rfl rfl rfl ?_
          refine sxo_pick (b := false) rfl rfl rfl rfl ?_
          refine sxo_again (d := 25) (v := .bool (((decide (x6 < 0)) || (decide (64 < x6))) || (decide (x5 < 0)))) rfl (by rw [h31]; simp only [Bool.false_or]) ?_
          refine sxo_nil ?_
          exact sxq_case (lk_cons rfl (lk_cons rfl (lk_cons rfl (lk_cons rfl (lk_cons rfl (lk_cons rfl lk_nil))))))
        refine sxo_take (os := _) rfl ?_
        refine sxo_move rfl rfl rfl ?_
        refine sxo_case 5 (((decide (x6 < 0)) || (decide (64 < x6))) || (decide (x5 < 0))) [(1, .int .i64 x5), (2, .int .i64 x6), (3, .pointer (some ⟨g7, 0, none⟩)), (8, .int .i64 x8), (15, .bool true), (31, .bool ((((decide (x6 < 0)) || (decide (64 < x6))) || (decide (x5 < 0))) || (decide (x1 < x5))))] (fun h32 => ?_) (fun h32 => ?_) ?_
        · refine sxo_take (os := _) rfl ?_
          refine sxo_isT (k := 26) rfl h32 ?_
          refine sxo_skip rfl rfl rfl ?_
          refine sxo_skip rfl rfl rfl ?_
          refine sxo_skip rfl rfl rfl ?_
          refine sxo_skip rfl rfl rfl ?_
          refine sxo_pick (b := true) rfl rfl rfl rfl ?_
          refine sxo_again (d := 31) (v := .bool ((((decide (x6 < 0)) || (decide (64 < x6))) || (decide (x5 < 0))) || (decide (x1 < x5)))) rfl (by rw [h32]; simp only [Bool.true_or]) ?_
          refine sxo_nil ?_
          exact sxq_case (lk_cons rfl (lk_cons rfl (lk_cons rfl (lk_cons rfl (lk_cons rfl (lk_cons rfl lk_nil))))))
        · refine sxo_take (os := _) rfl ?_
          refine sxo_isF (k := 26) rfl h32 ?_
          refine sxo_move rfl rfl rfl ?_
          refine sxo_fieldAddr rfl rfl ff26_0 rfl ?_
          refine sxo_loadB (i := 0) rfl rfl tf3 rfl rfl (fun _ => rfl) rfl rfl ?_
          refine sxo_gtr rfl rfl rfl rfl ?_
          refine sxo_pick (b := false) rfl rfl rfl rfl ?_
          refine sxo_again (d := 31) (v := .bool ((((decide (x6 < 0)) || (decide (64 < x6))) || (decide (x5 < 0))) || (decide (x1 < x5)))) rfl (by rw [h32]; simp only [Bool.false_or]) ?_
          refine sxo_nil ?_
          exact sxq_case (lk_cons rfl (lk_cons rfl (lk_cons rfl (lk_cons rfl (lk_cons rfl (lk_cons rfl lk_nil))))))
        refine sxo_take (os := _) rfl ?_
        refine sxo_pick (b := true) rfl rfl rfl rfl ?_
        refine sxo_nil ?_
        exact sxq_meetP (((((decide (x6 < 0)) || (decide (64 < x6))) || (decide (x5 < 0))) || (decide (x1 < x5))), ()) (lk_cons rfl (lk_cons rfl (lk_cons rfl (lk_cons rfl (lk_cons rfl lk_nil))))) (.cons 0 rfl .nil) .nil (fk_cons 0 rfl fk_nil)
      · refine sxo_isF (k := 15) rfl h24 ?_
        refine sxo_skip rfl rfl rfl ?_
        refine sxo_skip rfl rfl rfl ?_
        refine sxo_skip rfl rfl rfl ?_
        refine sxo_skip rfl rfl rfl ?_
        refine sxo_skip rfl rfl rfl ?_
        refine sxo_skip rfl rfl rfl ?_
        refine sxo_skip rfl rfl rfl ?_
        refine sxo_skip rfl rfl rfl ?_
        refine sxo_skip rfl rfl rfl ?_
        refine sxo_skip rfl rfl rfl ?_
        refine sxo_skip rfl rfl rfl ?_
        refine sxo_skip rfl rfl rfl ?_
        refine sxo_skip rfl rfl rfl ?_
        refine sxo_skip rfl rfl rfl ?_
        refine sxo_skip rfl rfl rfl ?_
        refine sxo_skip rfl rfl rfl ?_
        refine sxo_pick (b := false) rfl rfl rfl rfl ?_
        refine sxo_nil ?_
        exact sxq_meetP (false, ()) (lk_cons rfl (lk_cons rfl (lk_cons rfl (lk_cons rfl (lk_cons rfl lk_nil))))) (.cons 0 rfl .nil) .nil (fk_cons 0 rfl fk_nil)
    · rintro ⟨x28, _⟩
      try dsimp only
      refine sxo_take (os := _) rfl ?_
      refine sxo_nil ?_
      refine sxq_next ?_
      refine sxc_if rfl (fun h29 => ?_) (fun h29 => ?_)
      · refine sxc_region ?_
        refine sxo_assign rfl rfl rfl ?_
        refine sxo_nil ?_
        exact sxq_meetP (3, ()) (lk_cons rfl (lk_cons rfl (lk_cons rfl (lk_cons rfl lk_nil)))) (.cons 0 rfl .nil) .nil (fk_cons 0 rfl fk_nil)
      · refine sxc_skip ?_
        exact sxq_meetP (x8, ()) (lk_cons rfl (lk_cons rfl (lk_cons rfl (lk_cons rfl lk_nil)))) (.cons 0 rfl .nil) .nil (fk_cons 0 rfl fk_nil)
  · rintro ⟨x18, _⟩
    try dsimp only
    refine sxc_seq ?_
    refine sxc_seq ?_
    refine sxc_region ?_
    refine sxo_move rfl rfl rfl ?_
    refine sxo_neq rfl rfl rfl rfl ?_
    refine sxo_nil ?_
    refine sxq_next ?_
    refine sxc_if rfl (fun h23 => ?_) (fun h23 => ?_)
    · refine sxc_seq ?_
      refine sxc_region ?_
      refine sxo_move rfl rfl rfl ?_
      refine sxo_assign rfl rfl rfl ?_
      refine sxo_assign rfl rfl rfl ?_
      refine sxo_nil ?_
      refine sxq_next ?_
      refine sxc_ret ?_
      refine sxq_thenR ?_
      exact sxq_doneP () (.inl rfl) (res2 rfl rfl rfl) (fun h => by subst h; rfl) (fun h => by subst h; exact .nil)
    · refine sxc_skip ?_
      refine sxq_next ?_
      refine sxc_seq ?_
      refine sxc_region ?_
      refine sxo_loadB (i := 0) rfl rfl tf26 rfl rfl (by simp) rfl rfl ?_
      refine sxo_move rfl rfl rfl ?_
      refine sxo_move rfl rfl rfl ?_
      refine sxo_call ent45 rfl rfl rfl (fun x20 e20 => C_bits_Read F x1 x2 a3 c4 x5 x6 x20 e20) (.consF 0 rfl .nil) (fun x20 e20 => ?_)
      intro _
      refine sxo_move rfl rfl rfl ?_
      refine sxo_extract rfl rfl rfl rfl ?_
      refine sxo_extract rfl rfl rfl rfl ?_
      refine sxo_assign rfl rfl rfl ?_
      refine sxo_assign rfl rfl rfl ?_
      refine sxo_nil ?_
      refine sxq_next ?_
      refine sxc_seq ?_
      refine sxc_seq ?_
      refine sxc_region ?_
      refine sxo_move rfl rfl rfl ?_
      refine sxo_not rfl rfl rfl ?_
      refine sxo_nil ?_
      refine sxq_next ?_
      refine sxc_if rfl (fun h22 => ?_) (fun h22 => ?_)
      · refine sxc_seq ?_
        refine sxc_region ?_
        refine sxo_assign rfl rfl rfl ?_
        refine sxo_assign rfl rfl rfl ?_
        refine sxo_nil ?_
        refine sxq_next ?_
        refine sxc_ret ?_
        refine sxq_thenR ?_
        exact sxq_doneP () (.inl rfl) (res2 rfl rfl rfl) (fun h => by subst h; rfl) (fun h => by subst h; exact .nil)
      · refine sxc_skip ?_
        refine sxq_next ?_
        refine sxc_seq ?_
        refine sxc_region ?_
        refine sxo_move rfl rfl rfl ?_
        refine sxo_assign rfl rfl rfl ?_
        refine sxo_assign rfl rfl rfl ?_
        refine sxo_nil ?_
        refine sxq_next ?_
        refine sxc_ret ?_
        exact sxq_doneP () (.inl rfl) (res2 rfl rfl rfl) (fun h => by subst h; rfl) (fun h => by subst h; exact .nil)

theorem C_bits_Put (F : Nat) (x1 : Int) (x2 : List Int) (a3 : Option Addr) (c4 : Nat) (x5 : Int) (x6 : Int) (r : (Int × List Int × Int)) (hm : M_bits_Put F x1 x2 x5 x6 = some r) :
    Pure Try.prog 42 [.agg #[.int .i64 x1, .slice a3 x2.length c4], .int .u64 x5, .int .i64 x6] [Sl (eI .u8) 1 (.slice a3 x2.length c4) x2] (Option Addr × Nat) (fun g => .tuple #[.agg #[.int .i64 r.1, .slice g.1 r.2.1.length g.2], .int .i64 r.2.2]) (fun g => [Ro (eI .u8) 5 1 (.slice g.1 r.2.1.length g.2) r.2.1]) (fun _ => []) := by
  refine pure_of Try.func42 rfl Try.ntmps42 rfl hm (fun w => ?_)
  refine sxc_env (l' := [(0, .agg #[.int .i64 x1, .slice a3 x2.length c4]), (1, .int .u64 x5), (2, .int .i64 x6)]) rfl ?_
  refine sxc_seq ?_
  refine sxc_region ?_
  refine sxo_box rfl rfl rfl (fun g7 => ?_)
  refine sxo_alloc rfl tf26 rfl (fun g8 => ?_)
  refine sxo_assign rfl rfl rfl ?_
  refine sxo_nil ?_
  refine sxq_next ?_
  refine sxc_seq ?_
  refine sxc_region ?_
  refine sxo_loadB (i := 1) rfl rfl tf26 rfl rfl (by simp) rfl rfl ?_
  refine sxo_call ent28 rfl rfl rfl (fun x9 e9 => C_bits_Check F x1 x2 a3 c4 x9 e9) (.consF 0 rfl .nil) (fun x9 e9 => ?_)
  intro _
  refine sxo_assign rfl rfl rfl ?_
  refine sxo_nil ?_
  refine sxq_next ?_
  refine sxc_join (fun ((x24, _) : (Int × Unit)) => [(1, .int .u64 x5), (2, .int .i64 x6), (3, .pointer (some ⟨g7, 0, none⟩)), (6, .pointer (some ⟨g8, 0, none⟩)), (8, .int .i64 x24)]) (fun ((x24, _) : (Int × Unit)) => [⟨g8, 26, [.int .i64 0, .slice none 0 0]⟩, ⟨g7, 26, [.int .i64 x1, .slice a3 x2.length c4]⟩]) (fun ((x24, _) : (Int × Unit)) => []) (fun ((x24, _) : (Int × Unit)) => [Sl (eI .u8) 1 (.slice a3 x2.length c4) x2]) (fun ((x24, _) : (Int × Unit)) => M_bits_Put_j4 F x1 x2 x5 x6 x24) ?_ ?_
  · refine sxc_block ?_
    refine sxc_seq ?_
    refine sxc_region ?_
    refine sxo_move rfl rfl rfl ?_
    refine sxo_neq rfl rfl rfl rfl ?_
    refine sxo_assign rfl rfl rfl ?_
    refine sxo_nil ?_
    refine sxq_next ?_
    refine sxc_if rfl (fun h43 => ?_) (fun h43 => ?_)
    · refine sxc_skip ?_
      refine sxq_blkN ?_
      exact sxq_meetP (x9, ()) (lk_cons rfl (lk_cons rfl (lk_cons rfl (lk_cons rfl (lk_cons rfl lk_nil))))) (.cons 0 rfl (.cons 0 rfl .nil)) .nil (fk_cons 0 rfl fk_nil)
    · refine sxc_seq ?_
      refine sxc_region ?_
      refine sxo_move rfl rfl rfl ?_
      refine sxo_lss rfl rfl rfl rfl ?_
      refine sxo_move rfl rfl rfl ?_
      refine sxo_case 3 (decide (x6 < 0)) [(1, .int .u64 x5), (2, .int .i64 x6), (3, .pointer (some ⟨g7, 0, none⟩)), (6, .pointer (some ⟨g8, 0, none⟩)), (8, .int .i64 x9), (20, .bool ((decide (x6 < 0)) || (decide (64 < x6))))] (fun h30 => ?_) (fun h30 => ?_) ?_
      · refine sxo_take (os := _) rfl ?_
        refine sxo_isT (k := 17) rfl h30 ?_
        refine sxo_skip rfl rfl rfl ?_
        refine sxo_skip rfl rfl rfl ?_
        refine sxo_pick (b := true) rfl rfl rfl rfl ?_
        refine sxo_again (d := 20) (v := .bool ((decide (x6 < 0)) || (decide (64 < x6)))) rfl (by rw [h30]; simp only [Bool.true_or]) ?_
        refine sxo_nil ?_
        exact sxq_case (lk_cons rfl (lk_cons rfl (lk_cons rfl (lk_cons rfl (lk_cons rfl (lk_cons rfl lk_nil))))))
      · refine sxo_take (os := _) rfl ?_
        refine sxo_isF (k := 17) rfl h30 ?_
        refine sxo_move rfl rfl rfl ?_
        refine sxo_gtr rfl rfl rfl rfl ?_
        refine sxo_pick (b := false) rfl rfl rfl rfl ?_
        refine sxo_again (d := 20) (v := .bool ((decide (x6 < 0)) || (decide (64 < x6)))) rfl (by rw [h30]; simp only [Bool.false_or]) ?_
        refine sxo_nil ?_
        exact sxq_case (lk_cons rfl (lk_cons rfl (lk_cons rfl (lk_cons rfl (lk_cons rfl (lk_cons rfl lk_nil))))))
      refine sxo_take (os := _) rfl ?_
      refine sxo_move rfl rfl rfl ?_
      refine sxo_join 9 (fun ((x36, _) : (Bool × Unit)) => [(1, .int .u64 x5), (2, .int .i64 x6), (3, .pointer (some ⟨g7, 0, none⟩)), (6, .pointer (some ⟨g8, 0, none⟩)), (8, .int .i64 x9), (30, .bool x36)]) (fun ((x36, _) : (Bool × Unit)) => [⟨g8, 26, [.int .i64 0, .slice none 0 0]⟩, ⟨g7, 26, [.int .i64 x1, .slice a3 x2.length c4]⟩]) (fun ((x36, _) : (Bool × Unit)) => []) (fun ((x36, _) : (Bool × Unit)) => [Sl (eI .u8) 1 (.slice a3 x2.length c4) x2]) (fun ((x36, _) : (Bool × Unit)) => M_bits_Put_j6 F x1 x2 x5 x6 x9 x36) ?_ ?_
      · refine sxo_take (os := _) rfl ?_
        refine sxo_if (fun h31 => ?_) (fun h31 => ?_)
        · refine sxo_isT (k := 21) rfl h31 ?_
          refine sxo_skip rfl rfl rfl ?_
          refine sxo_skip rfl rfl rfl ?_
          refine sxo_skip rfl rfl rfl ?_
          refine sxo_skip rfl rfl rfl ?_
          refine sxo_skip rfl rfl rfl ?_
          refine sxo_skip rfl rfl rfl ?_
          refine sxo_skip rfl rfl rfl ?_
          refine sxo_skip rfl rfl rfl ?_
          refine sxo_pick (b := true) rfl rfl rfl rfl ?_
          refine sxo_nil ?_
          exact sxq_meetP (true, ()) (lk_cons rfl (lk_cons rfl (lk_cons rfl (lk_cons rfl (lk_cons rfl (lk_cons rfl lk_nil)))))) (.cons 0 rfl (.cons 0 rfl .nil)) .nil (fk_cons 0 rfl fk_nil)
        · refine sxo_isF (k := 21) rfl h31 ?_
          refine sxo_move rfl rfl rfl ?_
          refine sxo_lss rfl rfl rfl rfl ?_
          refine sxo_move rfl rfl rfl ?_
          refine sxo_join 5 (fun ((x41, _) : (Bool × Unit)) => [(1, .int .u64 x5), (2, .int .i64 x6), (3, .pointer (some ⟨g7, 0, none⟩)), (6, .pointer (some ⟨g8, 0, none⟩)), (8, .int .i64 x9), (21, .bool false), (29, .bool x41)]) (fun ((x41, _) : (Bool × Unit)) => [⟨g8, 26, [.int .i64 0, .slice none 0 0]⟩, ⟨g7, 26, [.int .i64 x1, .slice a3 x2.length c4]⟩]) (fun ((x41, _) : (Bool × Unit)) => []) (fun ((x41, _) : (Bool × Unit)) => [Sl (eI .u8) 1 (.slice a3 x2.length c4) x2]) (fun ((x41, _) : (Bool × Unit)) => M_bits_Put_j7 F x1 x2 x5 x6 x9 x41) ?_ ?_
          · refine sxo_take (os := _) rfl ?_
            refine sxo_if (fun h39 => ?_) (fun h39 => ?_)
            · refine sxo_isT (k := 24) rfl h39 ?_
              refine sxo_move rfl rfl rfl ?_
              refine sxo_move rfl rfl rfl ?_
              refine sxo_chk (fun h42 => ?_)
              refine sxo_shr rfl rfl rfl rfl h42 ?_
              refine sxo_neq rfl rfl rfl rfl ?_
              refine sxo_pick (b := true) rfl rfl rfl rfl ?_
              refine sxo_nil ?_
              exact sxq_meetP ((((ishr .u64 x5 x6) : Int) != 0), ()) (lk_cons rfl (lk_cons rfl (lk_cons rfl (lk_cons rfl (lk_cons rfl (lk_cons rfl (lk_cons rfl lk_nil))))))) (.cons 0 rfl (.cons 0 rfl .nil)) .nil (fk_cons 0 rfl fk_nil)
            · refine sxo_isF (k := 24) rfl h39 ?_
              refine sxo_skip rfl rfl rfl ?_
              refine sxo_skip rfl rfl rfl ?_
              refine sxo_skip rfl rfl rfl ?_
              refine sxo_skip rfl rfl rfl ?_
              refine sxo_pick (b := false) rfl rfl rfl rfl ?_
              refine sxo_nil ?_
              exact sxq_meetP (false, ()) (lk_cons rfl (lk_cons rfl (lk_cons rfl (lk_cons rfl (lk_cons rfl (lk_cons rfl (lk_cons rfl lk_nil))))))) (.cons 0 rfl (.cons 0 rfl .nil)) .nil (fk_cons 0 rfl fk_nil)
          · rintro ⟨x41, _⟩
            try dsimp only
            refine sxo_take (os := _) rfl ?_
            refine sxo_pick (b := false) rfl rfl rfl rfl ?_
            refine sxo_nil ?_
            exact sxq_meetP (x41, ()) (lk_cons rfl (lk_cons rfl (lk_cons rfl (lk_cons rfl (lk_cons rfl (lk_cons rfl lk_nil)))))) (.cons 0 rfl (.cons 0 rfl .nil)) .nil (fk_cons 0 rfl fk_nil)
      · rintro ⟨x36, _⟩
        try dsimp only
        refine sxo_take (os := _) rfl ?_
        refine sxo_assign rfl rfl rfl ?_
        refine sxo_nil ?_
        refine sxq_next ?_
        refine sxc_if rfl (fun h38 => ?_) (fun h38 => ?_)
        · refine sxc_region ?_
          refine sxo_assign rfl rfl rfl ?_
          refine sxo_nil ?_
          refine sxq_blkN ?_
          exact sxq_meetP (3, ()) (lk_cons rfl (lk_cons rfl (lk_cons rfl (lk_cons rfl (lk_cons rfl lk_nil))))) (.cons 0 rfl (.cons 0 rfl .nil)) .nil (fk_cons 0 rfl fk_nil)
        · refine sxc_seq ?_
          refine sxc_region ?_
          refine sxo_fieldAddr rfl rfl ff26_0 rfl ?_
          refine sxo_loadB (i := 1) rfl rfl tf3 rfl rfl (fun _ => rfl) rfl rfl ?_
          refine sxo_move rfl rfl rfl ?_
          refine sxo_add rfl rfl rfl rfl ?_
          refine sxo_gtr rfl rfl rfl rfl ?_
          refine sxo_assign rfl rfl rfl ?_
          refine sxo_nil ?_
          refine sxq_next ?_
          refine sxc_if rfl (fun h37 => ?_) (fun h37 => ?_)
          · refine sxc_region ?_
            refine sxo_assign rfl rfl rfl ?_
            refine sxo_nil ?_
            refine sxq_blkN ?_
            exact sxq_meetP (8, ()) (lk_cons rfl (lk_cons rfl (lk_cons rfl (lk_cons rfl (lk_cons rfl lk_nil))))) (.cons 0 rfl (.cons 0 rfl .nil)) .nil (fk_cons 0 rfl fk_nil)
          · refine sxc_skip ?_
            refine sxq_blkN ?_
            exact sxq_meetP (x9, ()) (lk_cons rfl (lk_cons rfl (lk_cons rfl (lk_cons rfl (lk_cons rfl lk_nil))))) (.cons 0 rfl (.cons 0 rfl .nil)) .nil (fk_cons 0 rfl fk_nil)
  · rintro ⟨x24, _⟩
    try dsimp only
    refine sxc_seq ?_
    refine sxc_seq ?_
    refine sxc_region ?_
    refine sxo_move rfl rfl rfl ?_
    refine sxo_neq rfl rfl rfl rfl ?_
    refine sxo_nil ?_
    refine sxq_next ?_
    refine sxc_if rfl (fun h29 => ?_) (fun h29 => ?_)
    · refine sxc_seq ?_
      refine sxc_region ?_
      refine sxo_build (cells := [.int .i64 0, .slice none 0 0]) rfl st26 rfl (by kernel_rfl) rfl ?_
      refine sxo_move rfl rfl rfl ?_
      refine sxo_storeB (i := 0) rfl rfl rfl tf26 rfl rfl rfl rfl rfl ?_
      refine sxo_assign rfl rfl rfl ?_
      refine sxo_nil ?_
      refine sxq_next ?_
      refine sxc_ret ?_
      refine sxq_thenR ?_
      refine sxq_nilrow Int (eI .u8) 5 1 ?_
      exact sxq_doneP (none, 0) (.inl rfl) (resL (rs := [.cell 6 26, .tmp 7]) rfl (.cell (i := 0) rfl tf26 rfl rfl (by simp) rfl (.tmp rfl ResOk.nil)) rfl) (fun h => by subst h; rfl) (fun h => by subst h; exact (.cons 0 rfl .nil))
    · refine sxc_skip ?_
      refine sxq_next ?_
      refine sxc_seq ?_
      refine sxc_region ?_
      refine sxo_loadB (i := 1) rfl rfl tf26 rfl rfl (by simp) rfl rfl ?_
      refine sxo_move rfl rfl rfl ?_
      refine sxo_move rfl rfl rfl ?_
      refine sxo_call ent27 rfl rfl rfl (fun x26 e26 => C_bits_Add F x1 x2 a3 c4 x5 x6 x26 e26) (.consF 0 rfl .nil) (fun x26 e26 => ?_)
      rintro ⟨a27, c28⟩
      refine sxo_storeB (i := 0) rfl rfl rfl tf26 rfl rfl rfl rfl rfl ?_
      refine sxo_assign rfl rfl rfl ?_
      refine sxo_nil ?_
      refine sxq_next ?_
      refine sxc_ret ?_
      exact sxq_doneP (a27, c28) (.inl rfl) (resL (rs := [.cell 6 26, .tmp 7]) rfl (.cell (i := 0) rfl tf26 rfl rfl (by simp) rfl (.tmp rfl ResOk.nil)) rfl) (fun h => by subst h; rfl) (fun h => by subst h; exact (.cons 0 rfl .nil))
end Go.Proofs.Ytinpmgkbgcccmaa
