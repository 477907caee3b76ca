/- Each Go function of this seat computes what its model says, part 2. -/
import Derived.Test.YtldpjaphbikjnaaWalks
namespace Go.Proofs.Ytldpjaphbikjnaa
open Go SX
set_option maxHeartbeats 4000000 in
theorem C_L_WalkThree (F : Nat) (x1 : List (List Int)) (a2 : Option Addr) (c3 : (Nat × List (Option Addr × Nat))) (x4 : Int) (x5 : Int) (x6 : Int) (r : Bool) (hm : M_L_WalkThree F x1 x4 x5 x6 = some r) :
    Pure Try.prog 7 [.agg #[.slice a2 x1.length c3.1], .int .i64 x4, .int .i64 x5, .int .i64 x6] [SlN eN25 iN25 1 (.slice a2 x1.length c3.1) x1 c3.2] Unit (fun _ => .bool r) (fun _ => []) (fun _ => []) := by
  refine pure_of Try.func7 rfl Try.ntmps7 rfl hm (fun w => ?_)
  refine sxc_env (l' := [(0, .agg #[.slice a2 x1.length c3.1]), (1, .int .i64 x4), (2, .int .i64 x5), (3, .int .i64 x6)]) rfl ?_
  refine sxc_seq ?_
  refine sxc_region ?_
  refine sxo_box rfl rfl rfl (fun g7 => ?_)
  refine sxo_assign rfl rfl rfl ?_
  refine sxo_nil ?_
  refine sxq_next ?_
  refine sxc_seq ?_
  refine sxc_region ?_
  refine sxo_loadB (i := 0) rfl rfl tf24 rfl rfl (by simp) rfl rfl ?_
  refine sxo_move rfl rfl rfl ?_
  refine sxo_call ent10 rfl rfl rfl (fun x8 e8 => C_walk_Far F x1 a2 c3 x4 x8 e8) (.consF 0 rfl .nil) (fun x8 e8 => ?_)
  rintro ⟨a9, c10⟩
  refine sxo_move rfl rfl rfl ?_
  refine sxo_extract rfl rfl rfl rfl ?_
  refine sxo_extract rfl rfl rfl rfl ?_
  refine sxo_assign rfl rfl rfl ?_
  refine sxo_assign rfl rfl rfl ?_
  refine sxo_nil ?_
  refine sxq_next ?_
  refine sxc_seq ?_
  refine sxc_region ?_
  refine sxo_loadB (i := 0) rfl rfl tf24 rfl rfl (by simp) rfl rfl ?_
  refine sxo_move rfl rfl rfl ?_
  refine sxo_call ent10 rfl rfl rfl (fun x11 e11 => C_walk_Far F x1 a2 c3 x5 x11 e11) (.consF 0 rfl .nil) (fun x11 e11 => ?_)
  rintro ⟨a12, c13⟩
  refine sxo_move rfl rfl rfl ?_
  refine sxo_extract rfl rfl rfl rfl ?_
  refine sxo_extract rfl rfl rfl rfl ?_
  refine sxo_assign rfl rfl rfl ?_
  refine sxo_assign rfl rfl rfl ?_
  refine sxo_nil ?_
  refine sxq_next ?_
  refine sxc_seq ?_
  refine sxc_seq ?_
  refine sxc_region ?_
  refine sxo_call ent18 rfl rfl rfl (fun x16 e16 => C_L_walkBegun F  x16 e16) .nil (fun x16 e16 => ?_)
  intro _
  refine sxo_not rfl rfl rfl ?_
  refine sxo_nil ?_
  refine sxq_next ?_
  refine sxc_if rfl (fun h984 => ?_) (fun h984 => ?_)
  · refine sxc_seq ?_
    refine sxc_region ?_
    refine sxo_assign rfl rfl rfl ?_
    refine sxo_nil ?_
    refine sxq_next ?_
    refine sxc_ret ?_
    refine sxq_thenR ?_
    exact sxq_doneP () (.inl rfl) (res1 rfl rfl) (fun h => by subst h; rfl) (fun h => by subst h; exact .nil)
  · refine sxc_skip ?_
    refine sxq_next ?_
    refine sxc_seq ?_
    refine sxc_seq ?_
    refine sxc_region ?_
    refine sxo_move rfl rfl rfl ?_
    refine sxo_neq rfl rfl rfl rfl ?_
    refine sxo_move rfl rfl rfl ?_
    refine sxo_case 3 ((x8.2 : Int) != 0) [(1, .int .i64 x4), (2, .int .i64 x5), (3, .int .i64 x6), (4, .pointer (some ⟨g7, 0, none⟩)), (9, .slice a9 x8.1.length c10), (11, .slice a12 x11.1.length c13), (39, .bool (((x8.2 : Int) != 0) || ((x11.2 : Int) != 0)))] (fun h21 => ?_) (fun h21 => ?_) ?_
    · refine sxo_take (os := _) rfl ?_
      refine sxo_isT (k := 36) rfl h21 ?_
      refine sxo_skip rfl rfl rfl ?_
      refine sxo_skip rfl rfl rfl ?_
      refine sxo_pick (b := true) rfl rfl rfl rfl ?_
      refine sxo_again (d := 39) (v := .bool (((x8.2 : Int) != 0) || ((x11.2 : Int) != 0))) rfl (by rw [h21]; simp only [Bool.true_or]) ?_
      refine sxo_nil ?_
      exact sxq_case (lk_cons rfl (lk_cons rfl (lk_cons rfl (lk_cons rfl (lk_cons rfl (lk_cons rfl (lk_cons rfl lk_nil)))))))
    · refine sxo_take (os := _) rfl ?_
      refine sxo_isF (k := 36) rfl h21 ?_
      refine sxo_move rfl rfl rfl ?_
      refine sxo_neq rfl rfl rfl rfl ?_
      refine sxo_pick (b := false) rfl rfl rfl rfl ?_
      refine sxo_again (d := 39) (v := .bool (((x8.2 : Int) != 0) || ((x11.2 : Int) != 0))) rfl (by rw [h21]; simp only [Bool.false_or]) ?_
      refine sxo_nil ?_
      exact sxq_case (lk_cons rfl (lk_cons rfl (lk_cons rfl (lk_cons rfl (lk_cons rfl (lk_cons rfl (lk_cons rfl lk_nil)))))))
    refine sxo_take (os := _) rfl ?_
    refine sxo_move rfl rfl rfl ?_
    refine sxo_case 3 (((x8.2 : Int) != 0) || ((x11.2 : Int) != 0)) [(1, .int .i64 x4), (2, .int .i64 x5), (3, .int .i64 x6), (4, .pointer (some ⟨g7, 0, none⟩)), (9, .slice a9 x8.1.length c10), (11, .slice a12 x11.1.length c13), (43, .bool ((((x8.2 : Int) != 0) || ((x11.2 : Int) != 0)) || (decide (x6 < 0))))] (fun h22 => ?_) (fun h22 => ?_) ?_
    · refine sxo_take (os := _) rfl ?_
      refine sxo_isT (k := 40) rfl h22 ?_
      refine sxo_skip rfl rfl rfl ?_
      refine sxo_skip rfl rfl rfl ?_
      refine sxo_pick (b := true) rfl rfl rfl rfl ?_
      refine sxo_again (d := 43) (v := .bool ((((x8.2 : Int) != 0) || ((x11.2 : Int) != 0)) || (decide (x6 < 0)))) rfl (by rw [h22]; simp only [Bool.true_or]) ?_
      refine sxo_nil ?_
      exact sxq_case (lk_cons rfl (lk_cons rfl (lk_cons rfl (lk_cons rfl (lk_cons rfl (lk_cons rfl (lk_cons rfl lk_nil)))))))
    · refine sxo_take (os := _) rfl ?_
      refine sxo_isF (k := 40) rfl h22 ?_
      refine sxo_move rfl rfl rfl ?_
      refine sxo_lss rfl rfl rfl rfl ?_
      refine sxo_pick (b := false) rfl rfl rfl rfl ?_
      refine sxo_again (d := 43) (v := .bool ((((x8.2 : Int) != 0) || ((x11.2 : Int) != 0)) || (decide (x6 < 0)))) rfl (by rw [h22]; simp only [Bool.false_or]) ?_
      refine sxo_nil ?_
      exact sxq_case (lk_cons rfl (lk_cons rfl (lk_cons rfl (lk_cons rfl (lk_cons rfl (lk_cons rfl (lk_cons rfl lk_nil)))))))
    refine sxo_take (os := _) rfl ?_
    refine sxo_move rfl rfl rfl ?_
    refine sxo_case 5 ((((x8.2 : Int) != 0) || ((x11.2 : Int) != 0)) || (decide (x6 < 0))) [(1, .int .i64 x4), (2, .int .i64 x5), (3, .int .i64 x6), (4, .pointer (some ⟨g7, 0, none⟩)), (9, .slice a9 x8.1.length c10), (11, .slice a12 x11.1.length c13), (49, .bool (((((x8.2 : Int) != 0) || ((x11.2 : Int) != 0)) || (decide (x6 < 0))) || (decide ((x8.1.length : Int) ≤ x6))))] (fun h23 => ?_) (fun h23 => ?_) ?_
    · refine sxo_take (os := _) rfl ?_
      refine sxo_isT (k := 44) rfl h23 ?_
      refine sxo_skip rfl rfl rfl ?_
      refine sxo_skip rfl rfl rfl ?_
      refine sxo_skip rfl rfl rfl ?_
      refine sxo_skip rfl rfl rfl ?_
      refine sxo_pick (b := true) rfl rfl rfl rfl ?_
      refine sxo_again (d := 49) (v := .bool (((((x8.2 : Int) != 0) || ((x11.2 : Int) != 0)) || (decide (x6 < 0))) || (decide ((x8.1.length : Int) ≤ x6)))) rfl (by rw [h23]; simp only [Bool.true_or]) ?_
      refine sxo_nil ?_
      exact sxq_case (lk_cons rfl (lk_cons rfl (lk_cons rfl (lk_cons rfl (lk_cons rfl (lk_cons rfl (lk_cons rfl lk_nil)))))))
    · refine sxo_take (os := _) rfl ?_
      refine sxo_isF (k := 44) rfl h23 ?_
      refine sxo_move rfl rfl rfl ?_
      refine sxo_move rfl rfl rfl ?_
      refine sxo_len rfl Try.underlying25 rfl rfl ?_
      refine sxo_geq rfl rfl rfl rfl ?_
      refine sxo_pick (b := false) rfl rfl rfl rfl ?_
      refine sxo_again (d := 49) (v := .bool (((((x8.2 : Int) != 0) || ((x11.2 : Int) != 0)) || (decide (x6 < 0))) || (decide ((x8.1.length : Int) ≤ x6)))) rfl (by rw [h23]; simp only [Bool.false_or]) ?_
      refine sxo_nil ?_
      exact sxq_case (lk_cons rfl (lk_cons rfl (lk_cons rfl (lk_cons rfl (lk_cons rfl (lk_cons rfl (lk_cons rfl lk_nil)))))))
    refine sxo_take (os := _) rfl ?_
    refine sxo_nil ?_
    refine sxq_next ?_
    refine sxc_if rfl (fun h983 => ?_) (fun h983 => ?_)
    · refine sxc_seq ?_
      refine sxc_region ?_
      refine sxo_assign rfl rfl rfl ?_
      refine sxo_nil ?_
      refine sxq_next ?_
      refine sxc_ret ?_
      refine sxq_thenR ?_
      exact sxq_doneP () (.inl rfl) (res1 rfl rfl) (fun h => by subst h; rfl) (fun h => by subst h; exact .nil)
    · refine sxc_skip ?_
      refine sxq_next ?_
      refine sxc_seq ?_
      refine sxc_join (fun ((x107, _) : (Bool × Unit)) => [(1, .int .i64 x4), (2, .int .i64 x5), (3, .int .i64 x6), (4, .pointer (some ⟨g7, 0, none⟩)), (9, .slice a9 x8.1.length c10), (84, .bool x107)]) (fun ((x107, _) : (Bool × Unit)) => [⟨g7, 24, [.slice a2 x1.length c3.1]⟩]) (fun ((x107, _) : (Bool × Unit)) => [Ro (eI .i64) 3 1 (.slice a9 x8.1.length c10) x8.1]) (fun ((x107, _) : (Bool × Unit)) => [SlN eN25 iN25 1 (.slice a2 x1.length c3.1) x1 c3.2]) (fun ((x107, _) : (Bool × Unit)) => M_L_WalkThree_j2 F x1 x4 x5 x6 x8 x107) ?_ ?_
      · refine sxc_idxO (j := 1) rfl (fun x956 e956 g957 h958 => ?_)
        replace h958 : a9 = some ⟨g957, 0, none⟩ := h958
        have h959 := own_of (k := x8.1.length) (c := c10) h958
        refine sxc_split (fun h960 => ?_) (fun h960 => ?_)
        · refine sxc_idxO (j := 0) rfl (fun x961 e961 g962 h963 => ?_)
          replace h963 : a12 = some ⟨g962, 0, none⟩ := h963
          have h964 := own_of (k := x11.1.length) (c := c13) h963
          refine sxc_split (fun h965 => ?_) (fun h965 => ?_)
          · refine sxc_idxO (j := 1) rfl (fun x966 e966 g967 h968 => ?_)
            replace h968 : a9 = some ⟨g967, 0, none⟩ := h968
            have h969 := own_of (k := x8.1.length) (c := c10) h968
            refine sxc_split (fun h970 => ?_) (fun h970 => ?_)
            · refine sxb_draw mixed [] [⟨g7, 24, [.slice a2 x1.length c3.1]⟩] [SlN eN25 iN25 1 (.slice a2 x1.length c3.1) x1 c3.2, CellsAt g957 (x5.toNat * 1) ((eI .i64) x956), CellsAt g962 (x6.toNat * 1) ((eI .i64) x961), CellsAt g967 (x6.toNat * 1) ((eI .i64) x966)] (.cons 0 rfl .nil) (gk_F 0 rfl (gk_R 1 rfl (at_row (eI_ok .i64) e956 h958) (gk_R 0 rfl (at_row (eI_ok .i64) e961 h963) (gk_R 1 rfl (at_row (eI_ok .i64) e966 h968) gk_nil)))) 35 rfl ?_
              refine sxb_takeP 0 (.slice a9 x8.1.length c10) rfl rfl rfl rfl (by kernel_rfl) (by kernel_rfl) (by kernel_rfl) (by kernel_rfl) (by kernel_rfl) rfl (show _ = #[true, false, false, false, false, false, false, false, false, false, false, false, false, false, false, false, false, false, false, false, false, false, false, false, false, false, false, false, false, false, false, false, false, false, false] from rfl) (yv_pv rfl) ?_
              refine sxb_takeP 1 (.int .i64 x5) rfl rfl rfl rfl (by kernel_rfl) (by kernel_rfl) (by kernel_rfl) (by kernel_rfl) (by kernel_rfl) rfl (show _ = #[true, true, false, false, false, false, false, false, false, false, false, false, false, false, false, false, false, false, false, false, false, false, false, false, false, false, false, false, false, false, false, false, false, false, false] from rfl) (yv_pv rfl) ?_
              refine sxb_again (d := 50) (v := .slice (some ⟨g957, 0, none⟩) x8.1.length c10) rfl (by rw [h958] <;> rfl) ?_
              refine sxb_takeP 2 (.pointer (some ⟨g957, x5.toNat * 1, none⟩)) rfl rfl rfl rfl (by kernel_rfl) (by kernel_rfl) (by kernel_rfl) (by kernel_rfl) (by kernel_rfl) rfl (show _ = #[true, true, true, false, false, false, false, false, false, false, false, false, false, false, false, false, false, false, false, false, false, false, false, false, false, false, false, false, false, false, false, false, false, false, false] from rfl) (yv_idxO Try.underlying25 tf3 rfl rfl (idx_get e956).1 (idx_lt e956)) ?_
              refine sxb_again (d := 50) (v := .slice a9 x8.1.length c10) rfl (by rw [h958] <;> rfl) ?_
              refine sxb_take 3 (.int .i64 x956) [] rfl rfl rfl rfl (by kernel_rfl) (by kernel_rfl) (by kernel_rfl) (by kernel_rfl) (by kernel_rfl) (by kernel_rfl) rfl (show _ = #[true, true, true, true, false, false, false, false, false, false, false, false, false, false, false, false, false, false, false, false, false, false, false, false, false, false, false, false, false, false, false, false, false, false, false] from rfl) (yv_loadF (j := 1) rfl tf3 rfl rfl (fun _ => rfl) rfl) ?_
              refine sxb_takeP 4 (.bool (decide (0 ≤ x956))) rfl rfl rfl rfl (by kernel_rfl) (by kernel_rfl) (by kernel_rfl) (by kernel_rfl) (by kernel_rfl) rfl (show _ = #[true, true, true, true, true, false, false, false, false, false, false, false, false, false, false, false, false, false, false, false, false, false, false, false, false, false, false, false, false, false, false, false, false, false, false] from rfl) (yv_pv rfl) ?_
              refine sxb_takeP 5 (.bool (decide (0 ≤ x956))) rfl rfl rfl rfl (by kernel_rfl) (by kernel_rfl) (by kernel_rfl) (by kernel_rfl) (by kernel_rfl) rfl (show _ = #[true, true, true, true, true, true, false, false, false, false, false, false, false, false, false, false, false, false, false, false, false, false, false, false, false, false, false, false, false, false, false, false, false, false, false] from rfl) (yv_pv rfl) ?_
              refine sxb_again (d := 55) (v := .bool true) rfl (by rw [h960] <;> rfl) ?_
              refine sxb_takeP 6 (.slice a12 x11.1.length c13) rfl rfl rfl rfl (by kernel_rfl) (by kernel_rfl) (by kernel_rfl) (by kernel_rfl) (by kernel_rfl) rfl (show _ = #[true, true, true, true, true, true, true, false, false, false, false, false, false, false, false, false, false, false, false, false, false, false, false, false, false, false, false, false, false, false, false, false, false, false, false] from rfl) (yv_pv rfl) ?_
              refine sxb_takeP 7 (.int .i64 x6) rfl rfl rfl rfl (by kernel_rfl) (by kernel_rfl) (by kernel_rfl) (by kernel_rfl) (by kernel_rfl) rfl (show _ = #[true, true, true, true, true, true, true, true, false, false, false, false, false, false, false, false, false, false, false, false, false, false, false, false, false, false, false, false, false, false, false, false, false, false, false] from rfl) (yv_pv rfl) ?_
              refine sxb_again (d := 56) (v := .slice (some ⟨g962, 0, none⟩) x11.1.length c13) rfl (by rw [h963] <;> rfl) ?_
              refine sxb_takeP 8 (.pointer (some ⟨g962, x6.toNat * 1, none⟩)) rfl rfl rfl rfl (by kernel_rfl) (by kernel_rfl) (by kernel_rfl) (by kernel_rfl) (by kernel_rfl) rfl (show _ = #[true, true, true, true, true, true, true, true, true, false, false, false, false, false, false, false, false, false, false, false, false, false, false, false, false, false, false, false, false, false, false, false, false, false, false] from rfl) (yv_idxO Try.underlying25 tf3 rfl rfl (idx_get e961).1 (idx_lt e961)) ?_
              refine sxb_again (d := 56) (v := .slice a12 x11.1.length c13) rfl (by rw [h963] <;> rfl) ?_
              refine sxb_take 9 (.int .i64 x961) [] rfl rfl rfl rfl (by kernel_rfl) (by kernel_rfl) (by kernel_rfl) (by kernel_rfl) (by kernel_rfl) (by kernel_rfl) rfl (show _ = #[true, true, true, true, true, true, true, true, true, true, false, false, false, false, false, false, false, false, false, false, false, false, false, false, false, false, false, false, false, false, false, false, false, false, false] from rfl) (yv_loadF (j := 2) rfl tf3 rfl rfl (fun _ => rfl) rfl) ?_
              refine sxb_takeP 10 (.bool (decide (0 ≤ x961))) rfl rfl rfl rfl (by kernel_rfl) (by kernel_rfl) (by kernel_rfl) (by kernel_rfl) (by kernel_rfl) rfl (show _ = #[true, true, true, true, true, true, true, true, true, true, true, false, false, false, false, false, false, false, false, false, false, false, false, false, false, false, false, false, false, false, false, false, false, false, false] from rfl) (yv_pv rfl) ?_
              refine sxb_takeP 11 (.bool (decide (0 ≤ x961))) rfl rfl rfl rfl (by kernel_rfl) (by kernel_rfl) (by kernel_rfl) (by kernel_rfl) (by kernel_rfl) rfl (show _ = #[true, true, true, true, true, true, true, true, true, true, true, true, false, false, false, false, false, false, false, false, false, false, false, false, false, false, false, false, false, false, false, false, false, false, false] from rfl) (yv_pv rfl) ?_
              refine sxb_takeP 12 (.bool (decide (0 ≤ x961))) rfl rfl rfl rfl (by kernel_rfl) (by kernel_rfl) (by kernel_rfl) (by kernel_rfl) (by kernel_rfl) rfl (show _ = #[true, true, true, true, true, true, true, true, true, true, true, true, true, false, false, false, false, false, false, false, false, false, false, false, false, false, false, false, false, false, false, false, false, false, false] from rfl) (yv_pv rfl) ?_
              refine sxb_again (d := 62) (v := .bool true) rfl (by rw [h965] <;> rfl) ?_
              refine sxb_takeP 13 (.slice a9 x8.1.length c10) rfl rfl rfl rfl (by kernel_rfl) (by kernel_rfl) (by kernel_rfl) (by kernel_rfl) (by kernel_rfl) rfl (show _ = #[true, true, true, true, true, true, true, true, true, true, true, true, true, true, false, false, false, false, false, false, false, false, false, false, false, false, false, false, false, false, false, false, false, false, false] from rfl) (yv_pv rfl) ?_
              refine sxb_takeP 14 (.int .i64 x6) rfl rfl rfl rfl (by kernel_rfl) (by kernel_rfl) (by kernel_rfl) (by kernel_rfl) (by kernel_rfl) rfl (show _ = #[true, true, true, true, true, true, true, true, true, true, true, true, true, true, true, false, false, false, false, false, false, false, false, false, false, false, false, false, false, false, false, false, false, false, false] from rfl) (yv_pv rfl) ?_
              refine sxb_again (d := 63) (v := .slice (some ⟨g967, 0, none⟩) x8.1.length c10) rfl (by rw [h968] <;> rfl) ?_
              refine sxb_takeP 15 (.pointer (some ⟨g967, x6.toNat * 1, none⟩)) rfl rfl rfl rfl (by kernel_rfl) (by kernel_rfl) (by kernel_rfl) (by kernel_rfl) (by kernel_rfl) rfl (show _ = #[true, true, true, true, true, true, true, true, true, true, true, true, true, true, true, true, false, false, false, false, false, false, false, false, false, false, false, false, false, false, false, false, false, false, false] from rfl) (yv_idxO Try.underlying25 tf3 rfl rfl (idx_get e966).1 (idx_lt e966)) ?_
              refine sxb_again (d := 63) (v := .slice a9 x8.1.length c10) rfl (by rw [h968] <;> rfl) ?_
              refine sxb_take 16 (.int .i64 x966) [] rfl rfl rfl rfl (by kernel_rfl) (by kernel_rfl) (by kernel_rfl) (by kernel_rfl) (by kernel_rfl) (by kernel_rfl) rfl (show _ = #[true, true, true, true, true, true, true, true, true, true, true, true, true, true, true, true, true, false, false, false, false, false, false, false, false, false, false, false, false, false, false, false, false, false, false] from rfl) (yv_loadF (j := 3) rfl tf3 rfl rfl (fun _ => rfl) rfl) ?_
              refine sxb_takeP 17 (.bool (decide (x966 < 0))) rfl rfl rfl rfl (by kernel_rfl) (by kernel_rfl) (by kernel_rfl) (by kernel_rfl) (by kernel_rfl) rfl (show _ = #[true, true, true, true, true, true, true, true, true, true, true, true, true, true, true, true, true, true, false, false, false, false, false, false, false, false, false, false, false, false, false, false, false, false, false] from rfl) (yv_pv rfl) ?_
              refine sxb_takeP 18 (.bool (decide (x966 < 0))) rfl rfl rfl rfl (by kernel_rfl) (by kernel_rfl) (by kernel_rfl) (by kernel_rfl) (by kernel_rfl) rfl (show _ = #[true, true, true, true, true, true, true, true, true, true, true, true, true, true, true, true, true, true, true, false, false, false, false, false, false, false, false, false, false, false, false, false, false, false, false] from rfl) (yv_pv rfl) ?_
              refine sxb_again (d := 68) (v := .bool true) rfl (by rw [h970] <;> rfl) ?_
              refine sxb_skip 19 rfl rfl rfl rfl (by kernel_rfl) (by kernel_rfl) (by kernel_rfl) (by kernel_rfl) (by kernel_rfl) rfl (show _ = #[true, true, true, true, true, true, true, true, true, true, true, true, true, true, true, true, true, true, true, true, false, false, false, false, false, false, false, false, false, false, false, false, false, false, false] from rfl) ?_
              refine sxb_skip 20 rfl rfl rfl rfl (by kernel_rfl) (by kernel_rfl) (by kernel_rfl) (by kernel_rfl) (by kernel_rfl) rfl (show _ = #[true, true, true, true, true, true, true, true, true, true, true, true, true, true, true, true, true, true, true, true, true, false, false, false, false, false, false, false, false, false, false, false, false, false, false] from rfl) ?_
              refine sxb_skip 21 rfl rfl rfl rfl (by kernel_rfl) (by kernel_rfl) (by kernel_rfl) (by kernel_rfl) (by kernel_rfl) rfl (show _ = #[true, true, true, true, true, true, true, true, true, true, true, true, true, true, true, true, true, true, true, true, true, true, false, false, false, false, false, false, false, false, false, false, false, false, false] from rfl) ?_
              refine sxb_skip 22 rfl rfl rfl rfl (by kernel_rfl) (by kernel_rfl) (by kernel_rfl) (by kernel_rfl) (by kernel_rfl) rfl (show _ = #[true, true, true, true, true, true, true, true, true, true, true, true, true, true, true, true, true, true, true, true, true, true, true, false, false, false, false, false, false, false, false, false, false, false, false] from rfl) ?_
              refine sxb_skip 23 rfl rfl rfl rfl (by kernel_rfl) (by kernel_rfl) (by kernel_rfl) (by kernel_rfl) (by kernel_rfl) rfl (show _ = #[true, true, true, true, true, true, true, true, true, true, true, true, true, true, true, true, true, true, true, true, true, true, true, true, false, false, false, false, false, false, false, false, false, false, false] from rfl) ?_
              refine sxb_skip 24 rfl rfl rfl rfl (by kernel_rfl) (by kernel_rfl) (by kernel_rfl) (by kernel_rfl) (by kernel_rfl) rfl (show _ = #[true, true, true, true, true, true, true, true, true, true, true, true, true, true, true, true, true, true, true, true, true, true, true, true, true, false, false, false, false, false, false, false, false, false, false] from rfl) ?_
              refine sxb_skip 25 rfl rfl rfl rfl (by kernel_rfl) (by kernel_rfl) (by kernel_rfl) (by kernel_rfl) (by kernel_rfl) rfl (show _ = #[true, true, true, true, true, true, true, true, true, true, true, true, true, true, true, true, true, true, true, true, true, true, true, true, true, true, false, false, false, false, false, false, false, false, false] from rfl) ?_
              refine sxb_skip 26 rfl rfl rfl rfl (by kernel_rfl) (by kernel_rfl) (by kernel_rfl) (by kernel_rfl) (by kernel_rfl) rfl (show _ = #[true, true, true, true, true, true, true, true, true, true, true, true, true, true, true, true, true, true, true, true, true, true, true, true, true, true, true, false, false, false, false, false, false, false, false] from rfl) ?_
              refine sxb_skip 27 rfl rfl rfl rfl (by kernel_rfl) (by kernel_rfl) (by kernel_rfl) (by kernel_rfl) (by kernel_rfl) rfl (show _ = #[true, true, true, true, true, true, true, true, true, true, true, true, true, true, true, true, true, true, true, true, true, true, true, true, true, true, true, true, false, false, false, false, false, false, false] from rfl) ?_
              refine sxb_skip 28 rfl rfl rfl rfl (by kernel_rfl) (by kernel_rfl) (by kernel_rfl) (by kernel_rfl) (by kernel_rfl) rfl (show _ = #[true, true, true, true, true, true, true, true, true, true, true, true, true, true, true, true, true, true, true, true, true, true, true, true, true, true, true, true, true, false, false, false, false, false, false] from rfl) ?_
              refine sxb_skip 29 rfl rfl rfl rfl (by kernel_rfl) (by kernel_rfl) (by kernel_rfl) (by kernel_rfl) (by kernel_rfl) rfl (show _ = #[true, true, true, true, true, true, true, true, true, true, true, true, true, true, true, true, true, true, true, true, true, true, true, true, true, true, true, true, true, true, false, false, false, false, false] from rfl) ?_
              refine sxb_skip 30 rfl rfl rfl rfl (by kernel_rfl) (by kernel_rfl) (by kernel_rfl) (by kernel_rfl) (by kernel_rfl) rfl (show _ = #[true, true, true, true, true, true, true, true, true, true, true, true, true, true, true, true, true, true, true, true, true, true, true, true, true, true, true, true, true, true, true, false, false, false, false] from rfl) ?_
              refine sxb_skip 31 rfl rfl rfl rfl (by kernel_rfl) (by kernel_rfl) (by kernel_rfl) (by kernel_rfl) (by kernel_rfl) rfl (show _ = #[true, true, true, true, true, true, true, true, true, true, true, true, true, true, true, true, true, true, true, true, true, true, true, true, true, true, true, true, true, true, true, true, false, false, false] from rfl) ?_
              refine sxb_skip 32 rfl rfl rfl rfl (by kernel_rfl) (by kernel_rfl) (by kernel_rfl) (by kernel_rfl) (by kernel_rfl) rfl (show _ = #[true, true, true, true, true, true, true, true, true, true, true, true, true, true, true, true, true, true, true, true, true, true, true, true, true, true, true, true, true, true, true, true, true, false, false] from rfl) ?_
              refine sxb_takeP 33 (.bool true) rfl rfl rfl rfl (by kernel_rfl) (by kernel_rfl) (by kernel_rfl) (by kernel_rfl) (by kernel_rfl) rfl (show _ = #[true, true, true, true, true, true, true, true, true, true, true, true, true, true, true, true, true, true, true, true, true, true, true, true, true, true, true, true, true, true, true, true, true, true, false] from rfl) (yv_pv rfl) ?_
              refine sxb_takeP 34 (.bool true) rfl rfl rfl rfl (by kernel_rfl) (by kernel_rfl) (by kernel_rfl) (by kernel_rfl) (by kernel_rfl) rfl (show _ = #[true, true, true, true, true, true, true, true, true, true, true, true, true, true, true, true, true, true, true, true, true, true, true, true, true, true, true, true, true, true, true, true, true, true, true] from rfl) (yv_pv rfl) ?_
              refine sxb_done (by kernel_rfl) ?_
              refine sxq_np ?_ (by intro c h; cases h)
              exact sxq_meetP (true, ()) (lk_cons rfl (lk_cons rfl (lk_cons rfl (lk_cons rfl (lk_cons rfl (lk_cons rfl lk_nil)))))) (.cons 0 rfl .nil) (.cons 1 rfl .nil) (fk_cons 0 rfl fk_nil)
            · refine sxc_idxO (j := 1) rfl (fun x971 e971 g972 h973 => ?_)
              replace h973 : a9 = some ⟨g972, 0, none⟩ := h973
              have h974 := own_of (k := x8.1.length) (c := c10) h973
              refine sxc_idxO (j := 1) rfl (fun x975 e975 g976 h977 => ?_)
              replace h977 : a9 = some ⟨g976, 0, none⟩ := h977
              have h978 := own_of (k := x8.1.length) (c := c10) h977
              refine sxc_idxO (j := 0) rfl (fun x979 e979 g980 h981 => ?_)
              replace h981 : a12 = some ⟨g980, 0, none⟩ := h981
              have h982 := own_of (k := x11.1.length) (c := c13) h981
              refine sxb_draw mixed [] [⟨g7, 24, [.slice a2 x1.length c3.1]⟩] [SlN eN25 iN25 1 (.slice a2 x1.length c3.1) x1 c3.2, CellsAt g957 (x5.toNat * 1) ((eI .i64) x956), CellsAt g962 (x6.toNat * 1) ((eI .i64) x961), CellsAt g967 (x6.toNat * 1) ((eI .i64) x966), CellsAt g972 (x6.toNat * 1) ((eI .i64) x971), CellsAt g976 (x5.toNat * 1) ((eI .i64) x975), CellsAt g980 (x6.toNat * 1) ((eI .i64) x979)] (.cons 0 rfl .nil) (gk_F 0 rfl (gk_R 1 rfl (at_row (eI_ok .i64) e956 h958) (gk_R 0 rfl (at_row (eI_ok .i64) e961 h963) (gk_R 1 rfl (at_row (eI_ok .i64) e966 h968) (gk_R 1 rfl (at_row (eI_ok .i64) e971 h973) (gk_R 1 rfl (at_row (eI_ok .i64) e975 h977) (gk_R 0 rfl (at_row (eI_ok .i64) e979 h981) gk_nil))))))) 35 rfl ?_
              refine sxb_takeP 0 (.slice a9 x8.1.length c10) rfl rfl rfl rfl (by kernel_rfl) (by kernel_rfl) (by kernel_rfl) (by kernel_rfl) (by kernel_rfl) rfl (show _ = #[true, false, false, false, false, false, false, false, false, false, false, false, false, false, false, false, false, false, false, false, false, false, false, false, false, false, false, false, false, false, false, false, false, false, false] from rfl) (yv_pv rfl) ?_
              refine sxb_takeP 1 (.int .i64 x5) rfl rfl rfl rfl (by kernel_rfl) (by kernel_rfl) (by kernel_rfl) (by kernel_rfl) (by kernel_rfl) rfl (show _ = #[true, true, false, false, false, false, false, false, false, false, false, false, false, false, false, false, false, false, false, false, false, false, false, false, false, false, false, false, false, false, false, false, false, false, false] from rfl) (yv_pv rfl) ?_
              refine sxb_again (d := 50) (v := .slice (some ⟨g957, 0, none⟩) x8.1.length c10) rfl (by rw [h958] <;> rfl) ?_
              refine sxb_takeP 2 (.pointer (some ⟨g957, x5.toNat * 1, none⟩)) rfl rfl rfl rfl (by kernel_rfl) (by kernel_rfl) (by kernel_rfl) (by kernel_rfl) (by kernel_rfl) rfl (show _ = #[true, true, true, false, false, false, false, false, false, false, false, false, false, false, false, false, false, false, false, false, false, false, false, false, false, false, false, false, false, false, false, false, false, false, false] from rfl) (yv_idxO Try.underlying25 tf3 rfl rfl (idx_get e956).1 (idx_lt e956)) ?_
              refine sxb_again (d := 50) (v := .slice a9 x8.1.length c10) rfl (by rw [h958] <;> rfl) ?_
              refine sxb_take 3 (.int .i64 x956) [] rfl rfl rfl rfl (by kernel_rfl) (by kernel_rfl) (by kernel_rfl) (by kernel_rfl) (by kernel_rfl) (by kernel_rfl) rfl (show _ = #[true, true, true, true, false, false, false, false, false, false, false, false, false, false, false, false, false, false, false, false, false, false, false, false, false, false, false, false, false, false, false, false, false, false, false] from rfl) (yv_loadF (j := 1) rfl tf3 rfl rfl (fun _ => rfl) rfl) ?_
              refine sxb_takeP 4 (.bool (decide (0 ≤ x956))) rfl rfl rfl rfl (by kernel_rfl) (by kernel_rfl) (by kernel_rfl) (by kernel_rfl) (by kernel_rfl) rfl (show _ = #[true, true, true, true, true, false, false, false, false, false, false, false, false, false, false, false, false, false, false, false, false, false, false, false, false, false, false, false, false, false, false, false, false, false, false] from rfl) (yv_pv rfl) ?_
              refine sxb_takeP 5 (.bool (decide (0 ≤ x956))) rfl rfl rfl rfl (by kernel_rfl) (by kernel_rfl) (by kernel_rfl) (by kernel_rfl) (by kernel_rfl) rfl (show _ = #[true, true, true, true, true, true, false, false, false, false, false, false, false, false, false, false, false, false, false, false, false, false, false, false, false, false, false, false, false, false, false, false, false, false, false] from rfl) (yv_pv rfl) ?_
              refine sxb_again (d := 55) (v := .bool true) rfl (by rw [h960] <;> rfl) ?_
              refine sxb_takeP 6 (.slice a12 x11.1.length c13) rfl rfl rfl rfl (by kernel_rfl) (by kernel_rfl) (by kernel_rfl) (by kernel_rfl) (by kernel_rfl) rfl (show _ = #[true, true, true, true, true, true, true, false, false, false, false, false, false, false, false, false, false, false, false, false, false, false, false, false, false, false, false, false, false, false, false, false, false, false, false] from rfl) (yv_pv rfl) ?_
              refine sxb_takeP 7 (.int .i64 x6) rfl rfl rfl rfl (by kernel_rfl) (by kernel_rfl) (by kernel_rfl) (by kernel_rfl) (by kernel_rfl) rfl (show _ = #[true, true, true, true, true, true, true, true, false, false, false, false, false, false, false, false, false, false, false, false, false, false, false, false, false, false, false, false, false, false, false, false, false, false, false] from rfl) (yv_pv rfl) ?_
              refine sxb_again (d := 56) (v := .slice (some ⟨g962, 0, none⟩) x11.1.length c13) rfl (by rw [h963] <;> rfl) ?_
              refine sxb_takeP 8 (.pointer (some ⟨g962, x6.toNat * 1, none⟩)) rfl rfl rfl rfl (by kernel_rfl) (by kernel_rfl) (by kernel_rfl) (by kernel_rfl) (by kernel_rfl) rfl (show _ = #[true, true, true, true, true, true, true, true, true, false, false, false, false, false, false, false, false, false, false, false, false, false, false, false, false, false, false, false, false, false, false, false, false, false, false] from rfl) (yv_idxO Try.underlying25 tf3 rfl rfl (idx_get e961).1 (idx_lt e961)) ?_
              refine sxb_again (d := 56) (v := .slice a12 x11.1.length c13) rfl (by rw [h963] <;> rfl) ?_
              refine sxb_take 9 (.int .i64 x961) [] rfl rfl rfl rfl (by kernel_rfl) (by kernel_rfl) (by kernel_rfl) (by kernel_rfl) (by kernel_rfl) (by kernel_rfl) rfl (show _ = #[true, true, true, true, true, true, true, true, true, true, false, false, false, false, false, false, false, false, false, false, false, false, false, false, false, false, false, false, false, false, false, false, false, false, false] from rfl) (yv_loadF (j := 2) rfl tf3 rfl rfl (fun _ => rfl) rfl) ?_
              refine sxb_takeP 10 (.bool (decide (0 ≤ x961))) rfl rfl rfl rfl (by kernel_rfl) (by kernel_rfl) (by kernel_rfl) (by kernel_rfl) (by kernel_rfl) rfl (show _ = #[true, true, true, true, true, true, true, true, true, true, true, false, false, false, false, false, false, false, false, false, false, false, false, false, false, false, false, false, false, false, false, false, false, false, false] from rfl) (yv_pv rfl) ?_
              refine sxb_takeP 11 (.bool (decide (0 ≤ x961))) rfl rfl rfl rfl (by kernel_rfl) (by kernel_rfl) (by kernel_rfl) (by kernel_rfl) (by kernel_rfl) rfl (show _ = #[true, true, true, true, true, true, true, true, true, true, true, true, false, false, false, false, false, false, false, false, false, false, false, false, false, false, false, false, false, false, false, false, false, false, false] from rfl) (yv_pv rfl) ?_
              refine sxb_takeP 12 (.bool (decide (0 ≤ x961))) rfl rfl rfl rfl (by kernel_rfl) (by kernel_rfl) (by kernel_rfl) (by kernel_rfl) (by kernel_rfl) rfl (show _ = #[true, true, true, true, true, true, true, true, true, true, true, true, true, false, false, false, false, false, false, false, false, false, false, false, false, false, false, false, false, false, false, false, false, false, false] from rfl) (yv_pv rfl) ?_
              refine sxb_again (d := 62) (v := .bool true) rfl (by rw [h965] <;> rfl) ?_
              refine sxb_takeP 13 (.slice a9 x8.1.length c10) rfl rfl rfl rfl (by kernel_rfl) (by kernel_rfl) (by kernel_rfl) (by kernel_rfl) (by kernel_rfl) rfl (show _ = #[true, true, true, true, true, true, true, true, true, true, true, true, true, true, false, false, false, false, false, false, false, false, false, false, false, false, false, false, false, false, false, false, false, false, false] from rfl) (yv_pv rfl) ?_
              refine sxb_takeP 14 (.int .i64 x6) rfl rfl rfl rfl (by kernel_rfl) (by kernel_rfl) (by kernel_rfl) (by kernel_rfl) (by kernel_rfl) rfl (show _ = #[true, true, true, true, true, true, true, true, true, true, true, true, true, true, true, false, false, false, false, false, false, false, false, false, false, false, false, false, false, false, false, false, false, false, false] from rfl) (yv_pv rfl) ?_
              refine sxb_again (d := 63) (v := .slice (some ⟨g967, 0, none⟩) x8.1.length c10) rfl (by rw [h968] <;> rfl) ?_
              refine sxb_takeP 15 (.pointer (some ⟨g967, x6.toNat * 1, none⟩)) rfl rfl rfl rfl (by kernel_rfl) (by kernel_rfl) (by kernel_rfl) (by kernel_rfl) (by kernel_rfl) rfl (show _ = #[true, true, true, true, true, true, true, true, true, true, true, true, true, true, true, true, false, false, false, false, false, false, false, false, false, false, false, false, false, false, false, false, false, false, false] from rfl) (yv_idxO Try.underlying25 tf3 rfl rfl (idx_get e966).1 (idx_lt e966)) ?_
              refine sxb_again (d := 63) (v := .slice a9 x8.1.length c10) rfl (by rw [h968] <;> rfl) ?_
              refine sxb_take 16 (.int .i64 x966) [] rfl rfl rfl rfl (by kernel_rfl) (by kernel_rfl) (by kernel_rfl) (by kernel_rfl) (by kernel_rfl) (by kernel_rfl) rfl (show _ = #[true, true, true, true, true, true, true, true, true, true, true, true, true, true, true, true, true, false, false, false, false, false, false, false, false, false, false, false, false, false, false, false, false, false, false] from rfl) (yv_loadF (j := 3) rfl tf3 rfl rfl (fun _ => rfl) rfl) ?_
              refine sxb_takeP 17 (.bool (decide (x966 < 0))) rfl rfl rfl rfl (by kernel_rfl) (by kernel_rfl) (by kernel_rfl) (by kernel_rfl) (by kernel_rfl) rfl (show _ = #[true, true, true, true, true, true, true, true, true, true, true, true, true, true, true, true, true, true, false, false, false, false, false, false, false, false, false, false, false, false, false, false, false, false, false] from rfl) (yv_pv rfl) ?_
              refine sxb_takeP 18 (.bool (decide (x966 < 0))) rfl rfl rfl rfl (by kernel_rfl) (by kernel_rfl) (by kernel_rfl) (by kernel_rfl) (by kernel_rfl) rfl (show _ = #[true, true, true, true, true, true, true, true, true, true, true, true, true, true, true, true, true, true, true, false, false, false, false, false, false, false, false, false, false, false, false, false, false, false, false] from rfl) (yv_pv rfl) ?_
              refine sxb_again (d := 68) (v := .bool false) rfl (by rw [h970] <;> rfl) ?_
              refine sxb_takeP 19 (.slice a9 x8.1.length c10) rfl rfl rfl rfl (by kernel_rfl) (by kernel_rfl) (by kernel_rfl) (by kernel_rfl) (by kernel_rfl) rfl (show _ = #[true, true, true, true, true, true, true, true, true, true, true, true, true, true, true, true, true, true, true, true, false, false, false, false, false, false, false, false, false, false, false, false, false, false, false] from rfl) (yv_pv rfl) ?_
              refine sxb_takeP 20 (.int .i64 x6) rfl rfl rfl rfl (by kernel_rfl) (by kernel_rfl) (by kernel_rfl) (by kernel_rfl) (by kernel_rfl) rfl (show _ = #[true, true, true, true, true, true, true, true, true, true, true, true, true, true, true, true, true, true, true, true, true, false, false, false, false, false, false, false, false, false, false, false, false, false, false] from rfl) (yv_pv rfl) ?_
              refine sxb_again (d := 69) (v := .slice (some ⟨g972, 0, none⟩) x8.1.length c10) rfl (by rw [h973] <;> rfl) ?_
              refine sxb_takeP 21 (.pointer (some ⟨g972, x6.toNat * 1, none⟩)) rfl rfl rfl rfl (by kernel_rfl) (by kernel_rfl) (by kernel_rfl) (by kernel_rfl) (by kernel_rfl) rfl (show _ = #[true, true, true, true, true, true, true, true, true, true, true, true, true, true, true, true, true, true, true, true, true, true, false, false, false, false, false, false, false, false, false, false, false, false, false] from rfl) (yv_idxO Try.underlying25 tf3 rfl rfl (idx_get e971).1 (idx_lt e971)) ?_
              refine sxb_again (d := 69) (v := .slice a9 x8.1.length c10) rfl (by rw [h973] <;> rfl) ?_
              refine sxb_take 22 (.int .i64 x971) [] rfl rfl rfl rfl (by kernel_rfl) (by kernel_rfl) (by kernel_rfl) (by kernel_rfl) (by kernel_rfl) (by kernel_rfl) rfl (show _ = #[true, true, true, true, true, true, true, true, true, true, true, true, true, true, true, true, true, true, true, true, true, true, true, false, false, false, false, false, false, false, false, false, false, false, false] from rfl) (yv_loadF (j := 4) rfl tf3 rfl rfl (fun _ => rfl) rfl) ?_
              refine sxb_takeP 23 (.slice a9 x8.1.length c10) rfl rfl rfl rfl (by kernel_rfl) (by kernel_rfl) (by kernel_rfl) (by kernel_rfl) (by kernel_rfl) rfl (show _ = #[true, true, true, true, true, true, true, true, true, true, true, true, true, true, true, true, true, true, true, true, true, true, true, true, false, false, false, false, false, false, false, false, false, false, false] from rfl) (yv_pv rfl) ?_
              refine sxb_takeP 24 (.int .i64 x5) rfl rfl rfl rfl (by kernel_rfl) (by kernel_rfl) (by kernel_rfl) (by kernel_rfl) (by kernel_rfl) rfl (show _ = #[true, true, true, true, true, true, true, true, true, true, true, true, true, true, true, true, true, true, true, true, true, true, true, true, true, false, false, false, false, false, false, false, false, false, false] from rfl) (yv_pv rfl) ?_
              refine sxb_again (d := 73) (v := .slice (some ⟨g976, 0, none⟩) x8.1.length c10) rfl (by rw [h977] <;> rfl) ?_
              refine sxb_takeP 25 (.pointer (some ⟨g976, x5.toNat * 1, none⟩)) rfl rfl rfl rfl (by kernel_rfl) (by kernel_rfl) (by kernel_rfl) (by kernel_rfl) (by kernel_rfl) rfl (show _ = #[true, true, true, true, true, true, true, true, true, true, true, true, true, true, true, true, true, true, true, true, true, true, true, true, true, true, false, false, false, false, false, false, false, false, false] from rfl) (yv_idxO Try.underlying25 tf3 rfl rfl (idx_get e975).1 (idx_lt e975)) ?_
              refine sxb_again (d := 73) (v := .slice a9 x8.1.length c10) rfl (by rw [h977] <;> rfl) ?_
              refine sxb_take 26 (.int .i64 x975) [] rfl rfl rfl rfl (by kernel_rfl) (by kernel_rfl) (by kernel_rfl) (by kernel_rfl) (by kernel_rfl) (by kernel_rfl) rfl (show _ = #[true, true, true, true, true, true, true, true, true, true, true, true, true, true, true, true, true, true, true, true, true, true, true, true, true, true, true, false, false, false, false, false, false, false, false] from rfl) (yv_loadF (j := 5) rfl tf3 rfl rfl (fun _ => rfl) rfl) ?_
              refine sxb_takeP 27 (.slice a12 x11.1.length c13) rfl rfl rfl rfl (by kernel_rfl) (by kernel_rfl) (by kernel_rfl) (by kernel_rfl) (by kernel_rfl) rfl (show _ = #[true, true, true, true, true, true, true, true, true, true, true, true, true, true, true, true, true, true, true, true, true, true, true, true, true, true, true, true, false, false, false, false, false, false, false] from rfl) (yv_pv rfl) ?_
              refine sxb_takeP 28 (.int .i64 x6) rfl rfl rfl rfl (by kernel_rfl) (by kernel_rfl) (by kernel_rfl) (by kernel_rfl) (by kernel_rfl) rfl (show _ = #[true, true, true, true, true, true, true, true, true, true, true, true, true, true, true, true, true, true, true, true, true, true, true, true, true, true, true, true, true, false, false, false, false, false, false] from rfl) (yv_pv rfl) ?_
              refine sxb_again (d := 77) (v := .slice (some ⟨g980, 0, none⟩) x11.1.length c13) rfl (by rw [h981] <;> rfl) ?_
              refine sxb_takeP 29 (.pointer (some ⟨g980, x6.toNat * 1, none⟩)) rfl rfl rfl rfl (by kernel_rfl) (by kernel_rfl) (by kernel_rfl) (by kernel_rfl) (by kernel_rfl) rfl (show _ = #[true, true, true, true, true, true, true, true, true, true, true, true, true, true, true, true, true, true, true, true, true, true, true, true, true, true, true, true, true, true, false, false, false, false, false] from rfl) (yv_idxO Try.underlying25 tf3 rfl rfl (idx_get e979).1 (idx_lt e979)) ?_
              refine sxb_again (d := 77) (v := .slice a12 x11.1.length c13) rfl (by rw [h981] <;> rfl) ?_
              refine sxb_take 30 (.int .i64 x979) [] rfl rfl rfl rfl (by kernel_rfl) (by kernel_rfl) (by kernel_rfl) (by kernel_rfl) (by kernel_rfl) (by kernel_rfl) rfl (show _ = #[true, true, true, true, true, true, true, true, true, true, true, true, true, true, true, true, true, true, true, true, true, true, true, true, true, true, true, true, true, true, true, false, false, false, false] from rfl) (yv_loadF (j := 6) rfl tf3 rfl rfl (fun _ => rfl) rfl) ?_
              refine sxb_takeP 31 (.int .i64 (iadd .i64 x975 x979)) rfl rfl rfl rfl (by kernel_rfl) (by kernel_rfl) (by kernel_rfl) (by kernel_rfl) (by kernel_rfl) rfl (show _ = #[true, true, true, true, true, true, true, true, true, true, true, true, true, true, true, true, true, true, true, true, true, true, true, true, true, true, true, true, true, true, true, true, false, false, false] from rfl) (yv_pv rfl) ?_
              refine sxb_takeP 32 (.bool (decide ((iadd .i64 x975 x979) < x971))) rfl rfl rfl rfl (by kernel_rfl) (by kernel_rfl) (by kernel_rfl) (by kernel_rfl) (by kernel_rfl) rfl (show _ = #[true, true, true, true, true, true, true, true, true, true, true, true, true, true, true, true, true, true, true, true, true, true, true, true, true, true, true, true, true, true, true, true, true, false, false] from rfl) (yv_pv rfl) ?_
              refine sxb_takeP 33 (.bool (decide ((iadd .i64 x975 x979) < x971))) rfl rfl rfl rfl (by kernel_rfl) (by kernel_rfl) (by kernel_rfl) (by kernel_rfl) (by kernel_rfl) rfl (show _ = #[true, true, true, true, true, true, true, true, true, true, true, true, true, true, true, true, true, true, true, true, true, true, true, true, true, true, true, true, true, true, true, true, true, true, false] from rfl) (yv_pv rfl) ?_
              refine sxb_takeP 34 (.bool (decide ((iadd .i64 x975 x979) < x971))) rfl rfl rfl rfl (by kernel_rfl) (by kernel_rfl) (by kernel_rfl) (by kernel_rfl) (by kernel_rfl) rfl (show _ = #[true, true, true, true, true, true, true, true, true, true, true, true, true, true, true, true, true, true, true, true, true, true, true, true, true, true, true, true, true, true, true, true, true, true, true] from rfl) (yv_pv rfl) ?_
              refine sxb_done (by kernel_rfl) ?_
              refine sxq_np ?_ (by intro c h; cases h)
              exact sxq_meetP ((decide ((iadd .i64 x975 x979) < x971)), ()) (lk_cons rfl (lk_cons rfl (lk_cons rfl (lk_cons rfl (lk_cons rfl (lk_cons rfl lk_nil)))))) (.cons 0 rfl .nil) (.cons 1 rfl .nil) (fk_cons 0 rfl fk_nil)
          · refine sxb_draw mixed [] [⟨g7, 24, [.slice a2 x1.length c3.1]⟩] [SlN eN25 iN25 1 (.slice a2 x1.length c3.1) x1 c3.2, CellsAt g957 (x5.toNat * 1) ((eI .i64) x956), CellsAt g962 (x6.toNat * 1) ((eI .i64) x961)] (.cons 0 rfl .nil) (gk_F 0 rfl (gk_R 1 rfl (at_row (eI_ok .i64) e956 h958) (gk_R 0 rfl (at_row (eI_ok .i64) e961 h963) gk_nil))) 35 rfl ?_
            refine sxb_takeP 0 (.slice a9 x8.1.length c10) rfl rfl rfl rfl (by kernel_rfl) (by kernel_rfl) (by kernel_rfl) (by kernel_rfl) (by kernel_rfl) rfl (show _ = #[true, false, false, false, false, false, false, false, false, false, false, false, false, false, false, false, false, false, false, false, false, false, false, false, false, false, false, false, false, false, false, false, false, false, false] from rfl) (yv_pv rfl) ?_
            refine sxb_takeP 1 (.int .i64 x5) rfl rfl rfl rfl (by kernel_rfl) (by kernel_rfl) (by kernel_rfl) (by kernel_rfl) (by kernel_rfl) rfl (show _ = #[true, true, false, false, false, false, false, false, false, false, false, false, false, false, false, false, false, false, false, false, false, false, false, false, false, false, false, false, false, false, false, false, false, false, false] from rfl) (yv_pv rfl) ?_
            refine sxb_again (d := 50) (v := .slice (some ⟨g957, 0, none⟩) x8.1.length c10) rfl (by rw [h958] <;> rfl) ?_
            refine sxb_takeP 2 (.pointer (some ⟨g957, x5.toNat * 1, none⟩)) rfl rfl rfl rfl (by kernel_rfl) (by kernel_rfl) (by kernel_rfl) (by kernel_rfl) (by kernel_rfl) rfl (show _ = #[true, true, true, false, false, false, false, false, false, false, false, false, false, false, false, false, false, false, false, false, false, false, false, false, false, false, false, false, false, false, false, false, false, false, false] from rfl) (yv_idxO Try.underlying25 tf3 rfl rfl (idx_get e956).1 (idx_lt e956)) ?_
            refine sxb_again (d := 50) (v := .slice a9 x8.1.length c10) rfl (by rw [h958] <;> rfl) ?_
            refine sxb_take 3 (.int .i64 x956) [] rfl rfl rfl rfl (by kernel_rfl) (by kernel_rfl) (by kernel_rfl) (by kernel_rfl) (by kernel_rfl) (by kernel_rfl) rfl (show _ = #[true, true, true, true, false, false, false, false, false, false, false, false, false, false, false, false, false, false, false, false, false, false, false, false, false, false, false, false, false, false, false, false, false, false, false] from rfl) (yv_loadF (j := 1) rfl tf3 rfl rfl (fun _ => rfl) rfl) ?_
            refine sxb_takeP 4 (.bool (decide (0 ≤ x956))) rfl rfl rfl rfl (by kernel_rfl) (by kernel_rfl) (by kernel_rfl) (by kernel_rfl) (by kernel_rfl) rfl (show _ = #[true, true, true, true, true, false, false, false, false, false, false, false, false, false, false, false, false, false, false, false, false, false, false, false, false, false, false, false, false, false, false, false, false, false, false] from rfl) (yv_pv rfl) ?_
            refine sxb_takeP 5 (.bool (decide (0 ≤ x956))) rfl rfl rfl rfl (by kernel_rfl) (by kernel_rfl) (by kernel_rfl) (by kernel_rfl) (by kernel_rfl) rfl (show _ = #[true, true, true, true, true, true, false, false, false, false, false, false, false, false, false, false, false, false, false, false, false, false, false, false, false, false, false, false, false, false, false, false, false, false, false] from rfl) (yv_pv rfl) ?_
            refine sxb_again (d := 55) (v := .bool true) rfl (by rw [h960] <;> rfl) ?_
            refine sxb_takeP 6 (.slice a12 x11.1.length c13) rfl rfl rfl rfl (by kernel_rfl) (by kernel_rfl) (by kernel_rfl) (by kernel_rfl) (by kernel_rfl) rfl (show _ = #[true, true, true, true, true, true, true, false, false, false, false, false, false, false, false, false, false, false, false, false, false, false, false, false, false, false, false, false, false, false, false, false, false, false, false] from rfl) (yv_pv rfl) ?_
            refine sxb_takeP 7 (.int .i64 x6) rfl rfl rfl rfl (by kernel_rfl) (by kernel_rfl) (by kernel_rfl) (by kernel_rfl) (by kernel_rfl) rfl (show _ = #[true, true, true, true, true, true, true, true, false, false, false, false, false, false, false, false, false, false, false, false, false, false, false, false, false, false, false, false, false, false, false, false, false, false, false] from rfl) (yv_pv rfl) ?_
            refine sxb_again (d := 56) (v := .slice (some ⟨g962, 0, none⟩) x11.1.length c13) rfl (by rw [h963] <;> rfl) ?_
            refine sxb_takeP 8 (.pointer (some ⟨g962, x6.toNat * 1, none⟩)) rfl rfl rfl rfl (by kernel_rfl) (by kernel_rfl) (by kernel_rfl) (by kernel_rfl) (by kernel_rfl) rfl (show _ = #[true, true, true, true, true, true, true, true, true, false, false, false, false, false, false, false, false, false, false, false, false, false, false, false, false, false, false, false, false, false, false, false, false, false, false] from rfl) (yv_idxO Try.underlying25 tf3 rfl rfl (idx_get e961).1 (idx_lt e961)) ?_
            refine sxb_again (d := 56) (v := .slice a12 x11.1.length c13) rfl (by rw [h963] <;> rfl) ?_
            refine sxb_take 9 (.int .i64 x961) [] rfl rfl rfl rfl (by kernel_rfl) (by kernel_rfl) (by kernel_rfl) (by kernel_rfl) (by kernel_rfl) (by kernel_rfl) rfl (show _ = #[true, true, true, true, true, true, true, true, true, true, false, false, false, false, false, false, false, false, false, false, false, false, false, false, false, false, false, false, false, false, false, false, false, false, false] from rfl) (yv_loadF (j := 2) rfl tf3 rfl rfl (fun _ => rfl) rfl) ?_
            refine sxb_takeP 10 (.bool (decide (0 ≤ x961))) rfl rfl rfl rfl (by kernel_rfl) (by kernel_rfl) (by kernel_rfl) (by kernel_rfl) (by kernel_rfl) rfl (show _ = #[true, true, true, true, true, true, true, true, true, true, true, false, false, false, false, false, false, false, false, false, false, false, false, false, false, false, false, false, false, false, false, false, false, false, false] from rfl) (yv_pv rfl) ?_
            refine sxb_takeP 11 (.bool (decide (0 ≤ x961))) rfl rfl rfl rfl (by kernel_rfl) (by kernel_rfl) (by kernel_rfl) (by kernel_rfl) (by kernel_rfl) rfl (show _ = #[true, true, true, true, true, true, true, true, true, true, true, true, false, false, false, false, false, false, false, false, false, false, false, false, false, false, false, false, false, false, false, false, false, false, false] from rfl) (yv_pv rfl) ?_
            refine sxb_takeP 12 (.bool (decide (0 ≤ x961))) rfl rfl rfl rfl (by kernel_rfl) (by kernel_rfl) (by kernel_rfl) (by kernel_rfl) (by kernel_rfl) rfl (show _ = #[true, true, true, true, true, true, true, true, true, true, true, true, true, false, false, false, false, false, false, false, false, false, false, false, false, false, false, false, false, false, false, false, false, false, false] from rfl) (yv_pv rfl) ?_
            refine sxb_again (d := 62) (v := .bool false) rfl (by rw [h965] <;> rfl) ?_
            refine sxb_skip 13 rfl rfl rfl rfl (by kernel_rfl) (by kernel_rfl) (by kernel_rfl) (by kernel_rfl) (by kernel_rfl) rfl (show _ = #[true, true, true, true, true, true, true, true, true, true, true, true, true, true, false, false, false, false, false, false, false, false, false, false, false, false, false, false, false, false, false, false, false, false, false] from rfl) ?_
            refine sxb_skip 14 rfl rfl rfl rfl (by kernel_rfl) (by kernel_rfl) (by kernel_rfl) (by kernel_rfl) (by kernel_rfl) rfl (show _ = #[true, true, true, true, true, true, true, true, true, true, true, true, true, true, true, false, false, false, false, false, false, false, false, false, false, false, false, false, false, false, false, false, false, false, false] from rfl) ?_
            refine sxb_skip 15 rfl rfl rfl rfl (by kernel_rfl) (by kernel_rfl) (by kernel_rfl) (by kernel_rfl) (by kernel_rfl) rfl (show _ = #[true, true, true, true, true, true, true, true, true, true, true, true, true, true, true, true, false, false, false, false, false, false, false, false, false, false, false, false, false, false, false, false, false, false, false] from rfl) ?_
            refine sxb_skip 16 rfl rfl rfl rfl (by kernel_rfl) (by kernel_rfl) (by kernel_rfl) (by kernel_rfl) (by kernel_rfl) rfl (show _ = #[true, true, true, true, true, true, true, true, true, true, true, true, true, true, true, true, true, false, false, false, false, false, false, false, false, false, false, false, false, false, false, false, false, false, false] from rfl) ?_
            refine sxb_skip 17 rfl rfl rfl rfl (by kernel_rfl) (by kernel_rfl) (by kernel_rfl) (by kernel_rfl) (by kernel_rfl) rfl (show _ = #[true, true, true, true, true, true, true, true, true, true, true, true, true, true, true, true, true, true, false, false, false, false, false, false, false, false, false, false, false, false, false, false, false, false, false] from rfl) ?_
            refine sxb_skip 18 rfl rfl rfl rfl (by kernel_rfl) (by kernel_rfl) (by kernel_rfl) (by kernel_rfl) (by kernel_rfl) rfl (show _ = #[true, true, true, true, true, true, true, true, true, true, true, true, true, true, true, true, true, true, true, false, false, false, false, false, false, false, false, false, false, false, false, false, false, false, false] from rfl) ?_
            refine sxb_skip 19 rfl rfl rfl rfl (by kernel_rfl) (by kernel_rfl) (by kernel_rfl) (by kernel_rfl) (by kernel_rfl) rfl (show _ = #[true, true, true, true, true, true, true, true, true, true, true, true, true, true, true, true, true, true, true, true, false, false, false, false, false, false, false, false, false, false, false, false, false, false, false] from rfl) ?_
            refine sxb_skip 20 rfl rfl rfl rfl (by kernel_rfl) (by kernel_rfl) (by kernel_rfl) (by kernel_rfl) (by kernel_rfl) rfl (show _ = #[true, true, true, true, true, true, true, true, true, true, true, true, true, true, true, true, true, true, true, true, true, false, false, false, false, false, false, false, false, false, false, false, false, false, false] from rfl) ?_
            refine sxb_skip 21 rfl rfl rfl rfl (by kernel_rfl) (by kernel_rfl) (by kernel_rfl) (by kernel_rfl) (by kernel_rfl) rfl (show _ = #[true, true, true, true, true, true, true, true, true, true, true, true, true, true, true, true, true, true, true, true, true, true, false, false, false, false, false, false, false, false, false, false, false, false, false] from rfl) ?_
            refine sxb_skip 22 rfl rfl rfl rfl (by kernel_rfl) (by kernel_rfl) (by kernel_rfl) (by kernel_rfl) (by kernel_rfl) rfl (show _ = #[true, true, true, true, true, true, true, true, true, true, true, true, true, true, true, true, true, true, true, true, true, true, true, false, false, false, false, false, false, false, false, false, false, false, false] from rfl) ?_
            refine sxb_skip 23 rfl rfl rfl rfl (by kernel_rfl) (by kernel_rfl) (by kernel_rfl) (by kernel_rfl) (by kernel_rfl) rfl (show _ = #[true, true, true, true, true, true, true, true, true, true, true, true, true, true, true, true, true, true, true, true, true, true, true, true, false, false, false, false, false, false, false, false, false, false, false] from rfl) ?_
            refine sxb_skip 24 rfl rfl rfl rfl (by kernel_rfl) (by kernel_rfl) (by kernel_rfl) (by kernel_rfl) (by kernel_rfl) rfl (show _ = #[true, true, true, true, true, true, true, true, true, true, true, true, true, true, true, true, true, true, true, true, true, true, true, true, true, false, false, false, false, false, false, false, false, false, false] from rfl) ?_
            refine sxb_skip 25 rfl rfl rfl rfl (by kernel_rfl) (by kernel_rfl) (by kernel_rfl) (by kernel_rfl) (by kernel_rfl) rfl (show _ = #[true, true, true, true, true, true, true, true, true, true, true, true, true, true, true, true, true, true, true, true, true, true, true, true, true, true, false, false, false, false, false, false, false, false, false] from rfl) ?_
            refine sxb_skip 26 rfl rfl rfl rfl (by kernel_rfl) (by kernel_rfl) (by kernel_rfl) (by kernel_rfl) (by kernel_rfl) rfl (show _ = #[true, true, true, true, true, true, true, true, true, true, true, true, true, true, true, true, true, true, true, true, true, true, true, true, true, true, true, false, false, false, false, false, false, false, false] from rfl) ?_
            refine sxb_skip 27 rfl rfl rfl rfl (by kernel_rfl) (by kernel_rfl) (by kernel_rfl) (by kernel_rfl) (by kernel_rfl) rfl (show _ = #[true, true, true, true, true, true, true, true, true, true, true, true, true, true, true, true, true, true, true, true, true, true, true, true, true, true, true, true, false, false, false, false, false, false, false] from rfl) ?_
            refine sxb_skip 28 rfl rfl rfl rfl (by kernel_rfl) (by kernel_rfl) (by kernel_rfl) (by kernel_rfl) (by kernel_rfl) rfl (show _ = #[true, true, true, true, true, true, true, true, true, true, true, true, true, true, true, true, true, true, true, true, true, true, true, true, true, true, true, true, true, false, false, false, false, false, false] from rfl) ?_
            refine sxb_skip 29 rfl rfl rfl rfl (by kernel_rfl) (by kernel_rfl) (by kernel_rfl) (by kernel_rfl) (by kernel_rfl) rfl (show _ = #[true, true, true, true, true, true, true, true, true, true, true, true, true, true, true, true, true, true, true, true, true, true, true, true, true, true, true, true, true, true, false, false, false, false, false] from rfl) ?_
            refine sxb_skip 30 rfl rfl rfl rfl (by kernel_rfl) (by kernel_rfl) (by kernel_rfl) (by kernel_rfl) (by kernel_rfl) rfl (show _ = #[true, true, true, true, true, true, true, true, true, true, true, true, true, true, true, true, true, true, true, true, true, true, true, true, true, true, true, true, true, true, true, false, false, false, false] from rfl) ?_
            refine sxb_skip 31 rfl rfl rfl rfl (by kernel_rfl) (by kernel_rfl) (by kernel_rfl) (by kernel_rfl) (by kernel_rfl) rfl (show _ = #[true, true, true, true, true, true, true, true, true, true, true, true, true, true, true, true, true, true, true, true, true, true, true, true, true, true, true, true, true, true, true, true, false, false, false] from rfl) ?_
            refine sxb_skip 32 rfl rfl rfl rfl (by kernel_rfl) (by kernel_rfl) (by kernel_rfl) (by kernel_rfl) (by kernel_rfl) rfl (show _ = #[true, true, true, true, true, true, true, true, true, true, true, true, true, true, true, true, true, true, true, true, true, true, true, true, true, true, true, true, true, true, true, true, true, false, false] from rfl) ?_
            refine sxb_skip 33 rfl rfl rfl rfl (by kernel_rfl) (by kernel_rfl) (by kernel_rfl) (by kernel_rfl) (by kernel_rfl) rfl (show _ = #[true, true, true, true, true, true, true, true, true, true, true, true, true, true, true, true, true, true, true, true, true, true, true, true, true, true, true, true, true, true, true, true, true, true, false] from rfl) ?_
            refine sxb_takeP 34 (.bool false) rfl rfl rfl rfl (by kernel_rfl) (by kernel_rfl) (by kernel_rfl) (by kernel_rfl) (by kernel_rfl) rfl (show _ = #[true, true, true, true, true, true, true, true, true, true, true, true, true, true, true, true, true, true, true, true, true, true, true, true, true, true, true, true, true, true, true, true, true, true, true] from rfl) (yv_pv rfl) ?_
            refine sxb_done (by kernel_rfl) ?_
            refine sxq_np ?_ (by intro c h; cases h)
            exact sxq_meetP (false, ()) (lk_cons rfl (lk_cons rfl (lk_cons rfl (lk_cons rfl (lk_cons rfl (lk_cons rfl lk_nil)))))) (.cons 0 rfl .nil) (.cons 1 rfl .nil) (fk_cons 0 rfl fk_nil)
        · refine sxb_draw mixed [] [⟨g7, 24, [.slice a2 x1.length c3.1]⟩] [SlN eN25 iN25 1 (.slice a2 x1.length c3.1) x1 c3.2, CellsAt g957 (x5.toNat * 1) ((eI .i64) x956)] (.cons 0 rfl .nil) (gk_F 0 rfl (gk_R 1 rfl (at_row (eI_ok .i64) e956 h958) gk_nil)) 35 rfl ?_
          refine sxb_takeP 0 (.slice a9 x8.1.length c10) rfl rfl rfl rfl (by kernel_rfl) (by kernel_rfl) (by kernel_rfl) (by kernel_rfl) (by kernel_rfl) rfl (show _ = #[true, false, false, false, false, false, false, false, false, false, false, false, false, false, false, false, false, false, false, false, false, false, false, false, false, false, false, false, false, false, false, false, false, false, false] from rfl) (yv_pv rfl) ?_
          refine sxb_takeP 1 (.int .i64 x5) rfl rfl rfl rfl (by kernel_rfl) (by kernel_rfl) (by kernel_rfl) (by kernel_rfl) (by kernel_rfl) rfl (show _ = #[true, true, false, false, false, false, false, false, false, false, false, false, false, false, false, false, false, false, false, false, false, false, false, false, false, false, false, false, false, false, false, false, false, false, false] from rfl) (yv_pv rfl) ?_
          refine sxb_again (d := 50) (v := .slice (some ⟨g957, 0, none⟩) x8.1.length c10) rfl (by rw [h958] <;> rfl) ?_
          refine sxb_takeP 2 (.pointer (some ⟨g957, x5.toNat * 1, none⟩)) rfl rfl rfl rfl (by kernel_rfl) (by kernel_rfl) (by kernel_rfl) (by kernel_rfl) (by kernel_rfl) rfl (show _ = #[true, true, true, false, false, false, false, false, false, false, false, false, false, false, false, false, false, false, false, false, false, false, false, false, false, false, false, false, false, false, false, false, false, false, false] from rfl) (yv_idxO Try.underlying25 tf3 rfl rfl (idx_get e956).1 (idx_lt e956)) ?_
          refine sxb_again (d := 50) (v := .slice a9 x8.1.length c10) rfl (by rw [h958] <;> rfl) ?_
          refine sxb_take 3 (.int .i64 x956) [] rfl rfl rfl rfl (by kernel_rfl) (by kernel_rfl) (by kernel_rfl) (by kernel_rfl) (by kernel_rfl) (by kernel_rfl) rfl (show _ = #[true, true, true, true, false, false, false, false, false, false, false, false, false, false, false, false, false, false, false, false, false, false, false, false, false, false, false, false, false, false, false, false, false, false, false] from rfl) (yv_loadF (j := 1) rfl tf3 rfl rfl (fun _ => rfl) rfl) ?_
          refine sxb_takeP 4 (.bool (decide (0 ≤ x956))) rfl rfl rfl rfl (by kernel_rfl) (by kernel_rfl) (by kernel_rfl) (by kernel_rfl) (by kernel_rfl) rfl (show _ = #[true, true, true, true, true, false, false, false, false, false, false, false, false, false, false, false, false, false, false, false, false, false, false, false, false, false, false, false, false, false, false, false, false, false, false] from rfl) (yv_pv rfl) ?_
          refine sxb_takeP 5 (.bool (decide (0 ≤ x956))) rfl rfl rfl rfl (by kernel_rfl) (by kernel_rfl) (by kernel_rfl) (by kernel_rfl) (by kernel_rfl) rfl (show _ = #[true, true, true, true, true, true, false, false, false, false, false, false, false, false, false, false, false, false, false, false, false, false, false, false, false, false, false, false, false, false, false, false, false, false, false] from rfl) (yv_pv rfl) ?_
          refine sxb_again (d := 55) (v := .bool false) rfl (by rw [h960] <;> rfl) ?_
          refine sxb_skip 6 rfl rfl rfl rfl (by kernel_rfl) (by kernel_rfl) (by kernel_rfl) (by kernel_rfl) (by kernel_rfl) rfl (show _ = #[true, true, true, true, true, true, true, false, false, false, false, false, false, false, false, false, false, false, false, false, false, false, false, false, false, false, false, false, false, false, false, false, false, false, false] from rfl) ?_
          refine sxb_skip 7 rfl rfl rfl rfl (by kernel_rfl) (by kernel_rfl) (by kernel_rfl) (by kernel_rfl) (by kernel_rfl) rfl (show _ = #[true, true, true, true, true, true, true, true, false, false, false, false, false, false, false, false, false, false, false, false, false, false, false, false, false, false, false, false, false, false, false, false, false, false, false] from rfl) ?_
          refine sxb_skip 8 rfl rfl rfl rfl (by kernel_rfl) (by kernel_rfl) (by kernel_rfl) (by kernel_rfl) (by kernel_rfl) rfl (show _ = #[true, true, true, true, true, true, true, true, true, false, false, false, false, false, false, false, false, false, false, false, false, false, false, false, false, false, false, false, false, false, false, false, false, false, false] from rfl) ?_
          refine sxb_skip 9 rfl rfl rfl rfl (by kernel_rfl) (by kernel_rfl) (by kernel_rfl) (by kernel_rfl) (by kernel_rfl) rfl (show _ = #[true, true, true, true, true, true, true, true, true, true, false, false, false, false, false, false, false, false, false, false, false, false, false, false, false, false, false, false, false, false, false, false, false, false, false] from rfl) ?_
          refine sxb_skip 10 rfl rfl rfl rfl (by kernel_rfl) (by kernel_rfl) (by kernel_rfl) (by kernel_rfl) (by kernel_rfl) rfl (show _ = #[true, true, true, true, true, true, true, true, true, true, true, false, false, false, false, false, false, false, false, false, false, false, false, false, false, false, false, false, false, false, false, false, false, false, false] from rfl) ?_
          refine sxb_takeP 11 (.bool false) rfl rfl rfl rfl (by kernel_rfl) (by kernel_rfl) (by kernel_rfl) (by kernel_rfl) (by kernel_rfl) rfl (show _ = #[true, true, true, true, true, true, true, true, true, true, true, true, false, false, false, false, false, false, false, false, false, false, false, false, false, false, false, false, false, false, false, false, false, false, false] from rfl) (yv_pv rfl) ?_
          refine sxb_takeP 12 (.bool false) rfl rfl rfl rfl (by kernel_rfl) (by kernel_rfl) (by kernel_rfl) (by kernel_rfl) (by kernel_rfl) rfl (show _ = #[true, true, true, true, true, true, true, true, true, true, true, true, true, false, false, false, false, false, false, false, false, false, false, false, false, false, false, false, false, false, false, false, false, false, false] from rfl) (yv_pv rfl) ?_
          refine sxb_skip 13 rfl rfl rfl rfl (by kernel_rfl) (by kernel_rfl) (by kernel_rfl) (by kernel_rfl) (by kernel_rfl) rfl (show _ = #[true, true, true, true, true, true, true, true, true, true, true, true, true, true, false, false, false, false, false, false, false, false, false, false, false, false, false, false, false, false, false, false, false, false, false] from rfl) ?_
          refine sxb_skip 14 rfl rfl rfl rfl (by kernel_rfl) (by kernel_rfl) (by kernel_rfl) (by kernel_rfl) (by kernel_rfl) rfl (show _ = #[true, true, true, true, true, true, true, true, true, true, true, true, true, true, true, false, false, false, false, false, false, false, false, false, false, false, false, false, false, false, false, false, false, false, false] from rfl) ?_
          refine sxb_skip 15 rfl rfl rfl rfl (by kernel_rfl) (by kernel_rfl) (by kernel_rfl) (by kernel_rfl) (by kernel_rfl) rfl (show _ = #[true, true, true, true, true, true, true, true, true, true, true, true, true, true, true, true, false, false, false, false, false, false, false, false, false, false, false, false, false, false, false, false, false, false, false] from rfl) ?_
          refine sxb_skip 16 rfl rfl rfl rfl (by kernel_rfl) (by kernel_rfl) (by kernel_rfl) (by kernel_rfl) (by kernel_rfl) rfl (show _ = #[true, true, true, true, true, true, true, true, true, true, true, true, true, true, true, true, true, false, false, false, false, false, false, false, false, false, false, false, false, false, false, false, false, false, false] from rfl) ?_
          refine sxb_skip 17 rfl rfl rfl rfl (by kernel_rfl) (by kernel_rfl) (by kernel_rfl) (by kernel_rfl) (by kernel_rfl) rfl (show _ = #[true, true, true, true, true, true, true, true, true, true, true, true, true, true, true, true, true, true, false, false, false, false, false, false, false, false, false, false, false, false, false, false, false, false, false] from rfl) ?_
          refine sxb_skip 18 rfl rfl rfl rfl (by kernel_rfl) (by kernel_rfl) (by kernel_rfl) (by kernel_rfl) (by kernel_rfl) rfl (show _ = #[true, true, true, true, true, true, true, true, true, true, true, true, true, true, true, true, true, true, true, false, false, false, false, false, false, false, false, false, false, false, false, false, false, false, false] from rfl) ?_
          refine sxb_skip 19 rfl rfl rfl rfl (by kernel_rfl) (by kernel_rfl) (by kernel_rfl) (by kernel_rfl) (by kernel_rfl) rfl (show _ = #[true, true, true, true, true, true, true, true, true, true, true, true, true, true, true, true, true, true, true, true, false, false, false, false, false, false, false, false, false, false, false, false, false, false, false] from rfl) ?_
          refine sxb_skip 20 rfl rfl rfl rfl (by kernel_rfl) (by kernel_rfl) (by kernel_rfl) (by kernel_rfl) (by kernel_rfl) rfl (show _ = #[true, true, true, true, true, true, true, true, true, true, true, true, true, true, true, true, true, true, true, true, true, false, false, false, false, false, false, false, false, false, false, false, false, false, false] from rfl) ?_
          refine sxb_skip 21 rfl rfl rfl rfl (by kernel_rfl) (by kernel_rfl) (by kernel_rfl) (by kernel_rfl) (by kernel_rfl) rfl (show _ = #[true, true, true, true, true, true, true, true, true, true, true, true, true, true, true, true, true, true, true, true, true, true, false, false, false, false, false, false, false, false, false, false, false, false, false] from rfl) ?_
          refine sxb_skip 22 rfl rfl rfl rfl (by kernel_rfl) (by kernel_rfl) (by kernel_rfl) (by kernel_rfl) (by kernel_rfl) rfl (show _ = #[true, true, true, true, true, true, true, true, true, true, true, true, true, true, true, true, true, true, true, true, true, true, true, false, false, false, false, false, false, false, false, false, false, false, false] from rfl) ?_
          refine sxb_skip 23 rfl rfl rfl rfl (by kernel_rfl) (by kernel_rfl) (by kernel_rfl) (by kernel_rfl) (by kernel_rfl) rfl (show _ = #[true, true, true, true, true, true, true, true, true, true, true, true, true, true, true, true, true, true, true, true, true, true, true, true, false, false, false, false, false, false, false, false, false, false, false] from rfl) ?_
          refine sxb_skip 24 rfl rfl rfl rfl (by kernel_rfl) (by kernel_rfl) (by kernel_rfl) (by kernel_rfl) (by kernel_rfl) rfl (show _ = #[true, true, true, true, true, true, true, true, true, true, true, true, true, true, true, true, true, true, true, true, true, true, true, true, true, false, false, false, false, false, false, false, false, false, false] from rfl) ?_
          refine sxb_skip 25 rfl rfl rfl rfl (by kernel_rfl) (by kernel_rfl) (by kernel_rfl) (by kernel_rfl) (by kernel_rfl) rfl (show _ = #[true, true, true, true, true, true, true, true, true, true, true, true, true, true, true, true, true, true, true, true, true, true, true, true, true, true, false, false, false, false, false, false, false, false, false] from rfl) ?_
          refine sxb_skip 26 rfl rfl rfl rfl (by kernel_rfl) (by kernel_rfl) (by kernel_rfl) (by kernel_rfl) (by kernel_rfl) rfl (show _ = #[true, true, true, true, true, true, true, true, true, true, true, true, true, true, true, true, true, true, true, true, true, true, true, true, true, true, true, false, false, false, false, false, false, false, false] from rfl) ?_
          refine sxb_skip 27 rfl rfl rfl rfl (by kernel_rfl) (by kernel_rfl) (by kernel_rfl) (by kernel_rfl) (by kernel_rfl) rfl (show _ = #[true, true, true, true, true, true, true, true, true, true, true, true, true, true, true, true, true, true, true, true, true, true, true, true, true, true, true, true, false, false, false, false, false, false, false] from rfl) ?_
          refine sxb_skip 28 rfl rfl rfl rfl (by kernel_rfl) (by kernel_rfl) (by kernel_rfl) (by kernel_rfl) (by kernel_rfl) rfl (show _ = #[true, true, true, true, true, true, true, true, true, true, true, true, true, true, true, true, true, true, true, true, true, true, true, true, true, true, true, true, true, false, false, false, false, false, false] from rfl) ?_
          refine sxb_skip 29 rfl rfl rfl rfl (by kernel_rfl) (by kernel_rfl) (by kernel_rfl) (by kernel_rfl) (by kernel_rfl) rfl (show _ = #[true, true, true, true, true, true, true, true, true, true, true, true, true, true, true, true, true, true, true, true, true, true, true, true, true, true, true, true, true, true, false, false, false, false, false] from rfl) ?_
          refine sxb_skip 30 rfl rfl rfl rfl (by kernel_rfl) (by kernel_rfl) (by kernel_rfl) (by kernel_rfl) (by kernel_rfl) rfl (show _ = #[true, true, true, true, true, true, true, true, true, true, true, true, true, true, true, true, true, true, true, true, true, true, true, true, true, true, true, true, true, true, true, false, false, false, false] from rfl) ?_
          refine sxb_skip 31 rfl rfl rfl rfl (by kernel_rfl) (by kernel_rfl) (by kernel_rfl) (by kernel_rfl) (by kernel_rfl) rfl (show _ = #[true, true, true, true, true, true, true, true, true, true, true, true, true, true, true, true, true, true, true, true, true, true, true, true, true, true, true, true, true, true, true, true, false, false, false] from rfl) ?_
          refine sxb_skip 32 rfl rfl rfl rfl (by kernel_rfl) (by kernel_rfl) (by kernel_rfl) (by kernel_rfl) (by kernel_rfl) rfl (show _ = #[true, true, true, true, true, true, true, true, true, true, true, true, true, true, true, true, true, true, true, true, true, true, true, true, true, true, true, true, true, true, true, true, true, false, false] from rfl) ?_
          refine sxb_skip 33 rfl rfl rfl rfl (by kernel_rfl) (by kernel_rfl) (by kernel_rfl) (by kernel_rfl) (by kernel_rfl) rfl (show _ = #[true, true, true, true, true, true, true, true, true, true, true, true, true, true, true, true, true, true, true, true, true, true, true, true, true, true, true, true, true, true, true, true, true, true, false] from rfl) ?_
          refine sxb_takeP 34 (.bool false) rfl rfl rfl rfl (by kernel_rfl) (by kernel_rfl) (by kernel_rfl) (by kernel_rfl) (by kernel_rfl) rfl (show _ = #[true, true, true, true, true, true, true, true, true, true, true, true, true, true, true, true, true, true, true, true, true, true, true, true, true, true, true, true, true, true, true, true, true, true, true] from rfl) (yv_pv rfl) ?_
          refine sxb_done (by kernel_rfl) ?_
          refine sxq_np ?_ (by intro c h; cases h)
          exact sxq_meetP (false, ()) (lk_cons rfl (lk_cons rfl (lk_cons rfl (lk_cons rfl (lk_cons rfl (lk_cons rfl lk_nil)))))) (.cons 0 rfl .nil) (.cons 1 rfl .nil) (fk_cons 0 rfl fk_nil)
      · rintro ⟨x107, _⟩
        try dsimp only
        refine sxc_if rfl (fun h955 => ?_) (fun h955 => ?_)
        · refine sxc_seq ?_
          refine sxc_region ?_
          refine sxo_assign rfl rfl rfl ?_
          refine sxo_nil ?_
          refine sxq_next ?_
          refine sxc_ret ?_
          refine sxq_thenR ?_
          exact sxq_doneP () (.inl rfl) (res1 rfl rfl) (fun h => by subst h; rfl) (fun h => by subst h; exact .nil)
        · refine sxc_skip ?_
          refine sxq_next ?_
          refine sxc_seq ?_
          refine sxc_region ?_
          refine sxo_loadB (i := 0) rfl rfl tf24 rfl rfl (by simp) rfl rfl ?_
          refine sxo_call ent22 rfl rfl rfl (fun x108 e108 => C_graph_Arcs F x1 a2 c3 x108 e108) (.consF 0 rfl .nil) (fun x108 e108 => ?_)
          rintro ⟨a109, c110⟩
          refine sxo_move rfl rfl rfl ?_
          refine sxo_extract rfl rfl rfl rfl ?_
          refine sxo_extract rfl rfl rfl rfl ?_
          refine sxo_assign rfl rfl rfl ?_
          refine sxo_assign rfl rfl rfl ?_
          refine sxo_nil ?_
          refine sxq_next ?_
          refine sxc_join (fun (((x287, x290), (g286, a288, c289)) : ((Int × List (List Int)) × (Nat × Option Addr × (Nat × List (Option Addr × Nat))))) => [(1, .int .i64 x4), (9, .slice a9 x8.1.length c10), (14, .int .i64 x108.2), (15, .pointer (some ⟨g286, 0, none⟩)), (16, .int .i64 x287)]) (fun (((x287, x290), (g286, a288, c289)) : ((Int × List (List Int)) × (Nat × Option Addr × (Nat × List (Option Addr × Nat))))) => [⟨g286, 24, [.slice a288 x290.length c289.1]⟩]) (fun (((x287, x290), (g286, a288, c289)) : ((Int × List (List Int)) × (Nat × Option Addr × (Nat × List (Option Addr × Nat))))) => [Ro (eI .i64) 3 1 (.slice a9 x8.1.length c10) x8.1, RoN eN25 rN25 25 1 (.slice a288 x290.length c289.1) x290 c289.2 []]) (fun (((x287, x290), (g286, a288, c289)) : ((Int × List (List Int)) × (Nat × Option Addr × (Nat × List (Option Addr × Nat))))) => []) (fun (((x287, x290), _) : ((Int × List (List Int)) × (Nat × Option Addr × (Nat × List (Option Addr × Nat))))) => M_L_WalkThree_j3 F x4 x8 x108 x287 x290) ?_ ?_
          · refine sxb_draw mixed [] [⟨g7, 24, [.slice a2 x1.length c3.1]⟩] [SlN eN25 iN25 1 (.slice a2 x1.length c3.1) x1 c3.2] (.cons 0 rfl .nil) (gk_F 0 rfl gk_nil) 18 rfl ?_
            refine sxb_takeP 0 (.pointer (some ⟨g7, 0, none⟩)) rfl rfl rfl rfl (by kernel_rfl) (by kernel_rfl) (by kernel_rfl) (by kernel_rfl) (by kernel_rfl) rfl (show _ = #[true, false, false, false, false, false, false, false, false, false, false, false, false, false, false, false, false, false] from rfl) (yv_fieldAddr rfl ff24_0) ?_
            refine sxb_takeB 1 (.slice a2 x1.length c3.1) rfl rfl rfl rfl (by kernel_rfl) (by kernel_rfl) (by kernel_rfl) (by kernel_rfl) (by kernel_rfl) rfl (show _ = #[true, true, false, false, false, false, false, false, false, false, false, false, false, false, false, false, false, false] from rfl) (yv_loadB (i := 0) rfl tf22 rfl rfl (fun _ => rfl) rfl) ?_
            refine sxb_takeP 2 (.int .i64 (x1.length : Int)) rfl rfl rfl rfl (by kernel_rfl) (by kernel_rfl) (by kernel_rfl) (by kernel_rfl) (by kernel_rfl) rfl (show _ = #[true, true, true, false, false, false, false, false, false, false, false, false, false, false, false, false, false, false] from rfl) (yv_len Try.underlying22 rfl) ?_
            refine sxb_takeP 4 (.slice a109 x108.1.length c110) rfl rfl rfl rfl (by kernel_rfl) (by kernel_rfl) (by kernel_rfl) (by kernel_rfl) (by kernel_rfl) rfl (show _ = #[true, true, true, false, true, false, false, false, false, false, false, false, false, false, false, false, false, false] from rfl) (yv_pv rfl) ?_
            refine sxb_takeP 6 (.int .i64 x5) rfl rfl rfl rfl (by kernel_rfl) (by kernel_rfl) (by kernel_rfl) (by kernel_rfl) (by kernel_rfl) rfl (show _ = #[true, true, true, false, true, false, true, false, false, false, false, false, false, false, false, false, false, false] from rfl) (yv_pv rfl) ?_
            refine sxb_takeP 7 (.int .i64 x6) rfl rfl rfl rfl (by kernel_rfl) (by kernel_rfl) (by kernel_rfl) (by kernel_rfl) (by kernel_rfl) rfl (show _ = #[true, true, true, false, true, false, true, true, false, false, false, false, false, false, false, false, false, false] from rfl) (yv_pv rfl) ?_
            refine sxb_takeP 8 (.agg #[.int .i64 x5, .int .i64 x6]) rfl rfl rfl rfl (by kernel_rfl) (by kernel_rfl) (by kernel_rfl) (by kernel_rfl) (by kernel_rfl) rfl (show _ = #[true, true, true, false, true, false, true, true, true, false, false, false, false, false, false, false, false, false] from rfl) (yv_build (cells := [.int .i64 x5, .int .i64 x6]) st51 rfl (by kernel_rfl)) ?_
            refine sxb_three 3 9 15 rfl rfl rfl (by kernel_rfl) (show _ = #[true, true, true, true, true, false, true, true, true, false, false, false, false, false, false, false, false, false] from rfl) (show _ = #[true, true, true, false, true, false, true, true, true, true, false, false, false, false, false, false, false, false] from rfl) (show _ = #[true, true, true, false, true, false, true, true, true, false, false, false, false, false, false, true, false, false] from rfl) ?_ ?_ ?_
            · refine sxo_slit (vs := []) (ys := ([] : List (Int × Int))) eS51_ok (by decide) rfl Try.underlying45 tf51 rfl rfl rfl rfl rfl (by decide) (fun a780 c781 => ?_)
              refine sxo_nil ?_
              refine sxq_anyB (.cons 0 rfl .nil) (gk_F 0 rfl gk_nil) ?_
              refine sxb_three 5 9 15 rfl rfl rfl (by kernel_rfl) (show _ = #[true, true, true, true, true, true, true, true, true, false, false, false, false, false, false, false, false, false] from rfl) (show _ = #[true, true, true, true, true, false, true, true, true, true, false, false, false, false, false, false, false, false] from rfl) (show _ = #[true, true, true, true, true, false, true, true, true, false, false, false, false, false, false, true, false, false] from rfl) ?_ ?_ ?_
              · refine sxo_app 0 eS51_ok rfl Try.underlying45 tf51 rfl rfl rfl rfl rfl (.inl ⟨1, _, rfl⟩) rfl rfl (fun x782 e782 a783 c784 => ?_)
                refine sxo_nil ?_
                refine sxq_anyB (.cons 0 rfl .nil) (gk_F 0 rfl gk_nil) ?_
                refine sxb_two 9 15 rfl rfl (by kernel_rfl) (show _ = #[true, true, true, true, true, true, true, true, true, true, false, false, false, false, false, false, false, false] from rfl) (show _ = #[true, true, true, true, true, true, true, true, true, false, false, false, false, false, false, true, false, false] from rfl) ?_ ?_
                · refine sxo_slit (vs := [.agg #[.int .i64 x5, .int .i64 x6]]) (ys := ([(x5, x6)] : List (Int × Int))) eS51_ok (by decide) rfl Try.underlying45 tf51 rfl rfl rfl rfl rfl (by decide) (fun a785 c786 => ?_)
                  refine sxo_nil ?_
                  refine sxq_anyB (.cons 0 rfl .nil) (gk_F 0 rfl gk_nil) ?_
                  refine sxb_two 10 15 rfl rfl (by kernel_rfl) (show _ = #[true, true, true, true, true, true, true, true, true, true, true, false, false, false, false, false, false, false] from rfl) (show _ = #[true, true, true, true, true, true, true, true, true, true, false, false, false, false, false, true, false, false] from rfl) ?_ ?_
                  · refine sxo_app 1 eS51_ok rfl Try.underlying45 tf51 rfl rfl rfl rfl rfl (.inl ⟨0, _, rfl⟩) rfl rfl (fun x787 e787 a788 c789 => ?_)
                    refine sxo_nil ?_
                    refine sxq_anyB (.cons 0 rfl .nil) (gk_F 0 rfl gk_nil) ?_
                    refine sxb_two 11 15 rfl rfl (by kernel_rfl) (show _ = #[true, true, true, true, true, true, true, true, true, true, true, true, false, false, false, false, false, false] from rfl) (show _ = #[true, true, true, true, true, true, true, true, true, true, true, false, false, false, false, true, false, false] from rfl) ?_ ?_
                    · refine sxo_call ent23 rfl rfl rfl (fun x790 e790 => C_graph_Of F (x1.length : Int) x787 a788 c789 x790 e790) (.consR 0 (Ro eS51 51 2 (.slice a788 x787.length c789) x787) rfl .nil) (fun x790 e790 => ?_)
                      rintro ⟨a791, c792⟩
                      refine sxo_nil ?_
                      refine sxq_anyB (.cons 0 rfl .nil) (gk_F 0 rfl gk_nil) ?_
                      refine sxb_takeP 12 (.tuple #[.agg #[.slice a791 x790.1.length c792.1], .int .i64 x790.2]) rfl rfl rfl rfl (by kernel_rfl) (by kernel_rfl) (by kernel_rfl) (by kernel_rfl) (by kernel_rfl) rfl (show _ = #[true, true, true, true, true, true, true, true, true, true, true, true, true, false, false, false, false, false] from rfl) (yv_pv rfl) ?_
                      refine sxb_takeP 13 (.agg #[.slice a791 x790.1.length c792.1]) rfl rfl rfl rfl (by kernel_rfl) (by kernel_rfl) (by kernel_rfl) (by kernel_rfl) (by kernel_rfl) rfl (show _ = #[true, true, true, true, true, true, true, true, true, true, true, true, true, true, false, false, false, false] from rfl) (yv_pv rfl) ?_
                      refine sxb_takeP 14 (.int .i64 x790.2) rfl rfl rfl rfl (by kernel_rfl) (by kernel_rfl) (by kernel_rfl) (by kernel_rfl) (by kernel_rfl) rfl (show _ = #[true, true, true, true, true, true, true, true, true, true, true, true, true, true, true, false, false, false] from rfl) (yv_pv rfl) ?_
                      refine sxb_step 15 rfl (by kernel_rfl) (show _ = #[true, true, true, true, true, true, true, true, true, true, true, true, true, true, true, true, false, false] from rfl) ?_
                      refine sxo_alloc rfl tf24 rfl (fun g793 => ?_)
                      refine sxo_nil ?_
                      refine sxq_anyB (.cons 1 rfl .nil) (gk_F 0 rfl gk_nil) ?_
                      refine sxb_step 16 rfl (by kernel_rfl) (show _ = #[true, true, true, true, true, true, true, true, true, true, true, true, true, true, true, true, true, false] from rfl) ?_
                      refine sxo_storeB (i := 0) rfl rfl rfl tf24 rfl rfl rfl rfl rfl ?_
                      refine sxo_nil ?_
                      refine sxq_anyB (.cons 1 rfl .nil) (gk_F 0 rfl gk_nil) ?_
                      refine sxb_takeP 17 (.int .i64 x790.2) rfl rfl rfl rfl (by kernel_rfl) (by kernel_rfl) (by kernel_rfl) (by kernel_rfl) (by kernel_rfl) rfl (show _ = #[true, true, true, true, true, true, true, true, true, true, true, true, true, true, true, true, true, true] from rfl) (yv_pv rfl) ?_
                      refine sxb_done (by kernel_rfl) ?_
                      refine sxq_np ?_ (by intro c h; cases h)
                      exact sxq_meetP ((x790.2, x790.1), (g793, a791, c792)) (lk_cons rfl (lk_cons rfl (lk_cons rfl (lk_cons rfl (lk_cons rfl lk_nil))))) (.cons 0 rfl .nil) (.cons 4 rfl (.cons 0 rfl .nil)) fk_nil
                    · refine sxo_meq (m' := ((M_graph_Of F (x1.length : Int) x787).bind fun x795 => M_L_WalkThree_j3 F x4 x8 x108 x795.2 x795.1)) (rfl) ?_
                      refine sxo_alloc rfl tf24 rfl (fun g794 => ?_)
                      refine sxo_nil ?_
                      refine sxq_anyB (.cons 1 rfl .nil) (gk_F 0 rfl gk_nil) ?_
                      refine sxb_step 11 rfl (by kernel_rfl) (show _ = #[true, true, true, true, true, true, true, true, true, true, true, true, false, false, false, true, false, false] from rfl) ?_
                      refine sxo_call ent23 rfl rfl rfl (fun x795 e795 => C_graph_Of F (x1.length : Int) x787 a788 c789 x795 e795) (.consR 0 (Ro eS51 51 2 (.slice a788 x787.length c789) x787) rfl .nil) (fun x795 e795 => ?_)
                      rintro ⟨a796, c797⟩
                      refine sxo_nil ?_
                      refine sxq_anyB (.cons 1 rfl .nil) (gk_F 0 rfl gk_nil) ?_
                      refine sxb_takeP 12 (.tuple #[.agg #[.slice a796 x795.1.length c797.1], .int .i64 x795.2]) rfl rfl rfl rfl (by kernel_rfl) (by kernel_rfl) (by kernel_rfl) (by kernel_rfl) (by kernel_rfl) rfl (show _ = #[true, true, true, true, true, true, true, true, true, true, true, true, true, false, false, true, false, false] from rfl) (yv_pv rfl) ?_
                      refine sxb_takeP 13 (.agg #[.slice a796 x795.1.length c797.1]) rfl rfl rfl rfl (by kernel_rfl) (by kernel_rfl) (by kernel_rfl) (by kernel_rfl) (by kernel_rfl) rfl (show _ = #[true, true, true, true, true, true, true, true, true, true, true, true, true, true, false, true, false, false] from rfl) (yv_pv rfl) ?_
                      refine sxb_takeP 14 (.int .i64 x795.2) rfl rfl rfl rfl (by kernel_rfl) (by kernel_rfl) (by kernel_rfl) (by kernel_rfl) (by kernel_rfl) rfl (show _ = #[true, true, true, true, true, true, true, true, true, true, true, true, true, true, true, true, false, false] from rfl) (yv_pv rfl) ?_
                      refine sxb_step 16 rfl (by kernel_rfl) (show _ = #[true, true, true, true, true, true, true, true, true, true, true, true, true, true, true, true, true, false] from rfl) ?_
                      refine sxo_storeB (i := 0) rfl rfl rfl tf24 rfl rfl rfl rfl rfl ?_
                      refine sxo_nil ?_
                      refine sxq_anyB (.cons 1 rfl .nil) (gk_F 0 rfl gk_nil) ?_
                      refine sxb_takeP 17 (.int .i64 x795.2) rfl rfl rfl rfl (by kernel_rfl) (by kernel_rfl) (by kernel_rfl) (by kernel_rfl) (by kernel_rfl) rfl (show _ = #[true, true, true, true, true, true, true, true, true, true, true, true, true, true, true, true, true, true] from rfl) (yv_pv rfl) ?_
                      refine sxb_done (by kernel_rfl) ?_
                      refine sxq_np ?_ (by intro c h; cases h)
                      exact sxq_meetP ((x795.2, x795.1), (g794, a796, c797)) (lk_cons rfl (lk_cons rfl (lk_cons rfl (lk_cons rfl (lk_cons rfl lk_nil))))) (.cons 0 rfl .nil) (.cons 4 rfl (.cons 0 rfl .nil)) fk_nil
                  · refine sxo_meq (m' := ((app 4398046511104 x782 ([(x5, x6)] : List (Int × Int))).bind fun x799 => ((M_graph_Of F (x1.length : Int) x799).bind fun x802 => M_L_WalkThree_j3 F x4 x8 x108 x802.2 x802.1))) (rfl) ?_
                    refine sxo_alloc rfl tf24 rfl (fun g798 => ?_)
                    refine sxo_nil ?_
                    refine sxq_anyB (.cons 1 rfl .nil) (gk_F 0 rfl gk_nil) ?_
                    refine sxb_step 10 rfl (by kernel_rfl) (show _ = #[true, true, true, true, true, true, true, true, true, true, true, false, false, false, false, true, false, false] from rfl) ?_
                    refine sxo_app 1 eS51_ok rfl Try.underlying45 tf51 rfl rfl rfl rfl rfl (.inl ⟨0, _, rfl⟩) rfl rfl (fun x799 e799 a800 c801 => ?_)
                    refine sxo_nil ?_
                    refine sxq_anyB (.cons 1 rfl .nil) (gk_F 0 rfl gk_nil) ?_
                    refine sxb_step 11 rfl (by kernel_rfl) (show _ = #[true, true, true, true, true, true, true, true, true, true, true, true, false, false, false, true, false, false] from rfl) ?_
                    refine sxo_call ent23 rfl rfl rfl (fun x802 e802 => C_graph_Of F (x1.length : Int) x799 a800 c801 x802 e802) (.consR 0 (Ro eS51 51 2 (.slice a800 x799.length c801) x799) rfl .nil) (fun x802 e802 => ?_)
                    rintro ⟨a803, c804⟩
                    refine sxo_nil ?_
                    refine sxq_anyB (.cons 1 rfl .nil) (gk_F 0 rfl gk_nil) ?_
                    refine sxb_takeP 12 (.tuple #[.agg #[.slice a803 x802.1.length c804.1], .int .i64 x802.2]) rfl rfl rfl rfl (by kernel_rfl) (by kernel_rfl) (by kernel_rfl) (by kernel_rfl) (by kernel_rfl) rfl (show _ = #[true, true, true, true, true, true, true, true, true, true, true, true, true, false, false, true, false, false] from rfl) (yv_pv rfl) ?_
                    refine sxb_takeP 13 (.agg #[.slice a803 x802.1.length c804.1]) rfl rfl rfl rfl (by kernel_rfl) (by kernel_rfl) (by kernel_rfl) (by kernel_rfl) (by kernel_rfl) rfl (show _ = #[true, true, true, true, true, true, true, true, true, true, true, true, true, true, false, true, false, false] from rfl) (yv_pv rfl) ?_
                    refine sxb_takeP 14 (.int .i64 x802.2) rfl rfl rfl rfl (by kernel_rfl) (by kernel_rfl) (by kernel_rfl) (by kernel_rfl) (by kernel_rfl) rfl (show _ = #[true, true, true, true, true, true, true, true, true, true, true, true, true, true, true, true, false, false] from rfl) (yv_pv rfl) ?_
                    refine sxb_step 16 rfl (by kernel_rfl) (show _ = #[true, true, true, true, true, true, true, true, true, true, true, true, true, true, true, true, true, false] from rfl) ?_
                    refine sxo_storeB (i := 0) rfl rfl rfl tf24 rfl rfl rfl rfl rfl ?_
                    refine sxo_nil ?_
                    refine sxq_anyB (.cons 1 rfl .nil) (gk_F 0 rfl gk_nil) ?_
                    refine sxb_takeP 17 (.int .i64 x802.2) rfl rfl rfl rfl (by kernel_rfl) (by kernel_rfl) (by kernel_rfl) (by kernel_rfl) (by kernel_rfl) rfl (show _ = #[true, true, true, true, true, true, true, true, true, true, true, true, true, true, true, true, true, true] from rfl) (yv_pv rfl) ?_
                    refine sxb_done (by kernel_rfl) ?_
                    refine sxq_np ?_ (by intro c h; cases h)
                    exact sxq_meetP ((x802.2, x802.1), (g798, a803, c804)) (lk_cons rfl (lk_cons rfl (lk_cons rfl (lk_cons rfl (lk_cons rfl lk_nil))))) (.cons 0 rfl .nil) (.cons 4 rfl (.cons 0 rfl .nil)) fk_nil
                · refine sxo_meq (m' := ((app 4398046511104 x782 ([(x5, x6)] : List (Int × Int))).bind fun x808 => ((M_graph_Of F (x1.length : Int) x808).bind fun x811 => M_L_WalkThree_j3 F x4 x8 x108 x811.2 x811.1))) (rfl) ?_
                  refine sxo_alloc rfl tf24 rfl (fun g805 => ?_)
                  refine sxo_nil ?_
                  refine sxq_anyB (.cons 1 rfl .nil) (gk_F 0 rfl gk_nil) ?_
                  refine sxb_step 9 rfl (by kernel_rfl) (show _ = #[true, true, true, true, true, true, true, true, true, true, false, false, false, false, false, true, false, false] from rfl) ?_
                  refine sxo_slit (vs := [.agg #[.int .i64 x5, .int .i64 x6]]) (ys := ([(x5, x6)] : List (Int × Int))) eS51_ok (by decide) rfl Try.underlying45 tf51 rfl rfl rfl rfl rfl (by decide) (fun a806 c807 => ?_)
                  refine sxo_nil ?_
                  refine sxq_anyB (.cons 1 rfl .nil) (gk_F 0 rfl gk_nil) ?_
                  refine sxb_step 10 rfl (by kernel_rfl) (show _ = #[true, true, true, true, true, true, true, true, true, true, true, false, false, false, false, true, false, false] from rfl) ?_
                  refine sxo_app 1 eS51_ok rfl Try.underlying45 tf51 rfl rfl rfl rfl rfl (.inl ⟨0, _, rfl⟩) rfl rfl (fun x808 e808 a809 c810 => ?_)
                  refine sxo_nil ?_
                  refine sxq_anyB (.cons 1 rfl .nil) (gk_F 0 rfl gk_nil) ?_
                  refine sxb_step 11 rfl (by kernel_rfl) (show _ = #[true, true, true, true, true, true, true, true, true, true, true, true, false, false, false, true, false, false] from rfl) ?_
                  refine sxo_call ent23 rfl rfl rfl (fun x811 e811 => C_graph_Of F (x1.length : Int) x808 a809 c810 x811 e811) (.consR 0 (Ro eS51 51 2 (.slice a809 x808.length c810) x808) rfl .nil) (fun x811 e811 => ?_)
                  rintro ⟨a812, c813⟩
                  refine sxo_nil ?_
                  refine sxq_anyB (.cons 1 rfl .nil) (gk_F 0 rfl gk_nil) ?_
                  refine sxb_takeP 12 (.tuple #[.agg #[.slice a812 x811.1.length c813.1], .int .i64 x811.2]) rfl rfl rfl rfl (by kernel_rfl) (by kernel_rfl) (by kernel_rfl) (by kernel_rfl) (by kernel_rfl) rfl (show _ = #[true, true, true, true, true, true, true, true, true, true, true, true, true, false, false, true, false, false] from rfl) (yv_pv rfl) ?_
                  refine sxb_takeP 13 (.agg #[.slice a812 x811.1.length c813.1]) rfl rfl rfl rfl (by kernel_rfl) (by kernel_rfl) (by kernel_rfl) (by kernel_rfl) (by kernel_rfl) rfl (show _ = #[true, true, true, true, true, true, true, true, true, true, true, true, true, true, false, true, false, false] from rfl) (yv_pv rfl) ?_
                  refine sxb_takeP 14 (.int .i64 x811.2) rfl rfl rfl rfl (by kernel_rfl) (by kernel_rfl) (by kernel_rfl) (by kernel_rfl) (by kernel_rfl) rfl (show _ = #[true, true, true, true, true, true, true, true, true, true, true, true, true, true, true, true, false, false] from rfl) (yv_pv rfl) ?_
                  refine sxb_step 16 rfl (by kernel_rfl) (show _ = #[true, true, true, true, true, true, true, true, true, true, true, true, true, true, true, true, true, false] from rfl) ?_
                  refine sxo_storeB (i := 0) rfl rfl rfl tf24 rfl rfl rfl rfl rfl ?_
                  refine sxo_nil ?_
                  refine sxq_anyB (.cons 1 rfl .nil) (gk_F 0 rfl gk_nil) ?_
                  refine sxb_takeP 17 (.int .i64 x811.2) rfl rfl rfl rfl (by kernel_rfl) (by kernel_rfl) (by kernel_rfl) (by kernel_rfl) (by kernel_rfl) rfl (show _ = #[true, true, true, true, true, true, true, true, true, true, true, true, true, true, true, true, true, true] from rfl) (yv_pv rfl) ?_
                  refine sxb_done (by kernel_rfl) ?_
                  refine sxq_np ?_ (by intro c h; cases h)
                  exact sxq_meetP ((x811.2, x811.1), (g805, a812, c813)) (lk_cons rfl (lk_cons rfl (lk_cons rfl (lk_cons rfl (lk_cons rfl lk_nil))))) (.cons 0 rfl .nil) (.cons 4 rfl (.cons 0 rfl .nil)) fk_nil
              · refine sxo_meq (m' := ((app 4398046511104 ([] : List (Int × Int)) x108.1).bind fun x816 => ((app 4398046511104 x816 ([(x5, x6)] : List (Int × Int))).bind fun x819 => ((M_graph_Of F (x1.length : Int) x819).bind fun x822 => M_L_WalkThree_j3 F x4 x8 x108 x822.2 x822.1)))) (rfl) ?_
                refine sxo_slit (vs := [.agg #[.int .i64 x5, .int .i64 x6]]) (ys := ([(x5, x6)] : List (Int × Int))) eS51_ok (by decide) rfl Try.underlying45 tf51 rfl rfl rfl rfl rfl (by decide) (fun a814 c815 => ?_)
                refine sxo_nil ?_
                refine sxq_anyB (.cons 0 rfl .nil) (gk_F 0 rfl gk_nil) ?_
                refine sxb_two 5 15 rfl rfl (by kernel_rfl) (show _ = #[true, true, true, true, true, true, true, true, true, true, false, false, false, false, false, false, false, false] from rfl) (show _ = #[true, true, true, true, true, false, true, true, true, true, false, false, false, false, false, true, false, false] from rfl) ?_ ?_
                · refine sxo_app 1 eS51_ok rfl Try.underlying45 tf51 rfl rfl rfl rfl rfl (.inl ⟨2, _, rfl⟩) rfl rfl (fun x816 e816 a817 c818 => ?_)
                  refine sxo_nil ?_
                  refine sxq_anyB (.cons 0 rfl .nil) (gk_F 0 rfl gk_nil) ?_
                  refine sxb_two 10 15 rfl rfl (by kernel_rfl) (show _ = #[true, true, true, true, true, true, true, true, true, true, true, false, false, false, false, false, false, false] from rfl) (show _ = #[true, true, true, true, true, true, true, true, true, true, false, false, false, false, false, true, false, false] from rfl) ?_ ?_
                  · refine sxo_app 0 eS51_ok rfl Try.underlying45 tf51 rfl rfl rfl rfl rfl (.inl ⟨1, _, rfl⟩) rfl rfl (fun x819 e819 a820 c821 => ?_)
                    refine sxo_nil ?_
                    refine sxq_anyB (.cons 0 rfl .nil) (gk_F 0 rfl gk_nil) ?_
                    refine sxb_two 11 15 rfl rfl (by kernel_rfl) (show _ = #[true, true, true, true, true, true, true, true, true, true, true, true, false, false, false, false, false, false] from rfl) (show _ = #[true, true, true, true, true, true, true, true, true, true, true, false, false, false, false, true, false, false] from rfl) ?_ ?_
                    · refine sxo_call ent23 rfl rfl rfl (fun x822 e822 => C_graph_Of F (x1.length : Int) x819 a820 c821 x822 e822) (.consR 0 (Ro eS51 51 2 (.slice a820 x819.length c821) x819) rfl .nil) (fun x822 e822 => ?_)
                      rintro ⟨a823, c824⟩
                      refine sxo_nil ?_
                      refine sxq_anyB (.cons 0 rfl .nil) (gk_F 0 rfl gk_nil) ?_
                      refine sxb_takeP 12 (.tuple #[.agg #[.slice a823 x822.1.length c824.1], .int .i64 x822.2]) rfl rfl rfl rfl (by kernel_rfl) (by kernel_rfl) (by kernel_rfl) (by kernel_rfl) (by kernel_rfl) rfl (show _ = #[true, true, true, true, true, true, true, true, true, true, true, true, true, false, false, false, false, false] from rfl) (yv_pv rfl) ?_
                      refine sxb_takeP 13 (.agg #[.slice a823 x822.1.length c824.1]) rfl rfl rfl rfl (by kernel_rfl) (by kernel_rfl) (by kernel_rfl) (by kernel_rfl) (by kernel_rfl) rfl (show _ = #[true, true, true, true, true, true, true, true, true, true, true, true, true, true, false, false, false, false] from rfl) (yv_pv rfl) ?_
                      refine sxb_takeP 14 (.int .i64 x822.2) rfl rfl rfl rfl (by kernel_rfl) (by kernel_rfl) (by kernel_rfl) (by kernel_rfl) (by kernel_rfl) rfl (show _ = #[true, true, true, true, true, true, true, true, true, true, true, true, true, true, true, false, false, false] from rfl) (yv_pv rfl) ?_
                      refine sxb_step 15 rfl (by kernel_rfl) (show _ = #[true, true, true, true, true, true, true, true, true, true, true, true, true, true, true, true, false, false] from rfl) ?_
                      refine sxo_alloc rfl tf24 rfl (fun g825 => ?_)
                      refine sxo_nil ?_
                      refine sxq_anyB (.cons 1 rfl .nil) (gk_F 0 rfl gk_nil) ?_
                      refine sxb_step 16 rfl (by kernel_rfl) (show _ = #[true, true, true, true, true, true, true, true, true, true, true, true, true, true, true, true, true, false] from rfl) ?_
                      refine sxo_storeB (i := 0) rfl rfl rfl tf24 rfl rfl rfl rfl rfl ?_
                      refine sxo_nil ?_
                      refine sxq_anyB (.cons 1 rfl .nil) (gk_F 0 rfl gk_nil) ?_
                      refine sxb_takeP 17 (.int .i64 x822.2) rfl rfl rfl rfl (by kernel_rfl) (by kernel_rfl) (by kernel_rfl) (by kernel_rfl) (by kernel_rfl) rfl (show _ = #[true, true, true, true, true, true, true, true, true, true, true, true, true, true, true, true, true, true] from rfl) (yv_pv rfl) ?_
                      refine sxb_done (by kernel_rfl) ?_
                      refine sxq_np ?_ (by intro c h; cases h)
                      exact sxq_meetP ((x822.2, x822.1), (g825, a823, c824)) (lk_cons rfl (lk_cons rfl (lk_cons rfl (lk_cons rfl (lk_cons rfl lk_nil))))) (.cons 0 rfl .nil) (.cons 4 rfl (.cons 0 rfl .nil)) fk_nil
                    · refine sxo_meq (m' := ((M_graph_Of F (x1.length : Int) x819).bind fun x827 => M_L_WalkThree_j3 F x4 x8 x108 x827.2 x827.1)) (rfl) ?_
                      refine sxo_alloc rfl tf24 rfl (fun g826 => ?_)
                      refine sxo_nil ?_
                      refine sxq_anyB (.cons 1 rfl .nil) (gk_F 0 rfl gk_nil) ?_
                      refine sxb_step 11 rfl (by kernel_rfl) (show _ = #[true, true, true, true, true, true, true, true, true, true, true, true, false, false, false, true, false, false] from rfl) ?_
                      refine sxo_call ent23 rfl rfl rfl (fun x827 e827 => C_graph_Of F (x1.length : Int) x819 a820 c821 x827 e827) (.consR 0 (Ro eS51 51 2 (.slice a820 x819.length c821) x819) rfl .nil) (fun x827 e827 => ?_)
                      rintro ⟨a828, c829⟩
                      refine sxo_nil ?_
                      refine sxq_anyB (.cons 1 rfl .nil) (gk_F 0 rfl gk_nil) ?_
                      refine sxb_takeP 12 (.tuple #[.agg #[.slice a828 x827.1.length c829.1], .int .i64 x827.2]) rfl rfl rfl rfl (by kernel_rfl) (by kernel_rfl) (by kernel_rfl) (by kernel_rfl) (by kernel_rfl) rfl (show _ = #[true, true, true, true, true, true, true, true, true, true, true, true, true, false, false, true, false, false] from rfl) (yv_pv rfl) ?_
                      refine sxb_takeP 13 (.agg #[.slice a828 x827.1.length c829.1]) rfl rfl rfl rfl (by kernel_rfl) (by kernel_rfl) (by kernel_rfl) (by kernel_rfl) (by kernel_rfl) rfl (show _ = #[true, true, true, true, true, true, true, true, true, true, true, true, true, true, false, true, false, false] from rfl) (yv_pv rfl) ?_
                      refine sxb_takeP 14 (.int .i64 x827.2) rfl rfl rfl rfl (by kernel_rfl) (by kernel_rfl) (by kernel_rfl) (by kernel_rfl) (by kernel_rfl) rfl (show _ = #[true, true, true, true, true, true, true, true, true, true, true, true, true, true, true, true, false, false] from rfl) (yv_pv rfl) ?_
                      refine sxb_step 16 rfl (by kernel_rfl) (show _ = #[true, true, true, true, true, true, true, true, true, true, true, true, true, true, true, true, true, false] from rfl) ?_
                      refine sxo_storeB (i := 0) rfl rfl rfl tf24 rfl rfl rfl rfl rfl ?_
                      refine sxo_nil ?_
                      refine sxq_anyB (.cons 1 rfl .nil) (gk_F 0 rfl gk_nil) ?_
                      refine sxb_takeP 17 (.int .i64 x827.2) rfl rfl rfl rfl (by kernel_rfl) (by kernel_rfl) (by kernel_rfl) (by kernel_rfl) (by kernel_rfl) rfl (show _ = #[true, true, true, true, true, true, true, true, true, true, true, true, true, true, true, true, true, true] from rfl) (yv_pv rfl) ?_
                      refine sxb_done (by kernel_rfl) ?_
                      refine sxq_np ?_ (by intro c h; cases h)
                      exact sxq_meetP ((x827.2, x827.1), (g826, a828, c829)) (lk_cons rfl (lk_cons rfl (lk_cons rfl (lk_cons rfl (lk_cons rfl lk_nil))))) (.cons 0 rfl .nil) (.cons 4 rfl (.cons 0 rfl .nil)) fk_nil
                  · refine sxo_meq (m' := ((app 4398046511104 x816 ([(x5, x6)] : List (Int × Int))).bind fun x831 => ((M_graph_Of F (x1.length : Int) x831).bind fun x834 => M_L_WalkThree_j3 F x4 x8 x108 x834.2 x834.1))) (rfl) ?_
                    refine sxo_alloc rfl tf24 rfl (fun g830 => ?_)
                    refine sxo_nil ?_
                    refine sxq_anyB (.cons 1 rfl .nil) (gk_F 0 rfl gk_nil) ?_
                    refine sxb_step 10 rfl (by kernel_rfl) (show _ = #[true, true, true, true, true, true, true, true, true, true, true, false, false, false, false, true, false, false] from rfl) ?_
                    refine sxo_app 0 eS51_ok rfl Try.underlying45 tf51 rfl rfl rfl rfl rfl (.inl ⟨1, _, rfl⟩) rfl rfl (fun x831 e831 a832 c833 => ?_)
                    refine sxo_nil ?_
                    refine sxq_anyB (.cons 1 rfl .nil) (gk_F 0 rfl gk_nil) ?_
                    refine sxb_step 11 rfl (by kernel_rfl) (show _ = #[true, true, true, true, true, true, true, true, true, true, true, true, false, false, false, true, false, false] from rfl) ?_
                    refine sxo_call ent23 rfl rfl rfl (fun x834 e834 => C_graph_Of F (x1.length : Int) x831 a832 c833 x834 e834) (.consR 0 (Ro eS51 51 2 (.slice a832 x831.length c833) x831) rfl .nil) (fun x834 e834 => ?_)
                    rintro ⟨a835, c836⟩
                    refine sxo_nil ?_
                    refine sxq_anyB (.cons 1 rfl .nil) (gk_F 0 rfl gk_nil) ?_
                    refine sxb_takeP 12 (.tuple #[.agg #[.slice a835 x834.1.length c836.1], .int .i64 x834.2]) rfl rfl rfl rfl (by kernel_rfl) (by kernel_rfl) (by kernel_rfl) (by kernel_rfl) (by kernel_rfl) rfl (show _ = #[true, true, true, true, true, true, true, true, true, true, true, true, true, false, false, true, false, false] from rfl) (yv_pv rfl) ?_
                    refine sxb_takeP 13 (.agg #[.slice a835 x834.1.length c836.1]) rfl rfl rfl rfl (by kernel_rfl) (by kernel_rfl) (by kernel_rfl) (by kernel_rfl) (by kernel_rfl) rfl (show _ = #[true, true, true, true, true, true, true, true, true, true, true, true, true, true, false, true, false, false] from rfl) (yv_pv rfl) ?_
                    refine sxb_takeP 14 (.int .i64 x834.2) rfl rfl rfl rfl (by kernel_rfl) (by kernel_rfl) (by kernel_rfl) (by kernel_rfl) (by kernel_rfl) rfl (show _ = #[true, true, true, true, true, true, true, true, true, true, true, true, true, true, true, true, false, false] from rfl) (yv_pv rfl) ?_
                    refine sxb_step 16 rfl (by kernel_rfl) (show _ = #[true, true, true, true, true, true, true, true, true, true, true, true, true, true, true, true, true, false] from rfl) ?_
                    refine sxo_storeB (i := 0) rfl rfl rfl tf24 rfl rfl rfl rfl rfl ?_
                    refine sxo_nil ?_
                    refine sxq_anyB (.cons 1 rfl .nil) (gk_F 0 rfl gk_nil) ?_
                    refine sxb_takeP 17 (.int .i64 x834.2) rfl rfl rfl rfl (by kernel_rfl) (by kernel_rfl) (by kernel_rfl) (by kernel_rfl) (by kernel_rfl) rfl (show _ = #[true, true, true, true, true, true, true, true, true, true, true, true, true, true, true, true, true, true] from rfl) (yv_pv rfl) ?_
                    refine sxb_done (by kernel_rfl) ?_
                    refine sxq_np ?_ (by intro c h; cases h)
                    exact sxq_meetP ((x834.2, x834.1), (g830, a835, c836)) (lk_cons rfl (lk_cons rfl (lk_cons rfl (lk_cons rfl (lk_cons rfl lk_nil))))) (.cons 0 rfl .nil) (.cons 4 rfl (.cons 0 rfl .nil)) fk_nil
                · refine sxo_meq (m' := ((app 4398046511104 ([] : List (Int × Int)) x108.1).bind fun x838 => ((app 4398046511104 x838 ([(x5, x6)] : List (Int × Int))).bind fun x841 => ((M_graph_Of F (x1.length : Int) x841).bind fun x844 => M_L_WalkThree_j3 F x4 x8 x108 x844.2 x844.1)))) (rfl) ?_
                  refine sxo_alloc rfl tf24 rfl (fun g837 => ?_)
                  refine sxo_nil ?_
                  refine sxq_anyB (.cons 1 rfl .nil) (gk_F 0 rfl gk_nil) ?_
                  refine sxb_step 5 rfl (by kernel_rfl) (show _ = #[true, true, true, true, true, true, true, true, true, true, false, false, false, false, false, true, false, false] from rfl) ?_
                  refine sxo_app 1 eS51_ok rfl Try.underlying45 tf51 rfl rfl rfl rfl rfl (.inl ⟨2, _, rfl⟩) rfl rfl (fun x838 e838 a839 c840 => ?_)
                  refine sxo_nil ?_
                  refine sxq_anyB (.cons 1 rfl .nil) (gk_F 0 rfl gk_nil) ?_
                  refine sxb_step 10 rfl (by kernel_rfl) (show _ = #[true, true, true, true, true, true, true, true, true, true, true, false, false, false, false, true, false, false] from rfl) ?_
                  refine sxo_app 0 eS51_ok rfl Try.underlying45 tf51 rfl rfl rfl rfl rfl (.inl ⟨1, _, rfl⟩) rfl rfl (fun x841 e841 a842 c843 => ?_)
                  refine sxo_nil ?_
                  refine sxq_anyB (.cons 1 rfl .nil) (gk_F 0 rfl gk_nil) ?_
                  refine sxb_step 11 rfl (by kernel_rfl) (show _ = #[true, true, true, true, true, true, true, true, true, true, true, true, false, false, false, true, false, false] from rfl) ?_
                  refine sxo_call ent23 rfl rfl rfl (fun x844 e844 => C_graph_Of F (x1.length : Int) x841 a842 c843 x844 e844) (.consR 0 (Ro eS51 51 2 (.slice a842 x841.length c843) x841) rfl .nil) (fun x844 e844 => ?_)
                  rintro ⟨a845, c846⟩
                  refine sxo_nil ?_
                  refine sxq_anyB (.cons 1 rfl .nil) (gk_F 0 rfl gk_nil) ?_
                  refine sxb_takeP 12 (.tuple #[.agg #[.slice a845 x844.1.length c846.1], .int .i64 x844.2]) rfl rfl rfl rfl (by kernel_rfl) (by kernel_rfl) (by kernel_rfl) (by kernel_rfl) (by kernel_rfl) rfl (show _ = #[true, true, true, true, true, true, true, true, true, true, true, true, true, false, false, true, false, false] from rfl) (yv_pv rfl) ?_
                  refine sxb_takeP 13 (.agg #[.slice a845 x844.1.length c846.1]) rfl rfl rfl rfl (by kernel_rfl) (by kernel_rfl) (by kernel_rfl) (by kernel_rfl) (by kernel_rfl) rfl (show _ = #[true, true, true, true, true, true, true, true, true, true, true, true, true, true, false, true, false, false] from rfl) (yv_pv rfl) ?_
                  refine sxb_takeP 14 (.int .i64 x844.2) rfl rfl rfl rfl (by kernel_rfl) (by kernel_rfl) (by kernel_rfl) (by kernel_rfl) (by kernel_rfl) rfl (show _ = #[true, true, true, true, true, true, true, true, true, true, true, true, true, true, true, true, false, false] from rfl) (yv_pv rfl) ?_
                  refine sxb_step 16 rfl (by kernel_rfl) (show _ = #[true, true, true, true, true, true, true, true, true, true, true, true, true, true, true, true, true, false] from rfl) ?_
                  refine sxo_storeB (i := 0) rfl rfl rfl tf24 rfl rfl rfl rfl rfl ?_
                  refine sxo_nil ?_
                  refine sxq_anyB (.cons 1 rfl .nil) (gk_F 0 rfl gk_nil) ?_
                  refine sxb_takeP 17 (.int .i64 x844.2) rfl rfl rfl rfl (by kernel_rfl) (by kernel_rfl) (by kernel_rfl) (by kernel_rfl) (by kernel_rfl) rfl (show _ = #[true, true, true, true, true, true, true, true, true, true, true, true, true, true, true, true, true, true] from rfl) (yv_pv rfl) ?_
                  refine sxb_done (by kernel_rfl) ?_
                  refine sxq_np ?_ (by intro c h; cases h)
                  exact sxq_meetP ((x844.2, x844.1), (g837, a845, c846)) (lk_cons rfl (lk_cons rfl (lk_cons rfl (lk_cons rfl (lk_cons rfl lk_nil))))) (.cons 0 rfl .nil) (.cons 4 rfl (.cons 0 rfl .nil)) fk_nil
              · refine sxo_meq (m' := ((app 4398046511104 ([] : List (Int × Int)) x108.1).bind fun x848 => ((app 4398046511104 x848 ([(x5, x6)] : List (Int × Int))).bind fun x853 => ((M_graph_Of F (x1.length : Int) x853).bind fun x856 => M_L_WalkThree_j3 F x4 x8 x108 x856.2 x856.1)))) (rfl) ?_
                refine sxo_alloc rfl tf24 rfl (fun g847 => ?_)
                refine sxo_nil ?_
                refine sxq_anyB (.cons 1 rfl .nil) (gk_F 0 rfl gk_nil) ?_
                refine sxb_two 5 9 rfl rfl (by kernel_rfl) (show _ = #[true, true, true, true, true, true, true, true, true, false, false, false, false, false, false, true, false, false] from rfl) (show _ = #[true, true, true, true, true, false, true, true, true, true, false, false, false, false, false, true, false, false] from rfl) ?_ ?_
                · refine sxo_app 0 eS51_ok rfl Try.underlying45 tf51 rfl rfl rfl rfl rfl (.inl ⟨1, _, rfl⟩) rfl rfl (fun x848 e848 a849 c850 => ?_)
                  refine sxo_nil ?_
                  refine sxq_anyB (.cons 1 rfl .nil) (gk_F 0 rfl gk_nil) ?_
                  refine sxb_step 9 rfl (by kernel_rfl) (show _ = #[true, true, true, true, true, true, true, true, true, true, false, false, false, false, false, true, false, false] from rfl) ?_
                  refine sxo_slit (vs := [.agg #[.int .i64 x5, .int .i64 x6]]) (ys := ([(x5, x6)] : List (Int × Int))) eS51_ok (by decide) rfl Try.underlying45 tf51 rfl rfl rfl rfl rfl (by decide) (fun a851 c852 => ?_)
                  refine sxo_nil ?_
                  refine sxq_anyB (.cons 1 rfl .nil) (gk_F 0 rfl gk_nil) ?_
                  refine sxb_step 10 rfl (by kernel_rfl) (show _ = #[true, true, true, true, true, true, true, true, true, true, true, false, false, false, false, true, false, false] from rfl) ?_
                  refine sxo_app 1 eS51_ok rfl Try.underlying45 tf51 rfl rfl rfl rfl rfl (.inl ⟨0, _, rfl⟩) rfl rfl (fun x853 e853 a854 c855 => ?_)
                  refine sxo_nil ?_
                  refine sxq_anyB (.cons 1 rfl .nil) (gk_F 0 rfl gk_nil) ?_
                  refine sxb_step 11 rfl (by kernel_rfl) (show _ = #[true, true, true, true, true, true, true, true, true, true, true, true, false, false, false, true, false, false] from rfl) ?_
                  refine sxo_call ent23 rfl rfl rfl (fun x856 e856 => C_graph_Of F (x1.length : Int) x853 a854 c855 x856 e856) (.consR 0 (Ro eS51 51 2 (.slice a854 x853.length c855) x853) rfl .nil) (fun x856 e856 => ?_)
                  rintro ⟨a857, c858⟩
                  refine sxo_nil ?_
                  refine sxq_anyB (.cons 1 rfl .nil) (gk_F 0 rfl gk_nil) ?_
                  refine sxb_takeP 12 (.tuple #[.agg #[.slice a857 x856.1.length c858.1], .int .i64 x856.2]) rfl rfl rfl rfl (by kernel_rfl) (by kernel_rfl) (by kernel_rfl) (by kernel_rfl) (by kernel_rfl) rfl (show _ = #[true, true, true, true, true, true, true, true, true, true, true, true, true, false, false, true, false, false] from rfl) (yv_pv rfl) ?_
                  refine sxb_takeP 13 (.agg #[.slice a857 x856.1.length c858.1]) rfl rfl rfl rfl (by kernel_rfl) (by kernel_rfl) (by kernel_rfl) (by kernel_rfl) (by kernel_rfl) rfl (show _ = #[true, true, true, true, true, true, true, true, true, true, true, true, true, true, false, true, false, false] from rfl) (yv_pv rfl) ?_
                  refine sxb_takeP 14 (.int .i64 x856.2) rfl rfl rfl rfl (by kernel_rfl) (by kernel_rfl) (by kernel_rfl) (by kernel_rfl) (by kernel_rfl) rfl (show _ = #[true, true, true, true, true, true, true, true, true, true, true, true, true, true, true, true, false, false] from rfl) (yv_pv rfl) ?_
                  refine sxb_step 16 rfl (by kernel_rfl) (show _ = #[true, true, true, true, true, true, true, true, true, true, true, true, true, true, true, true, true, false] from rfl) ?_
                  refine sxo_storeB (i := 0) rfl rfl rfl tf24 rfl rfl rfl rfl rfl ?_
                  refine sxo_nil ?_
                  refine sxq_anyB (.cons 1 rfl .nil) (gk_F 0 rfl gk_nil) ?_
                  refine sxb_takeP 17 (.int .i64 x856.2) rfl rfl rfl rfl (by kernel_rfl) (by kernel_rfl) (by kernel_rfl) (by kernel_rfl) (by kernel_rfl) rfl (show _ = #[true, true, true, true, true, true, true, true, true, true, true, true, true, true, true, true, true, true] from rfl) (yv_pv rfl) ?_
                  refine sxb_done (by kernel_rfl) ?_
                  refine sxq_np ?_ (by intro c h; cases h)
                  exact sxq_meetP ((x856.2, x856.1), (g847, a857, c858)) (lk_cons rfl (lk_cons rfl (lk_cons rfl (lk_cons rfl (lk_cons rfl lk_nil))))) (.cons 0 rfl .nil) (.cons 4 rfl (.cons 0 rfl .nil)) fk_nil
                · refine sxo_meq (m' := ((app 4398046511104 ([] : List (Int × Int)) x108.1).bind fun x861 => ((app 4398046511104 x861 ([(x5, x6)] : List (Int × Int))).bind fun x864 => ((M_graph_Of F (x1.length : Int) x864).bind fun x867 => M_L_WalkThree_j3 F x4 x8 x108 x867.2 x867.1)))) (rfl) ?_
                  refine sxo_slit (vs := [.agg #[.int .i64 x5, .int .i64 x6]]) (ys := ([(x5, x6)] : List (Int × Int))) eS51_ok (by decide) rfl Try.underlying45 tf51 rfl rfl rfl rfl rfl (by decide) (fun a859 c860 => ?_)
                  refine sxo_nil ?_
                  refine sxq_anyB (.cons 1 rfl .nil) (gk_F 0 rfl gk_nil) ?_
                  refine sxb_step 5 rfl (by kernel_rfl) (show _ = #[true, true, true, true, true, true, true, true, true, true, false, false, false, false, false, true, false, false] from rfl) ?_
                  refine sxo_app 1 eS51_ok rfl Try.underlying45 tf51 rfl rfl rfl rfl rfl (.inl ⟨2, _, rfl⟩) rfl rfl (fun x861 e861 a862 c863 => ?_)
                  refine sxo_nil ?_
                  refine sxq_anyB (.cons 1 rfl .nil) (gk_F 0 rfl gk_nil) ?_
                  refine sxb_step 10 rfl (by kernel_rfl) (show _ = #[true, true, true, true, true, true, true, true, true, true, true, false, false, false, false, true, false, false] from rfl) ?_
                  refine sxo_app 0 eS51_ok rfl Try.underlying45 tf51 rfl rfl rfl rfl rfl (.inl ⟨1, _, rfl⟩) rfl rfl (fun x864 e864 a865 c866 => ?_)
                  refine sxo_nil ?_
                  refine sxq_anyB (.cons 1 rfl .nil) (gk_F 0 rfl gk_nil) ?_
                  refine sxb_step 11 rfl (by kernel_rfl) (show _ = #[true, true, true, true, true, true, true, true, true, true, true, true, false, false, false, true, false, false] from rfl) ?_
                  refine sxo_call ent23 rfl rfl rfl (fun x867 e867 => C_graph_Of F (x1.length : Int) x864 a865 c866 x867 e867) (.consR 0 (Ro eS51 51 2 (.slice a865 x864.length c866) x864) rfl .nil) (fun x867 e867 => ?_)
                  rintro ⟨a868, c869⟩
                  refine sxo_nil ?_
                  refine sxq_anyB (.cons 1 rfl .nil) (gk_F 0 rfl gk_nil) ?_
                  refine sxb_takeP 12 (.tuple #[.agg #[.slice a868 x867.1.length c869.1], .int .i64 x867.2]) rfl rfl rfl rfl (by kernel_rfl) (by kernel_rfl) (by kernel_rfl) (by kernel_rfl) (by kernel_rfl) rfl (show _ = #[true, true, true, true, true, true, true, true, true, true, true, true, true, false, false, true, false, false] from rfl) (yv_pv rfl) ?_
                  refine sxb_takeP 13 (.agg #[.slice a868 x867.1.length c869.1]) rfl rfl rfl rfl (by kernel_rfl) (by kernel_rfl) (by kernel_rfl) (by kernel_rfl) (by kernel_rfl) rfl (show _ = #[true, true, true, true, true, true, true, true, true, true, true, true, true, true, false, true, false, false] from rfl) (yv_pv rfl) ?_
                  refine sxb_takeP 14 (.int .i64 x867.2) rfl rfl rfl rfl (by kernel_rfl) (by kernel_rfl) (by kernel_rfl) (by kernel_rfl) (by kernel_rfl) rfl (show _ = #[true, true, true, true, true, true, true, true, true, true, true, true, true, true, true, true, false, false] from rfl) (yv_pv rfl) ?_
                  refine sxb_step 16 rfl (by kernel_rfl) (show _ = #[true, true, true, true, true, true, true, true, true, true, true, true, true, true, true, true, true, false] from rfl) ?_
                  refine sxo_storeB (i := 0) rfl rfl rfl tf24 rfl rfl rfl rfl rfl ?_
                  refine sxo_nil ?_
                  refine sxq_anyB (.cons 1 rfl .nil) (gk_F 0 rfl gk_nil) ?_
                  refine sxb_takeP 17 (.int .i64 x867.2) rfl rfl rfl rfl (by kernel_rfl) (by kernel_rfl) (by kernel_rfl) (by kernel_rfl) (by kernel_rfl) rfl (show _ = #[true, true, true, true, true, true, true, true, true, true, true, true, true, true, true, true, true, true] from rfl) (yv_pv rfl) ?_
                  refine sxb_done (by kernel_rfl) ?_
                  refine sxq_np ?_ (by intro c h; cases h)
                  exact sxq_meetP ((x867.2, x867.1), (g847, a868, c869)) (lk_cons rfl (lk_cons rfl (lk_cons rfl (lk_cons rfl (lk_cons rfl lk_nil))))) (.cons 0 rfl .nil) (.cons 4 rfl (.cons 0 rfl .nil)) fk_nil
            · refine sxo_meq (m' := ((app 4398046511104 ([] : List (Int × Int)) x108.1).bind fun x874 => ((app 4398046511104 x874 ([(x5, x6)] : List (Int × Int))).bind fun x877 => ((M_graph_Of F (x1.length : Int) x877).bind fun x880 => M_L_WalkThree_j3 F x4 x8 x108 x880.2 x880.1)))) (rfl) ?_
              refine sxo_slit (vs := [.agg #[.int .i64 x5, .int .i64 x6]]) (ys := ([(x5, x6)] : List (Int × Int))) eS51_ok (by decide) rfl Try.underlying45 tf51 rfl rfl rfl rfl rfl (by decide) (fun a870 c871 => ?_)
              refine sxo_nil ?_
              refine sxq_anyB (.cons 0 rfl .nil) (gk_F 0 rfl gk_nil) ?_
              refine sxb_two 3 15 rfl rfl (by kernel_rfl) (show _ = #[true, true, true, true, true, false, true, true, true, true, false, false, false, false, false, false, false, false] from rfl) (show _ = #[true, true, true, false, true, false, true, true, true, true, false, false, false, false, false, true, false, false] from rfl) ?_ ?_
              · refine sxo_slit (vs := []) (ys := ([] : List (Int × Int))) eS51_ok (by decide) rfl Try.underlying45 tf51 rfl rfl rfl rfl rfl (by decide) (fun a872 c873 => ?_)
                refine sxo_nil ?_
                refine sxq_anyB (.cons 0 rfl .nil) (gk_F 0 rfl gk_nil) ?_
                refine sxb_two 5 15 rfl rfl (by kernel_rfl) (show _ = #[true, true, true, true, true, true, true, true, true, true, false, false, false, false, false, false, false, false] from rfl) (show _ = #[true, true, true, true, true, false, true, true, true, true, false, false, false, false, false, true, false, false] from rfl) ?_ ?_
                · refine sxo_app 0 eS51_ok rfl Try.underlying45 tf51 rfl rfl rfl rfl rfl (.inl ⟨2, _, rfl⟩) rfl rfl (fun x874 e874 a875 c876 => ?_)
                  refine sxo_nil ?_
                  refine sxq_anyB (.cons 0 rfl .nil) (gk_F 0 rfl gk_nil) ?_
                  refine sxb_two 10 15 rfl rfl (by kernel_rfl) (show _ = #[true, true, true, true, true, true, true, true, true, true, true, false, false, false, false, false, false, false] from rfl) (show _ = #[true, true, true, true, true, true, true, true, true, true, false, false, false, false, false, true, false, false] from rfl) ?_ ?_
                  · refine sxo_app 0 eS51_ok rfl Try.underlying45 tf51 rfl rfl rfl rfl rfl (.inl ⟨1, _, rfl⟩) rfl rfl (fun x877 e877 a878 c879 => ?_)
                    refine sxo_nil ?_
                    refine sxq_anyB (.cons 0 rfl .nil) (gk_F 0 rfl gk_nil) ?_
                    refine sxb_two 11 15 rfl rfl (by kernel_rfl) (show _ = #[true, true, true, true, true, true, true, true, true, true, true, true, false, false, false, false, false, false] from rfl) (show _ = #[true, true, true, true, true, true, true, true, true, true, true, false, false, false, false, true, false, false] from rfl) ?_ ?_
                    · refine sxo_call ent23 rfl rfl rfl (fun x880 e880 => C_graph_Of F (x1.length : Int) x877 a878 c879 x880 e880) (.consR 0 (Ro eS51 51 2 (.slice a878 x877.length c879) x877) rfl .nil) (fun x880 e880 => ?_)
                      rintro ⟨a881, c882⟩
                      refine sxo_nil ?_
                      refine sxq_anyB (.cons 0 rfl .nil) (gk_F 0 rfl gk_nil) ?_
                      refine sxb_takeP 12 (.tuple #[.agg #[.slice a881 x880.1.length c882.1], .int .i64 x880.2]) rfl rfl rfl rfl (by kernel_rfl) (by kernel_rfl) (by kernel_rfl) (by kernel_rfl) (by kernel_rfl) rfl (show _ = #[true, true, true, true, true, true, true, true, true, true, true, true, true, false, false, false, false, false] from rfl) (yv_pv rfl) ?_
                      refine sxb_takeP 13 (.agg #[.slice a881 x880.1.length c882.1]) rfl rfl rfl rfl (by kernel_rfl) (by kernel_rfl) (by kernel_rfl) (by kernel_rfl) (by kernel_rfl) rfl (show _ = #[true, true, true, true, true, true, true, true, true, true, true, true, true, true, false, false, false, false] from rfl) (yv_pv rfl) ?_
                      refine sxb_takeP 14 (.int .i64 x880.2) rfl rfl rfl rfl (by kernel_rfl) (by kernel_rfl) (by kernel_rfl) (by kernel_rfl) (by kernel_rfl) rfl (show _ = #[true, true, true, true, true, true, true, true, true, true, true, true, true, true, true, false, false, false] from rfl) (yv_pv rfl) ?_
                      refine sxb_step 15 rfl (by kernel_rfl) (show _ = #[true, true, true, true, true, true, true, true, true, true, true, true, true, true, true, true, false, false] from rfl) ?_
                      refine sxo_alloc rfl tf24 rfl (fun g883 => ?_)
                      refine sxo_nil ?_
                      refine sxq_anyB (.cons 1 rfl .nil) (gk_F 0 rfl gk_nil) ?_
                      refine sxb_step 16 rfl (by kernel_rfl) (show _ = #[true, true, true, true, true, true, true, true, true, true, true, true, true, true, true, true, true, false] from rfl) ?_
                      refine sxo_storeB (i := 0) rfl rfl rfl tf24 rfl rfl rfl rfl rfl ?_
                      refine sxo_nil ?_
                      refine sxq_anyB (.cons 1 rfl .nil) (gk_F 0 rfl gk_nil) ?_
                      refine sxb_takeP 17 (.int .i64 x880.2) rfl rfl rfl rfl (by kernel_rfl) (by kernel_rfl) (by kernel_rfl) (by kernel_rfl) (by kernel_rfl) rfl (show _ = #[true, true, true, true, true, true, true, true, true, true, true, true, true, true, true, true, true, true] from rfl) (yv_pv rfl) ?_
                      refine sxb_done (by kernel_rfl) ?_
                      refine sxq_np ?_ (by intro c h; cases h)
                      exact sxq_meetP ((x880.2, x880.1), (g883, a881, c882)) (lk_cons rfl (lk_cons rfl (lk_cons rfl (lk_cons rfl (lk_cons rfl lk_nil))))) (.cons 0 rfl .nil) (.cons 4 rfl (.cons 0 rfl .nil)) fk_nil
                    · refine sxo_meq (m' := ((M_graph_Of F (x1.length : Int) x877).bind fun x885 => M_L_WalkThree_j3 F x4 x8 x108 x885.2 x885.1)) (rfl) ?_
                      refine sxo_alloc rfl tf24 rfl (fun g884 => ?_)
                      refine sxo_nil ?_
                      refine sxq_anyB (.cons 1 rfl .nil) (gk_F 0 rfl gk_nil) ?_
                      refine sxb_step 11 rfl (by kernel_rfl) (show _ = #[true, true, true, true, true, true, true, true, true, true, true, true, false, false, false, true, false, false] from rfl) ?_
                      refine sxo_call ent23 rfl rfl rfl (fun x885 e885 => C_graph_Of F (x1.length : Int) x877 a878 c879 x885 e885) (.consR 0 (Ro eS51 51 2 (.slice a878 x877.length c879) x877) rfl .nil) (fun x885 e885 => ?_)
                      rintro ⟨a886, c887⟩
                      refine sxo_nil ?_
                      refine sxq_anyB (.cons 1 rfl .nil) (gk_F 0 rfl gk_nil) ?_
                      refine sxb_takeP 12 (.tuple #[.agg #[.slice a886 x885.1.length c887.1], .int .i64 x885.2]) rfl rfl rfl rfl (by kernel_rfl) (by kernel_rfl) (by kernel_rfl) (by kernel_rfl) (by kernel_rfl) rfl (show _ = #[true, true, true, true, true, true, true, true, true, true, true, true, true, false, false, true, false, false] from rfl) (yv_pv rfl) ?_
                      refine sxb_takeP 13 (.agg #[.slice a886 x885.1.length c887.1]) rfl rfl rfl rfl (by kernel_rfl) (by kernel_rfl) (by kernel_rfl) (by kernel_rfl) (by kernel_rfl) rfl (show _ = #[true, true, true, true, true, true, true, true, true, true, true, true, true, true, false, true, false, false] from rfl) (yv_pv rfl) ?_
                      refine sxb_takeP 14 (.int .i64 x885.2) rfl rfl rfl rfl (by kernel_rfl) (by kernel_rfl) (by kernel_rfl) (by kernel_rfl) (by kernel_rfl) rfl (show _ = #[true, true, true, true, true, true, true, true, true, true, true, true, true, true, true, true, false, false] from rfl) (yv_pv rfl) ?_
                      refine sxb_step 16 rfl (by kernel_rfl) (show _ = #[true, true, true, true, true, true, true, true, true, true, true, true, true, true, true, true, true, false] from rfl) ?_
                      refine sxo_storeB (i := 0) rfl rfl rfl tf24 rfl rfl rfl rfl rfl ?_
                      refine sxo_nil ?_
                      refine sxq_anyB (.cons 1 rfl .nil) (gk_F 0 rfl gk_nil) ?_
                      refine sxb_takeP 17 (.int .i64 x885.2) rfl rfl rfl rfl (by kernel_rfl) (by kernel_rfl) (by kernel_rfl) (by kernel_rfl) (by kernel_rfl) rfl (show _ = #[true, true, true, true, true, true, true, true, true, true, true, true, true, true, true, true, true, true] from rfl) (yv_pv rfl) ?_
                      refine sxb_done (by kernel_rfl) ?_
                      refine sxq_np ?_ (by intro c h; cases h)
                      exact sxq_meetP ((x885.2, x885.1), (g884, a886, c887)) (lk_cons rfl (lk_cons rfl (lk_cons rfl (lk_cons rfl (lk_cons rfl lk_nil))))) (.cons 0 rfl .nil) (.cons 4 rfl (.cons 0 rfl .nil)) fk_nil
                  · refine sxo_meq (m' := ((app 4398046511104 x874 ([(x5, x6)] : List (Int × Int))).bind fun x889 => ((M_graph_Of F (x1.length : Int) x889).bind fun x892 => M_L_WalkThree_j3 F x4 x8 x108 x892.2 x892.1))) (rfl) ?_
                    refine sxo_alloc rfl tf24 rfl (fun g888 => ?_)
                    refine sxo_nil ?_
                    refine sxq_anyB (.cons 1 rfl .nil) (gk_F 0 rfl gk_nil) ?_
                    refine sxb_step 10 rfl (by kernel_rfl) (show _ = #[true, true, true, true, true, true, true, true, true, true, true, false, false, false, false, true, false, false] from rfl) ?_
                    refine sxo_app 0 eS51_ok rfl Try.underlying45 tf51 rfl rfl rfl rfl rfl (.inl ⟨1, _, rfl⟩) rfl rfl (fun x889 e889 a890 c891 => ?_)
                    refine sxo_nil ?_
                    refine sxq_anyB (.cons 1 rfl .nil) (gk_F 0 rfl gk_nil) ?_
                    refine sxb_step 11 rfl (by kernel_rfl) (show _ = #[true, true, true, true, true, true, true, true, true, true, true, true, false, false, false, true, false, false] from rfl) ?_
                    refine sxo_call ent23 rfl rfl rfl (fun x892 e892 => C_graph_Of F (x1.length : Int) x889 a890 c891 x892 e892) (.consR 0 (Ro eS51 51 2 (.slice a890 x889.length c891) x889) rfl .nil) (fun x892 e892 => ?_)
                    rintro ⟨a893, c894⟩
                    refine sxo_nil ?_
                    refine sxq_anyB (.cons 1 rfl .nil) (gk_F 0 rfl gk_nil) ?_
                    refine sxb_takeP 12 (.tuple #[.agg #[.slice a893 x892.1.length c894.1], .int .i64 x892.2]) rfl rfl rfl rfl (by kernel_rfl) (by kernel_rfl) (by kernel_rfl) (by kernel_rfl) (by kernel_rfl) rfl (show _ = #[true, true, true, true, true, true, true, true, true, true, true, true, true, false, false, true, false, false] from rfl) (yv_pv rfl) ?_
                    refine sxb_takeP 13 (.agg #[.slice a893 x892.1.length c894.1]) rfl rfl rfl rfl (by kernel_rfl) (by kernel_rfl) (by kernel_rfl) (by kernel_rfl) (by kernel_rfl) rfl (show _ = #[true, true, true, true, true, true, true, true, true, true, true, true, true, true, false, true, false, false] from rfl) (yv_pv rfl) ?_
                    refine sxb_takeP 14 (.int .i64 x892.2) rfl rfl rfl rfl (by kernel_rfl) (by kernel_rfl) (by kernel_rfl) (by kernel_rfl) (by kernel_rfl) rfl (show _ = #[true, true, true, true, true, true, true, true, true, true, true, true, true, true, true, true, false, false] from rfl) (yv_pv rfl) ?_
                    refine sxb_step 16 rfl (by kernel_rfl) (show _ = #[true, true, true, true, true, true, true, true, true, true, true, true, true, true, true, true, true, false] from rfl) ?_
                    refine sxo_storeB (i := 0) rfl rfl rfl tf24 rfl rfl rfl rfl rfl ?_
                    refine sxo_nil ?_
                    refine sxq_anyB (.cons 1 rfl .nil) (gk_F 0 rfl gk_nil) ?_
                    refine sxb_takeP 17 (.int .i64 x892.2) rfl rfl rfl rfl (by kernel_rfl) (by kernel_rfl) (by kernel_rfl) (by kernel_rfl) (by kernel_rfl) rfl (show _ = #[true, true, true, true, true, true, true, true, true, true, true, true, true, true, true, true, true, true] from rfl) (yv_pv rfl) ?_
                    refine sxb_done (by kernel_rfl) ?_
                    refine sxq_np ?_ (by intro c h; cases h)
                    exact sxq_meetP ((x892.2, x892.1), (g888, a893, c894)) (lk_cons rfl (lk_cons rfl (lk_cons rfl (lk_cons rfl (lk_cons rfl lk_nil))))) (.cons 0 rfl .nil) (.cons 4 rfl (.cons 0 rfl .nil)) fk_nil
                · refine sxo_meq (m' := ((app 4398046511104 ([] : List (Int × Int)) x108.1).bind fun x896 => ((app 4398046511104 x896 ([(x5, x6)] : List (Int × Int))).bind fun x899 => ((M_graph_Of F (x1.length : Int) x899).bind fun x902 => M_L_WalkThree_j3 F x4 x8 x108 x902.2 x902.1)))) (rfl) ?_
                  refine sxo_alloc rfl tf24 rfl (fun g895 => ?_)
                  refine sxo_nil ?_
                  refine sxq_anyB (.cons 1 rfl .nil) (gk_F 0 rfl gk_nil) ?_
                  refine sxb_step 5 rfl (by kernel_rfl) (show _ = #[true, true, true, true, true, true, true, true, true, true, false, false, false, false, false, true, false, false] from rfl) ?_
                  refine sxo_app 0 eS51_ok rfl Try.underlying45 tf51 rfl rfl rfl rfl rfl (.inl ⟨2, _, rfl⟩) rfl rfl (fun x896 e896 a897 c898 => ?_)
                  refine sxo_nil ?_
                  refine sxq_anyB (.cons 1 rfl .nil) (gk_F 0 rfl gk_nil) ?_
                  refine sxb_step 10 rfl (by kernel_rfl) (show _ = #[true, true, true, true, true, true, true, true, true, true, true, false, false, false, false, true, false, false] from rfl) ?_
                  refine sxo_app 0 eS51_ok rfl Try.underlying45 tf51 rfl rfl rfl rfl rfl (.inl ⟨1, _, rfl⟩) rfl rfl (fun x899 e899 a900 c901 => ?_)
                  refine sxo_nil ?_
                  refine sxq_anyB (.cons 1 rfl .nil) (gk_F 0 rfl gk_nil) ?_
                  refine sxb_step 11 rfl (by kernel_rfl) (show _ = #[true, true, true, true, true, true, true, true, true, true, true, true, false, false, false, true, false, false] from rfl) ?_
                  refine sxo_call ent23 rfl rfl rfl (fun x902 e902 => C_graph_Of F (x1.length : Int) x899 a900 c901 x902 e902) (.consR 0 (Ro eS51 51 2 (.slice a900 x899.length c901) x899) rfl .nil) (fun x902 e902 => ?_)
                  rintro ⟨a903, c904⟩
                  refine sxo_nil ?_
                  refine sxq_anyB (.cons 1 rfl .nil) (gk_F 0 rfl gk_nil) ?_
                  refine sxb_takeP 12 (.tuple #[.agg #[.slice a903 x902.1.length c904.1], .int .i64 x902.2]) rfl rfl rfl rfl (by kernel_rfl) (by kernel_rfl) (by kernel_rfl) (by kernel_rfl) (by kernel_rfl) rfl (show _ = #[true, true, true, true, true, true, true, true, true, true, true, true, true, false, false, true, false, false] from rfl) (yv_pv rfl) ?_
                  refine sxb_takeP 13 (.agg #[.slice a903 x902.1.length c904.1]) rfl rfl rfl rfl (by kernel_rfl) (by kernel_rfl) (by kernel_rfl) (by kernel_rfl) (by kernel_rfl) rfl (show _ = #[true, true, true, true, true, true, true, true, true, true, true, true, true, true, false, true, false, false] from rfl) (yv_pv rfl) ?_
                  refine sxb_takeP 14 (.int .i64 x902.2) rfl rfl rfl rfl (by kernel_rfl) (by kernel_rfl) (by kernel_rfl) (by kernel_rfl) (by kernel_rfl) rfl (show _ = #[true, true, true, true, true, true, true, true, true, true, true, true, true, true, true, true, false, false] from rfl) (yv_pv rfl) ?_
                  refine sxb_step 16 rfl (by kernel_rfl) (show _ = #[true, true, true, true, true, true, true, true, true, true, true, true, true, true, true, true, true, false] from rfl) ?_
                  refine sxo_storeB (i := 0) rfl rfl rfl tf24 rfl rfl rfl rfl rfl ?_
                  refine sxo_nil ?_
                  refine sxq_anyB (.cons 1 rfl .nil) (gk_F 0 rfl gk_nil) ?_
                  refine sxb_takeP 17 (.int .i64 x902.2) rfl rfl rfl rfl (by kernel_rfl) (by kernel_rfl) (by kernel_rfl) (by kernel_rfl) (by kernel_rfl) rfl (show _ = #[true, true, true, true, true, true, true, true, true, true, true, true, true, true, true, true, true, true] from rfl) (yv_pv rfl) ?_
                  refine sxb_done (by kernel_rfl) ?_
                  refine sxq_np ?_ (by intro c h; cases h)
                  exact sxq_meetP ((x902.2, x902.1), (g895, a903, c904)) (lk_cons rfl (lk_cons rfl (lk_cons rfl (lk_cons rfl (lk_cons rfl lk_nil))))) (.cons 0 rfl .nil) (.cons 4 rfl (.cons 0 rfl .nil)) fk_nil
              · refine sxo_meq (m' := ((app 4398046511104 ([] : List (Int × Int)) x108.1).bind fun x908 => ((app 4398046511104 x908 ([(x5, x6)] : List (Int × Int))).bind fun x911 => ((M_graph_Of F (x1.length : Int) x911).bind fun x914 => M_L_WalkThree_j3 F x4 x8 x108 x914.2 x914.1)))) (rfl) ?_
                refine sxo_alloc rfl tf24 rfl (fun g905 => ?_)
                refine sxo_nil ?_
                refine sxq_anyB (.cons 1 rfl .nil) (gk_F 0 rfl gk_nil) ?_
                refine sxb_step 3 rfl (by kernel_rfl) (show _ = #[true, true, true, true, true, false, true, true, true, true, false, false, false, false, false, true, false, false] from rfl) ?_
                refine sxo_slit (vs := []) (ys := ([] : List (Int × Int))) eS51_ok (by decide) rfl Try.underlying45 tf51 rfl rfl rfl rfl rfl (by decide) (fun a906 c907 => ?_)
                refine sxo_nil ?_
                refine sxq_anyB (.cons 1 rfl .nil) (gk_F 0 rfl gk_nil) ?_
                refine sxb_step 5 rfl (by kernel_rfl) (show _ = #[true, true, true, true, true, true, true, true, true, true, false, false, false, false, false, true, false, false] from rfl) ?_
                refine sxo_app 0 eS51_ok rfl Try.underlying45 tf51 rfl rfl rfl rfl rfl (.inl ⟨2, _, rfl⟩) rfl rfl (fun x908 e908 a909 c910 => ?_)
                refine sxo_nil ?_
                refine sxq_anyB (.cons 1 rfl .nil) (gk_F 0 rfl gk_nil) ?_
                refine sxb_step 10 rfl (by kernel_rfl) (show _ = #[true, true, true, true, true, true, true, true, true, true, true, false, false, false, false, true, false, false] from rfl) ?_
                refine sxo_app 0 eS51_ok rfl Try.underlying45 tf51 rfl rfl rfl rfl rfl (.inl ⟨1, _, rfl⟩) rfl rfl (fun x911 e911 a912 c913 => ?_)
                refine sxo_nil ?_
                refine sxq_anyB (.cons 1 rfl .nil) (gk_F 0 rfl gk_nil) ?_
                refine sxb_step 11 rfl (by kernel_rfl) (show _ = #[true, true, true, true, true, true, true, true, true, true, true, true, false, false, false, true, false, false] from rfl) ?_
                refine sxo_call ent23 rfl rfl rfl (fun x914 e914 => C_graph_Of F (x1.length : Int) x911 a912 c913 x914 e914) (.consR 0 (Ro eS51 51 2 (.slice a912 x911.length c913) x911) rfl .nil) (fun x914 e914 => ?_)
                rintro ⟨a915, c916⟩
                refine sxo_nil ?_
                refine sxq_anyB (.cons 1 rfl .nil) (gk_F 0 rfl gk_nil) ?_
                refine sxb_takeP 12 (.tuple #[.agg #[.slice a915 x914.1.length c916.1], .int .i64 x914.2]) rfl rfl rfl rfl (by kernel_rfl) (by kernel_rfl) (by kernel_rfl) (by kernel_rfl) (by kernel_rfl) rfl (show _ = #[true, true, true, true, true, true, true, true, true, true, true, true, true, false, false, true, false, false] from rfl) (yv_pv rfl) ?_
                refine sxb_takeP 13 (.agg #[.slice a915 x914.1.length c916.1]) rfl rfl rfl rfl (by kernel_rfl) (by kernel_rfl) (by kernel_rfl) (by kernel_rfl) (by kernel_rfl) rfl (show _ = #[true, true, true, true, true, true, true, true, true, true, true, true, true, true, false, true, false, false] from rfl) (yv_pv rfl) ?_
                refine sxb_takeP 14 (.int .i64 x914.2) rfl rfl rfl rfl (by kernel_rfl) (by kernel_rfl) (by kernel_rfl) (by kernel_rfl) (by kernel_rfl) rfl (show _ = #[true, true, true, true, true, true, true, true, true, true, true, true, true, true, true, true, false, false] from rfl) (yv_pv rfl) ?_
                refine sxb_step 16 rfl (by kernel_rfl) (show _ = #[true, true, true, true, true, true, true, true, true, true, true, true, true, true, true, true, true, false] from rfl) ?_
                refine sxo_storeB (i := 0) rfl rfl rfl tf24 rfl rfl rfl rfl rfl ?_
                refine sxo_nil ?_
                refine sxq_anyB (.cons 1 rfl .nil) (gk_F 0 rfl gk_nil) ?_
                refine sxb_takeP 17 (.int .i64 x914.2) rfl rfl rfl rfl (by kernel_rfl) (by kernel_rfl) (by kernel_rfl) (by kernel_rfl) (by kernel_rfl) rfl (show _ = #[true, true, true, true, true, true, true, true, true, true, true, true, true, true, true, true, true, true] from rfl) (yv_pv rfl) ?_
                refine sxb_done (by kernel_rfl) ?_
                refine sxq_np ?_ (by intro c h; cases h)
                exact sxq_meetP ((x914.2, x914.1), (g905, a915, c916)) (lk_cons rfl (lk_cons rfl (lk_cons rfl (lk_cons rfl (lk_cons rfl lk_nil))))) (.cons 0 rfl .nil) (.cons 4 rfl (.cons 0 rfl .nil)) fk_nil
            · refine sxo_meq (m' := ((app 4398046511104 ([] : List (Int × Int)) x108.1).bind fun x920 => ((app 4398046511104 x920 ([(x5, x6)] : List (Int × Int))).bind fun x925 => ((M_graph_Of F (x1.length : Int) x925).bind fun x928 => M_L_WalkThree_j3 F x4 x8 x108 x928.2 x928.1)))) (rfl) ?_
              refine sxo_alloc rfl tf24 rfl (fun g917 => ?_)
              refine sxo_nil ?_
              refine sxq_anyB (.cons 1 rfl .nil) (gk_F 0 rfl gk_nil) ?_
              refine sxb_two 3 9 rfl rfl (by kernel_rfl) (show _ = #[true, true, true, true, true, false, true, true, true, false, false, false, false, false, false, true, false, false] from rfl) (show _ = #[true, true, true, false, true, false, true, true, true, true, false, false, false, false, false, true, false, false] from rfl) ?_ ?_
              · refine sxo_slit (vs := []) (ys := ([] : List (Int × Int))) eS51_ok (by decide) rfl Try.underlying45 tf51 rfl rfl rfl rfl rfl (by decide) (fun a918 c919 => ?_)
                refine sxo_nil ?_
                refine sxq_anyB (.cons 1 rfl .nil) (gk_F 0 rfl gk_nil) ?_
                refine sxb_two 5 9 rfl rfl (by kernel_rfl) (show _ = #[true, true, true, true, true, true, true, true, true, false, false, false, false, false, false, true, false, false] from rfl) (show _ = #[true, true, true, true, true, false, true, true, true, true, false, false, false, false, false, true, false, false] from rfl) ?_ ?_
                · refine sxo_app 0 eS51_ok rfl Try.underlying45 tf51 rfl rfl rfl rfl rfl (.inl ⟨1, _, rfl⟩) rfl rfl (fun x920 e920 a921 c922 => ?_)
                  refine sxo_nil ?_
                  refine sxq_anyB (.cons 1 rfl .nil) (gk_F 0 rfl gk_nil) ?_
                  refine sxb_step 9 rfl (by kernel_rfl) (show _ = #[true, true, true, true, true, true, true, true, true, true, false, false, false, false, false, true, false, false] from rfl) ?_
                  refine sxo_slit (vs := [.agg #[.int .i64 x5, .int .i64 x6]]) (ys := ([(x5, x6)] : List (Int × Int))) eS51_ok (by decide) rfl Try.underlying45 tf51 rfl rfl rfl rfl rfl (by decide) (fun a923 c924 => ?_)
                  refine sxo_nil ?_
                  refine sxq_anyB (.cons 1 rfl .nil) (gk_F 0 rfl gk_nil) ?_
                  refine sxb_step 10 rfl (by kernel_rfl) (show _ = #[true, true, true, true, true, true, true, true, true, true, true, false, false, false, false, true, false, false] from rfl) ?_
                  refine sxo_app 1 eS51_ok rfl Try.underlying45 tf51 rfl rfl rfl rfl rfl (.inl ⟨0, _, rfl⟩) rfl rfl (fun x925 e925 a926 c927 => ?_)
                  refine sxo_nil ?_
                  refine sxq_anyB (.cons 1 rfl .nil) (gk_F 0 rfl gk_nil) ?_
                  refine sxb_step 11 rfl (by kernel_rfl) (show _ = #[true, true, true, true, true, true, true, true, true, true, true, true, false, false, false, true, false, false] from rfl) ?_
                  refine sxo_call ent23 rfl rfl rfl (fun x928 e928 => C_graph_Of F (x1.length : Int) x925 a926 c927 x928 e928) (.consR 0 (Ro eS51 51 2 (.slice a926 x925.length c927) x925) rfl .nil) (fun x928 e928 => ?_)
                  rintro ⟨a929, c930⟩
                  refine sxo_nil ?_
                  refine sxq_anyB (.cons 1 rfl .nil) (gk_F 0 rfl gk_nil) ?_
                  refine sxb_takeP 12 (.tuple #[.agg #[.slice a929 x928.1.length c930.1], .int .i64 x928.2]) rfl rfl rfl rfl (by kernel_rfl) (by kernel_rfl) (by kernel_rfl) (by kernel_rfl) (by kernel_rfl) rfl (show _ = #[true, true, true, true, true, true, true, true, true, true, true, true, true, false, false, true, false, false] from rfl) (yv_pv rfl) ?_
                  refine sxb_takeP 13 (.agg #[.slice a929 x928.1.length c930.1]) rfl rfl rfl rfl (by kernel_rfl) (by kernel_rfl) (by kernel_rfl) (by kernel_rfl) (by kernel_rfl) rfl (show _ = #[true, true, true, true, true, true, true, true, true, true, true, true, true, true, false, true, false, false] from rfl) (yv_pv rfl) ?_
                  refine sxb_takeP 14 (.int .i64 x928.2) rfl rfl rfl rfl (by kernel_rfl) (by kernel_rfl) (by kernel_rfl) (by kernel_rfl) (by kernel_rfl) rfl (show _ = #[true, true, true, true, true, true, true, true, true, true, true, true, true, true, true, true, false, false] from rfl) (yv_pv rfl) ?_
                  refine sxb_step 16 rfl (by kernel_rfl) (show _ = #[true, true, true, true, true, true, true, true, true, true, true, true, true, true, true, true, true, false] from rfl) ?_
                  refine sxo_storeB (i := 0) rfl rfl rfl tf24 rfl rfl rfl rfl rfl ?_
                  refine sxo_nil ?_
                  refine sxq_anyB (.cons 1 rfl .nil) (gk_F 0 rfl gk_nil) ?_
                  refine sxb_takeP 17 (.int .i64 x928.2) rfl rfl rfl rfl (by kernel_rfl) (by kernel_rfl) (by kernel_rfl) (by kernel_rfl) (by kernel_rfl) rfl (show _ = #[true, true, true, true, true, true, true, true, true, true, true, true, true, true, true, true, true, true] from rfl) (yv_pv rfl) ?_
                  refine sxb_done (by kernel_rfl) ?_
                  refine sxq_np ?_ (by intro c h; cases h)
                  exact sxq_meetP ((x928.2, x928.1), (g917, a929, c930)) (lk_cons rfl (lk_cons rfl (lk_cons rfl (lk_cons rfl (lk_cons rfl lk_nil))))) (.cons 0 rfl .nil) (.cons 4 rfl (.cons 0 rfl .nil)) fk_nil
                · refine sxo_meq (m' := ((app 4398046511104 ([] : List (Int × Int)) x108.1).bind fun x933 => ((app 4398046511104 x933 ([(x5, x6)] : List (Int × Int))).bind fun x936 => ((M_graph_Of F (x1.length : Int) x936).bind fun x939 => M_L_WalkThree_j3 F x4 x8 x108 x939.2 x939.1)))) (rfl) ?_
                  refine sxo_slit (vs := [.agg #[.int .i64 x5, .int .i64 x6]]) (ys := ([(x5, x6)] : List (Int × Int))) eS51_ok (by decide) rfl Try.underlying45 tf51 rfl rfl rfl rfl rfl (by decide) (fun a931 c932 => ?_)
                  refine sxo_nil ?_
                  refine sxq_anyB (.cons 1 rfl .nil) (gk_F 0 rfl gk_nil) ?_
                  refine sxb_step 5 rfl (by kernel_rfl) (show _ = #[true, true, true, true, true, true, true, true, true, true, false, false, false, false, false, true, false, false] from rfl) ?_
                  refine sxo_app 1 eS51_ok rfl Try.underlying45 tf51 rfl rfl rfl rfl rfl (.inl ⟨2, _, rfl⟩) rfl rfl (fun x933 e933 a934 c935 => ?_)
                  refine sxo_nil ?_
                  refine sxq_anyB (.cons 1 rfl .nil) (gk_F 0 rfl gk_nil) ?_
                  refine sxb_step 10 rfl (by kernel_rfl) (show _ = #[true, true, true, true, true, true, true, true, true, true, true, false, false, false, false, true, false, false] from rfl) ?_
                  refine sxo_app 0 eS51_ok rfl Try.underlying45 tf51 rfl rfl rfl rfl rfl (.inl ⟨1, _, rfl⟩) rfl rfl (fun x936 e936 a937 c938 => ?_)
                  refine sxo_nil ?_
                  refine sxq_anyB (.cons 1 rfl .nil) (gk_F 0 rfl gk_nil) ?_
                  refine sxb_step 11 rfl (by kernel_rfl) (show _ = #[true, true, true, true, true, true, true, true, true, true, true, true, false, false, false, true, false, false] from rfl) ?_
                  refine sxo_call ent23 rfl rfl rfl (fun x939 e939 => C_graph_Of F (x1.length : Int) x936 a937 c938 x939 e939) (.consR 0 (Ro eS51 51 2 (.slice a937 x936.length c938) x936) rfl .nil) (fun x939 e939 => ?_)
                  rintro ⟨a940, c941⟩
                  refine sxo_nil ?_
                  refine sxq_anyB (.cons 1 rfl .nil) (gk_F 0 rfl gk_nil) ?_
                  refine sxb_takeP 12 (.tuple #[.agg #[.slice a940 x939.1.length c941.1], .int .i64 x939.2]) rfl rfl rfl rfl (by kernel_rfl) (by kernel_rfl) (by kernel_rfl) (by kernel_rfl) (by kernel_rfl) rfl (show _ = #[true, true, true, true, true, true, true, true, true, true, true, true, true, false, false, true, false, false] from rfl) (yv_pv rfl) ?_
                  refine sxb_takeP 13 (.agg #[.slice a940 x939.1.length c941.1]) rfl rfl rfl rfl (by kernel_rfl) (by kernel_rfl) (by kernel_rfl) (by kernel_rfl) (by kernel_rfl) rfl (show _ = #[true, true, true, true, true, true, true, true, true, true, true, true, true, true, false, true, false, false] from rfl) (yv_pv rfl) ?_
                  refine sxb_takeP 14 (.int .i64 x939.2) rfl rfl rfl rfl (by kernel_rfl) (by kernel_rfl) (by kernel_rfl) (by kernel_rfl) (by kernel_rfl) rfl (show _ = #[true, true, true, true, true, true, true, true, true, true, true, true, true, true, true, true, false, false] from rfl) (yv_pv rfl) ?_
                  refine sxb_step 16 rfl (by kernel_rfl) (show _ = #[true, true, true, true, true, true, true, true, true, true, true, true, true, true, true, true, true, false] from rfl) ?_
                  refine sxo_storeB (i := 0) rfl rfl rfl tf24 rfl rfl rfl rfl rfl ?_
                  refine sxo_nil ?_
                  refine sxq_anyB (.cons 1 rfl .nil) (gk_F 0 rfl gk_nil) ?_
                  refine sxb_takeP 17 (.int .i64 x939.2) rfl rfl rfl rfl (by kernel_rfl) (by kernel_rfl) (by kernel_rfl) (by kernel_rfl) (by kernel_rfl) rfl (show _ = #[true, true, true, true, true, true, true, true, true, true, true, true, true, true, true, true, true, true] from rfl) (yv_pv rfl) ?_
                  refine sxb_done (by kernel_rfl) ?_
                  refine sxq_np ?_ (by intro c h; cases h)
                  exact sxq_meetP ((x939.2, x939.1), (g917, a940, c941)) (lk_cons rfl (lk_cons rfl (lk_cons rfl (lk_cons rfl (lk_cons rfl lk_nil))))) (.cons 0 rfl .nil) (.cons 4 rfl (.cons 0 rfl .nil)) fk_nil
              · refine sxo_meq (m' := ((app 4398046511104 ([] : List (Int × Int)) x108.1).bind fun x946 => ((app 4398046511104 x946 ([(x5, x6)] : List (Int × Int))).bind fun x949 => ((M_graph_Of F (x1.length : Int) x949).bind fun x952 => M_L_WalkThree_j3 F x4 x8 x108 x952.2 x952.1)))) (rfl) ?_
                refine sxo_slit (vs := [.agg #[.int .i64 x5, .int .i64 x6]]) (ys := ([(x5, x6)] : List (Int × Int))) eS51_ok (by decide) rfl Try.underlying45 tf51 rfl rfl rfl rfl rfl (by decide) (fun a942 c943 => ?_)
                refine sxo_nil ?_
                refine sxq_anyB (.cons 1 rfl .nil) (gk_F 0 rfl gk_nil) ?_
                refine sxb_step 3 rfl (by kernel_rfl) (show _ = #[true, true, true, true, true, false, true, true, true, true, false, false, false, false, false, true, false, false] from rfl) ?_
                refine sxo_slit (vs := []) (ys := ([] : List (Int × Int))) eS51_ok (by decide) rfl Try.underlying45 tf51 rfl rfl rfl rfl rfl (by decide) (fun a944 c945 => ?_)
                refine sxo_nil ?_
                refine sxq_anyB (.cons 1 rfl .nil) (gk_F 0 rfl gk_nil) ?_
                refine sxb_step 5 rfl (by kernel_rfl) (show _ = #[true, true, true, true, true, true, true, true, true, true, false, false, false, false, false, true, false, false] from rfl) ?_
                refine sxo_app 0 eS51_ok rfl Try.underlying45 tf51 rfl rfl rfl rfl rfl (.inl ⟨2, _, rfl⟩) rfl rfl (fun x946 e946 a947 c948 => ?_)
                refine sxo_nil ?_
                refine sxq_anyB (.cons 1 rfl .nil) (gk_F 0 rfl gk_nil) ?_
                refine sxb_step 10 rfl (by kernel_rfl) (show _ = #[true, true, true, true, true, true, true, true, true, true, true, false, false, false, false, true, false, false] from rfl) ?_
                refine sxo_app 0 eS51_ok rfl Try.underlying45 tf51 rfl rfl rfl rfl rfl (.inl ⟨1, _, rfl⟩) rfl rfl (fun x949 e949 a950 c951 => ?_)
                refine sxo_nil ?_
                refine sxq_anyB (.cons 1 rfl .nil) (gk_F 0 rfl gk_nil) ?_
                refine sxb_step 11 rfl (by kernel_rfl) (show _ = #[true, true, true, true, true, true, true, true, true, true, true, true, false, false, false, true, false, false] from rfl) ?_
                refine sxo_call ent23 rfl rfl rfl (fun x952 e952 => C_graph_Of F (x1.length : Int) x949 a950 c951 x952 e952) (.consR 0 (Ro eS51 51 2 (.slice a950 x949.length c951) x949) rfl .nil) (fun x952 e952 => ?_)
                rintro ⟨a953, c954⟩
                refine sxo_nil ?_
                refine sxq_anyB (.cons 1 rfl .nil) (gk_F 0 rfl gk_nil) ?_
                refine sxb_takeP 12 (.tuple #[.agg #[.slice a953 x952.1.length c954.1], .int .i64 x952.2]) rfl rfl rfl rfl (by kernel_rfl) (by kernel_rfl) (by kernel_rfl) (by kernel_rfl) (by kernel_rfl) rfl (show _ = #[true, true, true, true, true, true, true, true, true, true, true, true, true, false, false, true, false, false] from rfl) (yv_pv rfl) ?_
                refine sxb_takeP 13 (.agg #[.slice a953 x952.1.length c954.1]) rfl rfl rfl rfl (by kernel_rfl) (by kernel_rfl) (by kernel_rfl) (by kernel_rfl) (by kernel_rfl) rfl (show _ = #[true, true, true, true, true, true, true, true, true, true, true, true, true, true, false, true, false, false] from rfl) (yv_pv rfl) ?_
                refine sxb_takeP 14 (.int .i64 x952.2) rfl rfl rfl rfl (by kernel_rfl) (by kernel_rfl) (by kernel_rfl) (by kernel_rfl) (by kernel_rfl) rfl (show _ = #[true, true, true, true, true, true, true, true, true, true, true, true, true, true, true, true, false, false] from rfl) (yv_pv rfl) ?_
                refine sxb_step 16 rfl (by kernel_rfl) (show _ = #[true, true, true, true, true, true, true, true, true, true, true, true, true, true, true, true, true, false] from rfl) ?_
                refine sxo_storeB (i := 0) rfl rfl rfl tf24 rfl rfl rfl rfl rfl ?_
                refine sxo_nil ?_
                refine sxq_anyB (.cons 1 rfl .nil) (gk_F 0 rfl gk_nil) ?_
                refine sxb_takeP 17 (.int .i64 x952.2) rfl rfl rfl rfl (by kernel_rfl) (by kernel_rfl) (by kernel_rfl) (by kernel_rfl) (by kernel_rfl) rfl (show _ = #[true, true, true, true, true, true, true, true, true, true, true, true, true, true, true, true, true, true] from rfl) (yv_pv rfl) ?_
                refine sxb_done (by kernel_rfl) ?_
                refine sxq_np ?_ (by intro c h; cases h)
                exact sxq_meetP ((x952.2, x952.1), (g917, a953, c954)) (lk_cons rfl (lk_cons rfl (lk_cons rfl (lk_cons rfl (lk_cons rfl lk_nil))))) (.cons 0 rfl .nil) (.cons 4 rfl (.cons 0 rfl .nil)) fk_nil
          · rintro ⟨⟨x287, x290⟩, ⟨g286, a288, c289⟩⟩
            try dsimp only
            refine sxc_seq ?_
            refine sxc_seq ?_
            refine sxc_region ?_
            refine sxo_move rfl rfl rfl ?_
            refine sxo_neq rfl rfl rfl rfl ?_
            refine sxo_move rfl rfl rfl ?_
            refine sxo_case 3 ((x108.2 : Int) != 0) [(1, .int .i64 x4), (9, .slice a9 x8.1.length c10), (14, .int .i64 x108.2), (15, .pointer (some ⟨g286, 0, none⟩)), (16, .int .i64 x287), (110, .bool (((x108.2 : Int) != 0) || ((x287 : Int) != 0)))] (fun h297 => ?_) (fun h297 => ?_) ?_
            · refine sxo_take (os := _) rfl ?_
              refine sxo_isT (k := 107) rfl h297 ?_
              refine sxo_skip rfl rfl rfl ?_
              refine sxo_skip rfl rfl rfl ?_
              refine sxo_pick (b := true) rfl rfl rfl rfl ?_
              refine sxo_again (d := 110) (v := .bool (((x108.2 : Int) != 0) || ((x287 : Int) != 0))) rfl (by rw [h297]; simp only [Bool.true_or]) ?_
              refine sxo_nil ?_
              exact sxq_case (lk_cons rfl (lk_cons rfl (lk_cons rfl (lk_cons rfl (lk_cons rfl (lk_cons rfl lk_nil))))))
            · refine sxo_take (os := _) rfl ?_
              refine sxo_isF (k := 107) rfl h297 ?_
              refine sxo_move rfl rfl rfl ?_
              refine sxo_neq rfl rfl rfl rfl ?_
              refine sxo_pick (b := false) rfl rfl rfl rfl ?_
              refine sxo_again (d := 110) (v := .bool (((x108.2 : Int) != 0) || ((x287 : Int) != 0))) rfl (by rw [h297]; simp only [Bool.false_or]) ?_
              refine sxo_nil ?_
              exact sxq_case (lk_cons rfl (lk_cons rfl (lk_cons rfl (lk_cons rfl (lk_cons rfl (lk_cons rfl lk_nil))))))
            refine sxo_take (os := _) rfl ?_
            refine sxo_nil ?_
            refine sxq_next ?_
            refine sxc_if rfl (fun h779 => ?_) (fun h779 => ?_)
            · refine sxc_seq ?_
              refine sxc_region ?_
              refine sxo_move rfl rfl rfl ?_
              refine sxo_eql rfl rfl rfl rfl ?_
              refine sxo_move rfl rfl rfl ?_
              refine sxo_join 7 (fun ((x300, _) : (Bool × Unit)) => [(120, .bool x300)]) (fun ((x300, _) : (Bool × Unit)) => []) (fun ((x300, _) : (Bool × Unit)) => []) (fun ((x300, _) : (Bool × Unit)) => []) (fun ((x300, _) : (Bool × Unit)) => M_L_WalkThree_j5 F x300) ?_ ?_
              · refine sxo_take (os := _) rfl ?_
                refine sxo_if (fun h298 => ?_) (fun h298 => ?_)
                · refine sxo_isT (k := 113) rfl h298 ?_
                  refine sxo_move rfl rfl rfl ?_
                  refine sxo_eql rfl rfl rfl rfl ?_
                  refine sxo_move rfl rfl rfl ?_
                  refine sxo_case 3 ((x287 : Int) == 6) [(113, .bool true), (119, .bool (((x287 : Int) == 6) || ((x287 : Int) == 2)))] (fun h301 => ?_) (fun h301 => ?_) ?_
                  · refine sxo_take (os := _) rfl ?_
                    refine sxo_isT (k := 116) rfl h301 ?_
                    refine sxo_skip rfl rfl rfl ?_
                    refine sxo_skip rfl rfl rfl ?_
                    refine sxo_pick (b := true) rfl rfl rfl rfl ?_
                    refine sxo_again (d := 119) (v := .bool (((x287 : Int) == 6) || ((x287 : Int) == 2))) rfl (by rw [h301]; simp only [Bool.true_or]) ?_
                    refine sxo_nil ?_
                    exact sxq_case (lk_cons rfl (lk_cons rfl lk_nil))
                  · refine sxo_take (os := _) rfl ?_
                    refine sxo_isF (k := 116) rfl h301 ?_
                    refine sxo_move rfl rfl rfl ?_
                    refine sxo_eql rfl rfl rfl rfl ?_
                    refine sxo_pick (b := false) rfl rfl rfl rfl ?_
                    refine sxo_again (d := 119) (v := .bool (((x287 : Int) == 6) || ((x287 : Int) == 2))) rfl (by rw [h301]; simp only [Bool.false_or]) ?_
                    refine sxo_nil ?_
                    exact sxq_case (lk_cons rfl (lk_cons rfl lk_nil))
                  refine sxo_take (os := _) rfl ?_
                  refine sxo_pick (b := true) rfl rfl rfl rfl ?_
                  refine sxo_nil ?_
                  exact sxq_meetP ((((x287 : Int) == 6) || ((x287 : Int) == 2)), ()) (lk_cons rfl lk_nil) .nil .nil fk_nil
                · refine sxo_isF (k := 113) rfl h298 ?_
                  refine sxo_skip rfl rfl rfl ?_
                  refine sxo_skip rfl rfl rfl ?_
                  refine sxo_skip rfl rfl rfl ?_
                  refine sxo_skip rfl rfl rfl ?_
                  refine sxo_skip rfl rfl rfl ?_
                  refine sxo_skip rfl rfl rfl ?_
                  refine sxo_pick (b := false) rfl rfl rfl rfl ?_
                  refine sxo_nil ?_
                  exact sxq_meetP (false, ()) (lk_cons rfl lk_nil) .nil .nil fk_nil
              · rintro ⟨x300, _⟩
                try dsimp only
                refine sxo_take (os := _) rfl ?_
                refine sxo_assign rfl rfl rfl ?_
                refine sxo_nil ?_
                refine sxq_next ?_
                refine sxc_ret ?_
                refine sxq_thenR ?_
                exact sxq_doneP () (.inl rfl) (res1 rfl rfl) (fun h => by subst h; rfl) (fun h => by subst h; exact .nil)
            · refine sxc_skip ?_
              refine sxq_next ?_
              refine sxc_seq ?_
              refine sxc_region ?_
              refine sxo_loadB (i := 0) rfl rfl tf24 rfl rfl (by simp) rfl rfl ?_
              refine sxo_move rfl rfl rfl ?_
              refine sxo_call ent10 rfl rfl rfl (fun x302 e302 => C_walk_Far F x290 a288 c289 x4 x302 e302) (.consG 1 rfl (nest_sl rN25_in) .nil) (fun x302 e302 => ?_)
              rintro ⟨a303, c304⟩
              refine sxo_move rfl rfl rfl ?_
              refine sxo_extract rfl rfl rfl rfl ?_
              refine sxo_extract rfl rfl rfl rfl ?_
              refine sxo_assign rfl rfl rfl ?_
              refine sxo_assign rfl rfl rfl ?_
              refine sxo_nil ?_
              refine sxq_next ?_
              refine sxc_seq ?_
              refine sxc_seq ?_
              refine sxc_region ?_
              refine sxo_move rfl rfl rfl ?_
              refine sxo_neq rfl rfl rfl rfl ?_
              refine sxo_nil ?_
              refine sxq_next ?_
              refine sxc_if rfl (fun h778 => ?_) (fun h778 => ?_)
              · refine sxc_seq ?_
                refine sxc_region ?_
                refine sxo_assign rfl rfl rfl ?_
                refine sxo_nil ?_
                refine sxq_next ?_
                refine sxc_ret ?_
                refine sxq_thenR ?_
                exact sxq_doneP () (.inl rfl) (res1 rfl rfl) (fun h => by subst h; rfl) (fun h => by subst h; exact .nil)
              · refine sxc_skip ?_
                refine sxq_next ?_
                refine sxc_join (fun ((_, _) : (Unit × Unit)) => []) (fun ((_, _) : (Unit × Unit)) => []) (fun ((_, _) : (Unit × Unit)) => []) (fun ((_, _) : (Unit × Unit)) => []) (fun ((_, _) : (Unit × Unit)) => M_L_WalkThree_j13 F) ?_ ?_
                · refine sxc_seq ?_
                  refine sxc_region ?_
                  refine sxo_assign rfl rfl rfl ?_
                  refine sxo_nil ?_
                  refine sxq_next ?_
                  refine sxc_block ?_
                  refine sxc_loopP (fun ((x620, _) : (Int × Unit)) => [(9, .slice a9 x8.1.length c10), (17, .slice a303 x302.1.length c304), (19, .int .i64 x620)]) (fun ((x620, _) : (Int × Unit)) => []) (fun ((x620, _) : (Int × Unit)) => [Ro (eI .i64) 3 1 (.slice a9 x8.1.length c10) x8.1, Ro (eI .i64) 3 1 (.slice a303 x302.1.length c304) x302.1]) (fun ((x620, _) : (Int × Unit)) => []) (fun k (s : (Int × Unit)) => M_L_WalkThree_l18 F x8 x302 k s.1) (0, ()) F (lk_cons rfl (lk_cons rfl (lk_cons rfl lk_nil))) .nil (.cons 1 rfl (.cons 0 rfl .nil)) fk_nil (fun _ => rfl) ?_
                  intro k699
                  rintro ⟨x620, _⟩
                  try dsimp only
                  refine sxc_meq (m' := M_L_WalkThree_b18 F x8 x302 (M_L_WalkThree_l18 F x8 x302 k699) x620) rfl ?_
                  refine sxc_seq ?_
                  refine sxc_seq ?_
                  refine sxc_region ?_
                  refine sxo_move rfl rfl rfl ?_
                  refine sxo_move rfl rfl rfl ?_
                  refine sxo_len rfl Try.underlying25 rfl rfl ?_
                  refine sxo_lss rfl rfl rfl rfl ?_
                  refine sxo_nil ?_
                  refine sxq_next ?_
                  refine sxc_if rfl (fun h777 => ?_) (fun h777 => ?_)
                  · refine sxc_skip ?_
                    refine sxq_next ?_
                    refine sxc_seq ?_
                    refine sxc_block ?_
                    refine sxc_join (fun ((x757, _) : (Bool × Unit)) => [(9, .slice a9 x8.1.length c10), (17, .slice a303 x302.1.length c304), (19, .int .i64 x620), (157, .bool x757)]) (fun ((x757, _) : (Bool × Unit)) => []) (fun ((x757, _) : (Bool × Unit)) => [Ro (eI .i64) 3 1 (.slice a9 x8.1.length c10) x8.1, Ro (eI .i64) 3 1 (.slice a303 x302.1.length c304) x302.1]) (fun ((x757, _) : (Bool × Unit)) => []) (fun ((x757, _) : (Bool × Unit)) => M_L_WalkThree_j20 F (M_L_WalkThree_l18 F x8 x302 k699) x620 x757) ?_ ?_
                    · refine sxc_idxO (j := 0) rfl (fun x759 e759 g760 h761 => ?_)
                      replace h761 : a9 = some ⟨g760, 0, none⟩ := h761
                      have h762 := own_of (k := x8.1.length) (c := c10) h761
                      refine sxc_split (fun h763 => ?_) (fun h763 => ?_)
                      · refine sxc_idxO (j := 1) rfl (fun x764 e764 g765 h766 => ?_)
                        replace h766 : a303 = some ⟨g765, 0, none⟩ := h766
                        have h767 := own_of (k := x302.1.length) (c := c304) h766
                        refine sxc_split (fun h768 => ?_) (fun h768 => ?_)
                        · refine sxb_draw mixed [] [] [CellsAt g760 (x620.toNat * 1) ((eI .i64) x759), CellsAt g765 (x620.toNat * 1) ((eI .i64) x764)] .nil (gk_R 0 rfl (at_row (eI_ok .i64) e759 h761) (gk_R 1 rfl (at_row (eI_ok .i64) e764 h766) gk_nil)) 23 rfl ?_
                          refine sxb_takeP 0 (.slice a9 x8.1.length c10) rfl rfl rfl rfl (by kernel_rfl) (by kernel_rfl) (by kernel_rfl) (by kernel_rfl) (by kernel_rfl) rfl (show _ = #[true, false, false, false, false, false, false, false, false, false, false, false, false, false, false, false, false, false, false, false, false, false, false] from rfl) (yv_pv rfl) ?_
                          refine sxb_takeP 1 (.int .i64 x620) rfl rfl rfl rfl (by kernel_rfl) (by kernel_rfl) (by kernel_rfl) (by kernel_rfl) (by kernel_rfl) rfl (show _ = #[true, true, false, false, false, false, false, false, false, false, false, false, false, false, false, false, false, false, false, false, false, false, false] from rfl) (yv_pv rfl) ?_
                          refine sxb_again (d := 135) (v := .slice (some ⟨g760, 0, none⟩) x8.1.length c10) rfl (by rw [h761] <;> rfl) ?_
                          refine sxb_takeP 2 (.pointer (some ⟨g760, x620.toNat * 1, none⟩)) rfl rfl rfl rfl (by kernel_rfl) (by kernel_rfl) (by kernel_rfl) (by kernel_rfl) (by kernel_rfl) rfl (show _ = #[true, true, true, false, false, false, false, false, false, false, false, false, false, false, false, false, false, false, false, false, false, false, false] from rfl) (yv_idxO Try.underlying25 tf3 rfl rfl (idx_get e759).1 (idx_lt e759)) ?_
                          refine sxb_again (d := 135) (v := .slice a9 x8.1.length c10) rfl (by rw [h761] <;> rfl) ?_
                          refine sxb_take 3 (.int .i64 x759) [] rfl rfl rfl rfl (by kernel_rfl) (by kernel_rfl) (by kernel_rfl) (by kernel_rfl) (by kernel_rfl) (by kernel_rfl) rfl (show _ = #[true, true, true, true, false, false, false, false, false, false, false, false, false, false, false, false, false, false, false, false, false, false, false] from rfl) (yv_loadF (j := 0) rfl tf3 rfl rfl (fun _ => rfl) rfl) ?_
                          refine sxb_takeP 4 (.bool (decide (0 ≤ x759))) rfl rfl rfl rfl (by kernel_rfl) (by kernel_rfl) (by kernel_rfl) (by kernel_rfl) (by kernel_rfl) rfl (show _ = #[true, true, true, true, true, false, false, false, false, false, false, false, false, false, false, false, false, false, false, false, false, false, false] from rfl) (yv_pv rfl) ?_
                          refine sxb_takeP 5 (.bool (decide (0 ≤ x759))) rfl rfl rfl rfl (by kernel_rfl) (by kernel_rfl) (by kernel_rfl) (by kernel_rfl) (by kernel_rfl) rfl (show _ = #[true, true, true, true, true, true, false, false, false, false, false, false, false, false, false, false, false, false, false, false, false, false, false] from rfl) (yv_pv rfl) ?_
                          refine sxb_again (d := 140) (v := .bool true) rfl (by rw [h763] <;> rfl) ?_
                          refine sxb_takeP 6 (.slice a303 x302.1.length c304) rfl rfl rfl rfl (by kernel_rfl) (by kernel_rfl) (by kernel_rfl) (by kernel_rfl) (by kernel_rfl) rfl (show _ = #[true, true, true, true, true, true, true, false, false, false, false, false, false, false, false, false, false, false, false, false, false, false, false] from rfl) (yv_pv rfl) ?_
                          refine sxb_takeP 7 (.int .i64 x620) rfl rfl rfl rfl (by kernel_rfl) (by kernel_rfl) (by kernel_rfl) (by kernel_rfl) (by kernel_rfl) rfl (show _ = #[true, true, true, true, true, true, true, true, false, false, false, false, false, false, false, false, false, false, false, false, false, false, false] from rfl) (yv_pv rfl) ?_
                          refine sxb_again (d := 141) (v := .slice (some ⟨g765, 0, none⟩) x302.1.length c304) rfl (by rw [h766] <;> rfl) ?_
                          refine sxb_takeP 8 (.pointer (some ⟨g765, x620.toNat * 1, none⟩)) rfl rfl rfl rfl (by kernel_rfl) (by kernel_rfl) (by kernel_rfl) (by kernel_rfl) (by kernel_rfl) rfl (show _ = #[true, true, true, true, true, true, true, true, true, false, false, false, false, false, false, false, false, false, false, false, false, false, false] from rfl) (yv_idxO Try.underlying25 tf3 rfl rfl (idx_get e764).1 (idx_lt e764)) ?_
                          refine sxb_again (d := 141) (v := .slice a303 x302.1.length c304) rfl (by rw [h766] <;> rfl) ?_
                          refine sxb_take 9 (.int .i64 x764) [] rfl rfl rfl rfl (by kernel_rfl) (by kernel_rfl) (by kernel_rfl) (by kernel_rfl) (by kernel_rfl) (by kernel_rfl) rfl (show _ = #[true, true, true, true, true, true, true, true, true, true, false, false, false, false, false, false, false, false, false, false, false, false, false] from rfl) (yv_loadF (j := 1) rfl tf3 rfl rfl (fun _ => rfl) rfl) ?_
                          refine sxb_takeP 10 (.bool (decide (x764 < 0))) rfl rfl rfl rfl (by kernel_rfl) (by kernel_rfl) (by kernel_rfl) (by kernel_rfl) (by kernel_rfl) rfl (show _ = #[true, true, true, true, true, true, true, true, true, true, true, false, false, false, false, false, false, false, false, false, false, false, false] from rfl) (yv_pv rfl) ?_
                          refine sxb_takeP 11 (.bool (decide (x764 < 0))) rfl rfl rfl rfl (by kernel_rfl) (by kernel_rfl) (by kernel_rfl) (by kernel_rfl) (by kernel_rfl) rfl (show _ = #[true, true, true, true, true, true, true, true, true, true, true, true, false, false, false, false, false, false, false, false, false, false, false] from rfl) (yv_pv rfl) ?_
                          refine sxb_again (d := 146) (v := .bool true) rfl (by rw [h768] <;> rfl) ?_
                          refine sxb_skip 12 rfl rfl rfl rfl (by kernel_rfl) (by kernel_rfl) (by kernel_rfl) (by kernel_rfl) (by kernel_rfl) rfl (show _ = #[true, true, true, true, true, true, true, true, true, true, true, true, true, false, false, false, false, false, false, false, false, false, false] from rfl) ?_
                          refine sxb_skip 13 rfl rfl rfl rfl (by kernel_rfl) (by kernel_rfl) (by kernel_rfl) (by kernel_rfl) (by kernel_rfl) rfl (show _ = #[true, true, true, true, true, true, true, true, true, true, true, true, true, true, false, false, false, false, false, false, false, false, false] from rfl) ?_
                          refine sxb_skip 14 rfl rfl rfl rfl (by kernel_rfl) (by kernel_rfl) (by kernel_rfl) (by kernel_rfl) (by kernel_rfl) rfl (show _ = #[true, true, true, true, true, true, true, true, true, true, true, true, true, true, true, false, false, false, false, false, false, false, false] from rfl) ?_
                          refine sxb_skip 15 rfl rfl rfl rfl (by kernel_rfl) (by kernel_rfl) (by kernel_rfl) (by kernel_rfl) (by kernel_rfl) rfl (show _ = #[true, true, true, true, true, true, true, true, true, true, true, true, true, true, true, true, false, false, false, false, false, false, false] from rfl) ?_
                          refine sxb_skip 16 rfl rfl rfl rfl (by kernel_rfl) (by kernel_rfl) (by kernel_rfl) (by kernel_rfl) (by kernel_rfl) rfl (show _ = #[true, true, true, true, true, true, true, true, true, true, true, true, true, true, true, true, true, false, false, false, false, false, false] from rfl) ?_
                          refine sxb_skip 17 rfl rfl rfl rfl (by kernel_rfl) (by kernel_rfl) (by kernel_rfl) (by kernel_rfl) (by kernel_rfl) rfl (show _ = #[true, true, true, true, true, true, true, true, true, true, true, true, true, true, true, true, true, true, false, false, false, false, false] from rfl) ?_
                          refine sxb_skip 18 rfl rfl rfl rfl (by kernel_rfl) (by kernel_rfl) (by kernel_rfl) (by kernel_rfl) (by kernel_rfl) rfl (show _ = #[true, true, true, true, true, true, true, true, true, true, true, true, true, true, true, true, true, true, true, false, false, false, false] from rfl) ?_
                          refine sxb_skip 19 rfl rfl rfl rfl (by kernel_rfl) (by kernel_rfl) (by kernel_rfl) (by kernel_rfl) (by kernel_rfl) rfl (show _ = #[true, true, true, true, true, true, true, true, true, true, true, true, true, true, true, true, true, true, true, true, false, false, false] from rfl) ?_
                          refine sxb_skip 20 rfl rfl rfl rfl (by kernel_rfl) (by kernel_rfl) (by kernel_rfl) (by kernel_rfl) (by kernel_rfl) rfl (show _ = #[true, true, true, true, true, true, true, true, true, true, true, true, true, true, true, true, true, true, true, true, true, false, false] from rfl) ?_
                          refine sxb_takeP 21 (.bool true) rfl rfl rfl rfl (by kernel_rfl) (by kernel_rfl) (by kernel_rfl) (by kernel_rfl) (by kernel_rfl) rfl (show _ = #[true, true, true, true, true, true, true, true, true, true, true, true, true, true, true, true, true, true, true, true, true, true, false] from rfl) (yv_pv rfl) ?_
                          refine sxb_takeP 22 (.bool true) rfl rfl rfl rfl (by kernel_rfl) (by kernel_rfl) (by kernel_rfl) (by kernel_rfl) (by kernel_rfl) rfl (show _ = #[true, true, true, true, true, true, true, true, true, true, true, true, true, true, true, true, true, true, true, true, true, true, true] from rfl) (yv_pv rfl) ?_
                          refine sxb_done (by kernel_rfl) ?_
                          refine sxq_np ?_ (by intro c h; cases h)
                          exact sxq_meetP (true, ()) (lk_cons rfl (lk_cons rfl (lk_cons rfl (lk_cons rfl lk_nil)))) .nil (.cons 0 rfl (.cons 0 rfl .nil)) fk_nil
                        · refine sxc_idxO (j := 1) rfl (fun x769 e769 g770 h771 => ?_)
                          replace h771 : a303 = some ⟨g770, 0, none⟩ := h771
                          have h772 := own_of (k := x302.1.length) (c := c304) h771
                          refine sxc_idxO (j := 0) rfl (fun x773 e773 g774 h775 => ?_)
                          replace h775 : a9 = some ⟨g774, 0, none⟩ := h775
                          have h776 := own_of (k := x8.1.length) (c := c10) h775
                          refine sxb_draw mixed [] [] [CellsAt g760 (x620.toNat * 1) ((eI .i64) x759), CellsAt g765 (x620.toNat * 1) ((eI .i64) x764), CellsAt g770 (x620.toNat * 1) ((eI .i64) x769), CellsAt g774 (x620.toNat * 1) ((eI .i64) x773)] .nil (gk_R 0 rfl (at_row (eI_ok .i64) e759 h761) (gk_R 1 rfl (at_row (eI_ok .i64) e764 h766) (gk_R 1 rfl (at_row (eI_ok .i64) e769 h771) (gk_R 0 rfl (at_row (eI_ok .i64) e773 h775) gk_nil)))) 23 rfl ?_
                          refine sxb_takeP 0 (.slice a9 x8.1.length c10) rfl rfl rfl rfl (by kernel_rfl) (by kernel_rfl) (by kernel_rfl) (by kernel_rfl) (by kernel_rfl) rfl (show _ = #[true, false, false, false, false, false, false, false, false, false, false, false, false, false, false, false, false, false, false, false, false, false, false] from rfl) (yv_pv rfl) ?_
                          refine sxb_takeP 1 (.int .i64 x620) rfl rfl rfl rfl (by kernel_rfl) (by kernel_rfl) (by kernel_rfl) (by kernel_rfl) (by kernel_rfl) rfl (show _ = #[true, true, false, false, false, false, false, false, false, false, false, false, false, false, false, false, false, false, false, false, false, false, false] from rfl) (yv_pv rfl) ?_
                          refine sxb_again (d := 135) (v := .slice (some ⟨g760, 0, none⟩) x8.1.length c10) rfl (by rw [h761] <;> rfl) ?_
                          refine sxb_takeP 2 (.pointer (some ⟨g760, x620.toNat * 1, none⟩)) rfl rfl rfl rfl (by kernel_rfl) (by kernel_rfl) (by kernel_rfl) (by kernel_rfl) (by kernel_rfl) rfl (show _ = #[true, true, true, false, false, false, false, false, false, false, false, false, false, false, false, false, false, false, false, false, false, false, false] from rfl) (yv_idxO Try.underlying25 tf3 rfl rfl (idx_get e759).1 (idx_lt e759)) ?_
                          refine sxb_again (d := 135) (v := .slice a9 x8.1.length c10) rfl (by rw [h761] <;> rfl) ?_
                          refine sxb_take 3 (.int .i64 x759) [] rfl rfl rfl rfl (by kernel_rfl) (by kernel_rfl) (by kernel_rfl) (by kernel_rfl) (by kernel_rfl) (by kernel_rfl) rfl (show _ = #[true, true, true, true, false, false, false, false, false, false, false, false, false, false, false, false, false, false, false, false, false, false, false] from rfl) (yv_loadF (j := 0) rfl tf3 rfl rfl (fun _ => rfl) rfl) ?_
                          refine sxb_takeP 4 (.bool (decide (0 ≤ x759))) rfl rfl rfl rfl (by kernel_rfl) (by kernel_rfl) (by kernel_rfl) (by kernel_rfl) (by kernel_rfl) rfl (show _ = #[true, true, true, true, true, false, false, false, false, false, false, false, false, false, false, false, false, false, false, false, false, false, false] from rfl) (yv_pv rfl) ?_
                          refine sxb_takeP 5 (.bool (decide (0 ≤ x759))) rfl rfl rfl rfl (by kernel_rfl) (by kernel_rfl) (by kernel_rfl) (by kernel_rfl) (by kernel_rfl) rfl (show _ = #[true, true, true, true, true, true, false, false, false, false, false, false, false, false, false, false, false, false, false, false, false, false, false] from rfl) (yv_pv rfl) ?_
                          refine sxb_again (d := 140) (v := .bool true) rfl (by rw [h763] <;> rfl) ?_
                          refine sxb_takeP 6 (.slice a303 x302.1.length c304) rfl rfl rfl rfl (by kernel_rfl) (by kernel_rfl) (by kernel_rfl) (by kernel_rfl) (by kernel_rfl) rfl (show _ = #[true, true, true, true, true, true, true, false, false, false, false, false, false, false, false, false, false, false, false, false, false, false, false] from rfl) (yv_pv rfl) ?_
                          refine sxb_takeP 7 (.int .i64 x620) rfl rfl rfl rfl (by kernel_rfl) (by kernel_rfl) (by kernel_rfl) (by kernel_rfl) (by kernel_rfl) rfl (show _ = #[true, true, true, true, true, true, true, true, false, false, false, false, false, false, false, false, false, false, false, false, false, false, false] from rfl) (yv_pv rfl) ?_
                          refine sxb_again (d := 141) (v := .slice (some ⟨g765, 0, none⟩) x302.1.length c304) rfl (by rw [h766] <;> rfl) ?_
                          refine sxb_takeP 8 (.pointer (some ⟨g765, x620.toNat * 1, none⟩)) rfl rfl rfl rfl (by kernel_rfl) (by kernel_rfl) (by kernel_rfl) (by kernel_rfl) (by kernel_rfl) rfl (show _ = #[true, true, true, true, true, true, true, true, true, false, false, false, false, false, false, false, false, false, false, false, false, false, false] from rfl) (yv_idxO Try.underlying25 tf3 rfl rfl (idx_get e764).1 (idx_lt e764)) ?_
                          refine sxb_again (d := 141) (v := .slice a303 x302.1.length c304) rfl (by rw [h766] <;> rfl) ?_
                          refine sxb_take 9 (.int .i64 x764) [] rfl rfl rfl rfl (by kernel_rfl) (by kernel_rfl) (by kernel_rfl) (by kernel_rfl) (by kernel_rfl) (by kernel_rfl) rfl (show _ = #[true, true, true, true, true, true, true, true, true, true, false, false, false, false, false, false, false, false, false, false, false, false, false] from rfl) (yv_loadF (j := 1) rfl tf3 rfl rfl (fun _ => rfl) rfl) ?_
                          refine sxb_takeP 10 (.bool (decide (x764 < 0))) rfl rfl rfl rfl (by kernel_rfl) (by kernel_rfl) (by kernel_rfl) (by kernel_rfl) (by kernel_rfl) rfl (show _ = #[true, true, true, true, true, true, true, true, true, true, true, false, false, false, false, false, false, false, false, false, false, false, false] from rfl) (yv_pv rfl) ?_
                          refine sxb_takeP 11 (.bool (decide (x764 < 0))) rfl rfl rfl rfl (by kernel_rfl) (by kernel_rfl) (by kernel_rfl) (by kernel_rfl) (by kernel_rfl) rfl (show _ = #[true, true, true, true, true, true, true, true, true, true, true, true, false, false, false, false, false, false, false, false, false, false, false] from rfl) (yv_pv rfl) ?_
                          refine sxb_again (d := 146) (v := .bool false) rfl (by rw [h768] <;> rfl) ?_
                          refine sxb_takeP 12 (.slice a303 x302.1.length c304) rfl rfl rfl rfl (by kernel_rfl) (by kernel_rfl) (by kernel_rfl) (by kernel_rfl) (by kernel_rfl) rfl (show _ = #[true, true, true, true, true, true, true, true, true, true, true, true, true, false, false, false, false, false, false, false, false, false, false] from rfl) (yv_pv rfl) ?_
                          refine sxb_takeP 13 (.int .i64 x620) rfl rfl rfl rfl (by kernel_rfl) (by kernel_rfl) (by kernel_rfl) (by kernel_rfl) (by kernel_rfl) rfl (show _ = #[true, true, true, true, true, true, true, true, true, true, true, true, true, true, false, false, false, false, false, false, false, false, false] from rfl) (yv_pv rfl) ?_
                          refine sxb_again (d := 147) (v := .slice (some ⟨g770, 0, none⟩) x302.1.length c304) rfl (by rw [h771] <;> rfl) ?_
                          refine sxb_takeP 14 (.pointer (some ⟨g770, x620.toNat * 1, none⟩)) rfl rfl rfl rfl (by kernel_rfl) (by kernel_rfl) (by kernel_rfl) (by kernel_rfl) (by kernel_rfl) rfl (show _ = #[true, true, true, true, true, true, true, true, true, true, true, true, true, true, true, false, false, false, false, false, false, false, false] from rfl) (yv_idxO Try.underlying25 tf3 rfl rfl (idx_get e769).1 (idx_lt e769)) ?_
                          refine sxb_again (d := 147) (v := .slice a303 x302.1.length c304) rfl (by rw [h771] <;> rfl) ?_
                          refine sxb_take 15 (.int .i64 x769) [] rfl rfl rfl rfl (by kernel_rfl) (by kernel_rfl) (by kernel_rfl) (by kernel_rfl) (by kernel_rfl) (by kernel_rfl) rfl (show _ = #[true, true, true, true, true, true, true, true, true, true, true, true, true, true, true, true, false, false, false, false, false, false, false] from rfl) (yv_loadF (j := 2) rfl tf3 rfl rfl (fun _ => rfl) rfl) ?_
                          refine sxb_takeP 16 (.slice a9 x8.1.length c10) rfl rfl rfl rfl (by kernel_rfl) (by kernel_rfl) (by kernel_rfl) (by kernel_rfl) (by kernel_rfl) rfl (show _ = #[true, true, true, true, true, true, true, true, true, true, true, true, true, true, true, true, true, false, false, false, false, false, false] from rfl) (yv_pv rfl) ?_
                          refine sxb_takeP 17 (.int .i64 x620) rfl rfl rfl rfl (by kernel_rfl) (by kernel_rfl) (by kernel_rfl) (by kernel_rfl) (by kernel_rfl) rfl (show _ = #[true, true, true, true, true, true, true, true, true, true, true, true, true, true, true, true, true, true, false, false, false, false, false] from rfl) (yv_pv rfl) ?_
                          refine sxb_again (d := 151) (v := .slice (some ⟨g774, 0, none⟩) x8.1.length c10) rfl (by rw [h775] <;> rfl) ?_
                          refine sxb_takeP 18 (.pointer (some ⟨g774, x620.toNat * 1, none⟩)) rfl rfl rfl rfl (by kernel_rfl) (by kernel_rfl) (by kernel_rfl) (by kernel_rfl) (by kernel_rfl) rfl (show _ = #[true, true, true, true, true, true, true, true, true, true, true, true, true, true, true, true, true, true, true, false, false, false, false] from rfl) (yv_idxO Try.underlying25 tf3 rfl rfl (idx_get e773).1 (idx_lt e773)) ?_
                          refine sxb_again (d := 151) (v := .slice a9 x8.1.length c10) rfl (by rw [h775] <;> rfl) ?_
                          refine sxb_take 19 (.int .i64 x773) [] rfl rfl rfl rfl (by kernel_rfl) (by kernel_rfl) (by kernel_rfl) (by kernel_rfl) (by kernel_rfl) (by kernel_rfl) rfl (show _ = #[true, true, true, true, true, true, true, true, true, true, true, true, true, true, true, true, true, true, true, true, false, false, false] from rfl) (yv_loadF (j := 3) rfl tf3 rfl rfl (fun _ => rfl) rfl) ?_
                          refine sxb_takeP 20 (.bool (decide (x773 < x769))) rfl rfl rfl rfl (by kernel_rfl) (by kernel_rfl) (by kernel_rfl) (by kernel_rfl) (by kernel_rfl) rfl (show _ = #[true, true, true, true, true, true, true, true, true, true, true, true, true, true, true, true, true, true, true, true, true, false, false] from rfl) (yv_pv rfl) ?_
                          refine sxb_takeP 21 (.bool (decide (x773 < x769))) rfl rfl rfl rfl (by kernel_rfl) (by kernel_rfl) (by kernel_rfl) (by kernel_rfl) (by kernel_rfl) rfl (show _ = #[true, true, true, true, true, true, true, true, true, true, true, true, true, true, true, true, true, true, true, true, true, true, false] from rfl) (yv_pv rfl) ?_
                          refine sxb_takeP 22 (.bool (decide (x773 < x769))) rfl rfl rfl rfl (by kernel_rfl) (by kernel_rfl) (by kernel_rfl) (by kernel_rfl) (by kernel_rfl) rfl (show _ = #[true, true, true, true, true, true, true, true, true, true, true, true, true, true, true, true, true, true, true, true, true, true, true] from rfl) (yv_pv rfl) ?_
                          refine sxb_done (by kernel_rfl) ?_
                          refine sxq_np ?_ (by intro c h; cases h)
                          exact sxq_meetP ((decide (x773 < x769)), ()) (lk_cons rfl (lk_cons rfl (lk_cons rfl (lk_cons rfl lk_nil)))) .nil (.cons 0 rfl (.cons 0 rfl .nil)) fk_nil
                      · refine sxb_draw mixed [] [] [CellsAt g760 (x620.toNat * 1) ((eI .i64) x759)] .nil (gk_R 0 rfl (at_row (eI_ok .i64) e759 h761) gk_nil) 23 rfl ?_
                        refine sxb_takeP 0 (.slice a9 x8.1.length c10) rfl rfl rfl rfl (by kernel_rfl) (by kernel_rfl) (by kernel_rfl) (by kernel_rfl) (by kernel_rfl) rfl (show _ = #[true, false, false, false, false, false, false, false, false, false, false, false, false, false, false, false, false, false, false, false, false, false, false] from rfl) (yv_pv rfl) ?_
                        refine sxb_takeP 1 (.int .i64 x620) rfl rfl rfl rfl (by kernel_rfl) (by kernel_rfl) (by kernel_rfl) (by kernel_rfl) (by kernel_rfl) rfl (show _ = #[true, true, false, false, false, false, false, false, false, false, false, false, false, false, false, false, false, false, false, false, false, false, false] from rfl) (yv_pv rfl) ?_
                        refine sxb_again (d := 135) (v := .slice (some ⟨g760, 0, none⟩) x8.1.length c10) rfl (by rw [h761] <;> rfl) ?_
                        refine sxb_takeP 2 (.pointer (some ⟨g760, x620.toNat * 1, none⟩)) rfl rfl rfl rfl (by kernel_rfl) (by kernel_rfl) (by kernel_rfl) (by kernel_rfl) (by kernel_rfl) rfl (show _ = #[true, true, true, false, false, false, false, false, false, false, false, false, false, false, false, false, false, false, false, false, false, false, false] from rfl) (yv_idxO Try.underlying25 tf3 rfl rfl (idx_get e759).1 (idx_lt e759)) ?_
                        refine sxb_again (d := 135) (v := .slice a9 x8.1.length c10) rfl (by rw [h761] <;> rfl) ?_
                        refine sxb_take 3 (.int .i64 x759) [] rfl rfl rfl rfl (by kernel_rfl) (by kernel_rfl) (by kernel_rfl) (by kernel_rfl) (by kernel_rfl) (by kernel_rfl) rfl (show _ = #[true, true, true, true, false, false, false, false, false, false, false, false, false, false, false, false, false, false, false, false, false, false, false] from rfl) (yv_loadF (j := 0) rfl tf3 rfl rfl (fun _ => rfl) rfl) ?_
                        refine sxb_takeP 4 (.bool (decide (0 ≤ x759))) rfl rfl rfl rfl (by kernel_rfl) (by kernel_rfl) (by kernel_rfl) (by kernel_rfl) (by kernel_rfl) rfl (show _ = #[true, true, true, true, true, false, false, false, false, false, false, false, false, false, false, false, false, false, false, false, false, false, false] from rfl) (yv_pv rfl) ?_
                        refine sxb_takeP 5 (.bool (decide (0 ≤ x759))) rfl rfl rfl rfl (by kernel_rfl) (by kernel_rfl) (by kernel_rfl) (by kernel_rfl) (by kernel_rfl) rfl (show _ = #[true, true, true, true, true, true, false, false, false, false, false, false, false, false, false, false, false, false, false, false, false, false, false] from rfl) (yv_pv rfl) ?_
                        refine sxb_again (d := 140) (v := .bool false) rfl (by rw [h763] <;> rfl) ?_
                        refine sxb_skip 6 rfl rfl rfl rfl (by kernel_rfl) (by kernel_rfl) (by kernel_rfl) (by kernel_rfl) (by kernel_rfl) rfl (show _ = #[true, true, true, true, true, true, true, false, false, false, false, false, false, false, false, false, false, false, false, false, false, false, false] from rfl) ?_
                        refine sxb_skip 7 rfl rfl rfl rfl (by kernel_rfl) (by kernel_rfl) (by kernel_rfl) (by kernel_rfl) (by kernel_rfl) rfl (show _ = #[true, true, true, true, true, true, true, true, false, false, false, false, false, false, false, false, false, false, false, false, false, false, false] from rfl) ?_
                        refine sxb_skip 8 rfl rfl rfl rfl (by kernel_rfl) (by kernel_rfl) (by kernel_rfl) (by kernel_rfl) (by kernel_rfl) rfl (show _ = #[true, true, true, true, true, true, true, true, true, false, false, false, false, false, false, false, false, false, false, false, false, false, false] from rfl) ?_
                        refine sxb_skip 9 rfl rfl rfl rfl (by kernel_rfl) (by kernel_rfl) (by kernel_rfl) (by kernel_rfl) (by kernel_rfl) rfl (show _ = #[true, true, true, true, true, true, true, true, true, true, false, false, false, false, false, false, false, false, false, false, false, false, false] from rfl) ?_
                        refine sxb_skip 10 rfl rfl rfl rfl (by kernel_rfl) (by kernel_rfl) (by kernel_rfl) (by kernel_rfl) (by kernel_rfl) rfl (show _ = #[true, true, true, true, true, true, true, true, true, true, true, false, false, false, false, false, false, false, false, false, false, false, false] from rfl) ?_
                        refine sxb_skip 11 rfl rfl rfl rfl (by kernel_rfl) (by kernel_rfl) (by kernel_rfl) (by kernel_rfl) (by kernel_rfl) rfl (show _ = #[true, true, true, true, true, true, true, true, true, true, true, true, false, false, false, false, false, false, false, false, false, false, false] from rfl) ?_
                        refine sxb_skip 12 rfl rfl rfl rfl (by kernel_rfl) (by kernel_rfl) (by kernel_rfl) (by kernel_rfl) (by kernel_rfl) rfl (show _ = #[true, true, true, true, true, true, true, true, true, true, true, true, true, false, false, false, false, false, false, false, false, false, false] from rfl) ?_
                        refine sxb_skip 13 rfl rfl rfl rfl (by kernel_rfl) (by kernel_rfl) (by kernel_rfl) (by kernel_rfl) (by kernel_rfl) rfl (show _ = #[true, true, true, true, true, true, true, true, true, true, true, true, true, true, false, false, false, false, false, false, false, false, false] from rfl) ?_
                        refine sxb_skip 14 rfl rfl rfl rfl (by kernel_rfl) (by kernel_rfl) (by kernel_rfl) (by kernel_rfl) (by kernel_rfl) rfl (show _ = #[true, true, true, true, true, true, true, true, true, true, true, true, true, true, true, false, false, false, false, false, false, false, false] from rfl) ?_
                        refine sxb_skip 15 rfl rfl rfl rfl (by kernel_rfl) (by kernel_rfl) (by kernel_rfl) (by kernel_rfl) (by kernel_rfl) rfl (show _ = #[true, true, true, true, true, true, true, true, true, true, true, true, true, true, true, true, false, false, false, false, false, false, false] from rfl) ?_
                        refine sxb_skip 16 rfl rfl rfl rfl (by kernel_rfl) (by kernel_rfl) (by kernel_rfl) (by kernel_rfl) (by kernel_rfl) rfl (show _ = #[true, true, true, true, true, true, true, true, true, true, true, true, true, true, true, true, true, false, false, false, false, false, false] from rfl) ?_
                        refine sxb_skip 17 rfl rfl rfl rfl (by kernel_rfl) (by kernel_rfl) (by kernel_rfl) (by kernel_rfl) (by kernel_rfl) rfl (show _ = #[true, true, true, true, true, true, true, true, true, true, true, true, true, true, true, true, true, true, false, false, false, false, false] from rfl) ?_
                        refine sxb_skip 18 rfl rfl rfl rfl (by kernel_rfl) (by kernel_rfl) (by kernel_rfl) (by kernel_rfl) (by kernel_rfl) rfl (show _ = #[true, true, true, true, true, true, true, true, true, true, true, true, true, true, true, true, true, true, true, false, false, false, false] from rfl) ?_
                        refine sxb_skip 19 rfl rfl rfl rfl (by kernel_rfl) (by kernel_rfl) (by kernel_rfl) (by kernel_rfl) (by kernel_rfl) rfl (show _ = #[true, true, true, true, true, true, true, true, true, true, true, true, true, true, true, true, true, true, true, true, false, false, false] from rfl) ?_
                        refine sxb_skip 20 rfl rfl rfl rfl (by kernel_rfl) (by kernel_rfl) (by kernel_rfl) (by kernel_rfl) (by kernel_rfl) rfl (show _ = #[true, true, true, true, true, true, true, true, true, true, true, true, true, true, true, true, true, true, true, true, true, false, false] from rfl) ?_
                        refine sxb_skip 21 rfl rfl rfl rfl (by kernel_rfl) (by kernel_rfl) (by kernel_rfl) (by kernel_rfl) (by kernel_rfl) rfl (show _ = #[true, true, true, true, true, true, true, true, true, true, true, true, true, true, true, true, true, true, true, true, true, true, false] from rfl) ?_
                        refine sxb_takeP 22 (.bool false) rfl rfl rfl rfl (by kernel_rfl) (by kernel_rfl) (by kernel_rfl) (by kernel_rfl) (by kernel_rfl) rfl (show _ = #[true, true, true, true, true, true, true, true, true, true, true, true, true, true, true, true, true, true, true, true, true, true, true] from rfl) (yv_pv rfl) ?_
                        refine sxb_done (by kernel_rfl) ?_
                        refine sxq_np ?_ (by intro c h; cases h)
                        exact sxq_meetP (false, ()) (lk_cons rfl (lk_cons rfl (lk_cons rfl (lk_cons rfl lk_nil)))) .nil (.cons 0 rfl (.cons 0 rfl .nil)) fk_nil
                    · rintro ⟨x757, _⟩
                      try dsimp only
                      refine sxc_if rfl (fun h758 => ?_) (fun h758 => ?_)
                      · refine sxc_seq ?_
                        refine sxc_region ?_
                        refine sxo_assign rfl rfl rfl ?_
                        refine sxo_nil ?_
                        refine sxq_next ?_
                        refine sxc_ret ?_
                        refine sxq_blkR ?_
                        refine sxq_thenR ?_
                        refine sxq_thenR ?_
                        refine sxq_blkR ?_
                        refine sxq_thenR ?_
                        exact sxq_doneP () (.inl rfl) (res1 rfl rfl) (fun h => by subst h; rfl) (fun h => by subst h; exact .nil)
                      · refine sxc_skip ?_
                        refine sxq_blkN ?_
                        refine sxq_next ?_
                        refine sxc_region ?_
                        refine sxo_move rfl rfl rfl ?_
                        refine sxo_add rfl rfl rfl rfl ?_
                        refine sxo_assign rfl rfl rfl ?_
                        refine sxo_nil ?_
                        exact sxq_againP (iadd .i64 x620 1, ()) (lk_cons rfl (lk_cons rfl (lk_cons rfl lk_nil))) .nil (.cons 0 rfl (.cons 0 rfl .nil)) fk_nil
                  · refine sxc_exit ?_
                    refine sxq_thenX ?_
                    refine sxq_thenX ?_
                    refine sxq_blkX ?_
                    exact sxq_meetP ((), ()) lk_nil .nil .nil fk_nil
                · rintro ⟨_, _⟩
                  try dsimp only
                  refine sxc_seq ?_
                  refine sxc_region ?_
                  refine sxo_assign rfl rfl rfl ?_
                  refine sxo_nil ?_
                  refine sxq_next ?_
                  refine sxc_ret ?_
                  exact sxq_doneP () (.inl rfl) (res1 rfl rfl) (fun h => by subst h; rfl) (fun h => by subst h; exact .nil)
end Go.Proofs.Ytldpjaphbikjnaa
