/- Each Go function of this seat computes what its model says, part 2. -/
import Derived.Test.YtjeaicfjildchaaWalks
namespace Go.Proofs.Ytjeaicfjildchaa
open Go SX
set_option maxHeartbeats 4000000 in
theorem C_L_EliasLong (F : Nat) (x1 : Int) (x2 : Int) (r : Bool) (hm : M_L_EliasLong F x1 x2 = some r) :
    Pure Try.prog 4 [.int .u64 x1, .int .u64 x2] [] Unit (fun _ => .bool r) (fun _ => []) (fun _ => []) := by
  refine pure_of Try.func4 rfl Try.ntmps4 rfl hm (fun w => ?_)
  refine sxc_env (l' := [(0, .int .u64 x1), (1, .int .u64 x2)]) rfl ?_
  refine sxc_seq ?_
  refine sxc_region ?_
  refine sxo_assign rfl rfl rfl ?_
  refine sxo_nil ?_
  refine sxq_next ?_
  refine sxc_seq ?_
  refine sxc_region ?_
  refine sxo_move rfl rfl rfl ?_
  refine sxo_call ent19 rfl rfl rfl (fun x3 e3 => C_elias_Long F x1 x3 e3) .nil (fun x3 e3 => ?_)
  intro _
  refine sxo_move rfl rfl rfl ?_
  refine sxo_extract rfl rfl rfl rfl ?_
  refine sxo_extract rfl rfl rfl rfl ?_
  refine sxo_extract rfl rfl rfl rfl ?_
  refine sxo_assign rfl rfl rfl ?_
  refine sxo_assign rfl rfl rfl ?_
  refine sxo_assign rfl rfl rfl ?_
  refine sxo_nil ?_
  refine sxq_next ?_
  refine sxc_seq ?_
  refine sxc_region ?_
  refine sxo_move rfl rfl rfl ?_
  refine sxo_call ent19 rfl rfl rfl (fun x4 e4 => C_elias_Long F x2 x4 e4) .nil (fun x4 e4 => ?_)
  intro _
  refine sxo_move rfl rfl rfl ?_
  refine sxo_extract rfl rfl rfl rfl ?_
  refine sxo_extract rfl rfl rfl rfl ?_
  refine sxo_extract rfl rfl rfl rfl ?_
  refine sxo_assign rfl rfl rfl ?_
  refine sxo_assign rfl rfl rfl ?_
  refine sxo_assign rfl rfl rfl ?_
  refine sxo_nil ?_
  refine sxq_next ?_
  refine sxc_seq ?_
  refine sxc_seq ?_
  refine sxc_region ?_
  refine sxo_call ent27 rfl rfl rfl (fun x7 e7 => C_L_eliasBegun F  x7 e7) .nil (fun x7 e7 => ?_)
  intro _
  refine sxo_not rfl rfl rfl ?_
  refine sxo_nil ?_
  refine sxq_next ?_
  refine sxc_if rfl (fun h21 => ?_) (fun h21 => ?_)
  · refine sxc_seq ?_
    refine sxc_region ?_
    refine sxo_assign rfl rfl rfl ?_
    refine sxo_nil ?_
    refine sxq_next ?_
    refine sxc_ret ?_
    refine sxq_thenR ?_
    exact sxq_doneP () (.inl rfl) (res1 rfl rfl) (fun h => by subst h; rfl) (fun h => by subst h; exact .nil)
  · refine sxc_skip ?_
    refine sxq_next ?_
    refine sxc_seq ?_
    refine sxc_seq ?_
    refine sxc_region ?_
    refine sxo_move rfl rfl rfl ?_
    refine sxo_neq rfl rfl rfl rfl ?_
    refine sxo_move rfl rfl rfl ?_
    refine sxo_case 3 ((x3.2.2 : Int) != 0) [(0, .int .u64 x1), (1, .int .u64 x2), (5, .int .i64 x3.1), (6, .int .i64 x3.2.1), (8, .int .i64 x4.1), (9, .int .i64 x4.2.1), (30, .bool (((x3.2.2 : Int) != 0) || ((x4.2.2 : Int) != 0)))] (fun h11 => ?_) (fun h11 => ?_) ?_
    · refine sxo_take (os := _) rfl ?_
      refine sxo_isT (k := 27) rfl h11 ?_
      refine sxo_skip rfl rfl rfl ?_
      refine sxo_skip rfl rfl rfl ?_
      refine sxo_pick (b := true) rfl rfl rfl rfl ?_
      refine sxo_again (d := 30) (v := .bool (((x3.2.2 : Int) != 0) || ((x4.2.2 : Int) != 0))) rfl (by rw [h11]; simp only [Bool.true_or]) ?_
      refine sxo_nil ?_
      exact sxq_case (lk_cons rfl (lk_cons rfl (lk_cons rfl (lk_cons rfl (lk_cons rfl (lk_cons rfl (lk_cons rfl lk_nil)))))))
    · refine sxo_take (os := _) rfl ?_
      refine sxo_isF (k := 27) rfl h11 ?_
      refine sxo_move rfl rfl rfl ?_
      refine sxo_neq rfl rfl rfl rfl ?_
      refine sxo_pick (b := false) rfl rfl rfl rfl ?_
      refine sxo_again (d := 30) (v := .bool (((x3.2.2 : Int) != 0) || ((x4.2.2 : Int) != 0))) rfl (by rw [h11]; simp only [Bool.false_or]) ?_
      refine sxo_nil ?_
      exact sxq_case (lk_cons rfl (lk_cons rfl (lk_cons rfl (lk_cons rfl (lk_cons rfl (lk_cons rfl (lk_cons rfl lk_nil)))))))
    refine sxo_take (os := _) rfl ?_
    refine sxo_move rfl rfl rfl ?_
    refine sxo_case 4 (((x3.2.2 : Int) != 0) || ((x4.2.2 : Int) != 0)) [(0, .int .u64 x1), (5, .int .i64 x3.1), (6, .int .i64 x3.2.1), (8, .int .i64 x4.1), (9, .int .i64 x4.2.1), (35, .bool ((((x3.2.2 : Int) != 0) || ((x4.2.2 : Int) != 0)) || (decide (x2 < x1))))] (fun h12 => ?_) (fun h12 => ?_) ?_
    · refine sxo_take (os := _) rfl ?_
      refine sxo_isT (k := 31) rfl h12 ?_
      refine sxo_skip rfl rfl rfl ?_
      refine sxo_skip rfl rfl rfl ?_
      refine sxo_skip rfl rfl rfl ?_
      refine sxo_pick (b := true) rfl rfl rfl rfl ?_
      refine sxo_again (d := 35) (v := .bool ((((x3.2.2 : Int) != 0) || ((x4.2.2 : Int) != 0)) || (decide (x2 < x1)))) rfl (by rw [h12]; simp only [Bool.true_or]) ?_
      refine sxo_nil ?_
      exact sxq_case (lk_cons rfl (lk_cons rfl (lk_cons rfl (lk_cons rfl (lk_cons rfl (lk_cons rfl lk_nil))))))
    · refine sxo_take (os := _) rfl ?_
      refine sxo_isF (k := 31) rfl h12 ?_
      refine sxo_move rfl rfl rfl ?_
      refine sxo_move rfl rfl rfl ?_
      refine sxo_gtr rfl rfl rfl rfl ?_
      refine sxo_pick (b := false) rfl rfl rfl rfl ?_
      refine sxo_again (d := 35) (v := .bool ((((x3.2.2 : Int) != 0) || ((x4.2.2 : Int) != 0)) || (decide (x2 < x1)))) rfl (by rw [h12]; simp only [Bool.false_or]) ?_
      refine sxo_nil ?_
      exact sxq_case (lk_cons rfl (lk_cons rfl (lk_cons rfl (lk_cons rfl (lk_cons rfl (lk_cons rfl lk_nil))))))
    refine sxo_take (os := _) rfl ?_
    refine sxo_nil ?_
    refine sxq_next ?_
    refine sxc_if rfl (fun h20 => ?_) (fun h20 => ?_)
    · refine sxc_seq ?_
      refine sxc_region ?_
      refine sxo_assign rfl rfl rfl ?_
      refine sxo_nil ?_
      refine sxq_next ?_
      refine sxc_ret ?_
      refine sxq_thenR ?_
      exact sxq_doneP () (.inl rfl) (res1 rfl rfl) (fun h => by subst h; rfl) (fun h => by subst h; exact .nil)
    · refine sxc_skip ?_
      refine sxq_next ?_
      refine sxc_seq ?_
      refine sxc_region ?_
      refine sxo_move rfl rfl rfl ?_
      refine sxo_move rfl rfl rfl ?_
      refine sxo_leq rfl rfl rfl rfl ?_
      refine sxo_move rfl rfl rfl ?_
      refine sxo_case 4 (decide (x3.1 ≤ x4.1)) [(0, .int .u64 x1), (5, .int .i64 x3.1), (6, .int .i64 x3.2.1), (43, .bool ((decide (x3.1 ≤ x4.1)) && (decide (x3.2.1 ≤ x4.2.1))))] (fun h13 => ?_) (fun h13 => ?_) ?_
      · refine sxo_take (os := _) rfl ?_
        refine sxo_isT (k := 39) rfl h13 ?_
        refine sxo_move rfl rfl rfl ?_
        refine sxo_move rfl rfl rfl ?_
        refine sxo_leq rfl rfl rfl rfl ?_
        refine sxo_pick (b := true) rfl rfl rfl rfl ?_
        refine sxo_again (d := 43) (v := .bool ((decide (x3.1 ≤ x4.1)) && (decide (x3.2.1 ≤ x4.2.1)))) rfl (by rw [h13]; simp only [Bool.true_and]) ?_
        refine sxo_nil ?_
        exact sxq_case (lk_cons rfl (lk_cons rfl (lk_cons rfl (lk_cons rfl lk_nil))))
      · refine sxo_take (os := _) rfl ?_
        refine sxo_isF (k := 39) rfl h13 ?_
        refine sxo_skip rfl rfl rfl ?_
        refine sxo_skip rfl rfl rfl ?_
        refine sxo_skip rfl rfl rfl ?_
        refine sxo_pick (b := false) rfl rfl rfl rfl ?_
        refine sxo_again (d := 43) (v := .bool ((decide (x3.1 ≤ x4.1)) && (decide (x3.2.1 ≤ x4.2.1)))) rfl (by rw [h13]; simp only [Bool.false_and]) ?_
        refine sxo_nil ?_
        exact sxq_case (lk_cons rfl (lk_cons rfl (lk_cons rfl (lk_cons rfl lk_nil))))
      refine sxo_take (os := _) rfl ?_
      refine sxo_move rfl rfl rfl ?_
      refine sxo_case 4 ((decide (x3.1 ≤ x4.1)) && (decide (x3.2.1 ≤ x4.2.1))) [(0, .int .u64 x1), (5, .int .i64 x3.1), (6, .int .i64 x3.2.1), (48, .bool (((decide (x3.1 ≤ x4.1)) && (decide (x3.2.1 ≤ x4.2.1))) && (((irem x3.1 2) : Int) == 1)))] (fun h14 => ?_) (fun h14 => ?_) ?_
      · refine sxo_take (os := _) rfl ?_
        refine sxo_isT (k := 44) rfl h14 ?_
        refine sxo_move rfl rfl rfl ?_
        refine sxo_rem rfl rfl rfl rfl rfl ?_
        refine sxo_eql rfl rfl rfl rfl ?_
        refine sxo_pick (b := true) rfl rfl rfl rfl ?_
        refine sxo_again (d := 48) (v := .bool (((decide (x3.1 ≤ x4.1)) && (decide (x3.2.1 ≤ x4.2.1))) && (((irem x3.1 2) : Int) == 1))) rfl (by rw [h14]; simp only [Bool.true_and]) ?_
        refine sxo_nil ?_
        exact sxq_case (lk_cons rfl (lk_cons rfl (lk_cons rfl (lk_cons rfl lk_nil))))
      · refine sxo_take (os := _) rfl ?_
        refine sxo_isF (k := 44) rfl h14 ?_
        refine sxo_skip rfl rfl rfl ?_
        refine sxo_skip rfl rfl rfl ?_
        refine sxo_skip rfl rfl rfl ?_
        refine sxo_pick (b := false) rfl rfl rfl rfl ?_
        refine sxo_again (d := 48) (v := .bool (((decide (x3.1 ≤ x4.1)) && (decide (x3.2.1 ≤ x4.2.1))) && (((irem x3.1 2) : Int) == 1))) rfl (by rw [h14]; simp only [Bool.false_and]) ?_
        refine sxo_nil ?_
        exact sxq_case (lk_cons rfl (lk_cons rfl (lk_cons rfl (lk_cons rfl lk_nil))))
      refine sxo_take (os := _) rfl ?_
      refine sxo_move rfl rfl rfl ?_
      refine sxo_join 8 (fun ((x17, _) : (Bool × Unit)) => [(5, .int .i64 x3.1), (6, .int .i64 x3.2.1), (57, .bool x17)]) (fun ((x17, _) : (Bool × Unit)) => []) (fun ((x17, _) : (Bool × Unit)) => []) (fun ((x17, _) : (Bool × Unit)) => []) (fun ((x17, _) : (Bool × Unit)) => M_L_EliasLong_j1 F x3 x17) ?_ ?_
      · refine sxo_take (os := _) rfl ?_
        refine sxo_if (fun h15 => ?_) (fun h15 => ?_)
        · refine sxo_isT (k := 49) rfl h15 ?_
          refine sxo_move rfl rfl rfl ?_
          refine sxo_lss rfl rfl rfl rfl ?_
          refine sxo_move rfl rfl rfl ?_
          refine sxo_case 4 (decide (x1 < 31)) [(5, .int .i64 x3.1), (6, .int .i64 x3.2.1), (49, .bool true), (56, .bool ((decide (x1 < 31)) || (decide (x3.2.1 ≤ x3.1))))] (fun h19 => ?_) (fun h19 => ?_) ?_
          · refine sxo_take (os := _) rfl ?_
            refine sxo_isT (k := 52) rfl h19 ?_
            refine sxo_skip rfl rfl rfl ?_
            refine sxo_skip rfl rfl rfl ?_
            refine sxo_skip rfl rfl rfl ?_
            refine sxo_pick (b := true) rfl rfl rfl rfl ?_
            refine sxo_again (d := 56) (v := .bool ((decide (x1 < 31)) || (decide (x3.2.1 ≤ x3.1)))) rfl (by rw [h19]; simp only [Bool.true_or]) ?_
            refine sxo_nil ?_
            exact sxq_case (lk_cons rfl (lk_cons rfl (lk_cons rfl (lk_cons rfl lk_nil))))
          · refine sxo_take (os := _) rfl ?_
            refine sxo_isF (k := 52) rfl h19 ?_
            refine sxo_move rfl rfl rfl ?_
            refine sxo_move rfl rfl rfl ?_
            refine sxo_leq rfl rfl rfl rfl ?_
            refine sxo_pick (b := false) rfl rfl rfl rfl ?_
            refine sxo_again (d := 56) (v := .bool ((decide (x1 < 31)) || (decide (x3.2.1 ≤ x3.1)))) rfl (by rw [h19]; simp only [Bool.false_or]) ?_
            refine sxo_nil ?_
            exact sxq_case (lk_cons rfl (lk_cons rfl (lk_cons rfl (lk_cons rfl lk_nil))))
          refine sxo_take (os := _) rfl ?_
          refine sxo_pick (b := true) rfl rfl rfl rfl ?_
          refine sxo_nil ?_
          exact sxq_meetP (((decide (x1 < 31)) || (decide (x3.2.1 ≤ x3.1))), ()) (lk_cons rfl (lk_cons rfl (lk_cons rfl lk_nil))) .nil .nil fk_nil
        · refine sxo_isF (k := 49) rfl h15 ?_
          refine sxo_skip rfl rfl rfl ?_
          refine sxo_skip rfl rfl rfl ?_
          refine sxo_skip rfl rfl rfl ?_
          refine sxo_skip rfl rfl rfl ?_
          refine sxo_skip rfl rfl rfl ?_
          refine sxo_skip rfl rfl rfl ?_
          refine sxo_skip rfl rfl rfl ?_
          refine sxo_pick (b := false) rfl rfl rfl rfl ?_
          refine sxo_nil ?_
          exact sxq_meetP (false, ()) (lk_cons rfl (lk_cons rfl (lk_cons rfl lk_nil))) .nil .nil fk_nil
      · rintro ⟨x17, _⟩
        try dsimp only
        refine sxo_take (os := _) rfl ?_
        refine sxo_move rfl rfl rfl ?_
        refine sxo_case 5 x17 [(63, .bool (x17 && (decide (x3.2.1 ≤ (iadd .i64 x3.1 1)))))] (fun h18 => ?_) (fun h18 => ?_) ?_
        · refine sxo_take (os := _) rfl ?_
          refine sxo_isT (k := 58) rfl h18 ?_
          refine sxo_move rfl rfl rfl ?_
          refine sxo_move rfl rfl rfl ?_
          refine sxo_add rfl rfl rfl rfl ?_
          refine sxo_leq rfl rfl rfl rfl ?_
          refine sxo_pick (b := true) rfl rfl rfl rfl ?_
          refine sxo_again (d := 63) (v := .bool (x17 && (decide (x3.2.1 ≤ (iadd .i64 x3.1 1))))) rfl (by rw [h18]; simp only [Bool.true_and]) ?_
          refine sxo_nil ?_
          exact sxq_case (lk_cons rfl lk_nil)
        · refine sxo_take (os := _) rfl ?_
          refine sxo_isF (k := 58) rfl h18 ?_
          refine sxo_skip rfl rfl rfl ?_
          refine sxo_skip rfl rfl rfl ?_
          refine sxo_skip rfl rfl rfl ?_
          refine sxo_skip rfl rfl rfl ?_
          refine sxo_pick (b := false) rfl rfl rfl rfl ?_
          refine sxo_again (d := 63) (v := .bool (x17 && (decide (x3.2.1 ≤ (iadd .i64 x3.1 1))))) rfl (by rw [h18]; simp only [Bool.false_and]) ?_
          refine sxo_nil ?_
          exact sxq_case (lk_cons rfl lk_nil)
        refine sxo_take (os := _) rfl ?_
        refine sxo_assign rfl rfl rfl ?_
        refine sxo_nil ?_
        refine sxq_next ?_
        refine sxc_ret ?_
        exact sxq_doneP () (.inl rfl) (res1 rfl rfl) (fun h => by subst h; rfl) (fun h => by subst h; exact .nil)

theorem C_golomb_right (F : Nat) (x1 : Int) (r : Bool) (hm : M_golomb_right F x1 = some r) :
    Pure Try.prog 66 [.int .u64 x1] [] Unit (fun _ => .bool r) (fun _ => []) (fun _ => []) := by
  refine pure_of Try.func66 rfl Try.ntmps66 rfl hm (fun w => ?_)
  refine sxc_env (l' := [(0, .int .u64 x1)]) rfl ?_
  refine sxc_seq ?_
  refine sxc_region ?_
  refine sxo_assign rfl rfl rfl ?_
  refine sxo_nil ?_
  refine sxq_next ?_
  refine sxc_seq ?_
  refine sxc_region ?_
  refine sxo_move rfl rfl rfl ?_
  refine sxo_geq rfl rfl rfl rfl ?_
  refine sxo_move rfl rfl rfl ?_
  refine sxo_case 3 (decide (1 ≤ x1)) [(8, .bool ((decide (1 ≤ x1)) && (decide (x1 ≤ 1099511627776))))] (fun h2 => ?_) (fun h2 => ?_) ?_
  · refine sxo_take (os := _) rfl ?_
    refine sxo_isT (k := 5) rfl h2 ?_
    refine sxo_move rfl rfl rfl ?_
    refine sxo_leq rfl rfl rfl rfl ?_
    refine sxo_pick (b := true) rfl rfl rfl rfl ?_
    refine sxo_again (d := 8) (v := .bool ((decide (1 ≤ x1)) && (decide (x1 ≤ 1099511627776)))) rfl (by rw [h2]; simp only [Bool.true_and]) ?_
    refine sxo_nil ?_
    exact sxq_case (lk_cons rfl lk_nil)
  · refine sxo_take (os := _) rfl ?_
    refine sxo_isF (k := 5) rfl h2 ?_
    refine sxo_skip rfl rfl rfl ?_
    refine sxo_skip rfl rfl rfl ?_
    refine sxo_pick (b := false) rfl rfl rfl rfl ?_
    refine sxo_again (d := 8) (v := .bool ((decide (1 ≤ x1)) && (decide (x1 ≤ 1099511627776)))) rfl (by rw [h2]; simp only [Bool.false_and]) ?_
    refine sxo_nil ?_
    exact sxq_case (lk_cons rfl lk_nil)
  refine sxo_take (os := _) rfl ?_
  refine sxo_assign rfl rfl rfl ?_
  refine sxo_nil ?_
  refine sxq_next ?_
  refine sxc_ret ?_
  exact sxq_doneP () (.inl rfl) (res1 rfl rfl) (fun h => by subst h; rfl) (fun h => by subst h; exact .nil)

theorem C_golomb_shape (F : Nat) (x1 : Int) (r : (Int × Int)) (hm : M_golomb_shape F x1 = some r) :
    Pure Try.prog 94 [.int .u64 x1] [] Unit (fun _ => .tuple #[.int .i64 r.1, .int .u64 r.2]) (fun _ => []) (fun _ => []) := by
  refine pure_of Try.func94 rfl Try.ntmps94 rfl hm (fun w => ?_)
  refine sxc_env (l' := [(0, .int .u64 x1)]) rfl ?_
  refine sxc_seq ?_
  refine sxc_region ?_
  refine sxo_assign rfl rfl rfl ?_
  refine sxo_assign rfl rfl rfl ?_
  refine sxo_nil ?_
  refine sxq_next ?_
  refine sxc_seq ?_
  refine sxc_region ?_
  refine sxo_move rfl rfl rfl ?_
  refine sxo_sub rfl rfl rfl rfl ?_
  refine sxo_call ent92 rfl rfl rfl (fun x2 e2 => C_math_bits_Len64 F (isub .u64 x1 1) x2 e2) .nil (fun x2 e2 => ?_)
  intro _
  refine sxo_assign rfl rfl rfl ?_
  refine sxo_nil ?_
  refine sxq_next ?_
  refine sxc_seq ?_
  refine sxc_chk (fun h6 => ?_)
  refine sxb_draw mixed [] [] [] .nil gk_nil 7 rfl ?_
  refine sxb_takeP 0 (.int .i64 x2) rfl rfl rfl rfl (by kernel_rfl) (by kernel_rfl) (by kernel_rfl) (by kernel_rfl) (by kernel_rfl) rfl (show _ = #[true, false, false, false, false, false, false] from rfl) (yv_pv rfl) ?_
  refine sxb_takeP 1 (.int .i64 x2) rfl rfl rfl rfl (by kernel_rfl) (by kernel_rfl) (by kernel_rfl) (by kernel_rfl) (by kernel_rfl) rfl (show _ = #[true, true, false, false, false, false, false] from rfl) (yv_pv rfl) ?_
  refine sxb_takeP 2 (.int .u64 (ishl .u64 1 x2)) rfl rfl rfl rfl (by kernel_rfl) (by kernel_rfl) (by kernel_rfl) (by kernel_rfl) (by kernel_rfl) rfl (show _ = #[true, true, true, false, false, false, false] from rfl) (yv_shl rfl rfl h6) ?_
  refine sxb_takeP 3 (.int .u64 x1) rfl rfl rfl rfl (by kernel_rfl) (by kernel_rfl) (by kernel_rfl) (by kernel_rfl) (by kernel_rfl) rfl (show _ = #[true, true, true, true, false, false, false] from rfl) (yv_pv rfl) ?_
  refine sxb_takeP 4 (.int .u64 (isub .u64 (ishl .u64 1 x2) x1)) rfl rfl rfl rfl (by kernel_rfl) (by kernel_rfl) (by kernel_rfl) (by kernel_rfl) (by kernel_rfl) rfl (show _ = #[true, true, true, true, true, false, false] from rfl) (yv_pv rfl) ?_
  refine sxb_takeP 5 (.int .i64 x2) rfl rfl rfl rfl (by kernel_rfl) (by kernel_rfl) (by kernel_rfl) (by kernel_rfl) (by kernel_rfl) rfl (show _ = #[true, true, true, true, true, true, false] from rfl) (yv_pv rfl) ?_
  refine sxb_takeP 6 (.int .u64 (isub .u64 (ishl .u64 1 x2) x1)) rfl rfl rfl rfl (by kernel_rfl) (by kernel_rfl) (by kernel_rfl) (by kernel_rfl) (by kernel_rfl) rfl (show _ = #[true, true, true, true, true, true, true] from rfl) (yv_pv rfl) ?_
  refine sxb_done (by kernel_rfl) ?_
  refine sxq_np ?_ (by intro c h; cases h)
  refine sxq_next ?_
  refine sxc_ret ?_
  exact sxq_doneP () (.inl rfl) (res2 rfl rfl rfl) (fun h => by subst h; rfl) (fun h => by subst h; exact .nil)

theorem C_golomb_addLeast (F : Nat) (x1 : Int) (x2 : List Int) (a3 : Option Addr) (c4 : Nat) (x5 : Int) (x6 : Int) (r : (Int × List Int)) (hm : M_golomb_addLeast F x1 x2 x5 x6 = some r) :
    Pure Try.prog 67 [.agg #[.int .i64 x1, .slice a3 x2.length c4], .int .u64 x5, .int .u64 x6] [Sl (eI .u8) 1 (.slice a3 x2.length c4) x2] (Option Addr × Nat) (fun g => .agg #[.int .i64 r.1, .slice g.1 r.2.length g.2]) (fun g => [Ro (eI .u8) 5 1 (.slice g.1 r.2.length g.2) r.2]) (fun _ => []) := by
  refine pure_of Try.func67 rfl Try.ntmps67 rfl hm (fun w => ?_)
  refine sxc_env (l' := [(0, .agg #[.int .i64 x1, .slice a3 x2.length c4]), (1, .int .u64 x5), (2, .int .u64 x6)]) rfl ?_
  refine sxc_seq ?_
  refine sxc_region ?_
  refine sxo_box rfl rfl rfl (fun g7 => ?_)
  refine sxo_alloc rfl tf25 rfl (fun g8 => ?_)
  refine sxo_nil ?_
  refine sxq_next ?_
  refine sxc_seq ?_
  refine sxc_region ?_
  refine sxo_move rfl rfl rfl ?_
  refine sxo_call ent94 rfl rfl rfl (fun x9 e9 => C_golomb_shape F x6 x9 e9) .nil (fun x9 e9 => ?_)
  intro _
  refine sxo_move rfl rfl rfl ?_
  refine sxo_extract rfl rfl rfl rfl ?_
  refine sxo_extract rfl rfl rfl rfl ?_
  refine sxo_assign rfl rfl rfl ?_
  refine sxo_assign rfl rfl rfl ?_
  refine sxo_nil ?_
  refine sxq_next ?_
  refine sxc_seq ?_
  refine sxc_seq ?_
  refine sxc_region ?_
  refine sxo_move rfl rfl rfl ?_
  refine sxo_move rfl rfl rfl ?_
  refine sxo_lss rfl rfl rfl rfl ?_
  refine sxo_nil ?_
  refine sxq_next ?_
  refine sxc_if rfl (fun h20 => ?_) (fun h20 => ?_)
  · refine sxc_seq ?_
    refine sxc_region ?_
    refine sxo_loadB (i := 1) rfl rfl tf25 rfl rfl (by simp) rfl rfl ?_
    refine sxo_move rfl rfl rfl ?_
    refine sxo_move rfl rfl rfl ?_
    refine sxo_sub rfl rfl rfl rfl ?_
    refine sxo_call ent87 rfl rfl rfl (fun x14 e14 => C_bits_Add F x1 x2 a3 c4 x5 (isub .i64 x9.1 1) x14 e14) (.consF 0 rfl .nil) (fun x14 e14 => ?_)
    rintro ⟨a15, c16⟩
    refine sxo_storeB (i := 0) rfl rfl rfl tf25 rfl rfl rfl rfl rfl ?_
    refine sxo_nil ?_
    refine sxq_next ?_
    refine sxc_ret ?_
    refine sxq_thenR ?_
    exact sxq_doneP (a15, c16) (.inl rfl) (resL (rs := [.cell 6 25]) rfl (.cell (i := 0) rfl tf25 rfl rfl (by simp) rfl ResOk.nil) rfl) (fun h => by subst h; rfl) (fun h => by subst h; exact (.cons 0 rfl .nil))
  · refine sxc_skip ?_
    refine sxq_next ?_
    refine sxc_seq ?_
    refine sxc_region ?_
    refine sxo_loadB (i := 1) rfl rfl tf25 rfl rfl (by simp) rfl rfl ?_
    refine sxo_move rfl rfl rfl ?_
    refine sxo_move rfl rfl rfl ?_
    refine sxo_add rfl rfl rfl rfl ?_
    refine sxo_move rfl rfl rfl ?_
    refine sxo_call ent87 rfl rfl rfl (fun x17 e17 => C_bits_Add F x1 x2 a3 c4 (iadd .u64 x5 x9.2) x9.1 x17 e17) (.consF 0 rfl .nil) (fun x17 e17 => ?_)
    rintro ⟨a18, c19⟩
    refine sxo_storeB (i := 0) rfl rfl rfl tf25 rfl rfl rfl rfl rfl ?_
    refine sxo_nil ?_
    refine sxq_next ?_
    refine sxc_ret ?_
    exact sxq_doneP (a18, c19) (.inl rfl) (resL (rs := [.cell 6 25]) rfl (.cell (i := 0) rfl tf25 rfl rfl (by simp) rfl ResOk.nil) rfl) (fun h => by subst h; rfl) (fun h => by subst h; exact (.cons 0 rfl .nil))

theorem C_golomb_Least (F : Nat) (x1 : Int) (x2 : Int) (r : (Int × List Int × Int)) (hm : M_golomb_Least F x1 x2 = some r) :
    Pure Try.prog 29 [.int .u64 x1, .int .u64 x2] [] (Option Addr × Nat) (fun g => .tuple #[.agg #[.int .i64 r.1, .slice g.1 r.2.1.length g.2], .int .i64 r.2.2]) (fun g => [Ro (eI .u8) 5 1 (.slice g.1 r.2.1.length g.2) r.2.1]) (fun _ => []) := by
  refine pure_of Try.func29 rfl Try.ntmps29 rfl hm (fun w => ?_)
  refine sxc_env (l' := [(0, .int .u64 x1), (1, .int .u64 x2)]) rfl ?_
  refine sxc_seq ?_
  refine sxc_region ?_
  refine sxo_alloc rfl tf25 rfl (fun g3 => ?_)
  refine sxo_assign rfl rfl rfl ?_
  refine sxo_nil ?_
  refine sxq_next ?_
  refine sxc_seq ?_
  refine sxc_seq ?_
  refine sxc_region ?_
  refine sxo_move rfl rfl rfl ?_
  refine sxo_call ent66 rfl rfl rfl (fun x7 e7 => C_golomb_right F x2 x7 e7) .nil (fun x7 e7 => ?_)
  intro _
  refine sxo_not rfl rfl rfl ?_
  refine sxo_move rfl rfl rfl ?_
  refine sxo_case 4 (!x7) [(0, .int .u64 x1), (1, .int .u64 x2), (4, .pointer (some ⟨g3, 0, none⟩)), (13, .bool ((!x7) || (decide (x2 ≤ x1))))] (fun h8 => ?_) (fun h8 => ?_) ?_
  · refine sxo_take (os := _) rfl ?_
    refine sxo_isT (k := 9) rfl h8 ?_
    refine sxo_skip rfl rfl rfl ?_
    refine sxo_skip rfl rfl rfl ?_
    refine sxo_skip rfl rfl rfl ?_
    refine sxo_pick (b := true) rfl rfl rfl rfl ?_
    refine sxo_again (d := 13) (v := .bool ((!x7) || (decide (x2 ≤ x1)))) rfl (by rw [h8]; simp only [Bool.true_or]) ?_
    refine sxo_nil ?_
    exact sxq_case (lk_cons rfl (lk_cons rfl (lk_cons rfl (lk_cons rfl lk_nil))))
  · refine sxo_take (os := _) rfl ?_
    refine sxo_isF (k := 9) rfl h8 ?_
    refine sxo_move rfl rfl rfl ?_
    refine sxo_move rfl rfl rfl ?_
    refine sxo_geq rfl rfl rfl rfl ?_
    refine sxo_pick (b := false) rfl rfl rfl rfl ?_
    refine sxo_again (d := 13) (v := .bool ((!x7) || (decide (x2 ≤ x1)))) rfl (by rw [h8]; simp only [Bool.false_or]) ?_
    refine sxo_nil ?_
    exact sxq_case (lk_cons rfl (lk_cons rfl (lk_cons rfl (lk_cons rfl lk_nil))))
  refine sxo_take (os := _) rfl ?_
  refine sxo_nil ?_
  refine sxq_next ?_
  refine sxc_if rfl (fun h12 => ?_) (fun h12 => ?_)
  · refine sxc_seq ?_
    refine sxc_region ?_
    refine sxo_build (cells := [.int .i64 0, .slice none 0 0]) rfl st25 rfl (by kernel_rfl) rfl ?_
    refine sxo_storeB (i := 0) rfl rfl rfl tf25 rfl rfl rfl rfl rfl ?_
    refine sxo_assign rfl rfl rfl ?_
    refine sxo_nil ?_
    refine sxq_next ?_
    refine sxc_ret ?_
    refine sxq_thenR ?_
    refine sxq_nilrow Int (eI .u8) 5 1 ?_
    exact sxq_doneP (none, 0) (.inl rfl) (resL (rs := [.cell 4 25, .tmp 5]) rfl (.cell (i := 0) rfl tf25 rfl rfl (by simp) rfl (.tmp rfl ResOk.nil)) rfl) (fun h => by subst h; rfl) (fun h => by subst h; exact (.cons 0 rfl .nil))
  · refine sxc_skip ?_
    refine sxq_next ?_
    refine sxc_seq ?_
    refine sxc_region ?_
    refine sxo_build (cells := [.int .i64 0, .slice none 0 0]) rfl st25 rfl (by kernel_rfl) rfl ?_
    refine sxo_move rfl rfl rfl ?_
    refine sxo_move rfl rfl rfl ?_
    refine sxo_nilrow' Int (eI .u8) 5 1 ?_
    refine sxo_call ent67 rfl rfl rfl (fun x9 e9 => C_golomb_addLeast F 0 ([] : List Int) none 0 x1 x2 x9 e9) (.consR 0 (Ro (eI .u8) 5 1 (.slice none ([] : List Int).length 0) ([] : List Int)) rfl .nil) (fun x9 e9 => ?_)
    rintro ⟨a10, c11⟩
    refine sxo_storeB (i := 0) rfl rfl rfl tf25 rfl rfl rfl rfl rfl ?_
    refine sxo_assign rfl rfl rfl ?_
    refine sxo_nil ?_
    refine sxq_next ?_
    refine sxc_ret ?_
    exact sxq_doneP (a10, c11) (.inl rfl) (resL (rs := [.cell 4 25, .tmp 5]) rfl (.cell (i := 0) rfl tf25 rfl rfl (by simp) rfl (.tmp rfl ResOk.nil)) rfl) (fun h => by subst h; rfl) (fun h => by subst h; exact (.cons 0 rfl .nil))

theorem C_golomb_Code (F : Nat) (x1 : Int) (x2 : Int) (r : (Int × List Int × Int)) (hm : M_golomb_Code F x1 x2 = some r) :
    Pure Try.prog 30 [.int .u64 x1, .int .u64 x2] [] (Option Addr × Nat) (fun g => .tuple #[.agg #[.int .i64 r.1, .slice g.1 r.2.1.length g.2], .int .i64 r.2.2]) (fun g => [Ro (eI .u8) 5 1 (.slice g.1 r.2.1.length g.2) r.2.1]) (fun _ => []) := by
  refine pure_of Try.func30 rfl Try.ntmps30 rfl hm (fun w => ?_)
  refine sxc_env (l' := [(0, .int .u64 x1), (1, .int .u64 x2)]) rfl ?_
  refine sxc_seq ?_
  refine sxc_region ?_
  refine sxo_alloc rfl tf25 rfl (fun g3 => ?_)
  refine sxo_assign rfl rfl rfl ?_
  refine sxo_nil ?_
  refine sxq_next ?_
  refine sxc_seq ?_
  refine sxc_seq ?_
  refine sxc_region ?_
  refine sxo_move rfl rfl rfl ?_
  refine sxo_call ent66 rfl rfl rfl (fun x11 e11 => C_golomb_right F x2 x11 e11) .nil (fun x11 e11 => ?_)
  intro _
  refine sxo_not rfl rfl rfl ?_
  refine sxo_move rfl rfl rfl ?_
  refine sxo_case 3 (!x11) [(0, .int .u64 x1), (1, .int .u64 x2), (4, .pointer (some ⟨g3, 0, none⟩)), (12, .bool ((!x11) || (decide (1099511627776 < x1))))] (fun h12 => ?_) (fun h12 => ?_) ?_
  · refine sxo_take (os := _) rfl ?_
    refine sxo_isT (k := 9) rfl h12 ?_
    refine sxo_skip rfl rfl rfl ?_
    refine sxo_skip rfl rfl rfl ?_
    refine sxo_pick (b := true) rfl rfl rfl rfl ?_
    refine sxo_again (d := 12) (v := .bool ((!x11) || (decide (1099511627776 < x1)))) rfl (by rw [h12]; simp only [Bool.true_or]) ?_
    refine sxo_nil ?_
    exact sxq_case (lk_cons rfl (lk_cons rfl (lk_cons rfl (lk_cons rfl lk_nil))))
  · refine sxo_take (os := _) rfl ?_
    refine sxo_isF (k := 9) rfl h12 ?_
    refine sxo_move rfl rfl rfl ?_
    refine sxo_gtr rfl rfl rfl rfl ?_
    refine sxo_pick (b := false) rfl rfl rfl rfl ?_
    refine sxo_again (d := 12) (v := .bool ((!x11) || (decide (1099511627776 < x1)))) rfl (by rw [h12]; simp only [Bool.false_or]) ?_
    refine sxo_nil ?_
    exact sxq_case (lk_cons rfl (lk_cons rfl (lk_cons rfl (lk_cons rfl lk_nil))))
  refine sxo_take (os := _) rfl ?_
  refine sxo_move rfl rfl rfl ?_
  refine sxo_join 5 (fun ((x15, _) : (Bool × Unit)) => [(0, .int .u64 x1), (1, .int .u64 x2), (4, .pointer (some ⟨g3, 0, none⟩)), (18, .bool x15)]) (fun ((x15, _) : (Bool × Unit)) => [⟨g3, 25, [.int .i64 0, .slice none 0 0]⟩]) (fun ((x15, _) : (Bool × Unit)) => []) (fun ((x15, _) : (Bool × Unit)) => []) (fun ((x15, _) : (Bool × Unit)) => M_golomb_Code_j2 F x1 x2 x15) ?_ ?_
  · refine sxo_take (os := _) rfl ?_
    refine sxo_if (fun h13 => ?_) (fun h13 => ?_)
    · refine sxo_isT (k := 13) rfl h13 ?_
      refine sxo_skip rfl rfl rfl ?_
      refine sxo_skip rfl rfl rfl ?_
      refine sxo_skip rfl rfl rfl ?_
      refine sxo_skip rfl rfl rfl ?_
      refine sxo_pick (b := true) rfl rfl rfl rfl ?_
      refine sxo_nil ?_
      exact sxq_meetP (true, ()) (lk_cons rfl (lk_cons rfl (lk_cons rfl (lk_cons rfl lk_nil)))) (.cons 0 rfl .nil) .nil fk_nil
    · refine sxo_isF (k := 13) rfl h13 ?_
      refine sxo_move rfl rfl rfl ?_
      refine sxo_move rfl rfl rfl ?_
      refine sxo_chk (fun h41 => ?_)
      refine sxo_quo rfl rfl rfl rfl h41 ?_
      refine sxo_geq rfl rfl rfl rfl ?_
      refine sxo_pick (b := false) rfl rfl rfl rfl ?_
      refine sxo_nil ?_
      exact sxq_meetP ((decide (8128 ≤ (iquo .u64 x1 x2))), ()) (lk_cons rfl (lk_cons rfl (lk_cons rfl (lk_cons rfl lk_nil)))) (.cons 0 rfl .nil) .nil fk_nil
  · rintro ⟨x15, _⟩
    try dsimp only
    refine sxo_take (os := _) rfl ?_
    refine sxo_nil ?_
    refine sxq_next ?_
    refine sxc_if rfl (fun h40 => ?_) (fun h40 => ?_)
    · refine sxc_seq ?_
      refine sxc_region ?_
      refine sxo_build (cells := [.int .i64 0, .slice none 0 0]) rfl st25 rfl (by kernel_rfl) rfl ?_
      refine sxo_storeB (i := 0) rfl rfl rfl tf25 rfl rfl rfl rfl rfl ?_
      refine sxo_assign rfl rfl rfl ?_
      refine sxo_nil ?_
      refine sxq_next ?_
      refine sxc_ret ?_
      refine sxq_thenR ?_
      refine sxq_nilrow Int (eI .u8) 5 1 ?_
      exact sxq_doneP (none, 0) (.inl rfl) (resL (rs := [.cell 4 25, .tmp 5]) rfl (.cell (i := 0) rfl tf25 rfl rfl (by simp) rfl (.tmp rfl ResOk.nil)) rfl) (fun h => by subst h; rfl) (fun h => by subst h; exact (.cons 0 rfl .nil))
    · refine sxc_skip ?_
      refine sxq_next ?_
      refine sxc_seq ?_
      refine sxc_chk (fun h28 => ?_)
      refine sxc_chk (fun h30 => ?_)
      refine sxb_draw mixed [] [] [] .nil gk_nil 11 rfl ?_
      refine sxb_takeP 0 (.int .u64 x1) rfl rfl rfl rfl (by kernel_rfl) (by kernel_rfl) (by kernel_rfl) (by kernel_rfl) (by kernel_rfl) rfl (show _ = #[true, false, false, false, false, false, false, false, false, false, false] from rfl) (yv_pv rfl) ?_
      refine sxb_takeP 1 (.int .u64 x2) rfl rfl rfl rfl (by kernel_rfl) (by kernel_rfl) (by kernel_rfl) (by kernel_rfl) (by kernel_rfl) rfl (show _ = #[true, true, false, false, false, false, false, false, false, false, false] from rfl) (yv_pv rfl) ?_
      refine sxb_takeP 2 (.int .u64 (iquo .u64 x1 x2)) rfl rfl rfl rfl (by kernel_rfl) (by kernel_rfl) (by kernel_rfl) (by kernel_rfl) (by kernel_rfl) rfl (show _ = #[true, true, true, false, false, false, false, false, false, false, false] from rfl) (yv_quo rfl rfl h28) ?_
      refine sxb_takeP 4 (.int .u64 x1) rfl rfl rfl rfl (by kernel_rfl) (by kernel_rfl) (by kernel_rfl) (by kernel_rfl) (by kernel_rfl) rfl (show _ = #[true, true, true, false, true, false, false, false, false, false, false] from rfl) (yv_pv rfl) ?_
      refine sxb_takeP 5 (.int .u64 x2) rfl rfl rfl rfl (by kernel_rfl) (by kernel_rfl) (by kernel_rfl) (by kernel_rfl) (by kernel_rfl) rfl (show _ = #[true, true, true, false, true, true, false, false, false, false, false] from rfl) (yv_pv rfl) ?_
      refine sxb_takeP 6 (.int .u64 (irem x1 x2)) rfl rfl rfl rfl (by kernel_rfl) (by kernel_rfl) (by kernel_rfl) (by kernel_rfl) (by kernel_rfl) rfl (show _ = #[true, true, true, false, true, true, true, false, false, false, false] from rfl) (yv_rem rfl rfl h30) ?_
      refine sxb_takeP 7 (.int .u64 x2) rfl rfl rfl rfl (by kernel_rfl) (by kernel_rfl) (by kernel_rfl) (by kernel_rfl) (by kernel_rfl) rfl (show _ = #[true, true, true, false, true, true, true, true, false, false, false] from rfl) (yv_pv rfl) ?_
      refine sxb_step 3 rfl (by kernel_rfl) (show _ = #[true, true, true, true, true, true, true, true, false, false, false] from rfl) ?_
      refine sxo_call ent68 rfl rfl rfl (fun x34 e34 => C_unary_Raw F (iquo .u64 x1 x2) x34 e34) .nil (fun x34 e34 => ?_)
      rintro ⟨a35, c36⟩
      refine sxo_nil ?_
      refine sxq_anyB .nil gk_nil ?_
      refine sxb_step 8 rfl (by kernel_rfl) (show _ = #[true, true, true, true, true, true, true, true, true, false, false] from rfl) ?_
      refine sxo_call ent67 rfl rfl rfl (fun x37 e37 => C_golomb_addLeast F x34.1 x34.2 a35 c36 (irem x1 x2) x2 x37 e37) (.consR 0 (Ro (eI .u8) 5 1 (.slice a35 x34.2.length c36) x34.2) rfl .nil) (fun x37 e37 => ?_)
      rintro ⟨a38, c39⟩
      refine sxo_nil ?_
      refine sxq_anyB .nil gk_nil ?_
      refine sxb_step 9 rfl (by kernel_rfl) (show _ = #[true, true, true, true, true, true, true, true, true, true, false] from rfl) ?_
      refine sxo_storeB (i := 0) rfl rfl rfl tf25 rfl rfl rfl rfl rfl ?_
      refine sxo_nil ?_
      refine sxq_anyB .nil gk_nil ?_
      refine sxb_takeP 10 (.int .i64 0) rfl rfl rfl rfl (by kernel_rfl) (by kernel_rfl) (by kernel_rfl) (by kernel_rfl) (by kernel_rfl) rfl (show _ = #[true, true, true, true, true, true, true, true, true, true, true] from rfl) (yv_pv rfl) ?_
      refine sxb_done (by kernel_rfl) ?_
      refine sxq_np ?_ (by intro c h; cases h)
      refine sxq_next ?_
      refine sxc_ret ?_
      exact sxq_doneP (a38, c39) (.inl rfl) (resL (rs := [.cell 4 25, .tmp 5]) rfl (.cell (i := 0) rfl tf25 rfl rfl (by simp) rfl (.tmp rfl ResOk.nil)) rfl) (fun h => by subst h; rfl) (fun h => by subst h; exact (.cons 0 rfl .nil))

theorem C_slices_Index_bool_bool (F : Nat) (x1 : List Bool) (a2 : Option Addr) (c3 : Nat) (x4 : Bool) (r : Int) (hm : M_slices_Index_bool_bool F x1 x4 = some r) :
    Pure Try.prog 100 [.slice a2 x1.length c3, .bool x4] [Sl eB 1 (.slice a2 x1.length c3) x1] Unit (fun _ => .int .i64 r) (fun _ => []) (fun _ => []) := by
  refine pure_of Try.func100 rfl Try.ntmps100 rfl hm (fun w => ?_)
  refine sxc_env (l' := [(0, .slice a2 x1.length c3), (1, .bool x4)]) rfl ?_
  refine sxc_seq ?_
  refine sxc_region ?_
  refine sxo_assign rfl rfl rfl ?_
  refine sxo_nil ?_
  refine sxq_next ?_
  refine sxc_join (fun ((_, _) : (Unit × Unit)) => []) (fun ((_, _) : (Unit × Unit)) => []) (fun ((_, _) : (Unit × Unit)) => []) (fun ((_, _) : (Unit × Unit)) => []) (fun ((_, _) : (Unit × Unit)) => M_slices_Index_bool_bool_j2 F) ?_ ?_
  · refine sxc_seq ?_
    refine sxc_region ?_
    refine sxo_move rfl rfl rfl ?_
    refine sxo_len rfl Try.underlying107 rfl rfl ?_
    refine sxo_move rfl rfl rfl ?_
    refine sxo_nil ?_
    refine sxq_next ?_
    refine sxc_block ?_
    refine sxc_loopP (fun ((x47, _) : (Int × Unit)) => [(0, .slice a2 x1.length c3), (1, .bool x4), (7, .int .i64 (x1.length : Int)), (8, .int .i64 x47)]) (fun ((x47, _) : (Int × Unit)) => []) (fun ((x47, _) : (Int × Unit)) => []) (fun ((x47, _) : (Int × Unit)) => [Sl eB 1 (.slice a2 x1.length c3) x1]) (fun k (s : (Int × Unit)) => M_slices_Index_bool_bool_l3 F x1 x4 k s.1) (0, ()) F (lk_cons rfl (lk_cons rfl (lk_cons rfl (lk_cons rfl lk_nil)))) .nil .nil (fk_cons 0 rfl fk_nil) (fun _ => rfl) ?_
    intro k58
    rintro ⟨x47, _⟩
    try dsimp only
    refine sxc_meq (m' := M_slices_Index_bool_bool_b3 F x1 x4 (M_slices_Index_bool_bool_l3 F x1 x4 k58) x47) rfl ?_
    refine sxc_seq ?_
    refine sxc_region ?_
    refine sxo_lss rfl rfl rfl rfl ?_
    refine sxo_nil ?_
    refine sxq_next ?_
    refine sxc_seq ?_
    refine sxc_if rfl (fun h68 => ?_) (fun h68 => ?_)
    · refine sxc_skip ?_
      refine sxq_next ?_
      refine sxc_seq ?_
      refine sxc_block ?_
      refine sxc_seq ?_
      refine sxc_region ?_
      refine sxo_move rfl rfl rfl ?_
      refine sxo_assign rfl rfl rfl ?_
      refine sxo_nil ?_
      refine sxq_next ?_
      refine sxc_seq ?_
      refine sxc_region ?_
      refine sxo_move rfl rfl rfl ?_
      refine sxo_move rfl rfl rfl ?_
      refine sxo_move rfl rfl rfl ?_
      refine sxo_indexF (j := 0) eB_ok (by decide) rfl Try.underlying107 tf4 rfl rfl rfl rfl (fun x64 e64 b65 o66 => ?_)
      refine sxo_loadF (j := 0) rfl rfl tf4 rfl rfl (fun _ => rfl) rfl rfl ?_
      refine sxo_eqb rfl Try.underlying4 rfl rfl rfl ?_
      refine sxo_nil ?_
      refine sxq_next ?_
      refine sxc_if rfl (fun h67 => ?_) (fun h67 => ?_)
      · refine sxc_seq ?_
        refine sxc_region ?_
        refine sxo_move rfl rfl rfl ?_
        refine sxo_assign rfl rfl rfl ?_
        refine sxo_nil ?_
        refine sxq_next ?_
        refine sxc_ret ?_
        refine sxq_blkR ?_
        refine sxq_thenR ?_
        refine sxq_thenR ?_
        refine sxq_blkR ?_
        refine sxq_thenR ?_
        exact sxq_doneP () (.inl rfl) (res1 rfl rfl) (fun h => by subst h; rfl) (fun h => by subst h; exact .nil)
      · refine sxc_skip ?_
        refine sxq_blkN ?_
        refine sxq_next ?_
        refine sxc_region ?_
        refine sxo_add rfl rfl rfl rfl ?_
        refine sxo_move rfl rfl rfl ?_
        refine sxo_nil ?_
        exact sxq_againP (iadd .i64 x47 1, ()) (lk_cons rfl (lk_cons rfl (lk_cons rfl (lk_cons rfl lk_nil)))) .nil .nil (fk_cons 1 rfl fk_nil)
    · refine sxc_exit ?_
      refine sxq_thenX ?_
      refine sxq_thenX ?_
      refine sxq_blkX ?_
      exact sxq_meetP ((), ()) lk_nil .nil .nil fk_nil
  · rintro ⟨_, _⟩
    try dsimp only
    refine sxc_seq ?_
    refine sxc_region ?_
    refine sxo_assign rfl rfl rfl ?_
    refine sxo_nil ?_
    refine sxq_next ?_
    refine sxc_ret ?_
    exact sxq_doneP () (.inl rfl) (res1 rfl rfl) (fun h => by subst h; rfl) (fun h => by subst h; exact .nil)

theorem C_slices_Contains_bool_bool (F : Nat) (x1 : List Bool) (a2 : Option Addr) (c3 : Nat) (x4 : Bool) (r : Bool) (hm : M_slices_Contains_bool_bool F x1 x4 = some r) :
    Pure Try.prog 95 [.slice a2 x1.length c3, .bool x4] [Sl eB 1 (.slice a2 x1.length c3) x1] Unit (fun _ => .bool r) (fun _ => []) (fun _ => []) := by
  refine pure_of Try.func95 rfl Try.ntmps95 rfl hm (fun w => ?_)
  refine sxc_env (l' := [(0, .slice a2 x1.length c3), (1, .bool x4)]) rfl ?_
  refine sxc_seq ?_
  refine sxc_region ?_
  refine sxo_assign rfl rfl rfl ?_
  refine sxo_nil ?_
  refine sxq_next ?_
  refine sxc_seq ?_
  refine sxc_region ?_
  refine sxo_move rfl rfl rfl ?_
  refine sxo_move rfl rfl rfl ?_
  refine sxo_call ent100 rfl rfl rfl (fun x5 e5 => C_slices_Index_bool_bool F x1 a2 c3 x4 x5 e5) (.consF 0 rfl .nil) (fun x5 e5 => ?_)
  intro _
  refine sxo_geq rfl rfl rfl rfl ?_
  refine sxo_assign rfl rfl rfl ?_
  refine sxo_nil ?_
  refine sxq_next ?_
  refine sxc_ret ?_
  exact sxq_doneP () (.inl rfl) (res1 rfl rfl) (fun h => by subst h; rfl) (fun h => by subst h; exact .nil)

theorem C_golomb_check (F : Nat) (x1 : Int) (x2 : List Int) (a3 : Option Addr) (c4 : Nat) (x5 : Int) (x6 : List Bool) (a7 : Option Addr) (c8 : Nat) (r : Int) (hm : M_golomb_check F x1 x2 x5 x6 = some r) :
    Pure Try.prog 69 [.agg #[.int .i64 x1, .slice a3 x2.length c4], .int .i64 x5, .slice a7 x6.length c8] [Sl (eI .u8) 1 (.slice a3 x2.length c4) x2, Sl eB 1 (.slice a7 x6.length c8) x6] Unit (fun _ => .int .i64 r) (fun _ => []) (fun _ => []) := by
  refine pure_of Try.func69 rfl Try.ntmps69 rfl hm (fun w => ?_)
  refine sxc_env (l' := [(0, .agg #[.int .i64 x1, .slice a3 x2.length c4]), (1, .int .i64 x5), (2, .slice a7 x6.length c8)]) rfl ?_
  refine sxc_seq ?_
  refine sxc_region ?_
  refine sxo_box rfl rfl rfl (fun g9 => ?_)
  refine sxo_assign rfl rfl rfl ?_
  refine sxo_nil ?_
  refine sxq_next ?_
  refine sxc_seq ?_
  refine sxc_region ?_
  refine sxo_loadB (i := 0) rfl rfl tf25 rfl rfl (by simp) rfl rfl ?_
  refine sxo_move rfl rfl rfl ?_
  refine sxo_call ent89 rfl rfl rfl (fun x10 e10 => C_elias_Check F x1 x2 a3 c4 x5 x10 e10) (.consF 0 rfl .nil) (fun x10 e10 => ?_)
  intro _
  refine sxo_assign rfl rfl rfl ?_
  refine sxo_nil ?_
  refine sxq_next ?_
  refine sxc_join (fun ((x16, _) : (Int × Unit)) => [(7, .int .i64 x16)]) (fun ((x16, _) : (Int × Unit)) => []) (fun ((x16, _) : (Int × Unit)) => []) (fun ((x16, _) : (Int × Unit)) => []) (fun ((x16, _) : (Int × Unit)) => M_golomb_check_j2 F x16) ?_ ?_
  · refine sxc_seq ?_
    refine sxc_region ?_
    refine sxo_move rfl rfl rfl ?_
    refine sxo_eql rfl rfl rfl rfl ?_
    refine sxo_move rfl rfl rfl ?_
    refine sxo_join 3 (fun ((x19, _) : (Bool × Unit)) => [(7, .int .i64 x10), (16, .bool x19)]) (fun ((x19, _) : (Bool × Unit)) => []) (fun ((x19, _) : (Bool × Unit)) => []) (fun ((x19, _) : (Bool × Unit)) => []) (fun ((x19, _) : (Bool × Unit)) => M_golomb_check_j3 F x10 x19) ?_ ?_
    · refine sxo_take (os := _) rfl ?_
      refine sxo_if (fun h17 => ?_) (fun h17 => ?_)
      · refine sxo_isT (k := 13) rfl h17 ?_
        refine sxo_move rfl rfl rfl ?_
        refine sxo_call ent95 rfl rfl rfl (fun x21 e21 => C_slices_Contains_bool_bool F x6 a7 c8 false x21 e21) (.consF 1 rfl .nil) (fun x21 e21 => ?_)
        intro _
        refine sxo_pick (b := true) rfl rfl rfl rfl ?_
        refine sxo_nil ?_
        exact sxq_meetP (x21, ()) (lk_cons rfl (lk_cons rfl lk_nil)) .nil .nil fk_nil
      · refine sxo_isF (k := 13) rfl h17 ?_
        refine sxo_skip rfl rfl rfl ?_
        refine sxo_skip rfl rfl rfl ?_
        refine sxo_pick (b := false) rfl rfl rfl rfl ?_
        refine sxo_nil ?_
        exact sxq_meetP (false, ()) (lk_cons rfl (lk_cons rfl lk_nil)) .nil .nil fk_nil
    · rintro ⟨x19, _⟩
      try dsimp only
      refine sxo_take (os := _) rfl ?_
      refine sxo_nil ?_
      refine sxq_next ?_
      refine sxc_if rfl (fun h20 => ?_) (fun h20 => ?_)
      · refine sxc_region ?_
        refine sxo_assign rfl rfl rfl ?_
        refine sxo_nil ?_
        exact sxq_meetP (3, ()) (lk_cons rfl lk_nil) .nil .nil fk_nil
      · refine sxc_skip ?_
        exact sxq_meetP (x10, ()) (lk_cons rfl lk_nil) .nil .nil fk_nil
  · rintro ⟨x16, _⟩
    try dsimp only
    refine sxc_seq ?_
    refine sxc_region ?_
    refine sxo_move rfl rfl rfl ?_
    refine sxo_assign rfl rfl rfl ?_
    refine sxo_nil ?_
    refine sxq_next ?_
    refine sxc_ret ?_
    exact sxq_doneP () (.inl rfl) (res1 rfl rfl) (fun h => by subst h; rfl) (fun h => by subst h; exact .nil)

theorem C_golomb_ended (F : Nat) (x1 : Int) (x2 : Int) (x3 : Bool) (r : (Int × Int × Int)) (hm : M_golomb_ended F x1 x2 x3 = some r) :
    Pure Try.prog 70 [.int .u64 x1, .int .i64 x2, .bool x3] [] Unit (fun _ => .tuple #[.int .u64 r.1, .int .i64 r.2.1, .int .i64 r.2.2]) (fun _ => []) (fun _ => []) := by
  refine pure_of Try.func70 rfl Try.ntmps70 rfl hm (fun w => ?_)
  refine sxc_env (l' := [(0, .int .u64 x1), (1, .int .i64 x2), (2, .bool x3)]) rfl ?_
  refine sxc_seq ?_
  refine sxc_region ?_
  refine sxo_assign rfl rfl rfl ?_
  refine sxo_assign rfl rfl rfl ?_
  refine sxo_assign rfl rfl rfl ?_
  refine sxo_nil ?_
  refine sxq_next ?_
  refine sxc_seq ?_
  refine sxc_block ?_
  refine sxc_seq ?_
  refine sxc_region ?_
  refine sxo_move rfl rfl rfl ?_
  refine sxo_not rfl rfl rfl ?_
  refine sxo_assign rfl rfl rfl ?_
  refine sxo_nil ?_
  refine sxq_next ?_
  refine sxc_if rfl (fun h7 => ?_) (fun h7 => ?_)
  · refine sxc_seq ?_
    refine sxc_region ?_
    refine sxo_assign rfl rfl rfl ?_
    refine sxo_assign rfl rfl rfl ?_
    refine sxo_assign rfl rfl rfl ?_
    refine sxo_nil ?_
    refine sxq_next ?_
    refine sxc_ret ?_
    refine sxq_blkR ?_
    refine sxq_thenR ?_
    exact sxq_doneP () (.inl rfl) (res3 rfl rfl rfl rfl) (fun h => by subst h; rfl) (fun h => by subst h; exact .nil)
  · refine sxc_seq ?_
    refine sxc_region ?_
    refine sxo_move rfl rfl rfl ?_
    refine sxo_gtr rfl rfl rfl rfl ?_
    refine sxo_assign rfl rfl rfl ?_
    refine sxo_nil ?_
    refine sxq_next ?_
    refine sxc_if rfl (fun h6 => ?_) (fun h6 => ?_)
    · refine sxc_seq ?_
      refine sxc_region ?_
      refine sxo_assign rfl rfl rfl ?_
      refine sxo_assign rfl rfl rfl ?_
      refine sxo_assign rfl rfl rfl ?_
      refine sxo_nil ?_
      refine sxq_next ?_
      refine sxc_ret ?_
      refine sxq_blkR ?_
      refine sxq_thenR ?_
      exact sxq_doneP () (.inl rfl) (res3 rfl rfl rfl rfl) (fun h => by subst h; rfl) (fun h => by subst h; exact .nil)
    · refine sxc_skip ?_
      refine sxq_blkN ?_
      refine sxq_next ?_
      refine sxc_seq ?_
      refine sxc_region ?_
      refine sxo_move rfl rfl rfl ?_
      refine sxo_move rfl rfl rfl ?_
      refine sxo_assign rfl rfl rfl ?_
      refine sxo_assign rfl rfl rfl ?_
      refine sxo_assign rfl rfl rfl ?_
      refine sxo_nil ?_
      refine sxq_next ?_
      refine sxc_ret ?_
      exact sxq_doneP () (.inl rfl) (res3 rfl rfl rfl rfl) (fun h => by subst h; rfl) (fun h => by subst h; exact .nil)

theorem C_golomb_fromLeast (F : Nat) (x1 : Int) (x2 : List Int) (a3 : Option Addr) (c4 : Nat) (x5 : Int) (x6 : Int) (r : (Int × Int × Bool)) (hm : M_golomb_fromLeast F x1 x2 x5 x6 = some r) :
    Pure Try.prog 71 [.agg #[.int .i64 x1, .slice a3 x2.length c4], .int .i64 x5, .int .u64 x6] [Sl (eI .u8) 1 (.slice a3 x2.length c4) x2] Unit (fun _ => .tuple #[.int .u64 r.1, .int .i64 r.2.1, .bool r.2.2]) (fun _ => []) (fun _ => []) := by
  refine pure_of Try.func71 rfl Try.ntmps71 rfl hm (fun w => ?_)
  refine sxc_env (l' := [(0, .agg #[.int .i64 x1, .slice a3 x2.length c4]), (1, .int .i64 x5), (2, .int .u64 x6)]) rfl ?_
  refine sxc_seq ?_
  refine sxc_region ?_
  refine sxo_box rfl rfl rfl (fun g7 => ?_)
  refine sxo_assign rfl rfl rfl ?_
  refine sxo_assign rfl rfl rfl ?_
  refine sxo_assign rfl rfl rfl ?_
  refine sxo_nil ?_
  refine sxq_next ?_
  refine sxc_seq ?_
  refine sxc_region ?_
  refine sxo_move rfl rfl rfl ?_
  refine sxo_call ent94 rfl rfl rfl (fun x8 e8 => C_golomb_shape F x6 x8 e8) .nil (fun x8 e8 => ?_)
  intro _
  refine sxo_move rfl rfl rfl ?_
  refine sxo_extract rfl rfl rfl rfl ?_
  refine sxo_extract rfl rfl rfl rfl ?_
  refine sxo_assign rfl rfl rfl ?_
  refine sxo_assign rfl rfl rfl ?_
  refine sxo_nil ?_
  refine sxq_next ?_
  refine sxc_join (fun ((_, _) : (Unit × Unit)) => [(1, .int .i64 x5), (3, .pointer (some ⟨g7, 0, none⟩)), (9, .int .i64 x8.1), (10, .int .u64 x8.2)]) (fun ((_, _) : (Unit × Unit)) => [⟨g7, 25, [.int .i64 x1, .slice a3 x2.length c4]⟩]) (fun ((_, _) : (Unit × Unit)) => []) (fun ((_, _) : (Unit × Unit)) => [Sl (eI .u8) 1 (.slice a3 x2.length c4) x2]) (fun ((_, _) : (Unit × Unit)) => M_golomb_fromLeast_j1 F x1 x2 x5 x8) ?_ ?_
  · refine sxc_seq ?_
    refine sxc_region ?_
    refine sxo_move rfl rfl rfl ?_
    refine sxo_gtr rfl rfl rfl rfl ?_
    refine sxo_nil ?_
    refine sxq_next ?_
    refine sxc_if rfl (fun h19 => ?_) (fun h19 => ?_)
    · refine sxc_seq ?_
      refine sxc_region ?_
      refine sxo_loadB (i := 0) rfl rfl tf25 rfl rfl (by simp) rfl rfl ?_
      refine sxo_move rfl rfl rfl ?_
      refine sxo_move rfl rfl rfl ?_
      refine sxo_sub rfl rfl rfl rfl ?_
      refine sxo_call ent82 rfl rfl rfl (fun x15 e15 => C_bits_Read F x1 x2 a3 c4 x5 (isub .i64 x8.1 1) x15 e15) (.consF 0 rfl .nil) (fun x15 e15 => ?_)
      intro _
      refine sxo_move rfl rfl rfl ?_
      refine sxo_extract rfl rfl rfl rfl ?_
      refine sxo_extract rfl rfl rfl rfl ?_
      refine sxo_assign rfl rfl rfl ?_
      refine sxo_assign rfl rfl rfl ?_
      refine sxo_nil ?_
      refine sxq_next ?_
      refine sxc_seq ?_
      refine sxc_seq ?_
      refine sxc_region ?_
      refine sxo_move rfl rfl rfl ?_
      refine sxo_not rfl rfl rfl ?_
      refine sxo_nil ?_
      refine sxq_next ?_
      refine sxc_if rfl (fun h18 => ?_) (fun h18 => ?_)
      · refine sxc_seq ?_
        refine sxc_region ?_
        refine sxo_assign rfl rfl rfl ?_
        refine sxo_assign rfl rfl rfl ?_
        refine sxo_assign rfl rfl rfl ?_
        refine sxo_nil ?_
        refine sxq_next ?_
        refine sxc_ret ?_
        refine sxq_thenR ?_
        refine sxq_thenR ?_
        exact sxq_doneP () (.inl rfl) (res3 rfl rfl rfl rfl) (fun h => by subst h; rfl) (fun h => by subst h; exact .nil)
      · refine sxc_skip ?_
        refine sxq_next ?_
        refine sxc_seq ?_
        refine sxc_region ?_
        refine sxo_move rfl rfl rfl ?_
        refine sxo_move rfl rfl rfl ?_
        refine sxo_lss rfl rfl rfl rfl ?_
        refine sxo_nil ?_
        refine sxq_next ?_
        refine sxc_if rfl (fun h17 => ?_) (fun h17 => ?_)
        · refine sxc_seq ?_
          refine sxc_region ?_
          refine sxo_move rfl rfl rfl ?_
          refine sxo_move rfl rfl rfl ?_
          refine sxo_move rfl rfl rfl ?_
          refine sxo_add rfl rfl rfl rfl ?_
          refine sxo_sub rfl rfl rfl rfl ?_
          refine sxo_assign rfl rfl rfl ?_
          refine sxo_assign rfl rfl rfl ?_
          refine sxo_assign rfl rfl rfl ?_
          refine sxo_nil ?_
          refine sxq_next ?_
          refine sxc_ret ?_
          refine sxq_thenR ?_
          exact sxq_doneP () (.inl rfl) (res3 rfl rfl rfl rfl) (fun h => by subst h; rfl) (fun h => by subst h; exact .nil)
        · refine sxc_skip ?_
          exact sxq_meetP ((), ()) (lk_cons rfl (lk_cons rfl (lk_cons rfl (lk_cons rfl lk_nil)))) (.cons 0 rfl .nil) .nil (fk_cons 0 rfl fk_nil)
    · refine sxc_skip ?_
      exact sxq_meetP ((), ()) (lk_cons rfl (lk_cons rfl (lk_cons rfl (lk_cons rfl lk_nil)))) (.cons 0 rfl .nil) .nil (fk_cons 0 rfl fk_nil)
  · rintro ⟨_, _⟩
    try dsimp only
    refine sxc_seq ?_
    refine sxc_region ?_
    refine sxo_loadB (i := 0) rfl rfl tf25 rfl rfl (by simp) rfl rfl ?_
    refine sxo_move rfl rfl rfl ?_
    refine sxo_move rfl rfl rfl ?_
    refine sxo_call ent82 rfl rfl rfl (fun x14 e14 => C_bits_Read F x1 x2 a3 c4 x5 x8.1 x14 e14) (.consF 0 rfl .nil) (fun x14 e14 => ?_)
    intro _
    refine sxo_move rfl rfl rfl ?_
    refine sxo_extract rfl rfl rfl rfl ?_
    refine sxo_extract rfl rfl rfl rfl ?_
    refine sxo_assign rfl rfl rfl ?_
    refine sxo_assign rfl rfl rfl ?_
    refine sxo_nil ?_
    refine sxq_next ?_
    refine sxc_seq ?_
    refine sxc_region ?_
    refine sxo_move rfl rfl rfl ?_
    refine sxo_move rfl rfl rfl ?_
    refine sxo_sub rfl rfl rfl rfl ?_
    refine sxo_move rfl rfl rfl ?_
    refine sxo_move rfl rfl rfl ?_
    refine sxo_add rfl rfl rfl rfl ?_
    refine sxo_move rfl rfl rfl ?_
    refine sxo_assign rfl rfl rfl ?_
    refine sxo_assign rfl rfl rfl ?_
    refine sxo_assign rfl rfl rfl ?_
    refine sxo_nil ?_
    refine sxq_next ?_
    refine sxc_ret ?_
    exact sxq_doneP () (.inl rfl) (res3 rfl rfl rfl rfl) (fun h => by subst h; rfl) (fun h => by subst h; exact .nil)

theorem C_golomb_ReadLeast (F : Nat) (x1 : Int) (x2 : List Int) (a3 : Option Addr) (c4 : Nat) (x5 : Int) (x6 : Int) (r : (Int × Int × Int)) (hm : M_golomb_ReadLeast F x1 x2 x5 x6 = some r) :
    Pure Try.prog 31 [.agg #[.int .i64 x1, .slice a3 x2.length c4], .int .i64 x5, .int .u64 x6] [Sl (eI .u8) 1 (.slice a3 x2.length c4) x2] Unit (fun _ => .tuple #[.int .u64 r.1, .int .i64 r.2.1, .int .i64 r.2.2]) (fun _ => []) (fun _ => []) := by
  refine pure_of Try.func31 rfl Try.ntmps31 rfl hm (fun w => ?_)
  refine sxc_env (l' := [(0, .agg #[.int .i64 x1, .slice a3 x2.length c4]), (1, .int .i64 x5), (2, .int .u64 x6)]) rfl ?_
  refine sxc_seq ?_
  refine sxc_region ?_
  refine sxo_box rfl rfl rfl (fun g7 => ?_)
  refine sxo_assign rfl rfl rfl ?_
  refine sxo_assign rfl rfl rfl ?_
  refine sxo_assign rfl rfl rfl ?_
  refine sxo_nil ?_
  refine sxq_next ?_
  refine sxc_seq ?_
  refine sxc_seq ?_
  refine sxb_draw mixed [] [⟨g7, 25, [.int .i64 x1, .slice a3 x2.length c4]⟩] [Sl (eI .u8) 1 (.slice a3 x2.length c4) x2] (.cons 0 rfl .nil) (gk_F 0 rfl gk_nil) 7 rfl ?_
  refine sxb_take 0 (.agg #[.int .i64 x1, .slice a3 x2.length c4]) [] rfl rfl rfl rfl (by kernel_rfl) (by kernel_rfl) (by kernel_rfl) (by kernel_rfl) (by kernel_rfl) (by kernel_rfl) rfl (show _ = #[true, false, false, false, false, false, false] from rfl) (yv_loadB (i := 0) rfl tf25 rfl rfl (by simp) rfl) ?_
  refine sxb_takeP 1 (.int .i64 x5) rfl rfl rfl rfl (by kernel_rfl) (by kernel_rfl) (by kernel_rfl) (by kernel_rfl) (by kernel_rfl) rfl (show _ = #[true, true, false, false, false, false, false] from rfl) (yv_pv rfl) ?_
  refine sxb_takeP 2 (.int .u64 x6) rfl rfl rfl rfl (by kernel_rfl) (by kernel_rfl) (by kernel_rfl) (by kernel_rfl) (by kernel_rfl) rfl (show _ = #[true, true, true, false, false, false, false] from rfl) (yv_pv rfl) ?_
  refine sxb_step 3 rfl (by kernel_rfl) (show _ = #[true, true, true, true, false, false, false] from rfl) ?_
  refine sxo_call ent66 rfl rfl rfl (fun x21 e21 => C_golomb_right F x6 x21 e21) .nil (fun x21 e21 => ?_)
  intro _
  refine sxo_nil ?_
  refine sxq_anyB (.cons 0 rfl .nil) (gk_F 0 rfl gk_nil) ?_
  refine sxb_step 4 rfl (by kernel_rfl) (show _ = #[true, true, true, true, true, false, false] from rfl) ?_
  refine sxo_slit (vs := [.bool x21]) (ys := ([x21] : List Bool)) eB_ok (by decide) rfl Try.underlying107 tf4 rfl rfl rfl rfl rfl (by decide) (fun a22 c23 => ?_)
  refine sxo_nil ?_
  refine sxq_anyB (.cons 0 rfl .nil) (gk_F 0 rfl gk_nil) ?_
  refine sxb_step 5 rfl (by kernel_rfl) (show _ = #[true, true, true, true, true, true, false] from rfl) ?_
  refine sxo_call ent69 rfl rfl rfl (fun x24 e24 => C_golomb_check F x1 x2 a3 c4 x5 ([x21] : List Bool) a22 c23 x24 e24) (.consF 0 rfl (.consR 0 (Ro eB 4 1 (.slice a22 ([x21] : List Bool).length c23) ([x21] : List Bool)) rfl .nil)) (fun x24 e24 => ?_)
  intro _
  refine sxo_nil ?_
  refine sxq_anyB (.cons 0 rfl .nil) (gk_F 0 rfl gk_nil) ?_
  refine sxb_takeP 6 (.int .i64 x24) rfl rfl rfl rfl (by kernel_rfl) (by kernel_rfl) (by kernel_rfl) (by kernel_rfl) (by kernel_rfl) rfl (show _ = #[true, true, true, true, true, true, true] from rfl) (yv_pv rfl) ?_
  refine sxb_done (by kernel_rfl) ?_
  refine sxq_np ?_ (by intro c h; cases h)
  refine sxq_next ?_
  refine sxc_seq ?_
  refine sxc_region ?_
  refine sxo_move rfl rfl rfl ?_
  refine sxo_neq rfl rfl rfl rfl ?_
  refine sxo_nil ?_
  refine sxq_next ?_
  refine sxc_if rfl (fun h27 => ?_) (fun h27 => ?_)
  · refine sxc_seq ?_
    refine sxc_region ?_
    refine sxo_move rfl rfl rfl ?_
    refine sxo_assign rfl rfl rfl ?_
    refine sxo_assign rfl rfl rfl ?_
    refine sxo_assign rfl rfl rfl ?_
    refine sxo_nil ?_
    refine sxq_next ?_
    refine sxc_ret ?_
    refine sxq_thenR ?_
    exact sxq_doneP () (.inl rfl) (res3 rfl rfl rfl rfl) (fun h => by subst h; rfl) (fun h => by subst h; exact .nil)
  · refine sxc_skip ?_
    refine sxq_next ?_
    refine sxc_seq ?_
    refine sxc_region ?_
    refine sxo_loadB (i := 0) rfl rfl tf25 rfl rfl (by simp) rfl rfl ?_
    refine sxo_move rfl rfl rfl ?_
    refine sxo_move rfl rfl rfl ?_
    refine sxo_call ent71 rfl rfl rfl (fun x25 e25 => C_golomb_fromLeast F x1 x2 a3 c4 x5 x6 x25 e25) (.consF 0 rfl .nil) (fun x25 e25 => ?_)
    intro _
    refine sxo_extract rfl rfl rfl rfl ?_
    refine sxo_extract rfl rfl rfl rfl ?_
    refine sxo_extract rfl rfl rfl rfl ?_
    refine sxo_call ent70 rfl rfl rfl (fun x26 e26 => C_golomb_ended F x25.1 x25.2.1 x25.2.2 x26 e26) .nil (fun x26 e26 => ?_)
    intro _
    refine sxo_extract rfl rfl rfl rfl ?_
    refine sxo_extract rfl rfl rfl rfl ?_
    refine sxo_extract rfl rfl rfl rfl ?_
    refine sxo_assign rfl rfl rfl ?_
    refine sxo_assign rfl rfl rfl ?_
    refine sxo_assign rfl rfl rfl ?_
    refine sxo_nil ?_
    refine sxq_next ?_
    refine sxc_ret ?_
    exact sxq_doneP () (.inl rfl) (res3 rfl rfl rfl rfl) (fun h => by subst h; rfl) (fun h => by subst h; exact .nil)

theorem C_golomb_Read (F : Nat) (x1 : Int) (x2 : List Int) (a3 : Option Addr) (c4 : Nat) (x5 : Int) (x6 : Int) (r : (Int × Int × Int)) (hm : M_golomb_Read F x1 x2 x5 x6 = some r) :
    Pure Try.prog 32 [.agg #[.int .i64 x1, .slice a3 x2.length c4], .int .i64 x5, .int .u64 x6] [Sl (eI .u8) 1 (.slice a3 x2.length c4) x2] Unit (fun _ => .tuple #[.int .u64 r.1, .int .i64 r.2.1, .int .i64 r.2.2]) (fun _ => []) (fun _ => []) := by
  refine pure_of Try.func32 rfl Try.ntmps32 rfl hm (fun w => ?_)
  refine sxc_env (l' := [(0, .agg #[.int .i64 x1, .slice a3 x2.length c4]), (1, .int .i64 x5), (2, .int .u64 x6)]) rfl ?_
  refine sxc_seq ?_
  refine sxc_region ?_
  refine sxo_box rfl rfl rfl (fun g7 => ?_)
  refine sxo_assign rfl rfl rfl ?_
  refine sxo_assign rfl rfl rfl ?_
  refine sxo_assign rfl rfl rfl ?_
  refine sxo_nil ?_
  refine sxq_next ?_
  refine sxc_seq ?_
  refine sxc_seq ?_
  refine sxb_draw mixed [] [⟨g7, 25, [.int .i64 x1, .slice a3 x2.length c4]⟩] [Sl (eI .u8) 1 (.slice a3 x2.length c4) x2] (.cons 0 rfl .nil) (gk_F 0 rfl gk_nil) 7 rfl ?_
  refine sxb_take 0 (.agg #[.int .i64 x1, .slice a3 x2.length c4]) [] rfl rfl rfl rfl (by kernel_rfl) (by kernel_rfl) (by kernel_rfl) (by kernel_rfl) (by kernel_rfl) (by kernel_rfl) rfl (show _ = #[true, false, false, false, false, false, false] from rfl) (yv_loadB (i := 0) rfl tf25 rfl rfl (by simp) rfl) ?_
  refine sxb_takeP 1 (.int .i64 x5) rfl rfl rfl rfl (by kernel_rfl) (by kernel_rfl) (by kernel_rfl) (by kernel_rfl) (by kernel_rfl) rfl (show _ = #[true, true, false, false, false, false, false] from rfl) (yv_pv rfl) ?_
  refine sxb_takeP 2 (.int .u64 x6) rfl rfl rfl rfl (by kernel_rfl) (by kernel_rfl) (by kernel_rfl) (by kernel_rfl) (by kernel_rfl) rfl (show _ = #[true, true, true, false, false, false, false] from rfl) (yv_pv rfl) ?_
  refine sxb_step 3 rfl (by kernel_rfl) (show _ = #[true, true, true, true, false, false, false] from rfl) ?_
  refine sxo_call ent66 rfl rfl rfl (fun x21 e21 => C_golomb_right F x6 x21 e21) .nil (fun x21 e21 => ?_)
  intro _
  refine sxo_nil ?_
  refine sxq_anyB (.cons 0 rfl .nil) (gk_F 0 rfl gk_nil) ?_
  refine sxb_step 4 rfl (by kernel_rfl) (show _ = #[true, true, true, true, true, false, false] from rfl) ?_
  refine sxo_slit (vs := [.bool x21]) (ys := ([x21] : List Bool)) eB_ok (by decide) rfl Try.underlying107 tf4 rfl rfl rfl rfl rfl (by decide) (fun a22 c23 => ?_)
  refine sxo_nil ?_
  refine sxq_anyB (.cons 0 rfl .nil) (gk_F 0 rfl gk_nil) ?_
  refine sxb_step 5 rfl (by kernel_rfl) (show _ = #[true, true, true, true, true, true, false] from rfl) ?_
  refine sxo_call ent69 rfl rfl rfl (fun x24 e24 => C_golomb_check F x1 x2 a3 c4 x5 ([x21] : List Bool) a22 c23 x24 e24) (.consF 0 rfl (.consR 0 (Ro eB 4 1 (.slice a22 ([x21] : List Bool).length c23) ([x21] : List Bool)) rfl .nil)) (fun x24 e24 => ?_)
  intro _
  refine sxo_nil ?_
  refine sxq_anyB (.cons 0 rfl .nil) (gk_F 0 rfl gk_nil) ?_
  refine sxb_takeP 6 (.int .i64 x24) rfl rfl rfl rfl (by kernel_rfl) (by kernel_rfl) (by kernel_rfl) (by kernel_rfl) (by kernel_rfl) rfl (show _ = #[true, true, true, true, true, true, true] from rfl) (yv_pv rfl) ?_
  refine sxb_done (by kernel_rfl) ?_
  refine sxq_np ?_ (by intro c h; cases h)
  refine sxq_next ?_
  refine sxc_seq ?_
  refine sxc_region ?_
  refine sxo_move rfl rfl rfl ?_
  refine sxo_neq rfl rfl rfl rfl ?_
  refine sxo_nil ?_
  refine sxq_next ?_
  refine sxc_if rfl (fun h34 => ?_) (fun h34 => ?_)
  · refine sxc_seq ?_
    refine sxc_region ?_
    refine sxo_move rfl rfl rfl ?_
    refine sxo_assign rfl rfl rfl ?_
    refine sxo_assign rfl rfl rfl ?_
    refine sxo_assign rfl rfl rfl ?_
    refine sxo_nil ?_
    refine sxq_next ?_
    refine sxc_ret ?_
    refine sxq_thenR ?_
    exact sxq_doneP () (.inl rfl) (res3 rfl rfl rfl rfl) (fun h => by subst h; rfl) (fun h => by subst h; exact .nil)
  · refine sxc_skip ?_
    refine sxq_next ?_
    refine sxc_seq ?_
    refine sxc_region ?_
    refine sxo_loadB (i := 0) rfl rfl tf25 rfl rfl (by simp) rfl rfl ?_
    refine sxo_move rfl rfl rfl ?_
    refine sxo_call ent72 rfl rfl rfl (fun x25 e25 => C_unary_From F x1 x2 a3 c4 x5 x25 e25) (.consF 0 rfl .nil) (fun x25 e25 => ?_)
    intro _
    refine sxo_move rfl rfl rfl ?_
    refine sxo_extract rfl rfl rfl rfl ?_
    refine sxo_extract rfl rfl rfl rfl ?_
    refine sxo_extract rfl rfl rfl rfl ?_
    refine sxo_assign rfl rfl rfl ?_
    refine sxo_assign rfl rfl rfl ?_
    refine sxo_assign rfl rfl rfl ?_
    refine sxo_nil ?_
    refine sxq_next ?_
    refine sxc_seq ?_
    refine sxc_seq ?_
    refine sxc_region ?_
    refine sxo_move rfl rfl rfl ?_
    refine sxo_move rfl rfl rfl ?_
    refine sxo_case 3 x25.2.2 [(2, .int .u64 x6), (3, .pointer (some ⟨g7, 0, none⟩)), (10, .int .u64 x25.1), (11, .int .i64 x25.2.1), (12, .bool x25.2.2), (34, .bool (x25.2.2 && (decide (8128 ≤ x25.1))))] (fun h28 => ?_) (fun h28 => ?_) ?_
    · refine sxo_take (os := _) rfl ?_
      refine sxo_isT (k := 31) rfl h28 ?_
      refine sxo_move rfl rfl rfl ?_
      refine sxo_geq rfl rfl rfl rfl ?_
      refine sxo_pick (b := true) rfl rfl rfl rfl ?_
      refine sxo_again (d := 34) (v := .bool (x25.2.2 && (decide (8128 ≤ x25.1)))) rfl (by rw [h28]; simp only [Bool.true_and]) ?_
      refine sxo_nil ?_
      exact sxq_case (lk_cons rfl (lk_cons rfl (lk_cons rfl (lk_cons rfl (lk_cons rfl (lk_cons rfl lk_nil))))))
    · refine sxo_take (os := _) rfl ?_
      refine sxo_isF (k := 31) rfl h28 ?_
      refine sxo_skip rfl rfl rfl ?_
      refine sxo_skip rfl rfl rfl ?_
      refine sxo_pick (b := false) rfl rfl rfl rfl ?_
      refine sxo_again (d := 34) (v := .bool (x25.2.2 && (decide (8128 ≤ x25.1)))) rfl (by rw [h28]; simp only [Bool.false_and]) ?_
      refine sxo_nil ?_
      exact sxq_case (lk_cons rfl (lk_cons rfl (lk_cons rfl (lk_cons rfl (lk_cons rfl (lk_cons rfl lk_nil))))))
    refine sxo_take (os := _) rfl ?_
    refine sxo_nil ?_
    refine sxq_next ?_
    refine sxc_if rfl (fun h33 => ?_) (fun h33 => ?_)
    · refine sxc_seq ?_
      refine sxc_region ?_
      refine sxo_assign rfl rfl rfl ?_
      refine sxo_assign rfl rfl rfl ?_
      refine sxo_assign rfl rfl rfl ?_
      refine sxo_nil ?_
      refine sxq_next ?_
      refine sxc_ret ?_
      refine sxq_thenR ?_
      exact sxq_doneP () (.inl rfl) (res3 rfl rfl rfl rfl) (fun h => by subst h; rfl) (fun h => by subst h; exact .nil)
    · refine sxc_skip ?_
      refine sxq_next ?_
      refine sxc_seq ?_
      refine sxc_seq ?_
      refine sxc_region ?_
      refine sxo_move rfl rfl rfl ?_
      refine sxo_not rfl rfl rfl ?_
      refine sxo_nil ?_
      refine sxq_next ?_
      refine sxc_if rfl (fun h32 => ?_) (fun h32 => ?_)
      · refine sxc_seq ?_
        refine sxc_region ?_
        refine sxo_assign rfl rfl rfl ?_
        refine sxo_assign rfl rfl rfl ?_
        refine sxo_assign rfl rfl rfl ?_
        refine sxo_nil ?_
        refine sxq_next ?_
        refine sxc_ret ?_
        refine sxq_thenR ?_
        exact sxq_doneP () (.inl rfl) (res3 rfl rfl rfl rfl) (fun h => by subst h; rfl) (fun h => by subst h; exact .nil)
      · refine sxc_skip ?_
        refine sxq_next ?_
        refine sxc_seq ?_
        refine sxc_region ?_
        refine sxo_loadB (i := 0) rfl rfl tf25 rfl rfl (by simp) rfl rfl ?_
        refine sxo_move rfl rfl rfl ?_
        refine sxo_move rfl rfl rfl ?_
        refine sxo_call ent71 rfl rfl rfl (fun x30 e30 => C_golomb_fromLeast F x1 x2 a3 c4 x25.2.1 x6 x30 e30) (.consF 0 rfl .nil) (fun x30 e30 => ?_)
        intro _
        refine sxo_move rfl rfl rfl ?_
        refine sxo_extract rfl rfl rfl rfl ?_
        refine sxo_extract rfl rfl rfl rfl ?_
        refine sxo_extract rfl rfl rfl rfl ?_
        refine sxo_assign rfl rfl rfl ?_
        refine sxo_assign rfl rfl rfl ?_
        refine sxo_assign rfl rfl rfl ?_
        refine sxo_nil ?_
        refine sxq_next ?_
        refine sxc_seq ?_
        refine sxc_region ?_
        refine sxo_move rfl rfl rfl ?_
        refine sxo_move rfl rfl rfl ?_
        refine sxo_mul rfl rfl rfl rfl ?_
        refine sxo_move rfl rfl rfl ?_
        refine sxo_add rfl rfl rfl rfl ?_
        refine sxo_move rfl rfl rfl ?_
        refine sxo_move rfl rfl rfl ?_
        refine sxo_call ent70 rfl rfl rfl (fun x31 e31 => C_golomb_ended F (iadd .u64 (imul .u64 x25.1 x6) x30.1) x30.2.1 x30.2.2 x31 e31) .nil (fun x31 e31 => ?_)
        intro _
        refine sxo_extract rfl rfl rfl rfl ?_
        refine sxo_extract rfl rfl rfl rfl ?_
        refine sxo_extract rfl rfl rfl rfl ?_
        refine sxo_assign rfl rfl rfl ?_
        refine sxo_assign rfl rfl rfl ?_
        refine sxo_assign rfl rfl rfl ?_
        refine sxo_nil ?_
        refine sxq_next ?_
        refine sxc_ret ?_
        exact sxq_doneP () (.inl rfl) (res3 rfl rfl rfl rfl) (fun h => by subst h; rfl) (fun h => by subst h; exact .nil)

theorem C_R_NumBits (F : Nat) (x1 : Int) (x2 : Int) (r : List Int) (hm : M_R_NumBits F x1 x2 = some r) :
    Pure Try.prog 73 [.int .u64 x1, .int .i64 x2] [] (Option Addr × Nat) (fun g => .slice g.1 r.length g.2) (fun g => [Ro (eI .i64) 3 1 (.slice g.1 r.length g.2) r]) (fun _ => []) := by
  refine pure_of Try.func73 rfl Try.ntmps73 rfl hm (fun w => ?_)
  refine sxc_env (l' := [(0, .int .u64 x1), (1, .int .i64 x2)]) rfl ?_
  refine sxc_seq ?_
  refine sxc_region ?_
  refine sxo_assign rfl rfl rfl ?_
  refine sxo_nil ?_
  refine sxq_next ?_
  refine sxc_seq ?_
  refine sxc_region ?_
  refine sxo_move rfl rfl rfl ?_
  refine sxo_mk (eI_ok .i64) rfl Try.underlying34 tf3 rfl rfl rfl rfl rfl rfl rfl (fun x3 e3 a4 c5 => ?_)
  refine sxo_assign rfl rfl rfl ?_
  refine sxo_nil ?_
  refine sxq_next ?_
  refine sxc_join (fun ((x56, (a54, c55)) : (List Int × (Option Addr × Nat))) => [(5, .slice a54 x56.length c55)]) (fun ((x56, (a54, c55)) : (List Int × (Option Addr × Nat))) => []) (fun ((x56, (a54, c55)) : (List Int × (Option Addr × Nat))) => [Ro (eI .i64) 3 1 (.slice a54 x56.length c55) x56]) (fun ((x56, (a54, c55)) : (List Int × (Option Addr × Nat))) => []) (fun ((x56, _) : (List Int × (Option Addr × Nat))) => M_R_NumBits_j2 F x56) ?_ ?_
  · refine sxc_seq ?_
    refine sxc_region ?_
    refine sxo_move rfl rfl rfl ?_
    refine sxo_sub rfl rfl rfl rfl ?_
    refine sxo_assign rfl rfl rfl ?_
    refine sxo_nil ?_
    refine sxq_next ?_
    refine sxc_block ?_
    refine sxc_loopP (fun (((x71, x74, x75), (a72, c73)) : ((Int × List Int × Int) × (Option Addr × Nat))) => [(0, .int .u64 x71), (5, .slice a72 x74.length c73), (6, .int .i64 x75)]) (fun (((x71, x74, x75), (a72, c73)) : ((Int × List Int × Int) × (Option Addr × Nat))) => []) (fun (((x71, x74, x75), (a72, c73)) : ((Int × List Int × Int) × (Option Addr × Nat))) => [Ro (eI .i64) 3 1 (.slice a72 x74.length c73) x74]) (fun (((x71, x74, x75), (a72, c73)) : ((Int × List Int × Int) × (Option Addr × Nat))) => []) (fun k (s : ((Int × List Int × Int) × (Option Addr × Nat))) => M_R_NumBits_l3 F k s.1) ((x1, x3, isub .i64 x2 1), (a4, c5)) F (lk_cons rfl (lk_cons rfl (lk_cons rfl lk_nil))) .nil (.cons 0 rfl .nil) fk_nil (fun _ => rfl) ?_
    intro k90
    rintro ⟨⟨x71, x74, x75⟩, ⟨a72, c73⟩⟩
    try dsimp only
    refine sxc_meq (m' := M_R_NumBits_b3 F (M_R_NumBits_l3 F k90) x71 x74 x75) rfl ?_
    refine sxc_seq ?_
    refine sxc_seq ?_
    refine sxc_region ?_
    refine sxo_move rfl rfl rfl ?_
    refine sxo_geq rfl rfl rfl rfl ?_
    refine sxo_nil ?_
    refine sxq_next ?_
    refine sxc_if rfl (fun h104 => ?_) (fun h104 => ?_)
    · refine sxc_skip ?_
      refine sxq_next ?_
      refine sxc_seq ?_
      refine sxc_block ?_
      refine sxc_seq ?_
      refine sxc_region ?_
      refine sxo_move rfl rfl rfl ?_
      refine sxo_move rfl rfl rfl ?_
      refine sxo_move rfl rfl rfl ?_
      refine sxo_rem rfl rfl rfl rfl rfl ?_
      refine sxo_conv rfl Try.underlying22 Try.underlying3 rfl rfl ?_
      refine sxo_indexR (j := 0) rfl Try.underlying34 tf3 rfl rfl rfl rfl (fun x98 e98 g99 h100 => ?_)
      refine sxo_storeL (j := 0) (y' := iconv .i64 (irem x71 2)) (eI_ok .i64) rfl rfl rfl tf3 rfl h100 (idx_get e98).2.1 rfl (fun x101 e101 h102 => ?_)
      have h103 : x101.length = x74.length := by rw [← e101, List.length_set]
      refine sxo_again (d := 5) (v := .slice a72 x101.length c73) rfl h102 ?_
      refine sxo_again (d := 15) (v := .slice a72 x101.length c73) rfl h102 ?_
      refine sxo_nil ?_
      refine sxq_next ?_
      refine sxc_region ?_
      refine sxo_move rfl rfl rfl ?_
      refine sxo_quo rfl rfl rfl rfl rfl ?_
      refine sxo_assign rfl rfl rfl ?_
      refine sxo_nil ?_
      refine sxq_blkN ?_
      refine sxq_next ?_
      refine sxc_region ?_
      refine sxo_move rfl rfl rfl ?_
      refine sxo_sub rfl rfl rfl rfl ?_
      refine sxo_assign rfl rfl rfl ?_
      refine sxo_nil ?_
      exact sxq_againP ((iquo .u64 x71 2, x101, isub .i64 x75 1), (a72, c73)) (lk_cons rfl (lk_cons rfl (lk_cons rfl lk_nil))) .nil (.cons 0 rfl .nil) fk_nil
    · refine sxc_exit ?_
      refine sxq_thenX ?_
      refine sxq_thenX ?_
      refine sxq_blkX ?_
      exact sxq_meetP (x74, (a72, c73)) (lk_cons rfl lk_nil) .nil (.cons 0 rfl .nil) fk_nil
  · rintro ⟨x56, ⟨a54, c55⟩⟩
    try dsimp only
    refine sxc_seq ?_
    refine sxc_region ?_
    refine sxo_move rfl rfl rfl ?_
    refine sxo_assign rfl rfl rfl ?_
    refine sxo_nil ?_
    refine sxq_next ?_
    refine sxc_ret ?_
    exact sxq_doneP (a54, c55) (.inl rfl) (res1 rfl rfl) (fun h => by subst h; rfl) (fun h => by subst h; exact (.cons 0 rfl .nil))

theorem C_R_LeastList (F : Nat) (x1 : Int) (x2 : Int) (r : List Int) (hm : M_R_LeastList F x1 x2 = some r) :
    Pure Try.prog 33 [.int .u64 x1, .int .u64 x2] [] (Option Addr × Nat) (fun g => .slice g.1 r.length g.2) (fun g => [Ro (eI .i64) 3 1 (.slice g.1 r.length g.2) r]) (fun _ => []) := by
  refine pure_of Try.func33 rfl Try.ntmps33 rfl hm (fun w => ?_)
  refine sxc_env (l' := [(0, .int .u64 x1), (1, .int .u64 x2)]) rfl ?_
  refine sxc_seq ?_
  refine sxc_region ?_
  refine sxo_assign rfl rfl rfl ?_
  refine sxo_nil ?_
  refine sxq_next ?_
  refine sxc_seq ?_
  refine sxc_region ?_
  refine sxo_assign rfl rfl rfl ?_
  refine sxo_nil ?_
  refine sxq_next ?_
  refine sxc_join (fun ((x15, _) : (Int × Unit)) => [(0, .int .u64 x1), (1, .int .u64 x2), (5, .int .i64 x15)]) (fun ((x15, _) : (Int × Unit)) => []) (fun ((x15, _) : (Int × Unit)) => []) (fun ((x15, _) : (Int × Unit)) => []) (fun ((x15, _) : (Int × Unit)) => M_R_LeastList_j2 F x1 x2 x15) ?_ ?_
  · refine sxc_block ?_
    refine sxc_loopP (fun ((x30, _) : (Int × Unit)) => [(0, .int .u64 x1), (1, .int .u64 x2), (5, .int .i64 x30)]) (fun ((x30, _) : (Int × Unit)) => []) (fun ((x30, _) : (Int × Unit)) => []) (fun ((x30, _) : (Int × Unit)) => []) (fun k (s : (Int × Unit)) => M_R_LeastList_l3 F x1 x2 k s.1) (0, ()) F (lk_cons rfl (lk_cons rfl (lk_cons rfl lk_nil))) .nil .nil fk_nil (fun _ => rfl) ?_
    intro k35
    rintro ⟨x30, _⟩
    try dsimp only
    refine sxc_meq (m' := M_R_LeastList_b3 F x1 x2 (M_R_LeastList_l3 F x1 x2 k35) x30) rfl ?_
    refine sxc_seq ?_
    refine sxc_seq ?_
    refine sxc_region ?_
    refine sxo_move rfl rfl rfl ?_
    refine sxo_chk (fun h38 => ?_)
    refine sxo_shl rfl rfl rfl rfl h38 ?_
    refine sxo_move rfl rfl rfl ?_
    refine sxo_lss rfl rfl rfl rfl ?_
    refine sxo_nil ?_
    refine sxq_next ?_
    refine sxc_if rfl (fun h39 => ?_) (fun h39 => ?_)
    · refine sxc_skip ?_
      refine sxq_next ?_
      refine sxc_block ?_
      refine sxc_region ?_
      refine sxo_move rfl rfl rfl ?_
      refine sxo_add rfl rfl rfl rfl ?_
      refine sxo_assign rfl rfl rfl ?_
      refine sxo_nil ?_
      refine sxq_blkN ?_
      exact sxq_againP (iadd .i64 x30 1, ()) (lk_cons rfl (lk_cons rfl (lk_cons rfl lk_nil))) .nil .nil fk_nil
    · refine sxc_exit ?_
      refine sxq_thenX ?_
      refine sxq_thenX ?_
      refine sxq_blkX ?_
      exact sxq_meetP (x30, ()) (lk_cons rfl (lk_cons rfl (lk_cons rfl lk_nil))) .nil .nil fk_nil
  · rintro ⟨x15, _⟩
    try dsimp only
    refine sxc_seq ?_
    refine sxc_region ?_
    refine sxo_move rfl rfl rfl ?_
    refine sxo_chk (fun h16 => ?_)
    refine sxo_shl rfl rfl rfl rfl h16 ?_
    refine sxo_move rfl rfl rfl ?_
    refine sxo_sub rfl rfl rfl rfl ?_
    refine sxo_assign rfl rfl rfl ?_
    refine sxo_nil ?_
    refine sxq_next ?_
    refine sxc_seq ?_
    refine sxc_seq ?_
    refine sxc_region ?_
    refine sxo_move rfl rfl rfl ?_
    refine sxo_move rfl rfl rfl ?_
    refine sxo_lss rfl rfl rfl rfl ?_
    refine sxo_nil ?_
    refine sxq_next ?_
    refine sxc_if rfl (fun h27 => ?_) (fun h27 => ?_)
    · refine sxc_seq ?_
      refine sxc_region ?_
      refine sxo_move rfl rfl rfl ?_
      refine sxo_move rfl rfl rfl ?_
      refine sxo_sub rfl rfl rfl rfl ?_
      refine sxo_call ent73 rfl rfl rfl (fun x21 e21 => C_R_NumBits F x1 (isub .i64 x15 1) x21 e21) .nil (fun x21 e21 => ?_)
      rintro ⟨a22, c23⟩
      refine sxo_assign rfl rfl rfl ?_
      refine sxo_nil ?_
      refine sxq_next ?_
      refine sxc_ret ?_
      refine sxq_thenR ?_
      exact sxq_doneP (a22, c23) (.inl rfl) (res1 rfl rfl) (fun h => by subst h; rfl) (fun h => by subst h; exact (.cons 0 rfl .nil))
    · refine sxc_skip ?_
      refine sxq_next ?_
      refine sxc_seq ?_
      refine sxc_region ?_
      refine sxo_move rfl rfl rfl ?_
      refine sxo_move rfl rfl rfl ?_
      refine sxo_add rfl rfl rfl rfl ?_
      refine sxo_move rfl rfl rfl ?_
      refine sxo_call ent73 rfl rfl rfl (fun x24 e24 => C_R_NumBits F (iadd .u64 x1 (isub .u64 (ishl .u64 1 x15) x2)) x15 x24 e24) .nil (fun x24 e24 => ?_)
      rintro ⟨a25, c26⟩
      refine sxo_assign rfl rfl rfl ?_
      refine sxo_nil ?_
      refine sxq_next ?_
      refine sxc_ret ?_
      exact sxq_doneP (a25, c26) (.inl rfl) (res1 rfl rfl) (fun h => by subst h; rfl) (fun h => by subst h; exact (.cons 0 rfl .nil))

theorem C_R_UnaryList (F : Nat) (x1 : Int) (r : List Int) (hm : M_R_UnaryList F x1 = some r) :
    Pure Try.prog 34 [.int .u64 x1] [] (Option Addr × Nat) (fun g => .slice g.1 r.length g.2) (fun g => [Ro (eI .i64) 3 1 (.slice g.1 r.length g.2) r]) (fun _ => []) := by
  refine pure_of Try.func34 rfl Try.ntmps34 rfl hm (fun w => ?_)
  refine sxc_env (l' := [(0, .int .u64 x1)]) rfl ?_
  refine sxc_seq ?_
  refine sxc_region ?_
  refine sxo_assign rfl rfl rfl ?_
  refine sxo_nil ?_
  refine sxq_next ?_
  refine sxc_seq ?_
  refine sxc_region ?_
  refine sxo_assign rfl rfl rfl ?_
  refine sxo_nil ?_
  refine sxq_next ?_
  refine sxc_join (fun ((x45, (a43, c44)) : (List Int × (Option Addr × Nat))) => [(3, .slice a43 x45.length c44)]) (fun ((x45, (a43, c44)) : (List Int × (Option Addr × Nat))) => []) (fun ((x45, (a43, c44)) : (List Int × (Option Addr × Nat))) => [Ro (eI .i64) 3 1 (.slice a43 x45.length c44) x45]) (fun ((x45, (a43, c44)) : (List Int × (Option Addr × Nat))) => []) (fun ((x45, _) : (List Int × (Option Addr × Nat))) => M_R_UnaryList_j2 F x45) ?_ ?_
  · refine sxc_seq ?_
    refine sxc_region ?_
    refine sxo_assign rfl rfl rfl ?_
    refine sxo_nil ?_
    refine sxq_next ?_
    refine sxc_block ?_
    refine sxc_nilrow Int (eI .i64) 3 1 ?_
    refine sxc_loopP (fun (((x65, x66), (a63, c64)) : ((List Int × Int) × (Option Addr × Nat))) => [(0, .int .u64 x1), (3, .slice a63 x65.length c64), (4, .int .u64 x66)]) (fun (((x65, x66), (a63, c64)) : ((List Int × Int) × (Option Addr × Nat))) => []) (fun (((x65, x66), (a63, c64)) : ((List Int × Int) × (Option Addr × Nat))) => [Ro (eI .i64) 3 1 (.slice a63 x65.length c64) x65]) (fun (((x65, x66), (a63, c64)) : ((List Int × Int) × (Option Addr × Nat))) => []) (fun k (s : ((List Int × Int) × (Option Addr × Nat))) => M_R_UnaryList_l3 F x1 k s.1) ((([] : List Int), 0), (none, 0)) F (lk_cons rfl (lk_cons rfl (lk_cons rfl lk_nil))) .nil (.cons 0 rfl .nil) fk_nil (fun _ => rfl) ?_
    intro k79
    rintro ⟨⟨x65, x66⟩, ⟨a63, c64⟩⟩
    try dsimp only
    refine sxc_meq (m' := M_R_UnaryList_b3 F x1 (M_R_UnaryList_l3 F x1 k79) x65 x66) rfl ?_
    refine sxc_seq ?_
    refine sxc_seq ?_
    refine sxc_region ?_
    refine sxo_move rfl rfl rfl ?_
    refine sxo_move rfl rfl rfl ?_
    refine sxo_lss rfl rfl rfl rfl ?_
    refine sxo_nil ?_
    refine sxq_next ?_
    refine sxc_if rfl (fun h91 => ?_) (fun h91 => ?_)
    · refine sxc_skip ?_
      refine sxq_next ?_
      refine sxc_seq ?_
      refine sxc_block ?_
      refine sxc_region ?_
      refine sxo_move rfl rfl rfl ?_
      refine sxo_slit (vs := [.int .i64 0]) (ys := ([0] : List Int)) (eI_ok .i64) (by decide) rfl Try.underlying34 tf3 rfl rfl rfl rfl rfl (by decide) (fun a86 c87 => ?_)
      refine sxo_app 1 (eI_ok .i64) rfl Try.underlying34 tf3 rfl rfl rfl rfl rfl (.inl ⟨0, _, rfl⟩) rfl rfl (fun x88 e88 a89 c90 => ?_)
      refine sxo_assign rfl rfl rfl ?_
      refine sxo_nil ?_
      refine sxq_blkN ?_
      refine sxq_next ?_
      refine sxc_region ?_
      refine sxo_move rfl rfl rfl ?_
      refine sxo_add rfl rfl rfl rfl ?_
      refine sxo_assign rfl rfl rfl ?_
      refine sxo_nil ?_
      exact sxq_againP ((x88, iadd .u64 x66 1), (a89, c90)) (lk_cons rfl (lk_cons rfl (lk_cons rfl lk_nil))) .nil (.cons 0 rfl .nil) fk_nil
    · refine sxc_exit ?_
      refine sxq_thenX ?_
      refine sxq_thenX ?_
      refine sxq_blkX ?_
      exact sxq_meetP (x65, (a63, c64)) (lk_cons rfl lk_nil) .nil (.cons 0 rfl .nil) fk_nil
  · rintro ⟨x45, ⟨a43, c44⟩⟩
    try dsimp only
    refine sxc_seq ?_
    refine sxc_region ?_
    refine sxo_move rfl rfl rfl ?_
    refine sxo_slit (vs := [.int .i64 1]) (ys := ([1] : List Int)) (eI_ok .i64) (by decide) rfl Try.underlying34 tf3 rfl rfl rfl rfl rfl (by decide) (fun a46 c47 => ?_)
    refine sxo_app 1 (eI_ok .i64) rfl Try.underlying34 tf3 rfl rfl rfl rfl rfl (.inl ⟨0, _, rfl⟩) rfl rfl (fun x48 e48 a49 c50 => ?_)
    refine sxo_assign rfl rfl rfl ?_
    refine sxo_nil ?_
    refine sxq_next ?_
    refine sxc_ret ?_
    exact sxq_doneP (a49, c50) (.inl rfl) (res1 rfl rfl) (fun h => by subst h; rfl) (fun h => by subst h; exact (.cons 0 rfl .nil))

set_option maxHeartbeats 4000000 in
theorem C_R_LeastRead (F : Nat) (x1 : List Int) (a2 : Option Addr) (c3 : Nat) (x4 : Int) (x5 : Int) (r : (Int × Int)) (hm : M_R_LeastRead F x1 x4 x5 = some r) :
    Pure Try.prog 35 [.slice a2 x1.length c3, .int .i64 x4, .int .u64 x5] [Sl (eI .i64) 1 (.slice a2 x1.length c3) x1] Unit (fun _ => .tuple #[.int .u64 r.1, .int .i64 r.2]) (fun _ => []) (fun _ => []) := by
  refine pure_of Try.func35 rfl Try.ntmps35 rfl hm (fun w => ?_)
  refine sxc_env (l' := [(0, .slice a2 x1.length c3), (1, .int .i64 x4), (2, .int .u64 x5)]) rfl ?_
  refine sxc_seq ?_
  refine sxc_region ?_
  refine sxo_assign rfl rfl rfl ?_
  refine sxo_assign rfl rfl rfl ?_
  refine sxo_nil ?_
  refine sxq_next ?_
  refine sxc_seq ?_
  refine sxc_region ?_
  refine sxo_assign rfl rfl rfl ?_
  refine sxo_nil ?_
  refine sxq_next ?_
  refine sxc_join (fun ((x18, _) : (Int × Unit)) => [(0, .slice a2 x1.length c3), (1, .int .i64 x4), (2, .int .u64 x5), (8, .int .i64 x18)]) (fun ((x18, _) : (Int × Unit)) => []) (fun ((x18, _) : (Int × Unit)) => []) (fun ((x18, _) : (Int × Unit)) => [Sl (eI .i64) 1 (.slice a2 x1.length c3) x1]) (fun ((x18, _) : (Int × Unit)) => M_R_LeastRead_j2 F x1 x4 x5 x18) ?_ ?_
  · refine sxc_block ?_
    refine sxc_loopP (fun ((x208, _) : (Int × Unit)) => [(0, .slice a2 x1.length c3), (1, .int .i64 x4), (2, .int .u64 x5), (8, .int .i64 x208)]) (fun ((x208, _) : (Int × Unit)) => []) (fun ((x208, _) : (Int × Unit)) => []) (fun ((x208, _) : (Int × Unit)) => [Sl (eI .i64) 1 (.slice a2 x1.length c3) x1]) (fun k (s : (Int × Unit)) => M_R_LeastRead_l6 F x1 x4 x5 k s.1) (0, ()) F (lk_cons rfl (lk_cons rfl (lk_cons rfl (lk_cons rfl lk_nil)))) .nil .nil (fk_cons 0 rfl fk_nil) (fun _ => rfl) ?_
    intro k213
    rintro ⟨x208, _⟩
    try dsimp only
    refine sxc_meq (m' := M_R_LeastRead_b6 F x1 x4 x5 (M_R_LeastRead_l6 F x1 x4 x5 k213) x208) rfl ?_
    refine sxc_seq ?_
    refine sxc_seq ?_
    refine sxc_region ?_
    refine sxo_move rfl rfl rfl ?_
    refine sxo_chk (fun h216 => ?_)
    refine sxo_shl rfl rfl rfl rfl h216 ?_
    refine sxo_move rfl rfl rfl ?_
    refine sxo_lss rfl rfl rfl rfl ?_
    refine sxo_nil ?_
    refine sxq_next ?_
    refine sxc_if rfl (fun h217 => ?_) (fun h217 => ?_)
    · refine sxc_skip ?_
      refine sxq_next ?_
      refine sxc_block ?_
      refine sxc_region ?_
      refine sxo_move rfl rfl rfl ?_
      refine sxo_add rfl rfl rfl rfl ?_
      refine sxo_assign rfl rfl rfl ?_
      refine sxo_nil ?_
      refine sxq_blkN ?_
      exact sxq_againP (iadd .i64 x208 1, ()) (lk_cons rfl (lk_cons rfl (lk_cons rfl (lk_cons rfl lk_nil)))) .nil .nil (fk_cons 0 rfl fk_nil)
    · refine sxc_exit ?_
      refine sxq_thenX ?_
      refine sxq_thenX ?_
      refine sxq_blkX ?_
      exact sxq_meetP (x208, ()) (lk_cons rfl (lk_cons rfl (lk_cons rfl (lk_cons rfl lk_nil)))) .nil .nil (fk_cons 0 rfl fk_nil)
  · rintro ⟨x18, _⟩
    try dsimp only
    refine sxc_seq ?_
    refine sxc_region ?_
    refine sxo_move rfl rfl rfl ?_
    refine sxo_chk (fun h19 => ?_)
    refine sxo_shl rfl rfl rfl rfl h19 ?_
    refine sxo_move rfl rfl rfl ?_
    refine sxo_sub rfl rfl rfl rfl ?_
    refine sxo_assign rfl rfl rfl ?_
    refine sxo_nil ?_
    refine sxq_next ?_
    refine sxc_seq ?_
    refine sxc_region ?_
    refine sxo_assign rfl rfl rfl ?_
    refine sxo_nil ?_
    refine sxq_next ?_
    refine sxc_join (fun ((_, _) : (Unit × Unit)) => []) (fun ((_, _) : (Unit × Unit)) => []) (fun ((_, _) : (Unit × Unit)) => []) (fun ((_, _) : (Unit × Unit)) => []) (fun ((_, _) : (Unit × Unit)) => M_R_LeastRead_j4 F) ?_ ?_
    · refine sxc_seq ?_
      refine sxc_region ?_
      refine sxo_assign rfl rfl rfl ?_
      refine sxo_nil ?_
      refine sxq_next ?_
      refine sxc_block ?_
      refine sxc_loopP (fun (((x143, x144), _) : ((Int × Int) × Unit)) => [(0, .slice a2 x1.length c3), (1, .int .i64 x4), (8, .int .i64 x18), (9, .int .u64 (isub .u64 (ishl .u64 1 x18) x5)), (10, .int .u64 x143), (11, .int .i64 x144)]) (fun (((x143, x144), _) : ((Int × Int) × Unit)) => []) (fun (((x143, x144), _) : ((Int × Int) × Unit)) => []) (fun (((x143, x144), _) : ((Int × Int) × Unit)) => [Sl (eI .i64) 1 (.slice a2 x1.length c3) x1]) (fun k (s : ((Int × Int) × Unit)) => M_R_LeastRead_l5 F x1 x4 x5 x18 k s.1) ((0, 0), ()) F (lk_cons rfl (lk_cons rfl (lk_cons rfl (lk_cons rfl (lk_cons rfl (lk_cons rfl lk_nil)))))) .nil .nil (fk_cons 0 rfl fk_nil) (fun _ => rfl) ?_
      intro k175
      rintro ⟨⟨x143, x144⟩, _⟩
      try dsimp only
      refine sxc_meq (m' := M_R_LeastRead_b5 F x1 x4 x5 x18 (M_R_LeastRead_l5 F x1 x4 x5 x18 k175) x143 x144) rfl ?_
      refine sxc_seq ?_
      refine sxc_seq ?_
      refine sxc_region ?_
      refine sxo_move rfl rfl rfl ?_
      refine sxo_move rfl rfl rfl ?_
      refine sxo_leq rfl rfl rfl rfl ?_
      refine sxo_nil ?_
      refine sxq_next ?_
      refine sxc_if rfl (fun h205 => ?_) (fun h205 => ?_)
      · refine sxc_skip ?_
        refine sxq_next ?_
        refine sxc_seq ?_
        refine sxc_block ?_
        refine sxc_seq ?_
        refine sxc_seq ?_
        refine sxc_region ?_
        refine sxo_move rfl rfl rfl ?_
        refine sxo_move rfl rfl rfl ?_
        refine sxo_sub rfl rfl rfl rfl ?_
        refine sxo_eql rfl rfl rfl rfl ?_
        refine sxo_move rfl rfl rfl ?_
        refine sxo_case 4 ((x144 : Int) == (isub .i64 x18 1)) [(0, .slice a2 x1.length c3), (1, .int .i64 x4), (8, .int .i64 x18), (9, .int .u64 (isub .u64 (ishl .u64 1 x18) x5)), (10, .int .u64 x143), (11, .int .i64 x144), (35, .bool (((x144 : Int) == (isub .i64 x18 1)) && (decide (x143 < (isub .u64 (ishl .u64 1 x18) x5)))))] (fun h193 => ?_) (fun h193 => ?_) ?_
        · refine sxo_take (os := _) rfl ?_
          refine sxo_isT (k := 31) rfl h193 ?_
          refine sxo_move rfl rfl rfl ?_
          refine sxo_move rfl rfl rfl ?_
          refine sxo_lss rfl rfl rfl rfl ?_
          refine sxo_pick (b := true) rfl rfl rfl rfl ?_
          refine sxo_again (d := 35) (v := .bool (((x144 : Int) == (isub .i64 x18 1)) && (decide (x143 < (isub .u64 (ishl .u64 1 x18) x5))))) rfl (by rw [h193]; simp only [Bool.true_and]) ?_
          refine sxo_nil ?_
          exact sxq_case (lk_cons rfl (lk_cons rfl (lk_cons rfl (lk_cons rfl (lk_cons rfl (lk_cons rfl (lk_cons rfl lk_nil)))))))
        · refine sxo_take (os := _) rfl ?_
          refine sxo_isF (k := 31) rfl h193 ?_
          refine sxo_skip rfl rfl rfl ?_
          refine sxo_skip rfl rfl rfl ?_
          refine sxo_skip rfl rfl rfl ?_
          refine sxo_pick (b := false) rfl rfl rfl rfl ?_
          refine sxo_again (d := 35) (v := .bool (((x144 : Int) == (isub .i64 x18 1)) && (decide (x143 < (isub .u64 (ishl .u64 1 x18) x5))))) rfl (by rw [h193]; simp only [Bool.false_and]) ?_
          refine sxo_nil ?_
          exact sxq_case (lk_cons rfl (lk_cons rfl (lk_cons rfl (lk_cons rfl (lk_cons rfl (lk_cons rfl (lk_cons rfl lk_nil)))))))
        refine sxo_take (os := _) rfl ?_
        refine sxo_nil ?_
        refine sxq_next ?_
        refine sxc_if rfl (fun h204 => ?_) (fun h204 => ?_)
        · refine sxc_seq ?_
          refine sxc_region ?_
          refine sxo_move rfl rfl rfl ?_
          refine sxo_move rfl rfl rfl ?_
          refine sxo_move rfl rfl rfl ?_
          refine sxo_add rfl rfl rfl rfl ?_
          refine sxo_assign rfl rfl rfl ?_
          refine sxo_assign rfl rfl rfl ?_
          refine sxo_nil ?_
          refine sxq_next ?_
          refine sxc_ret ?_
          refine sxq_thenR ?_
          refine sxq_blkR ?_
          refine sxq_thenR ?_
          refine sxq_thenR ?_
          refine sxq_blkR ?_
          refine sxq_thenR ?_
          exact sxq_doneP () (.inl rfl) (res2 rfl rfl rfl) (fun h => by subst h; rfl) (fun h => by subst h; exact .nil)
        · refine sxc_skip ?_
          refine sxq_next ?_
          refine sxc_seq ?_
          refine sxc_seq ?_
          refine sxc_region ?_
          refine sxo_move rfl rfl rfl ?_
          refine sxo_move rfl rfl rfl ?_
          refine sxo_eql rfl rfl rfl rfl ?_
          refine sxo_nil ?_
          refine sxq_next ?_
          refine sxc_if rfl (fun h203 => ?_) (fun h203 => ?_)
          · refine sxc_seq ?_
            refine sxc_region ?_
            refine sxo_move rfl rfl rfl ?_
            refine sxo_move rfl rfl rfl ?_
            refine sxo_sub rfl rfl rfl rfl ?_
            refine sxo_move rfl rfl rfl ?_
            refine sxo_move rfl rfl rfl ?_
            refine sxo_add rfl rfl rfl rfl ?_
            refine sxo_assign rfl rfl rfl ?_
            refine sxo_lett (fun x196 e196 => ?_)
            refine sxo_again (d := 6) (v := .int .u64 x196) rfl (by rw [e196]) ?_
            refine sxo_assign rfl rfl rfl ?_
            refine sxo_nil ?_
            refine sxq_next ?_
            refine sxc_ret ?_
            refine sxq_thenR ?_
            refine sxq_blkR ?_
            refine sxq_thenR ?_
            refine sxq_thenR ?_
            refine sxq_blkR ?_
            refine sxq_thenR ?_
            exact sxq_doneP () (.inl rfl) (res2 rfl rfl rfl) (fun h => by subst h; rfl) (fun h => by subst h; exact .nil)
          · refine sxc_skip ?_
            refine sxq_next ?_
            refine sxc_seq ?_
            refine sxc_seq ?_
            refine sxc_region ?_
            refine sxo_move rfl rfl rfl ?_
            refine sxo_move rfl rfl rfl ?_
            refine sxo_add rfl rfl rfl rfl ?_
            refine sxo_move rfl rfl rfl ?_
            refine sxo_len rfl Try.underlying34 rfl rfl ?_
            refine sxo_geq rfl rfl rfl rfl ?_
            refine sxo_nil ?_
            refine sxq_next ?_
            refine sxc_if rfl (fun h202 => ?_) (fun h202 => ?_)
            · refine sxc_seq ?_
              refine sxc_region ?_
              refine sxo_assign rfl rfl rfl ?_
              refine sxo_assign rfl rfl rfl ?_
              refine sxo_nil ?_
              refine sxq_next ?_
              refine sxc_ret ?_
              refine sxq_thenR ?_
              refine sxq_blkR ?_
              refine sxq_thenR ?_
              refine sxq_thenR ?_
              refine sxq_blkR ?_
              refine sxq_thenR ?_
              exact sxq_doneP () (.inl rfl) (res2 rfl rfl rfl) (fun h => by subst h; rfl) (fun h => by subst h; exact .nil)
            · refine sxc_skip ?_
              refine sxq_next ?_
              refine sxc_region ?_
              refine sxo_move rfl rfl rfl ?_
              refine sxo_mul rfl rfl rfl rfl ?_
              refine sxo_move rfl rfl rfl ?_
              refine sxo_move rfl rfl rfl ?_
              refine sxo_move rfl rfl rfl ?_
              refine sxo_add rfl rfl rfl rfl ?_
              refine sxo_indexF (j := 0) (eI_ok .i64) (by decide) rfl Try.underlying34 tf3 rfl rfl rfl rfl (fun x198 e198 b199 o200 => ?_)
              refine sxo_loadF (j := 0) rfl rfl tf3 rfl rfl (fun _ => rfl) rfl rfl ?_
              refine sxo_conv rfl Try.underlying3 Try.underlying22 rfl rfl ?_
              refine sxo_add rfl rfl rfl rfl ?_
              refine sxo_assign rfl rfl rfl ?_
              refine sxo_lett (fun x201 e201 => ?_)
              refine sxo_again (d := 10) (v := .int .u64 x201) rfl (by rw [e201]) ?_
              refine sxo_nil ?_
              refine sxq_blkN ?_
              refine sxq_next ?_
              refine sxc_region ?_
              refine sxo_move rfl rfl rfl ?_
              refine sxo_add rfl rfl rfl rfl ?_
              refine sxo_assign rfl rfl rfl ?_
              refine sxo_nil ?_
              exact sxq_againP ((x201, iadd .i64 x144 1), ()) (lk_cons rfl (lk_cons rfl (lk_cons rfl (lk_cons rfl (lk_cons rfl (lk_cons rfl lk_nil)))))) .nil .nil (fk_cons 1 rfl fk_nil)
      · refine sxc_exit ?_
        refine sxq_thenX ?_
        refine sxq_thenX ?_
        refine sxq_blkX ?_
        exact sxq_meetP ((), ()) lk_nil .nil .nil fk_nil
    · rintro ⟨_, _⟩
      try dsimp only
      refine sxc_seq ?_
      refine sxc_region ?_
      refine sxo_assign rfl rfl rfl ?_
      refine sxo_assign rfl rfl rfl ?_
      refine sxo_nil ?_
      refine sxq_next ?_
      refine sxc_ret ?_
      exact sxq_doneP () (.inl rfl) (res2 rfl rfl rfl) (fun h => by subst h; rfl) (fun h => by subst h; exact .nil)

theorem C_R_GolombRead (F : Nat) (x1 : List Int) (a2 : Option Addr) (c3 : Nat) (x4 : Int) (x5 : Int) (r : (Int × Int × Int)) (hm : M_R_GolombRead F x1 x4 x5 = some r) :
    Pure Try.prog 36 [.slice a2 x1.length c3, .int .i64 x4, .int .u64 x5] [Sl (eI .i64) 1 (.slice a2 x1.length c3) x1] Unit (fun _ => .tuple #[.int .u64 r.1, .int .i64 r.2.1, .int .i64 r.2.2]) (fun _ => []) (fun _ => []) := by
  refine pure_of Try.func36 rfl Try.ntmps36 rfl hm (fun w => ?_)
  refine sxc_env (l' := [(0, .slice a2 x1.length c3), (1, .int .i64 x4), (2, .int .u64 x5)]) rfl ?_
  refine sxc_seq ?_
  refine sxc_region ?_
  refine sxo_assign rfl rfl rfl ?_
  refine sxo_assign rfl rfl rfl ?_
  refine sxo_assign rfl rfl rfl ?_
  refine sxo_nil ?_
  refine sxq_next ?_
  refine sxc_seq ?_
  refine sxc_region ?_
  refine sxo_move rfl rfl rfl ?_
  refine sxo_move rfl rfl rfl ?_
  refine sxo_call ent63 rfl rfl rfl (fun x6 e6 => C_R_UnaryRead F x1 a2 c3 x4 x6 e6) (.consF 0 rfl .nil) (fun x6 e6 => ?_)
  intro _
  refine sxo_move rfl rfl rfl ?_
  refine sxo_extract rfl rfl rfl rfl ?_
  refine sxo_extract rfl rfl rfl rfl ?_
  refine sxo_assign rfl rfl rfl ?_
  refine sxo_assign rfl rfl rfl ?_
  refine sxo_nil ?_
  refine sxq_next ?_
  refine sxc_seq ?_
  refine sxc_seq ?_
  refine sxc_region ?_
  refine sxo_move rfl rfl rfl ?_
  refine sxo_lss rfl rfl rfl rfl ?_
  refine sxo_nil ?_
  refine sxq_next ?_
  refine sxc_if rfl (fun h15 => ?_) (fun h15 => ?_)
  · refine sxc_seq ?_
    refine sxc_region ?_
    refine sxo_assign rfl rfl rfl ?_
    refine sxo_assign rfl rfl rfl ?_
    refine sxo_assign rfl rfl rfl ?_
    refine sxo_nil ?_
    refine sxq_next ?_
    refine sxc_ret ?_
    refine sxq_thenR ?_
    exact sxq_doneP () (.inl rfl) (res3 rfl rfl rfl rfl) (fun h => by subst h; rfl) (fun h => by subst h; exact .nil)
  · refine sxc_skip ?_
    refine sxq_next ?_
    refine sxc_seq ?_
    refine sxc_seq ?_
    refine sxc_region ?_
    refine sxo_move rfl rfl rfl ?_
    refine sxo_geq rfl rfl rfl rfl ?_
    refine sxo_nil ?_
    refine sxq_next ?_
    refine sxc_if rfl (fun h14 => ?_) (fun h14 => ?_)
    · refine sxc_seq ?_
      refine sxc_region ?_
      refine sxo_assign rfl rfl rfl ?_
      refine sxo_assign rfl rfl rfl ?_
      refine sxo_assign rfl rfl rfl ?_
      refine sxo_nil ?_
      refine sxq_next ?_
      refine sxc_ret ?_
      refine sxq_thenR ?_
      exact sxq_doneP () (.inl rfl) (res3 rfl rfl rfl rfl) (fun h => by subst h; rfl) (fun h => by subst h; exact .nil)
    · refine sxc_skip ?_
      refine sxq_next ?_
      refine sxc_seq ?_
      refine sxc_region ?_
      refine sxo_move rfl rfl rfl ?_
      refine sxo_move rfl rfl rfl ?_
      refine sxo_move rfl rfl rfl ?_
      refine sxo_call ent35 rfl rfl rfl (fun x9 e9 => C_R_LeastRead F x1 a2 c3 x6.2 x5 x9 e9) (.consF 0 rfl .nil) (fun x9 e9 => ?_)
      intro _
      refine sxo_move rfl rfl rfl ?_
      refine sxo_extract rfl rfl rfl rfl ?_
      refine sxo_extract rfl rfl rfl rfl ?_
      refine sxo_assign rfl rfl rfl ?_
      refine sxo_assign rfl rfl rfl ?_
      refine sxo_nil ?_
      refine sxq_next ?_
      refine sxc_seq ?_
      refine sxc_seq ?_
      refine sxc_region ?_
      refine sxo_move rfl rfl rfl ?_
      refine sxo_lss rfl rfl rfl rfl ?_
      refine sxo_nil ?_
      refine sxq_next ?_
      refine sxc_if rfl (fun h13 => ?_) (fun h13 => ?_)
      · refine sxc_seq ?_
        refine sxc_region ?_
        refine sxo_assign rfl rfl rfl ?_
        refine sxo_assign rfl rfl rfl ?_
        refine sxo_assign rfl rfl rfl ?_
        refine sxo_nil ?_
        refine sxq_next ?_
        refine sxc_ret ?_
        refine sxq_thenR ?_
        exact sxq_doneP () (.inl rfl) (res3 rfl rfl rfl rfl) (fun h => by subst h; rfl) (fun h => by subst h; exact .nil)
      · refine sxc_skip ?_
        refine sxq_next ?_
        refine sxc_seq ?_
        refine sxc_seq ?_
        refine sxc_region ?_
        refine sxo_move rfl rfl rfl ?_
        refine sxo_move rfl rfl rfl ?_
        refine sxo_mul rfl rfl rfl rfl ?_
        refine sxo_move rfl rfl rfl ?_
        refine sxo_add rfl rfl rfl rfl ?_
        refine sxo_gtr rfl rfl rfl rfl ?_
        refine sxo_nil ?_
        refine sxq_next ?_
        refine sxc_if rfl (fun h12 => ?_) (fun h12 => ?_)
        · refine sxc_seq ?_
          refine sxc_region ?_
          refine sxo_assign rfl rfl rfl ?_
          refine sxo_assign rfl rfl rfl ?_
          refine sxo_assign rfl rfl rfl ?_
          refine sxo_nil ?_
          refine sxq_next ?_
          refine sxc_ret ?_
          refine sxq_thenR ?_
          exact sxq_doneP () (.inl rfl) (res3 rfl rfl rfl rfl) (fun h => by subst h; rfl) (fun h => by subst h; exact .nil)
        · refine sxc_skip ?_
          refine sxq_next ?_
          refine sxc_seq ?_
          refine sxc_region ?_
          refine sxo_move rfl rfl rfl ?_
          refine sxo_move rfl rfl rfl ?_
          refine sxo_mul rfl rfl rfl rfl ?_
          refine sxo_move rfl rfl rfl ?_
          refine sxo_add rfl rfl rfl rfl ?_
          refine sxo_move rfl rfl rfl ?_
          refine sxo_assign rfl rfl rfl ?_
          refine sxo_assign rfl rfl rfl ?_
          refine sxo_assign rfl rfl rfl ?_
          refine sxo_nil ?_
          refine sxq_next ?_
          refine sxc_ret ?_
          exact sxq_doneP () (.inl rfl) (res3 rfl rfl rfl rfl) (fun h => by subst h; rfl) (fun h => by subst h; exact .nil)

theorem C_golomb_span (F : Nat) (x1 : Int) (x2 : Int) (r : (Int × Int × Int)) (hm : M_golomb_span F x1 x2 = some r) :
    Pure Try.prog 74 [.int .u64 x1, .int .i64 x2] [] Unit (fun _ => .tuple #[.int .i64 r.1, .int .u64 r.2.1, .int .u64 r.2.2]) (fun _ => []) (fun _ => []) := by
  refine pure_of Try.func74 rfl Try.ntmps74 rfl hm (fun w => ?_)
  refine sxc_env (l' := [(0, .int .u64 x1), (1, .int .i64 x2)]) rfl ?_
  refine sxc_seq ?_
  refine sxc_region ?_
  refine sxo_assign rfl rfl rfl ?_
  refine sxo_assign rfl rfl rfl ?_
  refine sxo_assign rfl rfl rfl ?_
  refine sxo_nil ?_
  refine sxq_next ?_
  refine sxc_seq ?_
  refine sxc_region ?_
  refine sxo_move rfl rfl rfl ?_
  refine sxo_add rfl rfl rfl rfl ?_
  refine sxo_call ent92 rfl rfl rfl (fun x3 e3 => C_math_bits_Len64 F (iadd .u64 x1 1) x3 e3) .nil (fun x3 e3 => ?_)
  intro _
  refine sxo_sub rfl rfl rfl rfl ?_
  refine sxo_move rfl rfl rfl ?_
  refine sxo_chk (fun h4 => ?_)
  refine sxo_quo rfl rfl rfl rfl h4 ?_
  refine sxo_assign rfl rfl rfl ?_
  refine sxo_nil ?_
  refine sxq_next ?_
  refine sxc_seq ?_
  refine sxc_chk (fun h11 => ?_)
  refine sxc_chk (fun h13 => ?_)
  refine sxb_draw mixed [] [] [] .nil gk_nil 14 rfl ?_
  refine sxb_takeP 0 (.int .i64 (iquo .i64 (isub .i64 x3 1) x2)) rfl rfl rfl rfl (by kernel_rfl) (by kernel_rfl) (by kernel_rfl) (by kernel_rfl) (by kernel_rfl) rfl (show _ = #[true, false, false, false, false, false, false, false, false, false, false, false, false, false] from rfl) (yv_pv rfl) ?_
  refine sxb_takeP 1 (.int .i64 (iquo .i64 (isub .i64 x3 1) x2)) rfl rfl rfl rfl (by kernel_rfl) (by kernel_rfl) (by kernel_rfl) (by kernel_rfl) (by kernel_rfl) rfl (show _ = #[true, true, false, false, false, false, false, false, false, false, false, false, false, false] from rfl) (yv_pv rfl) ?_
  refine sxb_takeP 2 (.int .i64 x2) rfl rfl rfl rfl (by kernel_rfl) (by kernel_rfl) (by kernel_rfl) (by kernel_rfl) (by kernel_rfl) rfl (show _ = #[true, true, true, false, false, false, false, false, false, false, false, false, false, false] from rfl) (yv_pv rfl) ?_
  refine sxb_takeP 3 (.int .i64 (imul .i64 (iquo .i64 (isub .i64 x3 1) x2) x2)) rfl rfl rfl rfl (by kernel_rfl) (by kernel_rfl) (by kernel_rfl) (by kernel_rfl) (by kernel_rfl) rfl (show _ = #[true, true, true, true, false, false, false, false, false, false, false, false, false, false] from rfl) (yv_pv rfl) ?_
  refine sxb_takeP 4 (.int .u64 (ishl .u64 1 (imul .i64 (iquo .i64 (isub .i64 x3 1) x2) x2))) rfl rfl rfl rfl (by kernel_rfl) (by kernel_rfl) (by kernel_rfl) (by kernel_rfl) (by kernel_rfl) rfl (show _ = #[true, true, true, true, true, false, false, false, false, false, false, false, false, false] from rfl) (yv_shl rfl rfl h11) ?_
  refine sxb_takeP 5 (.int .i64 (iquo .i64 (isub .i64 x3 1) x2)) rfl rfl rfl rfl (by kernel_rfl) (by kernel_rfl) (by kernel_rfl) (by kernel_rfl) (by kernel_rfl) rfl (show _ = #[true, true, true, true, true, true, false, false, false, false, false, false, false, false] from rfl) (yv_pv rfl) ?_
  refine sxb_takeP 6 (.int .i64 x2) rfl rfl rfl rfl (by kernel_rfl) (by kernel_rfl) (by kernel_rfl) (by kernel_rfl) (by kernel_rfl) rfl (show _ = #[true, true, true, true, true, true, true, false, false, false, false, false, false, false] from rfl) (yv_pv rfl) ?_
  refine sxb_takeP 7 (.int .i64 (imul .i64 (iquo .i64 (isub .i64 x3 1) x2) x2)) rfl rfl rfl rfl (by kernel_rfl) (by kernel_rfl) (by kernel_rfl) (by kernel_rfl) (by kernel_rfl) rfl (show _ = #[true, true, true, true, true, true, true, true, false, false, false, false, false, false] from rfl) (yv_pv rfl) ?_
  refine sxb_takeP 8 (.int .i64 x2) rfl rfl rfl rfl (by kernel_rfl) (by kernel_rfl) (by kernel_rfl) (by kernel_rfl) (by kernel_rfl) rfl (show _ = #[true, true, true, true, true, true, true, true, true, false, false, false, false, false] from rfl) (yv_pv rfl) ?_
  refine sxb_takeP 9 (.int .i64 (iadd .i64 (imul .i64 (iquo .i64 (isub .i64 x3 1) x2) x2) x2)) rfl rfl rfl rfl (by kernel_rfl) (by kernel_rfl) (by kernel_rfl) (by kernel_rfl) (by kernel_rfl) rfl (show _ = #[true, true, true, true, true, true, true, true, true, true, false, false, false, false] from rfl) (yv_pv rfl) ?_
  refine sxb_takeP 10 (.int .u64 (ishl .u64 1 (iadd .i64 (imul .i64 (iquo .i64 (isub .i64 x3 1) x2) x2) x2))) rfl rfl rfl rfl (by kernel_rfl) (by kernel_rfl) (by kernel_rfl) (by kernel_rfl) (by kernel_rfl) rfl (show _ = #[true, true, true, true, true, true, true, true, true, true, true, false, false, false] from rfl) (yv_shl rfl rfl h13) ?_
  refine sxb_takeP 11 (.int .i64 (iquo .i64 (isub .i64 x3 1) x2)) rfl rfl rfl rfl (by kernel_rfl) (by kernel_rfl) (by kernel_rfl) (by kernel_rfl) (by kernel_rfl) rfl (show _ = #[true, true, true, true, true, true, true, true, true, true, true, true, false, false] from rfl) (yv_pv rfl) ?_
  refine sxb_takeP 12 (.int .u64 (ishl .u64 1 (imul .i64 (iquo .i64 (isub .i64 x3 1) x2) x2))) rfl rfl rfl rfl (by kernel_rfl) (by kernel_rfl) (by kernel_rfl) (by kernel_rfl) (by kernel_rfl) rfl (show _ = #[true, true, true, true, true, true, true, true, true, true, true, true, true, false] from rfl) (yv_pv rfl) ?_
  refine sxb_takeP 13 (.int .u64 (ishl .u64 1 (iadd .i64 (imul .i64 (iquo .i64 (isub .i64 x3 1) x2) x2) x2))) rfl rfl rfl rfl (by kernel_rfl) (by kernel_rfl) (by kernel_rfl) (by kernel_rfl) (by kernel_rfl) rfl (show _ = #[true, true, true, true, true, true, true, true, true, true, true, true, true, true] from rfl) (yv_pv rfl) ?_
  refine sxb_done (by kernel_rfl) ?_
  refine sxq_np ?_ (by intro c h; cases h)
  refine sxq_next ?_
  refine sxc_ret ?_
  exact sxq_doneP () (.inl rfl) (res3 rfl rfl rfl rfl) (fun h => by subst h; rfl) (fun h => by subst h; exact .nil)

theorem C_golomb_Zeta (F : Nat) (x1 : Int) (x2 : Int) (r : (Int × List Int × Int)) (hm : M_golomb_Zeta F x1 x2 = some r) :
    Pure Try.prog 38 [.int .u64 x1, .int .i64 x2] [] (Option Addr × Nat) (fun g => .tuple #[.agg #[.int .i64 r.1, .slice g.1 r.2.1.length g.2], .int .i64 r.2.2]) (fun g => [Ro (eI .u8) 5 1 (.slice g.1 r.2.1.length g.2) r.2.1]) (fun _ => []) := by
  refine pure_of Try.func38 rfl Try.ntmps38 rfl hm (fun w => ?_)
  refine sxc_env (l' := [(0, .int .u64 x1), (1, .int .i64 x2)]) rfl ?_
  refine sxc_seq ?_
  refine sxc_region ?_
  refine sxo_alloc rfl tf25 rfl (fun g3 => ?_)
  refine sxo_assign rfl rfl rfl ?_
  refine sxo_nil ?_
  refine sxq_next ?_
  refine sxc_seq ?_
  refine sxc_seq ?_
  refine sxc_region ?_
  refine sxo_move rfl rfl rfl ?_
  refine sxo_lss rfl rfl rfl rfl ?_
  refine sxo_move rfl rfl rfl ?_
  refine sxo_case 3 (decide (x2 < 1)) [(0, .int .u64 x1), (1, .int .i64 x2), (4, .pointer (some ⟨g3, 0, none⟩)), (14, .bool ((decide (x2 < 1)) || (decide (16 < x2))))] (fun h7 => ?_) (fun h7 => ?_) ?_
  · refine sxo_take (os := _) rfl ?_
    refine sxo_isT (k := 11) rfl h7 ?_
    refine sxo_skip rfl rfl rfl ?_
    refine sxo_skip rfl rfl rfl ?_
    refine sxo_pick (b := true) rfl rfl rfl rfl ?_
    refine sxo_again (d := 14) (v := .bool ((decide (x2 < 1)) || (decide (16 < x2)))) rfl (by rw [h7]; simp only [Bool.true_or]) ?_
    refine sxo_nil ?_
    exact sxq_case (lk_cons rfl (lk_cons rfl (lk_cons rfl (lk_cons rfl lk_nil))))
  · refine sxo_take (os := _) rfl ?_
    refine sxo_isF (k := 11) rfl h7 ?_
    refine sxo_move rfl rfl rfl ?_
    refine sxo_gtr rfl rfl rfl rfl ?_
    refine sxo_pick (b := false) rfl rfl rfl rfl ?_
    refine sxo_again (d := 14) (v := .bool ((decide (x2 < 1)) || (decide (16 < x2)))) rfl (by rw [h7]; simp only [Bool.false_or]) ?_
    refine sxo_nil ?_
    exact sxq_case (lk_cons rfl (lk_cons rfl (lk_cons rfl (lk_cons rfl lk_nil))))
  refine sxo_take (os := _) rfl ?_
  refine sxo_move rfl rfl rfl ?_
  refine sxo_case 3 ((decide (x2 < 1)) || (decide (16 < x2))) [(0, .int .u64 x1), (1, .int .i64 x2), (4, .pointer (some ⟨g3, 0, none⟩)), (18, .bool (((decide (x2 < 1)) || (decide (16 < x2))) || (decide (1099511627776 < x1))))] (fun h8 => ?_) (fun h8 => ?_) ?_
  · refine sxo_take (os := _) rfl ?_
    refine sxo_isT (k := 15) rfl h8 ?_
    refine sxo_skip rfl rfl rfl ?_
    refine sxo_skip rfl rfl rfl ?_
    refine sxo_pick (b := true) rfl rfl rfl rfl ?_
    refine sxo_again (d := 18) (v := .bool (((decide (x2 < 1)) || (decide (16 < x2))) || (decide (1099511627776 < x1)))) rfl (by rw [h8]; simp only [Bool.true_or]) ?_
    refine sxo_nil ?_
    exact sxq_case (lk_cons rfl (lk_cons rfl (lk_cons rfl (lk_cons rfl lk_nil))))
  · refine sxo_take (os := _) rfl ?_
    refine sxo_isF (k := 15) rfl h8 ?_
    refine sxo_move rfl rfl rfl ?_
    refine sxo_gtr rfl rfl rfl rfl ?_
    refine sxo_pick (b := false) rfl rfl rfl rfl ?_
    refine sxo_again (d := 18) (v := .bool (((decide (x2 < 1)) || (decide (16 < x2))) || (decide (1099511627776 < x1)))) rfl (by rw [h8]; simp only [Bool.false_or]) ?_
    refine sxo_nil ?_
    exact sxq_case (lk_cons rfl (lk_cons rfl (lk_cons rfl (lk_cons rfl lk_nil))))
  refine sxo_take (os := _) rfl ?_
  refine sxo_nil ?_
  refine sxq_next ?_
  refine sxc_if rfl (fun h16 => ?_) (fun h16 => ?_)
  · refine sxc_seq ?_
    refine sxc_region ?_
    refine sxo_build (cells := [.int .i64 0, .slice none 0 0]) rfl st25 rfl (by kernel_rfl) rfl ?_
    refine sxo_storeB (i := 0) rfl rfl rfl tf25 rfl rfl rfl rfl rfl ?_
    refine sxo_assign rfl rfl rfl ?_
    refine sxo_nil ?_
    refine sxq_next ?_
    refine sxc_ret ?_
    refine sxq_thenR ?_
    refine sxq_nilrow Int (eI .u8) 5 1 ?_
    exact sxq_doneP (none, 0) (.inl rfl) (resL (rs := [.cell 4 25, .tmp 5]) rfl (.cell (i := 0) rfl tf25 rfl rfl (by simp) rfl (.tmp rfl ResOk.nil)) rfl) (fun h => by subst h; rfl) (fun h => by subst h; exact (.cons 0 rfl .nil))
  · refine sxc_skip ?_
    refine sxq_next ?_
    refine sxc_seq ?_
    refine sxc_region ?_
    refine sxo_move rfl rfl rfl ?_
    refine sxo_move rfl rfl rfl ?_
    refine sxo_call ent74 rfl rfl rfl (fun x9 e9 => C_golomb_span F x1 x2 x9 e9) .nil (fun x9 e9 => ?_)
    intro _
    refine sxo_move rfl rfl rfl ?_
    refine sxo_extract rfl rfl rfl rfl ?_
    refine sxo_extract rfl rfl rfl rfl ?_
    refine sxo_extract rfl rfl rfl rfl ?_
    refine sxo_assign rfl rfl rfl ?_
    refine sxo_assign rfl rfl rfl ?_
    refine sxo_assign rfl rfl rfl ?_
    refine sxo_nil ?_
    refine sxq_next ?_
    refine sxc_seq ?_
    refine sxc_region ?_
    refine sxo_move rfl rfl rfl ?_
    refine sxo_conv rfl Try.underlying3 Try.underlying22 rfl rfl ?_
    refine sxo_call ent68 rfl rfl rfl (fun x10 e10 => C_unary_Raw F (iconv .u64 x9.1) x10 e10) .nil (fun x10 e10 => ?_)
    rintro ⟨a11, c12⟩
    refine sxo_move rfl rfl rfl ?_
    refine sxo_add rfl rfl rfl rfl ?_
    refine sxo_move rfl rfl rfl ?_
    refine sxo_sub rfl rfl rfl rfl ?_
    refine sxo_move rfl rfl rfl ?_
    refine sxo_move rfl rfl rfl ?_
    refine sxo_sub rfl rfl rfl rfl ?_
    refine sxo_call ent67 rfl rfl rfl (fun x13 e13 => C_golomb_addLeast F x10.1 x10.2 a11 c12 (isub .u64 (iadd .u64 x1 1) x9.2.1) (isub .u64 x9.2.2 x9.2.1) x13 e13) (.consR 0 (Ro (eI .u8) 5 1 (.slice a11 x10.2.length c12) x10.2) rfl .nil) (fun x13 e13 => ?_)
    rintro ⟨a14, c15⟩
    refine sxo_storeB (i := 0) rfl rfl rfl tf25 rfl rfl rfl rfl rfl ?_
    refine sxo_assign rfl rfl rfl ?_
    refine sxo_nil ?_
    refine sxq_next ?_
    refine sxc_ret ?_
    exact sxq_doneP (a14, c15) (.inl rfl) (resL (rs := [.cell 4 25, .tmp 5]) rfl (.cell (i := 0) rfl tf25 rfl rfl (by simp) rfl (.tmp rfl ResOk.nil)) rfl) (fun h => by subst h; rfl) (fun h => by subst h; exact (.cons 0 rfl .nil))

theorem C_golomb_FromZeta (F : Nat) (x1 : Int) (x2 : List Int) (a3 : Option Addr) (c4 : Nat) (x5 : Int) (x6 : Int) (r : (Int × Int × Int)) (hm : M_golomb_FromZeta F x1 x2 x5 x6 = some r) :
    Pure Try.prog 75 [.agg #[.int .i64 x1, .slice a3 x2.length c4], .int .i64 x5, .int .i64 x6] [Sl (eI .u8) 1 (.slice a3 x2.length c4) x2] Unit (fun _ => .tuple #[.int .u64 r.1, .int .i64 r.2.1, .int .i64 r.2.2]) (fun _ => []) (fun _ => []) := by
  refine pure_of Try.func75 rfl Try.ntmps75 rfl hm (fun w => ?_)
  refine sxc_env (l' := [(0, .agg #[.int .i64 x1, .slice a3 x2.length c4]), (1, .int .i64 x5), (2, .int .i64 x6)]) rfl ?_
  refine sxc_seq ?_
  refine sxc_region ?_
  refine sxo_box rfl rfl rfl (fun g7 => ?_)
  refine sxo_assign rfl rfl rfl ?_
  refine sxo_assign rfl rfl rfl ?_
  refine sxo_assign rfl rfl rfl ?_
  refine sxo_nil ?_
  refine sxq_next ?_
  refine sxc_seq ?_
  refine sxc_region ?_
  refine sxo_loadB (i := 0) rfl rfl tf25 rfl rfl (by simp) rfl rfl ?_
  refine sxo_move rfl rfl rfl ?_
  refine sxo_call ent72 rfl rfl rfl (fun x8 e8 => C_unary_From F x1 x2 a3 c4 x5 x8 e8) (.consF 0 rfl .nil) (fun x8 e8 => ?_)
  intro _
  refine sxo_move rfl rfl rfl ?_
  refine sxo_extract rfl rfl rfl rfl ?_
  refine sxo_extract rfl rfl rfl rfl ?_
  refine sxo_extract rfl rfl rfl rfl ?_
  refine sxo_assign rfl rfl rfl ?_
  refine sxo_assign rfl rfl rfl ?_
  refine sxo_assign rfl rfl rfl ?_
  refine sxo_nil ?_
  refine sxq_next ?_
  refine sxc_seq ?_
  refine sxc_seq ?_
  refine sxc_region ?_
  refine sxo_move rfl rfl rfl ?_
  refine sxo_not rfl rfl rfl ?_
  refine sxo_nil ?_
  refine sxq_next ?_
  refine sxc_if rfl (fun h23 => ?_) (fun h23 => ?_)
  · refine sxc_seq ?_
    refine sxc_region ?_
    refine sxo_assign rfl rfl rfl ?_
    refine sxo_assign rfl rfl rfl ?_
    refine sxo_assign rfl rfl rfl ?_
    refine sxo_nil ?_
    refine sxq_next ?_
    refine sxc_ret ?_
    refine sxq_thenR ?_
    exact sxq_doneP () (.inl rfl) (res3 rfl rfl rfl rfl) (fun h => by subst h; rfl) (fun h => by subst h; exact .nil)
  · refine sxc_skip ?_
    refine sxq_next ?_
    refine sxc_seq ?_
    refine sxc_seq ?_
    refine sxc_region ?_
    refine sxo_move rfl rfl rfl ?_
    refine sxo_move rfl rfl rfl ?_
    refine sxo_conv rfl Try.underlying3 Try.underlying22 rfl rfl ?_
    refine sxo_mul rfl rfl rfl rfl ?_
    refine sxo_geq rfl rfl rfl rfl ?_
    refine sxo_nil ?_
    refine sxq_next ?_
    refine sxc_if rfl (fun h22 => ?_) (fun h22 => ?_)
    · refine sxc_seq ?_
      refine sxc_region ?_
      refine sxo_assign rfl rfl rfl ?_
      refine sxo_assign rfl rfl rfl ?_
      refine sxo_assign rfl rfl rfl ?_
      refine sxo_nil ?_
      refine sxq_next ?_
      refine sxc_ret ?_
      refine sxq_thenR ?_
      exact sxq_doneP () (.inl rfl) (res3 rfl rfl rfl rfl) (fun h => by subst h; rfl) (fun h => by subst h; exact .nil)
    · refine sxc_skip ?_
      refine sxq_next ?_
      refine sxc_seq ?_
      refine sxc_region ?_
      refine sxo_move rfl rfl rfl ?_
      refine sxo_conv rfl Try.underlying22 Try.underlying3 rfl rfl ?_
      refine sxo_move rfl rfl rfl ?_
      refine sxo_mul rfl rfl rfl rfl ?_
      refine sxo_chk (fun h11 => ?_)
      refine sxo_shl rfl rfl rfl rfl h11 ?_
      refine sxo_assign rfl rfl rfl ?_
      refine sxo_lett (fun x12 e12 => ?_)
      refine sxo_again (d := 12) (v := .int .u64 x12) rfl (by rw [e12]) ?_
      refine sxo_nil ?_
      refine sxq_next ?_
      refine sxc_seq ?_
      refine sxc_chk (fun h17 => ?_)
      refine sxb_draw mixed [] [⟨g7, 25, [.int .i64 x1, .slice a3 x2.length c4]⟩] [Sl (eI .u8) 1 (.slice a3 x2.length c4) x2] (.cons 0 rfl .nil) (gk_F 0 rfl gk_nil) 15 rfl ?_
      refine sxb_take 0 (.agg #[.int .i64 x1, .slice a3 x2.length c4]) [] rfl rfl rfl rfl (by kernel_rfl) (by kernel_rfl) (by kernel_rfl) (by kernel_rfl) (by kernel_rfl) (by kernel_rfl) rfl (show _ = #[true, false, false, false, false, false, false, false, false, false, false, false, false, false, false] from rfl) (yv_loadB (i := 0) rfl tf25 rfl rfl (by simp) rfl) ?_
      refine sxb_takeP 1 (.int .i64 x8.2.1) rfl rfl rfl rfl (by kernel_rfl) (by kernel_rfl) (by kernel_rfl) (by kernel_rfl) (by kernel_rfl) rfl (show _ = #[true, true, false, false, false, false, false, false, false, false, false, false, false, false, false] from rfl) (yv_pv rfl) ?_
      refine sxb_takeP 2 (.int .u64 x12) rfl rfl rfl rfl (by kernel_rfl) (by kernel_rfl) (by kernel_rfl) (by kernel_rfl) (by kernel_rfl) rfl (show _ = #[true, true, true, false, false, false, false, false, false, false, false, false, false, false, false] from rfl) (yv_pv rfl) ?_
      refine sxb_takeP 3 (.int .i64 x6) rfl rfl rfl rfl (by kernel_rfl) (by kernel_rfl) (by kernel_rfl) (by kernel_rfl) (by kernel_rfl) rfl (show _ = #[true, true, true, true, false, false, false, false, false, false, false, false, false, false, false] from rfl) (yv_pv rfl) ?_
      refine sxb_takeP 4 (.int .u64 (ishl .u64 x12 x6)) rfl rfl rfl rfl (by kernel_rfl) (by kernel_rfl) (by kernel_rfl) (by kernel_rfl) (by kernel_rfl) rfl (show _ = #[true, true, true, true, true, false, false, false, false, false, false, false, false, false, false] from rfl) (yv_shl rfl rfl h17) ?_
      refine sxb_takeP 5 (.int .u64 x12) rfl rfl rfl rfl (by kernel_rfl) (by kernel_rfl) (by kernel_rfl) (by kernel_rfl) (by kernel_rfl) rfl (show _ = #[true, true, true, true, true, true, false, false, false, false, false, false, false, false, false] from rfl) (yv_pv rfl) ?_
      refine sxb_takeP 6 (.int .u64 (isub .u64 (ishl .u64 x12 x6) x12)) rfl rfl rfl rfl (by kernel_rfl) (by kernel_rfl) (by kernel_rfl) (by kernel_rfl) (by kernel_rfl) rfl (show _ = #[true, true, true, true, true, true, true, false, false, false, false, false, false, false, false] from rfl) (yv_pv rfl) ?_
      refine sxb_step 7 rfl (by kernel_rfl) (show _ = #[true, true, true, true, true, true, true, true, false, false, false, false, false, false, false] from rfl) ?_
      refine sxo_call ent71 rfl rfl rfl (fun x20 e20 => C_golomb_fromLeast F x1 x2 a3 c4 x8.2.1 (isub .u64 (ishl .u64 x12 x6) x12) x20 e20) (.consF 0 rfl .nil) (fun x20 e20 => ?_)
      intro _
      refine sxo_nil ?_
      refine sxq_anyB (.cons 0 rfl .nil) (gk_F 0 rfl gk_nil) ?_
      refine sxb_takeP 8 (.tuple #[.int .u64 x20.1, .int .i64 x20.2.1, .bool x20.2.2]) rfl rfl rfl rfl (by kernel_rfl) (by kernel_rfl) (by kernel_rfl) (by kernel_rfl) (by kernel_rfl) rfl (show _ = #[true, true, true, true, true, true, true, true, true, false, false, false, false, false, false] from rfl) (yv_pv rfl) ?_
      refine sxb_takeP 9 (.int .u64 x20.1) rfl rfl rfl rfl (by kernel_rfl) (by kernel_rfl) (by kernel_rfl) (by kernel_rfl) (by kernel_rfl) rfl (show _ = #[true, true, true, true, true, true, true, true, true, true, false, false, false, false, false] from rfl) (yv_pv rfl) ?_
      refine sxb_takeP 10 (.int .i64 x20.2.1) rfl rfl rfl rfl (by kernel_rfl) (by kernel_rfl) (by kernel_rfl) (by kernel_rfl) (by kernel_rfl) rfl (show _ = #[true, true, true, true, true, true, true, true, true, true, true, false, false, false, false] from rfl) (yv_pv rfl) ?_
      refine sxb_takeP 11 (.bool x20.2.2) rfl rfl rfl rfl (by kernel_rfl) (by kernel_rfl) (by kernel_rfl) (by kernel_rfl) (by kernel_rfl) rfl (show _ = #[true, true, true, true, true, true, true, true, true, true, true, true, false, false, false] from rfl) (yv_pv rfl) ?_
      refine sxb_takeP 12 (.int .u64 x20.1) rfl rfl rfl rfl (by kernel_rfl) (by kernel_rfl) (by kernel_rfl) (by kernel_rfl) (by kernel_rfl) rfl (show _ = #[true, true, true, true, true, true, true, true, true, true, true, true, true, false, false] from rfl) (yv_pv rfl) ?_
      refine sxb_takeP 13 (.int .i64 x20.2.1) rfl rfl rfl rfl (by kernel_rfl) (by kernel_rfl) (by kernel_rfl) (by kernel_rfl) (by kernel_rfl) rfl (show _ = #[true, true, true, true, true, true, true, true, true, true, true, true, true, true, false] from rfl) (yv_pv rfl) ?_
      refine sxb_takeP 14 (.bool x20.2.2) rfl rfl rfl rfl (by kernel_rfl) (by kernel_rfl) (by kernel_rfl) (by kernel_rfl) (by kernel_rfl) rfl (show _ = #[true, true, true, true, true, true, true, true, true, true, true, true, true, true, true] from rfl) (yv_pv rfl) ?_
      refine sxb_done (by kernel_rfl) ?_
      refine sxq_np ?_ (by intro c h; cases h)
      refine sxq_next ?_
      refine sxc_seq ?_
      refine sxc_region ?_
      refine sxo_move rfl rfl rfl ?_
      refine sxo_move rfl rfl rfl ?_
      refine sxo_add rfl rfl rfl rfl ?_
      refine sxo_sub rfl rfl rfl rfl ?_
      refine sxo_move rfl rfl rfl ?_
      refine sxo_move rfl rfl rfl ?_
      refine sxo_call ent70 rfl rfl rfl (fun x21 e21 => C_golomb_ended F (isub .u64 (iadd .u64 x12 x20.1) 1) x20.2.1 x20.2.2 x21 e21) .nil (fun x21 e21 => ?_)
      intro _
      refine sxo_extract rfl rfl rfl rfl ?_
      refine sxo_extract rfl rfl rfl rfl ?_
      refine sxo_extract rfl rfl rfl rfl ?_
      refine sxo_assign rfl rfl rfl ?_
      refine sxo_assign rfl rfl rfl ?_
      refine sxo_assign rfl rfl rfl ?_
      refine sxo_nil ?_
      refine sxq_next ?_
      refine sxc_ret ?_
      exact sxq_doneP () (.inl rfl) (res3 rfl rfl rfl rfl) (fun h => by subst h; rfl) (fun h => by subst h; exact .nil)

theorem C_golomb_ReadZeta (F : Nat) (x1 : Int) (x2 : List Int) (a3 : Option Addr) (c4 : Nat) (x5 : Int) (x6 : Int) (r : (Int × Int × Int)) (hm : M_golomb_ReadZeta F x1 x2 x5 x6 = some r) :
    Pure Try.prog 39 [.agg #[.int .i64 x1, .slice a3 x2.length c4], .int .i64 x5, .int .i64 x6] [Sl (eI .u8) 1 (.slice a3 x2.length c4) x2] Unit (fun _ => .tuple #[.int .u64 r.1, .int .i64 r.2.1, .int .i64 r.2.2]) (fun _ => []) (fun _ => []) := by
  refine pure_of Try.func39 rfl Try.ntmps39 rfl hm (fun w => ?_)
  refine sxc_env (l' := [(0, .agg #[.int .i64 x1, .slice a3 x2.length c4]), (1, .int .i64 x5), (2, .int .i64 x6)]) rfl ?_
  refine sxc_seq ?_
  refine sxc_region ?_
  refine sxo_box rfl rfl rfl (fun g7 => ?_)
  refine sxo_assign rfl rfl rfl ?_
  refine sxo_assign rfl rfl rfl ?_
  refine sxo_assign rfl rfl rfl ?_
  refine sxo_nil ?_
  refine sxq_next ?_
  refine sxc_seq ?_
  refine sxc_seq ?_
  refine sxc_region ?_
  refine sxo_loadB (i := 0) rfl rfl tf25 rfl rfl (by simp) rfl rfl ?_
  refine sxo_move rfl rfl rfl ?_
  refine sxo_move rfl rfl rfl ?_
  refine sxo_geq rfl rfl rfl rfl ?_
  refine sxo_move rfl rfl rfl ?_
  refine sxo_leq rfl rfl rfl rfl ?_
  refine sxo_slit (vs := [.bool (decide (1 ≤ x6)), .bool (decide (x6 ≤ 16))]) (ys := ([(decide (1 ≤ x6)), (decide (x6 ≤ 16))] : List Bool)) eB_ok (by decide) rfl Try.underlying107 tf4 rfl rfl rfl rfl rfl (by decide) (fun a12 c13 => ?_)
  refine sxo_call ent69 rfl rfl rfl (fun x14 e14 => C_golomb_check F x1 x2 a3 c4 x5 ([(decide (1 ≤ x6)), (decide (x6 ≤ 16))] : List Bool) a12 c13 x14 e14) (.consF 0 rfl (.consR 0 (Ro eB 4 1 (.slice a12 ([(decide (1 ≤ x6)), (decide (x6 ≤ 16))] : List Bool).length c13) ([(decide (1 ≤ x6)), (decide (x6 ≤ 16))] : List Bool)) rfl .nil)) (fun x14 e14 => ?_)
  intro _
  refine sxo_assign rfl rfl rfl ?_
  refine sxo_nil ?_
  refine sxq_next ?_
  refine sxc_seq ?_
  refine sxc_region ?_
  refine sxo_move rfl rfl rfl ?_
  refine sxo_neq rfl rfl rfl rfl ?_
  refine sxo_nil ?_
  refine sxq_next ?_
  refine sxc_if rfl (fun h16 => ?_) (fun h16 => ?_)
  · refine sxc_seq ?_
    refine sxc_region ?_
    refine sxo_move rfl rfl rfl ?_
    refine sxo_assign rfl rfl rfl ?_
    refine sxo_assign rfl rfl rfl ?_
    refine sxo_assign rfl rfl rfl ?_
    refine sxo_nil ?_
    refine sxq_next ?_
    refine sxc_ret ?_
    refine sxq_thenR ?_
    exact sxq_doneP () (.inl rfl) (res3 rfl rfl rfl rfl) (fun h => by subst h; rfl) (fun h => by subst h; exact .nil)
  · refine sxc_skip ?_
    refine sxq_next ?_
    refine sxc_seq ?_
    refine sxc_region ?_
    refine sxo_loadB (i := 0) rfl rfl tf25 rfl rfl (by simp) rfl rfl ?_
    refine sxo_move rfl rfl rfl ?_
    refine sxo_move rfl rfl rfl ?_
    refine sxo_call ent75 rfl rfl rfl (fun x15 e15 => C_golomb_FromZeta F x1 x2 a3 c4 x5 x6 x15 e15) (.consF 0 rfl .nil) (fun x15 e15 => ?_)
    intro _
    refine sxo_extract rfl rfl rfl rfl ?_
    refine sxo_extract rfl rfl rfl rfl ?_
    refine sxo_extract rfl rfl rfl rfl ?_
    refine sxo_assign rfl rfl rfl ?_
    refine sxo_assign rfl rfl rfl ?_
    refine sxo_assign rfl rfl rfl ?_
    refine sxo_nil ?_
    refine sxq_next ?_
    refine sxc_ret ?_
    exact sxq_doneP () (.inl rfl) (res3 rfl rfl rfl rfl) (fun h => by subst h; rfl) (fun h => by subst h; exact .nil)

set_option maxHeartbeats 4000000 in
theorem C_L_golombBegun (F : Nat)  (r : Bool) (hm : M_L_golombBegun F  = some r) :
    Pure Try.prog 37 [] [] Unit (fun _ => .bool r) (fun _ => []) (fun _ => []) := by
  refine pure_of Try.func37 rfl Try.ntmps37 rfl hm (fun w => ?_)
  refine sxc_env (l' := []) rfl ?_
  refine sxc_seq ?_
  refine sxc_region ?_
  refine sxo_assign rfl rfl rfl ?_
  refine sxo_nil ?_
  refine sxq_next ?_
  refine sxc_seq ?_
  refine sxc_region ?_
  refine sxo_call ent29 rfl rfl rfl (fun x1 e1 => C_golomb_Least F 3 5 x1 e1) .nil (fun x1 e1 => ?_)
  rintro ⟨a2, c3⟩
  refine sxo_move rfl rfl rfl ?_
  refine sxo_extract rfl rfl rfl rfl ?_
  refine sxo_extract rfl rfl rfl rfl ?_
  refine sxo_alloc rfl tf25 rfl (fun g4 => ?_)
  refine sxo_storeB (i := 0) rfl rfl rfl tf25 rfl rfl rfl rfl rfl ?_
  refine sxo_assign rfl rfl rfl ?_
  refine sxo_nil ?_
  refine sxq_next ?_
  refine sxc_seq ?_
  refine sxc_region ?_
  refine sxo_call ent30 rfl rfl rfl (fun x5 e5 => C_golomb_Code F 9 4 x5 e5) .nil (fun x5 e5 => ?_)
  rintro ⟨a6, c7⟩
  refine sxo_move rfl rfl rfl ?_
  refine sxo_extract rfl rfl rfl rfl ?_
  refine sxo_extract rfl rfl rfl rfl ?_
  refine sxo_alloc rfl tf25 rfl (fun g8 => ?_)
  refine sxo_storeB (i := 0) rfl rfl rfl tf25 rfl rfl rfl rfl rfl ?_
  refine sxo_assign rfl rfl rfl ?_
  refine sxo_nil ?_
  refine sxq_next ?_
  refine sxc_seq ?_
  refine sxc_region ?_
  refine sxo_call ent38 rfl rfl rfl (fun x9 e9 => C_golomb_Zeta F 2 2 x9 e9) .nil (fun x9 e9 => ?_)
  rintro ⟨a10, c11⟩
  refine sxo_move rfl rfl rfl ?_
  refine sxo_extract rfl rfl rfl rfl ?_
  refine sxo_extract rfl rfl rfl rfl ?_
  refine sxo_alloc rfl tf25 rfl (fun g12 => ?_)
  refine sxo_storeB (i := 0) rfl rfl rfl tf25 rfl rfl rfl rfl rfl ?_
  refine sxo_assign rfl rfl rfl ?_
  refine sxo_nil ?_
  refine sxq_next ?_
  refine sxc_seq ?_
  refine sxc_region ?_
  refine sxo_loadB (i := 1) rfl rfl tf25 rfl rfl (by simp) rfl rfl ?_
  refine sxo_call ent32 rfl rfl rfl (fun x13 e13 => C_golomb_Read F x5.1 x5.2.1 a6 c7 0 4 x13 e13) (.consR 1 (Ro (eI .u8) 5 1 (.slice a6 x5.2.1.length c7) x5.2.1) rfl .nil) (fun x13 e13 => ?_)
  intro _
  refine sxo_move rfl rfl rfl ?_
  refine sxo_extract rfl rfl rfl rfl ?_
  refine sxo_extract rfl rfl rfl rfl ?_
  refine sxo_extract rfl rfl rfl rfl ?_
  refine sxo_assign rfl rfl rfl ?_
  refine sxo_assign rfl rfl rfl ?_
  refine sxo_assign rfl rfl rfl ?_
  refine sxo_nil ?_
  refine sxq_next ?_
  refine sxc_seq ?_
  refine sxc_region ?_
  refine sxo_loadB (i := 0) rfl rfl tf25 rfl rfl (by simp) rfl rfl ?_
  refine sxo_call ent39 rfl rfl rfl (fun x14 e14 => C_golomb_ReadZeta F x9.1 x9.2.1 a10 c11 0 2 x14 e14) (.consR 0 (Ro (eI .u8) 5 1 (.slice a10 x9.2.1.length c11) x9.2.1) rfl .nil) (fun x14 e14 => ?_)
  intro _
  refine sxo_move rfl rfl rfl ?_
  refine sxo_extract rfl rfl rfl rfl ?_
  refine sxo_extract rfl rfl rfl rfl ?_
  refine sxo_extract rfl rfl rfl rfl ?_
  refine sxo_assign rfl rfl rfl ?_
  refine sxo_assign rfl rfl rfl ?_
  refine sxo_assign rfl rfl rfl ?_
  refine sxo_nil ?_
  refine sxq_next ?_
  refine sxc_seq ?_
  refine sxc_region ?_
  refine sxo_loadB (i := 2) rfl rfl tf25 rfl rfl (by simp) rfl rfl ?_
  refine sxo_call ent31 rfl rfl rfl (fun x15 e15 => C_golomb_ReadLeast F x1.1 x1.2.1 a2 c3 0 5 x15 e15) (.consR 2 (Ro (eI .u8) 5 1 (.slice a2 x1.2.1.length c3) x1.2.1) rfl .nil) (fun x15 e15 => ?_)
  intro _
  refine sxo_move rfl rfl rfl ?_
  refine sxo_extract rfl rfl rfl rfl ?_
  refine sxo_extract rfl rfl rfl rfl ?_
  refine sxo_extract rfl rfl rfl rfl ?_
  refine sxo_assign rfl rfl rfl ?_
  refine sxo_assign rfl rfl rfl ?_
  refine sxo_assign rfl rfl rfl ?_
  refine sxo_nil ?_
  refine sxq_next ?_
  refine sxc_seq ?_
  refine sxc_region ?_
  refine sxo_call ent29 rfl rfl rfl (fun x16 e16 => C_golomb_Least F 5 5 x16 e16) .nil (fun x16 e16 => ?_)
  rintro ⟨a17, c18⟩
  refine sxo_move rfl rfl rfl ?_
  refine sxo_extract rfl rfl rfl rfl ?_
  refine sxo_extract rfl rfl rfl rfl ?_
  refine sxo_alloc rfl tf25 rfl (fun g19 => ?_)
  refine sxo_storeB (i := 0) rfl rfl rfl tf25 rfl rfl rfl rfl rfl ?_
  refine sxo_assign rfl rfl rfl ?_
  refine sxo_nil ?_
  refine sxq_next ?_
  refine sxc_seq ?_
  refine sxc_region ?_
  refine sxo_loadB (i := 3) rfl rfl tf25 rfl rfl (by simp) rfl rfl ?_
  refine sxo_slit (vs := [.int .u8 192]) (ys := ([192] : List Int)) (eI_ok .u8) (by decide) rfl Try.underlying23 tf5 rfl rfl rfl rfl rfl (by decide) (fun a20 c21 => ?_)
  refine sxo_build (cells := [.int .i64 3, .slice a20 ([192] : List Int).length c21]) rfl st25 rfl (by kernel_rfl) rfl ?_
  refine sxo_call ent28 rfl rfl rfl (fun x22 e22 => C_R_SameBits F x1.1 x1.2.1 a2 c3 3 ([192] : List Int) a20 c21 x22 e22) (.consR 4 (Ro (eI .u8) 5 1 (.slice a2 x1.2.1.length c3) x1.2.1) rfl (.consR 0 (Ro (eI .u8) 5 1 (.slice a20 ([192] : List Int).length c21) ([192] : List Int)) rfl .nil)) (fun x22 e22 => ?_)
  intro _
  refine sxo_move rfl rfl rfl ?_
  refine sxo_case 3 x22 [(3, .pointer (some ⟨g8, 0, none⟩)), (4, .int .i64 x5.2.2), (5, .pointer (some ⟨g12, 0, none⟩)), (6, .int .i64 x9.2.2), (7, .int .u64 x13.1), (8, .int .i64 x13.2.1), (9, .int .i64 x13.2.2), (10, .int .u64 x14.1), (11, .int .i64 x14.2.1), (12, .int .i64 x14.2.2), (13, .int .u64 x15.1), (14, .int .i64 x15.2.1), (15, .int .i64 x15.2.2), (17, .int .i64 x16.2.2), (59, .bool (x22 && ((x1.2.2 : Int) == 0)))] (fun h23 => ?_) (fun h23 => ?_) ?_
  · refine sxo_take (os := _) rfl ?_
    refine sxo_isT (k := 56) rfl h23 ?_
    refine sxo_move rfl rfl rfl ?_
    refine sxo_eql rfl rfl rfl rfl ?_
    refine sxo_pick (b := true) rfl rfl rfl rfl ?_
    refine sxo_again (d := 59) (v := .bool (x22 && ((x1.2.2 : Int) == 0))) rfl (by rw [h23]; simp only [Bool.true_and]) ?_
    refine sxo_nil ?_
    exact sxq_case (lk_cons rfl (lk_cons rfl (lk_cons rfl (lk_cons rfl (lk_cons rfl (lk_cons rfl (lk_cons rfl (lk_cons rfl (lk_cons rfl (lk_cons rfl (lk_cons rfl (lk_cons rfl (lk_cons rfl (lk_cons rfl (lk_cons rfl lk_nil)))))))))))))))
  · refine sxo_take (os := _) rfl ?_
    refine sxo_isF (k := 56) rfl h23 ?_
    refine sxo_skip rfl rfl rfl ?_
    refine sxo_skip rfl rfl rfl ?_
    refine sxo_pick (b := false) rfl rfl rfl rfl ?_
    refine sxo_again (d := 59) (v := .bool (x22 && ((x1.2.2 : Int) == 0))) rfl (by rw [h23]; simp only [Bool.false_and]) ?_
    refine sxo_nil ?_
    exact sxq_case (lk_cons rfl (lk_cons rfl (lk_cons rfl (lk_cons rfl (lk_cons rfl (lk_cons rfl (lk_cons rfl (lk_cons rfl (lk_cons rfl (lk_cons rfl (lk_cons rfl (lk_cons rfl (lk_cons rfl (lk_cons rfl (lk_cons rfl lk_nil)))))))))))))))
  refine sxo_take (os := _) rfl ?_
  refine sxo_move rfl rfl rfl ?_
  refine sxo_join 5 (fun ((x28, _) : (Bool × Unit)) => [(4, .int .i64 x5.2.2), (5, .pointer (some ⟨g12, 0, none⟩)), (6, .int .i64 x9.2.2), (7, .int .u64 x13.1), (8, .int .i64 x13.2.1), (9, .int .i64 x13.2.2), (10, .int .u64 x14.1), (11, .int .i64 x14.2.1), (12, .int .i64 x14.2.2), (13, .int .u64 x15.1), (14, .int .i64 x15.2.1), (15, .int .i64 x15.2.2), (17, .int .i64 x16.2.2), (65, .bool x28)]) (fun ((x28, _) : (Bool × Unit)) => [⟨g12, 25, [.int .i64 x9.1, .slice a10 x9.2.1.length c11]⟩]) (fun ((x28, _) : (Bool × Unit)) => [Ro (eI .u8) 5 1 (.slice a10 x9.2.1.length c11) x9.2.1]) (fun ((x28, _) : (Bool × Unit)) => []) (fun ((x28, _) : (Bool × Unit)) => M_L_golombBegun_j1 F x5 x9 x13 x14 x15 x16 x28) ?_ ?_
  · refine sxo_take (os := _) rfl ?_
    refine sxo_if (fun h24 => ?_) (fun h24 => ?_)
    · refine sxo_isT (k := 60) rfl h24 ?_
      refine sxo_loadB (i := 2) rfl rfl tf25 rfl rfl (by simp) rfl rfl ?_
      refine sxo_slit (vs := [.int .u8 40]) (ys := ([40] : List Int)) (eI_ok .u8) (by decide) rfl Try.underlying23 tf5 rfl rfl rfl rfl rfl (by decide) (fun a49 c50 => ?_)
      refine sxo_build (cells := [.int .i64 5, .slice a49 ([40] : List Int).length c50]) rfl st25 rfl (by kernel_rfl) rfl ?_
      refine sxo_call ent28 rfl rfl rfl (fun x51 e51 => C_R_SameBits F x5.1 x5.2.1 a6 c7 5 ([40] : List Int) a49 c50 x51 e51) (.consR 4 (Ro (eI .u8) 5 1 (.slice a6 x5.2.1.length c7) x5.2.1) rfl (.consR 0 (Ro (eI .u8) 5 1 (.slice a49 ([40] : List Int).length c50) ([40] : List Int)) rfl .nil)) (fun x51 e51 => ?_)
      intro _
      refine sxo_pick (b := true) rfl rfl rfl rfl ?_
      refine sxo_nil ?_
      exact sxq_meetP (x51, ()) (lk_cons rfl (lk_cons rfl (lk_cons rfl (lk_cons rfl (lk_cons rfl (lk_cons rfl (lk_cons rfl (lk_cons rfl (lk_cons rfl (lk_cons rfl (lk_cons rfl (lk_cons rfl (lk_cons rfl (lk_cons rfl lk_nil)))))))))))))) (.cons 1 rfl .nil) (.cons 3 rfl .nil) fk_nil
    · refine sxo_isF (k := 60) rfl h24 ?_
      refine sxo_skip rfl rfl rfl ?_
      refine sxo_skip rfl rfl rfl ?_
      refine sxo_skip rfl rfl rfl ?_
      refine sxo_skip rfl rfl rfl ?_
      refine sxo_pick (b := false) rfl rfl rfl rfl ?_
      refine sxo_nil ?_
      exact sxq_meetP (false, ()) (lk_cons rfl (lk_cons rfl (lk_cons rfl (lk_cons rfl (lk_cons rfl (lk_cons rfl (lk_cons rfl (lk_cons rfl (lk_cons rfl (lk_cons rfl (lk_cons rfl (lk_cons rfl (lk_cons rfl (lk_cons rfl lk_nil)))))))))))))) (.cons 1 rfl .nil) (.cons 2 rfl .nil) fk_nil
  · rintro ⟨x28, _⟩
    try dsimp only
    refine sxo_take (os := _) rfl ?_
    refine sxo_move rfl rfl rfl ?_
    refine sxo_case 3 x28 [(5, .pointer (some ⟨g12, 0, none⟩)), (6, .int .i64 x9.2.2), (7, .int .u64 x13.1), (8, .int .i64 x13.2.1), (9, .int .i64 x13.2.2), (10, .int .u64 x14.1), (11, .int .i64 x14.2.1), (12, .int .i64 x14.2.2), (13, .int .u64 x15.1), (14, .int .i64 x15.2.1), (15, .int .i64 x15.2.2), (17, .int .i64 x16.2.2), (69, .bool (x28 && ((x5.2.2 : Int) == 0)))] (fun h29 => ?_) (fun h29 => ?_) ?_
    · refine sxo_take (os := _) rfl ?_
      refine sxo_isT (k := 66) rfl h29 ?_
      refine sxo_move rfl rfl rfl ?_
      refine sxo_eql rfl rfl rfl rfl ?_
      refine sxo_pick (b := true) rfl rfl rfl rfl ?_
      refine sxo_again (d := 69) (v := .bool (x28 && ((x5.2.2 : Int) == 0))) rfl (by rw [h29]; simp only [Bool.true_and]) ?_
      refine sxo_nil ?_
      exact sxq_case (lk_cons rfl (lk_cons rfl (lk_cons rfl (lk_cons rfl (lk_cons rfl (lk_cons rfl (lk_cons rfl (lk_cons rfl (lk_cons rfl (lk_cons rfl (lk_cons rfl (lk_cons rfl (lk_cons rfl lk_nil)))))))))))))
    · refine sxo_take (os := _) rfl ?_
      refine sxo_isF (k := 66) rfl h29 ?_
      refine sxo_skip rfl rfl rfl ?_
      refine sxo_skip rfl rfl rfl ?_
      refine sxo_pick (b := false) rfl rfl rfl rfl ?_
      refine sxo_again (d := 69) (v := .bool (x28 && ((x5.2.2 : Int) == 0))) rfl (by rw [h29]; simp only [Bool.false_and]) ?_
      refine sxo_nil ?_
      exact sxq_case (lk_cons rfl (lk_cons rfl (lk_cons rfl (lk_cons rfl (lk_cons rfl (lk_cons rfl (lk_cons rfl (lk_cons rfl (lk_cons rfl (lk_cons rfl (lk_cons rfl (lk_cons rfl (lk_cons rfl lk_nil)))))))))))))
    refine sxo_take (os := _) rfl ?_
    refine sxo_move rfl rfl rfl ?_
    refine sxo_join 5 (fun ((x34, _) : (Bool × Unit)) => [(6, .int .i64 x9.2.2), (7, .int .u64 x13.1), (8, .int .i64 x13.2.1), (9, .int .i64 x13.2.2), (10, .int .u64 x14.1), (11, .int .i64 x14.2.1), (12, .int .i64 x14.2.2), (13, .int .u64 x15.1), (14, .int .i64 x15.2.1), (15, .int .i64 x15.2.2), (17, .int .i64 x16.2.2), (75, .bool x34)]) (fun ((x34, _) : (Bool × Unit)) => []) (fun ((x34, _) : (Bool × Unit)) => []) (fun ((x34, _) : (Bool × Unit)) => []) (fun ((x34, _) : (Bool × Unit)) => M_L_golombBegun_j2 F x9 x13 x14 x15 x16 x34) ?_ ?_
    · refine sxo_take (os := _) rfl ?_
      refine sxo_if (fun h30 => ?_) (fun h30 => ?_)
      · refine sxo_isT (k := 70) rfl h30 ?_
        refine sxo_loadB (i := 0) rfl rfl tf25 rfl rfl (by simp) rfl rfl ?_
        refine sxo_slit (vs := [.int .u8 224]) (ys := ([224] : List Int)) (eI_ok .u8) (by decide) rfl Try.underlying23 tf5 rfl rfl rfl rfl rfl (by decide) (fun a46 c47 => ?_)
        refine sxo_build (cells := [.int .i64 3, .slice a46 ([224] : List Int).length c47]) rfl st25 rfl (by kernel_rfl) rfl ?_
        refine sxo_call ent28 rfl rfl rfl (fun x48 e48 => C_R_SameBits F x9.1 x9.2.1 a10 c11 3 ([224] : List Int) a46 c47 x48 e48) (.consR 1 (Ro (eI .u8) 5 1 (.slice a10 x9.2.1.length c11) x9.2.1) rfl (.consR 0 (Ro (eI .u8) 5 1 (.slice a46 ([224] : List Int).length c47) ([224] : List Int)) rfl .nil)) (fun x48 e48 => ?_)
        intro _
        refine sxo_pick (b := true) rfl rfl rfl rfl ?_
        refine sxo_nil ?_
        exact sxq_meetP (x48, ()) (lk_cons rfl (lk_cons rfl (lk_cons rfl (lk_cons rfl (lk_cons rfl (lk_cons rfl (lk_cons rfl (lk_cons rfl (lk_cons rfl (lk_cons rfl (lk_cons rfl (lk_cons rfl lk_nil)))))))))))) .nil .nil fk_nil
      · refine sxo_isF (k := 70) rfl h30 ?_
        refine sxo_skip rfl rfl rfl ?_
        refine sxo_skip rfl rfl rfl ?_
        refine sxo_skip rfl rfl rfl ?_
        refine sxo_skip rfl rfl rfl ?_
        refine sxo_pick (b := false) rfl rfl rfl rfl ?_
        refine sxo_nil ?_
        exact sxq_meetP (false, ()) (lk_cons rfl (lk_cons rfl (lk_cons rfl (lk_cons rfl (lk_cons rfl (lk_cons rfl (lk_cons rfl (lk_cons rfl (lk_cons rfl (lk_cons rfl (lk_cons rfl (lk_cons rfl lk_nil)))))))))))) .nil .nil fk_nil
    · rintro ⟨x34, _⟩
      try dsimp only
      refine sxo_take (os := _) rfl ?_
      refine sxo_move rfl rfl rfl ?_
      refine sxo_case 3 x34 [(7, .int .u64 x13.1), (8, .int .i64 x13.2.1), (9, .int .i64 x13.2.2), (10, .int .u64 x14.1), (11, .int .i64 x14.2.1), (12, .int .i64 x14.2.2), (13, .int .u64 x15.1), (14, .int .i64 x15.2.1), (15, .int .i64 x15.2.2), (17, .int .i64 x16.2.2), (79, .bool (x34 && ((x9.2.2 : Int) == 0)))] (fun h35 => ?_) (fun h35 => ?_) ?_
      · refine sxo_take (os := _) rfl ?_
        refine sxo_isT (k := 76) rfl h35 ?_
        refine sxo_move rfl rfl rfl ?_
        refine sxo_eql rfl rfl rfl rfl ?_
        refine sxo_pick (b := true) rfl rfl rfl rfl ?_
        refine sxo_again (d := 79) (v := .bool (x34 && ((x9.2.2 : Int) == 0))) rfl (by rw [h35]; simp only [Bool.true_and]) ?_
        refine sxo_nil ?_
        exact sxq_case (lk_cons rfl (lk_cons rfl (lk_cons rfl (lk_cons rfl (lk_cons rfl (lk_cons rfl (lk_cons rfl (lk_cons rfl (lk_cons rfl (lk_cons rfl (lk_cons rfl lk_nil)))))))))))
      · refine sxo_take (os := _) rfl ?_
        refine sxo_isF (k := 76) rfl h35 ?_
        refine sxo_skip rfl rfl rfl ?_
        refine sxo_skip rfl rfl rfl ?_
        refine sxo_pick (b := false) rfl rfl rfl rfl ?_
        refine sxo_again (d := 79) (v := .bool (x34 && ((x9.2.2 : Int) == 0))) rfl (by rw [h35]; simp only [Bool.false_and]) ?_
        refine sxo_nil ?_
        exact sxq_case (lk_cons rfl (lk_cons rfl (lk_cons rfl (lk_cons rfl (lk_cons rfl (lk_cons rfl (lk_cons rfl (lk_cons rfl (lk_cons rfl (lk_cons rfl (lk_cons rfl lk_nil)))))))))))
      refine sxo_take (os := _) rfl ?_
      refine sxo_move rfl rfl rfl ?_
      refine sxo_case 3 (x34 && ((x9.2.2 : Int) == 0)) [(8, .int .i64 x13.2.1), (9, .int .i64 x13.2.2), (10, .int .u64 x14.1), (11, .int .i64 x14.2.1), (12, .int .i64 x14.2.2), (13, .int .u64 x15.1), (14, .int .i64 x15.2.1), (15, .int .i64 x15.2.2), (17, .int .i64 x16.2.2), (83, .bool ((x34 && ((x9.2.2 : Int) == 0)) && ((x13.1 : Int) == 9)))] (fun h36 => ?_) (fun h36 => ?_) ?_
      · refine sxo_take (os := _) rfl ?_
        refine sxo_isT (k := 80) rfl h36 ?_
        refine sxo_move rfl rfl rfl ?_
        refine sxo_eql rfl rfl rfl rfl ?_
        refine sxo_pick (b := true) rfl rfl rfl rfl ?_
        refine sxo_again (d := 83) (v := .bool ((x34 && ((x9.2.2 : Int) == 0)) && ((x13.1 : Int) == 9))) rfl (by rw [h36]; simp only [Bool.true_and]) ?_
        refine sxo_nil ?_
        exact sxq_case (lk_cons rfl (lk_cons rfl (lk_cons rfl (lk_cons rfl (lk_cons rfl (lk_cons rfl (lk_cons rfl (lk_cons rfl (lk_cons rfl (lk_cons rfl lk_nil))))))))))
      · refine sxo_take (os := _) rfl ?_
        refine sxo_isF (k := 80) rfl h36 ?_
        refine sxo_skip rfl rfl rfl ?_
        refine sxo_skip rfl rfl rfl ?_
        refine sxo_pick (b := false) rfl rfl rfl rfl ?_
        refine sxo_again (d := 83) (v := .bool ((x34 && ((x9.2.2 : Int) == 0)) && ((x13.1 : Int) == 9))) rfl (by rw [h36]; simp only [Bool.false_and]) ?_
        refine sxo_nil ?_
        exact sxq_case (lk_cons rfl (lk_cons rfl (lk_cons rfl (lk_cons rfl (lk_cons rfl (lk_cons rfl (lk_cons rfl (lk_cons rfl (lk_cons rfl (lk_cons rfl lk_nil))))))))))
      refine sxo_take (os := _) rfl ?_
      refine sxo_move rfl rfl rfl ?_
      refine sxo_case 3 ((x34 && ((x9.2.2 : Int) == 0)) && ((x13.1 : Int) == 9)) [(9, .int .i64 x13.2.2), (10, .int .u64 x14.1), (11, .int .i64 x14.2.1), (12, .int .i64 x14.2.2), (13, .int .u64 x15.1), (14, .int .i64 x15.2.1), (15, .int .i64 x15.2.2), (17, .int .i64 x16.2.2), (87, .bool (((x34 && ((x9.2.2 : Int) == 0)) && ((x13.1 : Int) == 9)) && ((x13.2.1 : Int) == 5)))] (fun h37 => ?_) (fun h37 => ?_) ?_
      · refine sxo_take (os := _) rfl ?_
        refine sxo_isT (k := 84) rfl h37 ?_
        refine sxo_move rfl rfl rfl ?_
        refine sxo_eql rfl rfl rfl rfl ?_
        refine sxo_pick (b := true) rfl rfl rfl rfl ?_
        refine sxo_again (d := 87) (v := .bool (((x34 && ((x9.2.2 : Int) == 0)) && ((x13.1 : Int) == 9)) && ((x13.2.1 : Int) == 5))) rfl (by rw [h37]; simp only [Bool.true_and]) ?_
        refine sxo_nil ?_
        exact sxq_case (lk_cons rfl (lk_cons rfl (lk_cons rfl (lk_cons rfl (lk_cons rfl (lk_cons rfl (lk_cons rfl (lk_cons rfl (lk_cons rfl lk_nil)))))))))
      · refine sxo_take (os := _) rfl ?_
        refine sxo_isF (k := 84) rfl h37 ?_
        refine sxo_skip rfl rfl rfl ?_
        refine sxo_skip rfl rfl rfl ?_
        refine sxo_pick (b := false) rfl rfl rfl rfl ?_
        refine sxo_again (d := 87) (v := .bool (((x34 && ((x9.2.2 : Int) == 0)) && ((x13.1 : Int) == 9)) && ((x13.2.1 : Int) == 5))) rfl (by rw [h37]; simp only [Bool.false_and]) ?_
        refine sxo_nil ?_
        exact sxq_case (lk_cons rfl (lk_cons rfl (lk_cons rfl (lk_cons rfl (lk_cons rfl (lk_cons rfl (lk_cons rfl (lk_cons rfl (lk_cons rfl lk_nil)))))))))
      refine sxo_take (os := _) rfl ?_
      refine sxo_move rfl rfl rfl ?_
      refine sxo_case 3 (((x34 && ((x9.2.2 : Int) == 0)) && ((x13.1 : Int) == 9)) && ((x13.2.1 : Int) == 5)) [(10, .int .u64 x14.1), (11, .int .i64 x14.2.1), (12, .int .i64 x14.2.2), (13, .int .u64 x15.1), (14, .int .i64 x15.2.1), (15, .int .i64 x15.2.2), (17, .int .i64 x16.2.2), (91, .bool ((((x34 && ((x9.2.2 : Int) == 0)) && ((x13.1 : Int) == 9)) && ((x13.2.1 : Int) == 5)) && ((x13.2.2 : Int) == 0)))] (fun h38 => ?_) (fun h38 => ?_) ?_
      · refine sxo_take (os := _) rfl ?_
        refine sxo_isT (k := 88) rfl h38 ?_
        refine sxo_move rfl rfl rfl ?_
        refine sxo_eql rfl rfl rfl rfl ?_
        refine sxo_pick (b := true) rfl rfl rfl rfl ?_
        refine sxo_again (d := 91) (v := .bool ((((x34 && ((x9.2.2 : Int) == 0)) && ((x13.1 : Int) == 9)) && ((x13.2.1 : Int) == 5)) && ((x13.2.2 : Int) == 0))) rfl (by rw [h38]; simp only [Bool.true_and]) ?_
        refine sxo_nil ?_
        exact sxq_case (lk_cons rfl (lk_cons rfl (lk_cons rfl (lk_cons rfl (lk_cons rfl (lk_cons rfl (lk_cons rfl (lk_cons rfl lk_nil))))))))
      · refine sxo_take (os := _) rfl ?_
        refine sxo_isF (k := 88) rfl h38 ?_
        refine sxo_skip rfl rfl rfl ?_
        refine sxo_skip rfl rfl rfl ?_
        refine sxo_pick (b := false) rfl rfl rfl rfl ?_
        refine sxo_again (d := 91) (v := .bool ((((x34 && ((x9.2.2 : Int) == 0)) && ((x13.1 : Int) == 9)) && ((x13.2.1 : Int) == 5)) && ((x13.2.2 : Int) == 0))) rfl (by rw [h38]; simp only [Bool.false_and]) ?_
        refine sxo_nil ?_
        exact sxq_case (lk_cons rfl (lk_cons rfl (lk_cons rfl (lk_cons rfl (lk_cons rfl (lk_cons rfl (lk_cons rfl (lk_cons rfl lk_nil))))))))
      refine sxo_take (os := _) rfl ?_
      refine sxo_move rfl rfl rfl ?_
      refine sxo_case 3 ((((x34 && ((x9.2.2 : Int) == 0)) && ((x13.1 : Int) == 9)) && ((x13.2.1 : Int) == 5)) && ((x13.2.2 : Int) == 0)) [(11, .int .i64 x14.2.1), (12, .int .i64 x14.2.2), (13, .int .u64 x15.1), (14, .int .i64 x15.2.1), (15, .int .i64 x15.2.2), (17, .int .i64 x16.2.2), (95, .bool (((((x34 && ((x9.2.2 : Int) == 0)) && ((x13.1 : Int) == 9)) && ((x13.2.1 : Int) == 5)) && ((x13.2.2 : Int) == 0)) && ((x14.1 : Int) == 2)))] (fun h39 => ?_) (fun h39 => ?_) ?_
      · refine sxo_take (os := _) rfl ?_
        refine sxo_isT (k := 92) rfl h39 ?_
        refine sxo_move rfl rfl rfl ?_
        refine sxo_eql rfl rfl rfl rfl ?_
        refine sxo_pick (b := true) rfl rfl rfl rfl ?_
        refine sxo_again (d := 95) (v := .bool (((((x34 && ((x9.2.2 : Int) == 0)) && ((x13.1 : Int) == 9)) && ((x13.2.1 : Int) == 5)) && ((x13.2.2 : Int) == 0)) && ((x14.1 : Int) == 2))) rfl (by rw [h39]; simp only [Bool.true_and]) ?_
        refine sxo_nil ?_
        exact sxq_case (lk_cons rfl (lk_cons rfl (lk_cons rfl (lk_cons rfl (lk_cons rfl (lk_cons rfl (lk_cons rfl lk_nil)))))))
      · refine sxo_take (os := _) rfl ?_
        refine sxo_isF (k := 92) rfl h39 ?_
        refine sxo_skip rfl rfl rfl ?_
        refine sxo_skip rfl rfl rfl ?_
        refine sxo_pick (b := false) rfl rfl rfl rfl ?_
        refine sxo_again (d := 95) (v := .bool (((((x34 && ((x9.2.2 : Int) == 0)) && ((x13.1 : Int) == 9)) && ((x13.2.1 : Int) == 5)) && ((x13.2.2 : Int) == 0)) && ((x14.1 : Int) == 2))) rfl (by rw [h39]; simp only [Bool.false_and]) ?_
        refine sxo_nil ?_
        exact sxq_case (lk_cons rfl (lk_cons rfl (lk_cons rfl (lk_cons rfl (lk_cons rfl (lk_cons rfl (lk_cons rfl lk_nil)))))))
      refine sxo_take (os := _) rfl ?_
      refine sxo_move rfl rfl rfl ?_
      refine sxo_case 3 (((((x34 && ((x9.2.2 : Int) == 0)) && ((x13.1 : Int) == 9)) && ((x13.2.1 : Int) == 5)) && ((x13.2.2 : Int) == 0)) && ((x14.1 : Int) == 2)) [(12, .int .i64 x14.2.2), (13, .int .u64 x15.1), (14, .int .i64 x15.2.1), (15, .int .i64 x15.2.2), (17, .int .i64 x16.2.2), (99, .bool ((((((x34 && ((x9.2.2 : Int) == 0)) && ((x13.1 : Int) == 9)) && ((x13.2.1 : Int) == 5)) && ((x13.2.2 : Int) == 0)) && ((x14.1 : Int) == 2)) && ((x14.2.1 : Int) == 3)))] (fun h40 => ?_) (fun h40 => ?_) ?_
      · refine sxo_take (os := _) rfl ?_
        refine sxo_isT (k := 96) rfl h40 ?_
        refine sxo_move rfl rfl rfl ?_
        refine sxo_eql rfl rfl rfl rfl ?_
        refine sxo_pick (b := true) rfl rfl rfl rfl ?_
        refine sxo_again (d := 99) (v := .bool ((((((x34 && ((x9.2.2 : Int) == 0)) && ((x13.1 : Int) == 9)) && ((x13.2.1 : Int) == 5)) && ((x13.2.2 : Int) == 0)) && ((x14.1 : Int) == 2)) && ((x14.2.1 : Int) == 3))) rfl (by rw [h40]; simp only [Bool.true_and]) ?_
        refine sxo_nil ?_
        exact sxq_case (lk_cons rfl (lk_cons rfl (lk_cons rfl (lk_cons rfl (lk_cons rfl (lk_cons rfl lk_nil))))))
      · refine sxo_take (os := _) rfl ?_
        refine sxo_isF (k := 96) rfl h40 ?_
        refine sxo_skip rfl rfl rfl ?_
        refine sxo_skip rfl rfl rfl ?_
        refine sxo_pick (b := false) rfl rfl rfl rfl ?_
        refine sxo_again (d := 99) (v := .bool ((((((x34 && ((x9.2.2 : Int) == 0)) && ((x13.1 : Int) == 9)) && ((x13.2.1 : Int) == 5)) && ((x13.2.2 : Int) == 0)) && ((x14.1 : Int) == 2)) && ((x14.2.1 : Int) == 3))) rfl (by rw [h40]; simp only [Bool.false_and]) ?_
        refine sxo_nil ?_
        exact sxq_case (lk_cons rfl (lk_cons rfl (lk_cons rfl (lk_cons rfl (lk_cons rfl (lk_cons rfl lk_nil))))))
      refine sxo_take (os := _) rfl ?_
      refine sxo_move rfl rfl rfl ?_
      refine sxo_case 3 ((((((x34 && ((x9.2.2 : Int) == 0)) && ((x13.1 : Int) == 9)) && ((x13.2.1 : Int) == 5)) && ((x13.2.2 : Int) == 0)) && ((x14.1 : Int) == 2)) && ((x14.2.1 : Int) == 3)) [(13, .int .u64 x15.1), (14, .int .i64 x15.2.1), (15, .int .i64 x15.2.2), (17, .int .i64 x16.2.2), (103, .bool (((((((x34 && ((x9.2.2 : Int) == 0)) && ((x13.1 : Int) == 9)) && ((x13.2.1 : Int) == 5)) && ((x13.2.2 : Int) == 0)) && ((x14.1 : Int) == 2)) && ((x14.2.1 : Int) == 3)) && ((x14.2.2 : Int) == 0)))] (fun h41 => ?_) (fun h41 => ?_) ?_
      · refine sxo_take (os := _) rfl ?_
        refine sxo_isT (k := 100) rfl h41 ?_
        refine sxo_move rfl rfl rfl ?_
        refine sxo_eql rfl rfl rfl rfl ?_
        refine sxo_pick (b := true) rfl rfl rfl rfl ?_
        refine sxo_again (d := 103) (v := .bool (((((((x34 && ((x9.2.2 : Int) == 0)) && ((x13.1 : Int) == 9)) && ((x13.2.1 : Int) == 5)) && ((x13.2.2 : Int) == 0)) && ((x14.1 : Int) == 2)) && ((x14.2.1 : Int) == 3)) && ((x14.2.2 : Int) == 0))) rfl (by rw [h41]; simp only [Bool.true_and]) ?_
        refine sxo_nil ?_
        exact sxq_case (lk_cons rfl (lk_cons rfl (lk_cons rfl (lk_cons rfl (lk_cons rfl lk_nil)))))
      · refine sxo_take (os := _) rfl ?_
        refine sxo_isF (k := 100) rfl h41 ?_
        refine sxo_skip rfl rfl rfl ?_
        refine sxo_skip rfl rfl rfl ?_
        refine sxo_pick (b := false) rfl rfl rfl rfl ?_
        refine sxo_again (d := 103) (v := .bool (((((((x34 && ((x9.2.2 : Int) == 0)) && ((x13.1 : Int) == 9)) && ((x13.2.1 : Int) == 5)) && ((x13.2.2 : Int) == 0)) && ((x14.1 : Int) == 2)) && ((x14.2.1 : Int) == 3)) && ((x14.2.2 : Int) == 0))) rfl (by rw [h41]; simp only [Bool.false_and]) ?_
        refine sxo_nil ?_
        exact sxq_case (lk_cons rfl (lk_cons rfl (lk_cons rfl (lk_cons rfl (lk_cons rfl lk_nil)))))
      refine sxo_take (os := _) rfl ?_
      refine sxo_move rfl rfl rfl ?_
      refine sxo_case 3 (((((((x34 && ((x9.2.2 : Int) == 0)) && ((x13.1 : Int) == 9)) && ((x13.2.1 : Int) == 5)) && ((x13.2.2 : Int) == 0)) && ((x14.1 : Int) == 2)) && ((x14.2.1 : Int) == 3)) && ((x14.2.2 : Int) == 0)) [(14, .int .i64 x15.2.1), (15, .int .i64 x15.2.2), (17, .int .i64 x16.2.2), (107, .bool ((((((((x34 && ((x9.2.2 : Int) == 0)) && ((x13.1 : Int) == 9)) && ((x13.2.1 : Int) == 5)) && ((x13.2.2 : Int) == 0)) && ((x14.1 : Int) == 2)) && ((x14.2.1 : Int) == 3)) && ((x14.2.2 : Int) == 0)) && ((x15.1 : Int) == 3)))] (fun h42 => ?_) (fun h42 => ?_) ?_
      · refine sxo_take (os := _) rfl ?_
        refine sxo_isT (k := 104) rfl h42 ?_
        refine sxo_move rfl rfl rfl ?_
        refine sxo_eql rfl rfl rfl rfl ?_
        refine sxo_pick (b := true) rfl rfl rfl rfl ?_
        refine sxo_again (d := 107) (v := .bool ((((((((x34 && ((x9.2.2 : Int) == 0)) && ((x13.1 : Int) == 9)) && ((x13.2.1 : Int) == 5)) && ((x13.2.2 : Int) == 0)) && ((x14.1 : Int) == 2)) && ((x14.2.1 : Int) == 3)) && ((x14.2.2 : Int) == 0)) && ((x15.1 : Int) == 3))) rfl (by rw [h42]; simp only [Bool.true_and]) ?_
        refine sxo_nil ?_
        exact sxq_case (lk_cons rfl (lk_cons rfl (lk_cons rfl (lk_cons rfl lk_nil))))
      · refine sxo_take (os := _) rfl ?_
        refine sxo_isF (k := 104) rfl h42 ?_
        refine sxo_skip rfl rfl rfl ?_
        refine sxo_skip rfl rfl rfl ?_
        refine sxo_pick (b := false) rfl rfl rfl rfl ?_
        refine sxo_again (d := 107) (v := .bool ((((((((x34 && ((x9.2.2 : Int) == 0)) && ((x13.1 : Int) == 9)) && ((x13.2.1 : Int) == 5)) && ((x13.2.2 : Int) == 0)) && ((x14.1 : Int) == 2)) && ((x14.2.1 : Int) == 3)) && ((x14.2.2 : Int) == 0)) && ((x15.1 : Int) == 3))) rfl (by rw [h42]; simp only [Bool.false_and]) ?_
        refine sxo_nil ?_
        exact sxq_case (lk_cons rfl (lk_cons rfl (lk_cons rfl (lk_cons rfl lk_nil))))
      refine sxo_take (os := _) rfl ?_
      refine sxo_move rfl rfl rfl ?_
      refine sxo_case 3 ((((((((x34 && ((x9.2.2 : Int) == 0)) && ((x13.1 : Int) == 9)) && ((x13.2.1 : Int) == 5)) && ((x13.2.2 : Int) == 0)) && ((x14.1 : Int) == 2)) && ((x14.2.1 : Int) == 3)) && ((x14.2.2 : Int) == 0)) && ((x15.1 : Int) == 3)) [(15, .int .i64 x15.2.2), (17, .int .i64 x16.2.2), (111, .bool (((((((((x34 && ((x9.2.2 : Int) == 0)) && ((x13.1 : Int) == 9)) && ((x13.2.1 : Int) == 5)) && ((x13.2.2 : Int) == 0)) && ((x14.1 : Int) == 2)) && ((x14.2.1 : Int) == 3)) && ((x14.2.2 : Int) == 0)) && ((x15.1 : Int) == 3)) && ((x15.2.1 : Int) == 3)))] (fun h43 => ?_) (fun h43 => ?_) ?_
      · refine sxo_take (os := _) rfl ?_
        refine sxo_isT (k := 108) rfl h43 ?_
        refine sxo_move rfl rfl rfl ?_
        refine sxo_eql rfl rfl rfl rfl ?_
        refine sxo_pick (b := true) rfl rfl rfl rfl ?_
        refine sxo_again (d := 111) (v := .bool (((((((((x34 && ((x9.2.2 : Int) == 0)) && ((x13.1 : Int) == 9)) && ((x13.2.1 : Int) == 5)) && ((x13.2.2 : Int) == 0)) && ((x14.1 : Int) == 2)) && ((x14.2.1 : Int) == 3)) && ((x14.2.2 : Int) == 0)) && ((x15.1 : Int) == 3)) && ((x15.2.1 : Int) == 3))) rfl (by rw [h43]; simp only [Bool.true_and]) ?_
        refine sxo_nil ?_
        exact sxq_case (lk_cons rfl (lk_cons rfl (lk_cons rfl lk_nil)))
      · refine sxo_take (os := _) rfl ?_
        refine sxo_isF (k := 108) rfl h43 ?_
        refine sxo_skip rfl rfl rfl ?_
        refine sxo_skip rfl rfl rfl ?_
        refine sxo_pick (b := false) rfl rfl rfl rfl ?_
        refine sxo_again (d := 111) (v := .bool (((((((((x34 && ((x9.2.2 : Int) == 0)) && ((x13.1 : Int) == 9)) && ((x13.2.1 : Int) == 5)) && ((x13.2.2 : Int) == 0)) && ((x14.1 : Int) == 2)) && ((x14.2.1 : Int) == 3)) && ((x14.2.2 : Int) == 0)) && ((x15.1 : Int) == 3)) && ((x15.2.1 : Int) == 3))) rfl (by rw [h43]; simp only [Bool.false_and]) ?_
        refine sxo_nil ?_
        exact sxq_case (lk_cons rfl (lk_cons rfl (lk_cons rfl lk_nil)))
      refine sxo_take (os := _) rfl ?_
      refine sxo_move rfl rfl rfl ?_
      refine sxo_case 3 (((((((((x34 && ((x9.2.2 : Int) == 0)) && ((x13.1 : Int) == 9)) && ((x13.2.1 : Int) == 5)) && ((x13.2.2 : Int) == 0)) && ((x14.1 : Int) == 2)) && ((x14.2.1 : Int) == 3)) && ((x14.2.2 : Int) == 0)) && ((x15.1 : Int) == 3)) && ((x15.2.1 : Int) == 3)) [(17, .int .i64 x16.2.2), (115, .bool ((((((((((x34 && ((x9.2.2 : Int) == 0)) && ((x13.1 : Int) == 9)) && ((x13.2.1 : Int) == 5)) && ((x13.2.2 : Int) == 0)) && ((x14.1 : Int) == 2)) && ((x14.2.1 : Int) == 3)) && ((x14.2.2 : Int) == 0)) && ((x15.1 : Int) == 3)) && ((x15.2.1 : Int) == 3)) && ((x15.2.2 : Int) == 0)))] (fun h44 => ?_) (fun h44 => ?_) ?_
      · refine sxo_take (os := _) rfl ?_
        refine sxo_isT (k := 112) rfl h44 ?_
        refine sxo_move rfl rfl rfl ?_
        refine sxo_eql rfl rfl rfl rfl ?_
        refine sxo_pick (b := true) rfl rfl rfl rfl ?_
        refine sxo_again (d := 115) (v := .bool ((((((((((x34 && ((x9.2.2 : Int) == 0)) && ((x13.1 : Int) == 9)) && ((x13.2.1 : Int) == 5)) && ((x13.2.2 : Int) == 0)) && ((x14.1 : Int) == 2)) && ((x14.2.1 : Int) == 3)) && ((x14.2.2 : Int) == 0)) && ((x15.1 : Int) == 3)) && ((x15.2.1 : Int) == 3)) && ((x15.2.2 : Int) == 0))) rfl (by rw [h44]; simp only [Bool.true_and]) ?_
        refine sxo_nil ?_
        exact sxq_case (lk_cons rfl (lk_cons rfl lk_nil))
      · refine sxo_take (os := _) rfl ?_
        refine sxo_isF (k := 112) rfl h44 ?_
        refine sxo_skip rfl rfl rfl ?_
        refine sxo_skip rfl rfl rfl ?_
        refine sxo_pick (b := false) rfl rfl rfl rfl ?_
        refine sxo_again (d := 115) (v := .bool ((((((((((x34 && ((x9.2.2 : Int) == 0)) && ((x13.1 : Int) == 9)) && ((x13.2.1 : Int) == 5)) && ((x13.2.2 : Int) == 0)) && ((x14.1 : Int) == 2)) && ((x14.2.1 : Int) == 3)) && ((x14.2.2 : Int) == 0)) && ((x15.1 : Int) == 3)) && ((x15.2.1 : Int) == 3)) && ((x15.2.2 : Int) == 0))) rfl (by rw [h44]; simp only [Bool.false_and]) ?_
        refine sxo_nil ?_
        exact sxq_case (lk_cons rfl (lk_cons rfl lk_nil))
      refine sxo_take (os := _) rfl ?_
      refine sxo_move rfl rfl rfl ?_
      refine sxo_case 3 ((((((((((x34 && ((x9.2.2 : Int) == 0)) && ((x13.1 : Int) == 9)) && ((x13.2.1 : Int) == 5)) && ((x13.2.2 : Int) == 0)) && ((x14.1 : Int) == 2)) && ((x14.2.1 : Int) == 3)) && ((x14.2.2 : Int) == 0)) && ((x15.1 : Int) == 3)) && ((x15.2.1 : Int) == 3)) && ((x15.2.2 : Int) == 0)) [(119, .bool (((((((((((x34 && ((x9.2.2 : Int) == 0)) && ((x13.1 : Int) == 9)) && ((x13.2.1 : Int) == 5)) && ((x13.2.2 : Int) == 0)) && ((x14.1 : Int) == 2)) && ((x14.2.1 : Int) == 3)) && ((x14.2.2 : Int) == 0)) && ((x15.1 : Int) == 3)) && ((x15.2.1 : Int) == 3)) && ((x15.2.2 : Int) == 0)) && ((x16.2.2 : Int) == 3)))] (fun h45 => ?_) (fun h45 => ?_) ?_
      · refine sxo_take (os := _) rfl ?_
        refine sxo_isT (k := 116) rfl h45 ?_
        refine sxo_move rfl rfl rfl ?_
        refine sxo_eql rfl rfl rfl rfl ?_
        refine sxo_pick (b := true) rfl rfl rfl rfl ?_
        refine sxo_again (d := 119) (v := .bool (((((((((((x34 && ((x9.2.2 : Int) == 0)) && ((x13.1 : Int) == 9)) && ((x13.2.1 : Int) == 5)) && ((x13.2.2 : Int) == 0)) && ((x14.1 : Int) == 2)) && ((x14.2.1 : Int) == 3)) && ((x14.2.2 : Int) == 0)) && ((x15.1 : Int) == 3)) && ((x15.2.1 : Int) == 3)) && ((x15.2.2 : Int) == 0)) && ((x16.2.2 : Int) == 3))) rfl (by rw [h45]; simp only [Bool.true_and]) ?_
        refine sxo_nil ?_
        exact sxq_case (lk_cons rfl lk_nil)
      · refine sxo_take (os := _) rfl ?_
        refine sxo_isF (k := 116) rfl h45 ?_
        refine sxo_skip rfl rfl rfl ?_
        refine sxo_skip rfl rfl rfl ?_
        refine sxo_pick (b := false) rfl rfl rfl rfl ?_
        refine sxo_again (d := 119) (v := .bool (((((((((((x34 && ((x9.2.2 : Int) == 0)) && ((x13.1 : Int) == 9)) && ((x13.2.1 : Int) == 5)) && ((x13.2.2 : Int) == 0)) && ((x14.1 : Int) == 2)) && ((x14.2.1 : Int) == 3)) && ((x14.2.2 : Int) == 0)) && ((x15.1 : Int) == 3)) && ((x15.2.1 : Int) == 3)) && ((x15.2.2 : Int) == 0)) && ((x16.2.2 : Int) == 3))) rfl (by rw [h45]; simp only [Bool.false_and]) ?_
        refine sxo_nil ?_
        exact sxq_case (lk_cons rfl lk_nil)
      refine sxo_take (os := _) rfl ?_
      refine sxo_assign rfl rfl rfl ?_
      refine sxo_nil ?_
      refine sxq_next ?_
      refine sxc_ret ?_
      exact sxq_doneP () (.inl rfl) (res1 rfl rfl) (fun h => by subst h; rfl) (fun h => by subst h; exact .nil)

set_option maxHeartbeats 4000000 in
theorem C_L_GolombTells (F : Nat) (x1 : Int) (x2 : Int) (x3 : Int) (x4 : List Int) (a5 : Option Addr) (c6 : Nat) (x7 : Int) (r : Bool) (hm : M_L_GolombTells F x1 x2 x3 x4 x7 = some r) :
    Pure Try.prog 5 [.int .u64 x1, .int .u64 x2, .agg #[.int .i64 x3, .slice a5 x4.length c6], .int .i64 x7] [Sl (eI .u8) 1 (.slice a5 x4.length c6) x4] Unit (fun _ => .bool r) (fun _ => []) (fun _ => []) := by
  refine pure_of Try.func5 rfl Try.ntmps5 rfl hm (fun w => ?_)
  refine sxc_env (l' := [(0, .int .u64 x1), (1, .int .u64 x2), (2, .agg #[.int .i64 x3, .slice a5 x4.length c6]), (3, .int .i64 x7)]) rfl ?_
  refine sxc_seq ?_
  refine sxc_region ?_
  refine sxo_box rfl rfl rfl (fun g8 => ?_)
  refine sxo_assign rfl rfl rfl ?_
  refine sxo_nil ?_
  refine sxq_next ?_
  refine sxc_seq ?_
  refine sxc_region ?_
  refine sxo_move rfl rfl rfl ?_
  refine sxo_move rfl rfl rfl ?_
  refine sxo_call ent29 rfl rfl rfl (fun x9 e9 => C_golomb_Least F x1 x2 x9 e9) .nil (fun x9 e9 => ?_)
  rintro ⟨a10, c11⟩
  refine sxo_move rfl rfl rfl ?_
  refine sxo_extract rfl rfl rfl rfl ?_
  refine sxo_extract rfl rfl rfl rfl ?_
  refine sxo_alloc rfl tf25 rfl (fun g12 => ?_)
  refine sxo_storeB (i := 0) rfl rfl rfl tf25 rfl rfl rfl rfl rfl ?_
  refine sxo_assign rfl rfl rfl ?_
  refine sxo_nil ?_
  refine sxq_next ?_
  refine sxc_seq ?_
  refine sxc_region ?_
  refine sxo_move rfl rfl rfl ?_
  refine sxo_move rfl rfl rfl ?_
  refine sxo_call ent30 rfl rfl rfl (fun x13 e13 => C_golomb_Code F x1 x2 x13 e13) .nil (fun x13 e13 => ?_)
  rintro ⟨a14, c15⟩
  refine sxo_move rfl rfl rfl ?_
  refine sxo_extract rfl rfl rfl rfl ?_
  refine sxo_extract rfl rfl rfl rfl ?_
  refine sxo_alloc rfl tf25 rfl (fun g16 => ?_)
  refine sxo_storeB (i := 0) rfl rfl rfl tf25 rfl rfl rfl rfl rfl ?_
  refine sxo_assign rfl rfl rfl ?_
  refine sxo_nil ?_
  refine sxq_next ?_
  refine sxc_seq ?_
  refine sxc_region ?_
  refine sxo_loadB (i := 2) rfl rfl tf25 rfl rfl (by simp) rfl rfl ?_
  refine sxo_move rfl rfl rfl ?_
  refine sxo_move rfl rfl rfl ?_
  refine sxo_call ent31 rfl rfl rfl (fun x17 e17 => C_golomb_ReadLeast F x3 x4 a5 c6 x7 x2 x17 e17) (.consF 0 rfl .nil) (fun x17 e17 => ?_)
  intro _
  refine sxo_move rfl rfl rfl ?_
  refine sxo_extract rfl rfl rfl rfl ?_
  refine sxo_extract rfl rfl rfl rfl ?_
  refine sxo_extract rfl rfl rfl rfl ?_
  refine sxo_assign rfl rfl rfl ?_
  refine sxo_assign rfl rfl rfl ?_
  refine sxo_assign rfl rfl rfl ?_
  refine sxo_nil ?_
  refine sxq_next ?_
  refine sxc_seq ?_
  refine sxc_region ?_
  refine sxo_loadB (i := 2) rfl rfl tf25 rfl rfl (by simp) rfl rfl ?_
  refine sxo_move rfl rfl rfl ?_
  refine sxo_move rfl rfl rfl ?_
  refine sxo_call ent32 rfl rfl rfl (fun x18 e18 => C_golomb_Read F x3 x4 a5 c6 x7 x2 x18 e18) (.consF 0 rfl .nil) (fun x18 e18 => ?_)
  intro _
  refine sxo_move rfl rfl rfl ?_
  refine sxo_extract rfl rfl rfl rfl ?_
  refine sxo_extract rfl rfl rfl rfl ?_
  refine sxo_extract rfl rfl rfl rfl ?_
  refine sxo_assign rfl rfl rfl ?_
  refine sxo_assign rfl rfl rfl ?_
  refine sxo_assign rfl rfl rfl ?_
  refine sxo_nil ?_
  refine sxq_next ?_
  refine sxc_seq ?_
  refine sxc_region ?_
  refine sxo_move rfl rfl rfl ?_
  refine sxo_geq rfl rfl rfl rfl ?_
  refine sxo_move rfl rfl rfl ?_
  refine sxo_case 3 (decide (1 ≤ x2)) [(0, .int .u64 x1), (1, .int .u64 x2), (3, .int .i64 x7), (6, .pointer (some ⟨g8, 0, none⟩)), (9, .pointer (some ⟨g12, 0, none⟩)), (10, .int .i64 x9.2.2), (11, .pointer (some ⟨g16, 0, none⟩)), (12, .int .i64 x13.2.2), (13, .int .u64 x17.1), (14, .int .i64 x17.2.1), (15, .int .i64 x17.2.2), (16, .int .u64 x18.1), (17, .int .i64 x18.2.1), (18, .int .i64 x18.2.2), (64, .bool ((decide (1 ≤ x2)) && (decide (x2 ≤ 1099511627776))))] (fun h19 => ?_) (fun h19 => ?_) ?_
  · refine sxo_take (os := _) rfl ?_
    refine sxo_isT (k := 61) rfl h19 ?_
    refine sxo_move rfl rfl rfl ?_
    refine sxo_leq rfl rfl rfl rfl ?_
    refine sxo_pick (b := true) rfl rfl rfl rfl ?_
    refine sxo_again (d := 64) (v := .bool ((decide (1 ≤ x2)) && (decide (x2 ≤ 1099511627776)))) rfl (by rw [h19]; simp only [Bool.true_and]) ?_
    refine sxo_nil ?_
    exact sxq_case (lk_cons rfl (lk_cons rfl (lk_cons rfl (lk_cons rfl (lk_cons rfl (lk_cons rfl (lk_cons rfl (lk_cons rfl (lk_cons rfl (lk_cons rfl (lk_cons rfl (lk_cons rfl (lk_cons rfl (lk_cons rfl (lk_cons rfl lk_nil)))))))))))))))
  · refine sxo_take (os := _) rfl ?_
    refine sxo_isF (k := 61) rfl h19 ?_
    refine sxo_skip rfl rfl rfl ?_
    refine sxo_skip rfl rfl rfl ?_
    refine sxo_pick (b := false) rfl rfl rfl rfl ?_
    refine sxo_again (d := 64) (v := .bool ((decide (1 ≤ x2)) && (decide (x2 ≤ 1099511627776)))) rfl (by rw [h19]; simp only [Bool.false_and]) ?_
    refine sxo_nil ?_
    exact sxq_case (lk_cons rfl (lk_cons rfl (lk_cons rfl (lk_cons rfl (lk_cons rfl (lk_cons rfl (lk_cons rfl (lk_cons rfl (lk_cons rfl (lk_cons rfl (lk_cons rfl (lk_cons rfl (lk_cons rfl (lk_cons rfl (lk_cons rfl lk_nil)))))))))))))))
  refine sxo_take (os := _) rfl ?_
  refine sxo_assign rfl rfl rfl ?_
  refine sxo_nil ?_
  refine sxq_next ?_
  refine sxc_seq ?_
  refine sxc_region ?_
  refine sxo_alloc rfl tf25 rfl (fun g20 => ?_)
  refine sxo_alloc rfl tf25 rfl (fun g21 => ?_)
  refine sxo_nil ?_
  refine sxq_next ?_
  refine sxc_seq ?_
  refine sxc_region ?_
  refine sxo_assign rfl rfl rfl ?_
  refine sxo_assign rfl rfl rfl ?_
  refine sxo_nil ?_
  refine sxq_next ?_
  refine sxc_join (fun (((x31, x32, x35), (a33, c34)) : ((Int × Int × List Int) × (Option Addr × Nat))) => [(0, .int .u64 x1), (1, .int .u64 x2), (3, .int .i64 x7), (6, .pointer (some ⟨g8, 0, none⟩)), (9, .pointer (some ⟨g12, 0, none⟩)), (10, .int .i64 x9.2.2), (11, .pointer (some ⟨g16, 0, none⟩)), (12, .int .i64 x13.2.2), (13, .int .u64 x17.1), (14, .int .i64 x17.2.1), (15, .int .i64 x17.2.2), (16, .int .u64 x18.1), (17, .int .i64 x18.2.1), (18, .int .i64 x18.2.2), (19, .bool ((decide (1 ≤ x2)) && (decide (x2 ≤ 1099511627776)))), (20, .pointer (some ⟨g20, 0, none⟩)), (21, .pointer (some ⟨g21, 0, none⟩)), (22, .int .i64 x31), (23, .int .i64 3)]) (fun (((x31, x32, x35), (a33, c34)) : ((Int × Int × List Int) × (Option Addr × Nat))) => [⟨g21, 25, [.int .i64 0, .slice none 0 0]⟩, ⟨g20, 25, [.int .i64 x32, .slice a33 x35.length c34]⟩, ⟨g16, 25, [.int .i64 x13.1, .slice a14 x13.2.1.length c15]⟩, ⟨g12, 25, [.int .i64 x9.1, .slice a10 x9.2.1.length c11]⟩, ⟨g8, 25, [.int .i64 x3, .slice a5 x4.length c6]⟩]) (fun (((x31, x32, x35), (a33, c34)) : ((Int × Int × List Int) × (Option Addr × Nat))) => [Ro (eI .u8) 5 1 (.slice a33 x35.length c34) x35, Ro (eI .u8) 5 1 (.slice a14 x13.2.1.length c15) x13.2.1, Ro (eI .u8) 5 1 (.slice a10 x9.2.1.length c11) x9.2.1]) (fun (((x31, x32, x35), (a33, c34)) : ((Int × Int × List Int) × (Option Addr × Nat))) => [Sl (eI .u8) 1 (.slice a5 x4.length c6) x4]) (fun (((x31, x32, x35), _) : ((Int × Int × List Int) × (Option Addr × Nat))) => M_L_GolombTells_j1 F x1 x2 x3 x4 x7 x9 x13 x17 x18 x31 x32 x35) ?_ ?_
  · refine sxc_seq ?_
    refine sxc_region ?_
    refine sxo_move rfl rfl rfl ?_
    refine sxo_move rfl rfl rfl ?_
    refine sxo_case 4 ((decide (1 ≤ x2)) && (decide (x2 ≤ 1099511627776))) [(0, .int .u64 x1), (1, .int .u64 x2), (3, .int .i64 x7), (6, .pointer (some ⟨g8, 0, none⟩)), (9, .pointer (some ⟨g12, 0, none⟩)), (10, .int .i64 x9.2.2), (11, .pointer (some ⟨g16, 0, none⟩)), (12, .int .i64 x13.2.2), (13, .int .u64 x17.1), (14, .int .i64 x17.2.1), (15, .int .i64 x17.2.2), (16, .int .u64 x18.1), (17, .int .i64 x18.2.1), (18, .int .i64 x18.2.2), (19, .bool ((decide (1 ≤ x2)) && (decide (x2 ≤ 1099511627776)))), (20, .pointer (some ⟨g20, 0, none⟩)), (21, .pointer (some ⟨g21, 0, none⟩)), (22, .int .i64 3), (23, .int .i64 3), (70, .bool (((decide (1 ≤ x2)) && (decide (x2 ≤ 1099511627776))) && (decide (x1 < x2))))] (fun h141 => ?_) (fun h141 => ?_) ?_
    · refine sxo_take (os := _) rfl ?_
      refine sxo_isT (k := 66) rfl h141 ?_
      refine sxo_move rfl rfl rfl ?_
      refine sxo_move rfl rfl rfl ?_
      refine sxo_lss rfl rfl rfl rfl ?_
      refine sxo_pick (b := true) rfl rfl rfl rfl ?_
      refine sxo_again (d := 70) (v := .bool (((decide (1 ≤ x2)) && (decide (x2 ≤ 1099511627776))) && (decide (x1 < x2)))) rfl (by rw [h141]; simp only [Bool.true_and]) ?_
      refine sxo_nil ?_
      exact sxq_case (lk_cons rfl (lk_cons rfl (lk_cons rfl (lk_cons rfl (lk_cons rfl (lk_cons rfl (lk_cons rfl (lk_cons rfl (lk_cons rfl (lk_cons rfl (lk_cons rfl (lk_cons rfl (lk_cons rfl (lk_cons rfl (lk_cons rfl (lk_cons rfl (lk_cons rfl (lk_cons rfl (lk_cons rfl (lk_cons rfl lk_nil))))))))))))))))))))
    · refine sxo_take (os := _) rfl ?_
      refine sxo_isF (k := 66) rfl h141 ?_
      refine sxo_skip rfl rfl rfl ?_
      refine sxo_skip rfl rfl rfl ?_
      refine sxo_skip rfl rfl rfl ?_
      refine sxo_pick (b := false) rfl rfl rfl rfl ?_
      refine sxo_again (d := 70) (v := .bool (((decide (1 ≤ x2)) && (decide (x2 ≤ 1099511627776))) && (decide (x1 < x2)))) rfl (by rw [h141]; simp only [Bool.false_and]) ?_
      refine sxo_nil ?_
      exact sxq_case (lk_cons rfl (lk_cons rfl (lk_cons rfl (lk_cons rfl (lk_cons rfl (lk_cons rfl (lk_cons rfl (lk_cons rfl (lk_cons rfl (lk_cons rfl (lk_cons rfl (lk_cons rfl (lk_cons rfl (lk_cons rfl (lk_cons rfl (lk_cons rfl (lk_cons rfl (lk_cons rfl (lk_cons rfl (lk_cons rfl lk_nil))))))))))))))))))))
    refine sxo_take (os := _) rfl ?_
    refine sxo_nil ?_
    refine sxq_next ?_
    refine sxc_if rfl (fun h148 => ?_) (fun h148 => ?_)
    · refine sxc_region ?_
      refine sxo_move rfl rfl rfl ?_
      refine sxo_move rfl rfl rfl ?_
      refine sxo_call ent33 rfl rfl rfl (fun x142 e142 => C_R_LeastList F x1 x2 x142 e142) .nil (fun x142 e142 => ?_)
      rintro ⟨a143, c144⟩
      refine sxo_call ent20 rfl rfl rfl (fun x145 e145 => C_R_PackBits F x142 a143 c144 x145 e145) (.consR 0 (Ro (eI .i64) 3 1 (.slice a143 x142.length c144) x142) rfl .nil) (fun x145 e145 => ?_)
      rintro ⟨a146, c147⟩
      refine sxo_assign rfl rfl rfl ?_
      refine sxo_storeB (i := 1) rfl rfl rfl tf25 rfl rfl rfl rfl rfl ?_
      refine sxo_nil ?_
      exact sxq_meetP ((0, x145.1, x145.2), (a146, c147)) (lk_cons rfl (lk_cons rfl (lk_cons rfl (lk_cons rfl (lk_cons rfl (lk_cons rfl (lk_cons rfl (lk_cons rfl (lk_cons rfl (lk_cons rfl (lk_cons rfl (lk_cons rfl (lk_cons rfl (lk_cons rfl (lk_cons rfl (lk_cons rfl (lk_cons rfl (lk_cons rfl (lk_cons rfl lk_nil))))))))))))))))))) (.cons 0 rfl (.cons 0 rfl (.cons 0 rfl (.cons 0 rfl (.cons 0 rfl .nil))))) (.cons 0 rfl (.cons 1 rfl (.cons 1 rfl .nil))) (fk_cons 0 rfl fk_nil)
    · refine sxc_skip ?_
      refine sxq_nilrow Int (eI .u8) 5 1 ?_
      exact sxq_meetP ((3, 0, ([] : List Int)), (none, 0)) (lk_cons rfl (lk_cons rfl (lk_cons rfl (lk_cons rfl (lk_cons rfl (lk_cons rfl (lk_cons rfl (lk_cons rfl (lk_cons rfl (lk_cons rfl (lk_cons rfl (lk_cons rfl (lk_cons rfl (lk_cons rfl (lk_cons rfl (lk_cons rfl (lk_cons rfl (lk_cons rfl (lk_cons rfl lk_nil))))))))))))))))))) (.cons 0 rfl (.cons 0 rfl (.cons 0 rfl (.cons 0 rfl (.cons 0 rfl .nil))))) (.cons 0 rfl (.cons 0 rfl (.cons 0 rfl .nil))) (fk_cons 0 rfl fk_nil)
  · rintro ⟨⟨x31, x32, x35⟩, ⟨a33, c34⟩⟩
    try dsimp only
    refine sxc_join (fun (((x61, x62, x65), (a63, c64)) : ((Int × Int × List Int) × (Option Addr × Nat))) => [(1, .int .u64 x2), (3, .int .i64 x7), (6, .pointer (some ⟨g8, 0, none⟩)), (9, .pointer (some ⟨g12, 0, none⟩)), (10, .int .i64 x9.2.2), (11, .pointer (some ⟨g16, 0, none⟩)), (12, .int .i64 x13.2.2), (13, .int .u64 x17.1), (14, .int .i64 x17.2.1), (15, .int .i64 x17.2.2), (16, .int .u64 x18.1), (17, .int .i64 x18.2.1), (18, .int .i64 x18.2.2), (19, .bool ((decide (1 ≤ x2)) && (decide (x2 ≤ 1099511627776)))), (20, .pointer (some ⟨g20, 0, none⟩)), (21, .pointer (some ⟨g21, 0, none⟩)), (22, .int .i64 x31), (23, .int .i64 x61)]) (fun (((x61, x62, x65), (a63, c64)) : ((Int × Int × List Int) × (Option Addr × Nat))) => [⟨g21, 25, [.int .i64 x62, .slice a63 x65.length c64]⟩, ⟨g20, 25, [.int .i64 x32, .slice a33 x35.length c34]⟩, ⟨g16, 25, [.int .i64 x13.1, .slice a14 x13.2.1.length c15]⟩, ⟨g12, 25, [.int .i64 x9.1, .slice a10 x9.2.1.length c11]⟩, ⟨g8, 25, [.int .i64 x3, .slice a5 x4.length c6]⟩]) (fun (((x61, x62, x65), (a63, c64)) : ((Int × Int × List Int) × (Option Addr × Nat))) => [Ro (eI .u8) 5 1 (.slice a63 x65.length c64) x65, Ro (eI .u8) 5 1 (.slice a33 x35.length c34) x35, Ro (eI .u8) 5 1 (.slice a14 x13.2.1.length c15) x13.2.1, Ro (eI .u8) 5 1 (.slice a10 x9.2.1.length c11) x9.2.1]) (fun (((x61, x62, x65), (a63, c64)) : ((Int × Int × List Int) × (Option Addr × Nat))) => [Sl (eI .u8) 1 (.slice a5 x4.length c6) x4]) (fun (((x61, x62, x65), _) : ((Int × Int × List Int) × (Option Addr × Nat))) => M_L_GolombTells_j3 F x2 x3 x4 x7 x9 x13 x17 x18 x31 x32 x35 x61 x62 x65) ?_ ?_
    · refine sxc_seq ?_
      refine sxc_region ?_
      refine sxo_move rfl rfl rfl ?_
      refine sxo_move rfl rfl rfl ?_
      refine sxo_case 3 ((decide (1 ≤ x2)) && (decide (x2 ≤ 1099511627776))) [(0, .int .u64 x1), (1, .int .u64 x2), (3, .int .i64 x7), (6, .pointer (some ⟨g8, 0, none⟩)), (9, .pointer (some ⟨g12, 0, none⟩)), (10, .int .i64 x9.2.2), (11, .pointer (some ⟨g16, 0, none⟩)), (12, .int .i64 x13.2.2), (13, .int .u64 x17.1), (14, .int .i64 x17.2.1), (15, .int .i64 x17.2.2), (16, .int .u64 x18.1), (17, .int .i64 x18.2.1), (18, .int .i64 x18.2.2), (19, .bool ((decide (1 ≤ x2)) && (decide (x2 ≤ 1099511627776)))), (20, .pointer (some ⟨g20, 0, none⟩)), (21, .pointer (some ⟨g21, 0, none⟩)), (22, .int .i64 x31), (23, .int .i64 3), (79, .bool (((decide (1 ≤ x2)) && (decide (x2 ≤ 1099511627776))) && (decide (x1 ≤ 1099511627776))))] (fun h117 => ?_) (fun h117 => ?_) ?_
      · refine sxo_take (os := _) rfl ?_
        refine sxo_isT (k := 76) rfl h117 ?_
        refine sxo_move rfl rfl rfl ?_
        refine sxo_leq rfl rfl rfl rfl ?_
        refine sxo_pick (b := true) rfl rfl rfl rfl ?_
        refine sxo_again (d := 79) (v := .bool (((decide (1 ≤ x2)) && (decide (x2 ≤ 1099511627776))) && (decide (x1 ≤ 1099511627776)))) rfl (by rw [h117]; simp only [Bool.true_and]) ?_
        refine sxo_nil ?_
        exact sxq_case (lk_cons rfl (lk_cons rfl (lk_cons rfl (lk_cons rfl (lk_cons rfl (lk_cons rfl (lk_cons rfl (lk_cons rfl (lk_cons rfl (lk_cons rfl (lk_cons rfl (lk_cons rfl (lk_cons rfl (lk_cons rfl (lk_cons rfl (lk_cons rfl (lk_cons rfl (lk_cons rfl (lk_cons rfl (lk_cons rfl lk_nil))))))))))))))))))))
      · refine sxo_take (os := _) rfl ?_
        refine sxo_isF (k := 76) rfl h117 ?_
        refine sxo_skip rfl rfl rfl ?_
        refine sxo_skip rfl rfl rfl ?_
        refine sxo_pick (b := false) rfl rfl rfl rfl ?_
        refine sxo_again (d := 79) (v := .bool (((decide (1 ≤ x2)) && (decide (x2 ≤ 1099511627776))) && (decide (x1 ≤ 1099511627776)))) rfl (by rw [h117]; simp only [Bool.false_and]) ?_
        refine sxo_nil ?_
        exact sxq_case (lk_cons rfl (lk_cons rfl (lk_cons rfl (lk_cons rfl (lk_cons rfl (lk_cons rfl (lk_cons rfl (lk_cons rfl (lk_cons rfl (lk_cons rfl (lk_cons rfl (lk_cons rfl (lk_cons rfl (lk_cons rfl (lk_cons rfl (lk_cons rfl (lk_cons rfl (lk_cons rfl (lk_cons rfl (lk_cons rfl lk_nil))))))))))))))))))))
      refine sxo_take (os := _) rfl ?_
      refine sxo_move rfl rfl rfl ?_
      refine sxo_join 5 (fun ((x120, _) : (Bool × Unit)) => [(0, .int .u64 x1), (1, .int .u64 x2), (3, .int .i64 x7), (6, .pointer (some ⟨g8, 0, none⟩)), (9, .pointer (some ⟨g12, 0, none⟩)), (10, .int .i64 x9.2.2), (11, .pointer (some ⟨g16, 0, none⟩)), (12, .int .i64 x13.2.2), (13, .int .u64 x17.1), (14, .int .i64 x17.2.1), (15, .int .i64 x17.2.2), (16, .int .u64 x18.1), (17, .int .i64 x18.2.1), (18, .int .i64 x18.2.2), (19, .bool ((decide (1 ≤ x2)) && (decide (x2 ≤ 1099511627776)))), (20, .pointer (some ⟨g20, 0, none⟩)), (21, .pointer (some ⟨g21, 0, none⟩)), (22, .int .i64 x31), (23, .int .i64 3), (85, .bool x120)]) (fun ((x120, _) : (Bool × Unit)) => [⟨g21, 25, [.int .i64 0, .slice none 0 0]⟩, ⟨g20, 25, [.int .i64 x32, .slice a33 x35.length c34]⟩, ⟨g16, 25, [.int .i64 x13.1, .slice a14 x13.2.1.length c15]⟩, ⟨g12, 25, [.int .i64 x9.1, .slice a10 x9.2.1.length c11]⟩, ⟨g8, 25, [.int .i64 x3, .slice a5 x4.length c6]⟩]) (fun ((x120, _) : (Bool × Unit)) => [Ro (eI .u8) 5 1 (.slice a33 x35.length c34) x35, Ro (eI .u8) 5 1 (.slice a14 x13.2.1.length c15) x13.2.1, Ro (eI .u8) 5 1 (.slice a10 x9.2.1.length c11) x9.2.1]) (fun ((x120, _) : (Bool × Unit)) => [Sl (eI .u8) 1 (.slice a5 x4.length c6) x4]) (fun ((x120, _) : (Bool × Unit)) => M_L_GolombTells_j10 F x1 x2 x3 x4 x7 x9 x13 x17 x18 x31 x32 x35 x120) ?_ ?_
      · refine sxo_take (os := _) rfl ?_
        refine sxo_if (fun h118 => ?_) (fun h118 => ?_)
        · refine sxo_isT (k := 80) rfl h118 ?_
          refine sxo_move rfl rfl rfl ?_
          refine sxo_move rfl rfl rfl ?_
          refine sxo_chk (fun h140 => ?_)
          refine sxo_quo rfl rfl rfl rfl h140 ?_
          refine sxo_lss rfl rfl rfl rfl ?_
          refine sxo_pick (b := true) rfl rfl rfl rfl ?_
          refine sxo_nil ?_
          exact sxq_meetP ((decide ((iquo .u64 x1 x2) < 8128)), ()) (lk_cons rfl (lk_cons rfl (lk_cons rfl (lk_cons rfl (lk_cons rfl (lk_cons rfl (lk_cons rfl (lk_cons rfl (lk_cons rfl (lk_cons rfl (lk_cons rfl (lk_cons rfl (lk_cons rfl (lk_cons rfl (lk_cons rfl (lk_cons rfl (lk_cons rfl (lk_cons rfl (lk_cons rfl (lk_cons rfl lk_nil)))))))))))))))))))) (.cons 0 rfl (.cons 0 rfl (.cons 0 rfl (.cons 0 rfl (.cons 0 rfl .nil))))) (.cons 0 rfl (.cons 0 rfl (.cons 0 rfl .nil))) (fk_cons 0 rfl fk_nil)
        · refine sxo_isF (k := 80) rfl h118 ?_
          refine sxo_skip rfl rfl rfl ?_
          refine sxo_skip rfl rfl rfl ?_
          refine sxo_skip rfl rfl rfl ?_
          refine sxo_skip rfl rfl rfl ?_
          refine sxo_pick (b := false) rfl rfl rfl rfl ?_
          refine sxo_nil ?_
          exact sxq_meetP (false, ()) (lk_cons rfl (lk_cons rfl (lk_cons rfl (lk_cons rfl (lk_cons rfl (lk_cons rfl (lk_cons rfl (lk_cons rfl (lk_cons rfl (lk_cons rfl (lk_cons rfl (lk_cons rfl (lk_cons rfl (lk_cons rfl (lk_cons rfl (lk_cons rfl (lk_cons rfl (lk_cons rfl (lk_cons rfl (lk_cons rfl lk_nil)))))))))))))))))))) (.cons 0 rfl (.cons 0 rfl (.cons 0 rfl (.cons 0 rfl (.cons 0 rfl .nil))))) (.cons 0 rfl (.cons 0 rfl (.cons 0 rfl .nil))) (fk_cons 0 rfl fk_nil)
      · rintro ⟨x120, _⟩
        try dsimp only
        refine sxo_take (os := _) rfl ?_
        refine sxo_nil ?_
        refine sxq_next ?_
        refine sxc_if rfl (fun h139 => ?_) (fun h139 => ?_)
        · refine sxc_chk (fun h121 => ?_)
          refine sxc_chk (fun h123 => ?_)
          refine sxb_draw mixed [] [⟨g20, 25, [.int .i64 x32, .slice a33 x35.length c34]⟩, ⟨g16, 25, [.int .i64 x13.1, .slice a14 x13.2.1.length c15]⟩, ⟨g12, 25, [.int .i64 x9.1, .slice a10 x9.2.1.length c11]⟩, ⟨g8, 25, [.int .i64 x3, .slice a5 x4.length c6]⟩] [Sl (eI .u8) 1 (.slice a5 x4.length c6) x4] (.cons 1 rfl (.cons 1 rfl (.cons 1 rfl (.cons 1 rfl .nil)))) (gk_F 0 rfl gk_nil) 13 rfl ?_
          refine sxb_takeP 0 (.int .u64 x1) rfl rfl rfl rfl (by kernel_rfl) (by kernel_rfl) (by kernel_rfl) (by kernel_rfl) (by kernel_rfl) rfl (show _ = #[true, false, false, false, false, false, false, false, false, false, false, false, false] from rfl) (yv_pv rfl) ?_
          refine sxb_takeP 1 (.int .u64 x2) rfl rfl rfl rfl (by kernel_rfl) (by kernel_rfl) (by kernel_rfl) (by kernel_rfl) (by kernel_rfl) rfl (show _ = #[true, true, false, false, false, false, false, false, false, false, false, false, false] from rfl) (yv_pv rfl) ?_
          refine sxb_takeP 2 (.int .u64 (iquo .u64 x1 x2)) rfl rfl rfl rfl (by kernel_rfl) (by kernel_rfl) (by kernel_rfl) (by kernel_rfl) (by kernel_rfl) rfl (show _ = #[true, true, true, false, false, false, false, false, false, false, false, false, false] from rfl) (yv_quo rfl rfl h121) ?_
          refine sxb_takeP 4 (.int .u64 x1) rfl rfl rfl rfl (by kernel_rfl) (by kernel_rfl) (by kernel_rfl) (by kernel_rfl) (by kernel_rfl) rfl (show _ = #[true, true, true, false, true, false, false, false, false, false, false, false, false] from rfl) (yv_pv rfl) ?_
          refine sxb_takeP 5 (.int .u64 x2) rfl rfl rfl rfl (by kernel_rfl) (by kernel_rfl) (by kernel_rfl) (by kernel_rfl) (by kernel_rfl) rfl (show _ = #[true, true, true, false, true, true, false, false, false, false, false, false, false] from rfl) (yv_pv rfl) ?_
          refine sxb_takeP 6 (.int .u64 (irem x1 x2)) rfl rfl rfl rfl (by kernel_rfl) (by kernel_rfl) (by kernel_rfl) (by kernel_rfl) (by kernel_rfl) rfl (show _ = #[true, true, true, false, true, true, true, false, false, false, false, false, false] from rfl) (yv_rem rfl rfl h123) ?_
          refine sxb_takeP 7 (.int .u64 x2) rfl rfl rfl rfl (by kernel_rfl) (by kernel_rfl) (by kernel_rfl) (by kernel_rfl) (by kernel_rfl) rfl (show _ = #[true, true, true, false, true, true, true, true, false, false, false, false, false] from rfl) (yv_pv rfl) ?_
          refine sxb_step 3 rfl (by kernel_rfl) (show _ = #[true, true, true, true, true, true, true, true, false, false, false, false, false] from rfl) ?_
          refine sxo_call ent34 rfl rfl rfl (fun x127 e127 => C_R_UnaryList F (iquo .u64 x1 x2) x127 e127) .nil (fun x127 e127 => ?_)
          rintro ⟨a128, c129⟩
          refine sxo_nil ?_
          refine sxq_anyB (.cons 1 rfl (.cons 1 rfl (.cons 1 rfl (.cons 1 rfl .nil)))) (gk_F 0 rfl gk_nil) ?_
          refine sxb_step 8 rfl (by kernel_rfl) (show _ = #[true, true, true, true, true, true, true, true, true, false, false, false, false] from rfl) ?_
          refine sxo_call ent33 rfl rfl rfl (fun x130 e130 => C_R_LeastList F (irem x1 x2) x2 x130 e130) .nil (fun x130 e130 => ?_)
          rintro ⟨a131, c132⟩
          refine sxo_nil ?_
          refine sxq_anyB (.cons 1 rfl (.cons 1 rfl (.cons 1 rfl (.cons 1 rfl .nil)))) (gk_F 0 rfl gk_nil) ?_
          refine sxb_step 9 rfl (by kernel_rfl) (show _ = #[true, true, true, true, true, true, true, true, true, true, false, false, false] from rfl) ?_
          refine sxo_app 1 (eI_ok .i64) rfl Try.underlying34 tf3 rfl rfl rfl rfl rfl (.inl ⟨0, _, rfl⟩) rfl rfl (fun x133 e133 a134 c135 => ?_)
          refine sxo_nil ?_
          refine sxq_anyB (.cons 1 rfl (.cons 1 rfl (.cons 1 rfl (.cons 1 rfl .nil)))) (gk_F 0 rfl gk_nil) ?_
          refine sxb_step 10 rfl (by kernel_rfl) (show _ = #[true, true, true, true, true, true, true, true, true, true, true, false, false] from rfl) ?_
          refine sxo_call ent20 rfl rfl rfl (fun x136 e136 => C_R_PackBits F x133 a134 c135 x136 e136) (.consR 0 (Ro (eI .i64) 3 1 (.slice a134 x133.length c135) x133) rfl .nil) (fun x136 e136 => ?_)
          rintro ⟨a137, c138⟩
          refine sxo_nil ?_
          refine sxq_anyB (.cons 1 rfl (.cons 1 rfl (.cons 1 rfl (.cons 1 rfl .nil)))) (gk_F 0 rfl gk_nil) ?_
          refine sxb_takeP 11 (.int .i64 0) rfl rfl rfl rfl (by kernel_rfl) (by kernel_rfl) (by kernel_rfl) (by kernel_rfl) (by kernel_rfl) rfl (show _ = #[true, true, true, true, true, true, true, true, true, true, true, true, false] from rfl) (yv_pv rfl) ?_
          refine sxb_step 12 rfl (by kernel_rfl) (show _ = #[true, true, true, true, true, true, true, true, true, true, true, true, true] from rfl) ?_
          refine sxo_storeB (i := 0) rfl rfl rfl tf25 rfl rfl rfl rfl rfl ?_
          refine sxo_nil ?_
          refine sxq_anyB (.cons 1 rfl (.cons 1 rfl (.cons 1 rfl (.cons 1 rfl .nil)))) (gk_F 0 rfl gk_nil) ?_
          refine sxb_done (by kernel_rfl) ?_
          refine sxq_np ?_ (by intro c h; cases h)
          exact sxq_meetP ((0, x136.1, x136.2), (a137, c138)) (lk_cons rfl (lk_cons rfl (lk_cons rfl (lk_cons rfl (lk_cons rfl (lk_cons rfl (lk_cons rfl (lk_cons rfl (lk_cons rfl (lk_cons rfl (lk_cons rfl (lk_cons rfl (lk_cons rfl (lk_cons rfl (lk_cons rfl (lk_cons rfl (lk_cons rfl (lk_cons rfl lk_nil)))))))))))))))))) (.cons 0 rfl (.cons 0 rfl (.cons 0 rfl (.cons 0 rfl (.cons 0 rfl .nil))))) (.cons 0 rfl (.cons 2 rfl (.cons 2 rfl (.cons 2 rfl .nil)))) (fk_cons 0 rfl fk_nil)
        · refine sxc_skip ?_
          refine sxq_nilrow Int (eI .u8) 5 1 ?_
          exact sxq_meetP ((3, 0, ([] : List Int)), (none, 0)) (lk_cons rfl (lk_cons rfl (lk_cons rfl (lk_cons rfl (lk_cons rfl (lk_cons rfl (lk_cons rfl (lk_cons rfl (lk_cons rfl (lk_cons rfl (lk_cons rfl (lk_cons rfl (lk_cons rfl (lk_cons rfl (lk_cons rfl (lk_cons rfl (lk_cons rfl (lk_cons rfl lk_nil)))))))))))))))))) (.cons 0 rfl (.cons 0 rfl (.cons 0 rfl (.cons 0 rfl (.cons 0 rfl .nil))))) (.cons 0 rfl (.cons 0 rfl (.cons 0 rfl (.cons 0 rfl .nil)))) (fk_cons 0 rfl fk_nil)
    · rintro ⟨⟨x61, x62, x65⟩, ⟨a63, c64⟩⟩
      try dsimp only
      refine sxc_seq ?_
      refine sxc_region ?_
      refine sxo_loadB (i := 4) rfl rfl tf25 rfl rfl (by simp) rfl rfl ?_
      refine sxo_move rfl rfl rfl ?_
      refine sxo_call ent23 rfl rfl rfl (fun x66 e66 => C_R_ReadErr F x3 x4 a5 c6 x7 x66 e66) (.consF 0 rfl .nil) (fun x66 e66 => ?_)
      intro _
      refine sxo_assign rfl rfl rfl ?_
      refine sxo_nil ?_
      refine sxq_next ?_
      refine sxc_join (fun ((x69, _) : (Int × Unit)) => [(1, .int .u64 x2), (3, .int .i64 x7), (6, .pointer (some ⟨g8, 0, none⟩)), (9, .pointer (some ⟨g12, 0, none⟩)), (10, .int .i64 x9.2.2), (11, .pointer (some ⟨g16, 0, none⟩)), (12, .int .i64 x13.2.2), (13, .int .u64 x17.1), (14, .int .i64 x17.2.1), (15, .int .i64 x17.2.2), (16, .int .u64 x18.1), (17, .int .i64 x18.2.1), (18, .int .i64 x18.2.2), (20, .pointer (some ⟨g20, 0, none⟩)), (21, .pointer (some ⟨g21, 0, none⟩)), (22, .int .i64 x31), (23, .int .i64 x61), (24, .int .i64 x69)]) (fun ((x69, _) : (Int × Unit)) => [⟨g21, 25, [.int .i64 x62, .slice a63 x65.length c64]⟩, ⟨g20, 25, [.int .i64 x32, .slice a33 x35.length c34]⟩, ⟨g16, 25, [.int .i64 x13.1, .slice a14 x13.2.1.length c15]⟩, ⟨g12, 25, [.int .i64 x9.1, .slice a10 x9.2.1.length c11]⟩, ⟨g8, 25, [.int .i64 x3, .slice a5 x4.length c6]⟩]) (fun ((x69, _) : (Int × Unit)) => [Ro (eI .u8) 5 1 (.slice a63 x65.length c64) x65, Ro (eI .u8) 5 1 (.slice a33 x35.length c34) x35, Ro (eI .u8) 5 1 (.slice a14 x13.2.1.length c15) x13.2.1, Ro (eI .u8) 5 1 (.slice a10 x9.2.1.length c11) x9.2.1]) (fun ((x69, _) : (Int × Unit)) => [Sl (eI .u8) 1 (.slice a5 x4.length c6) x4]) (fun ((x69, _) : (Int × Unit)) => M_L_GolombTells_j4 F x2 x3 x4 x7 x9 x13 x17 x18 x31 x32 x35 x61 x62 x65 x69) ?_ ?_
      · refine sxc_seq ?_
        refine sxc_region ?_
        refine sxo_move rfl rfl rfl ?_
        refine sxo_eql rfl rfl rfl rfl ?_
        refine sxo_move rfl rfl rfl ?_
        refine sxo_case 3 ((x66 : Int) == 0) [(1, .int .u64 x2), (3, .int .i64 x7), (6, .pointer (some ⟨g8, 0, none⟩)), (9, .pointer (some ⟨g12, 0, none⟩)), (10, .int .i64 x9.2.2), (11, .pointer (some ⟨g16, 0, none⟩)), (12, .int .i64 x13.2.2), (13, .int .u64 x17.1), (14, .int .i64 x17.2.1), (15, .int .i64 x17.2.2), (16, .int .u64 x18.1), (17, .int .i64 x18.2.1), (18, .int .i64 x18.2.2), (20, .pointer (some ⟨g20, 0, none⟩)), (21, .pointer (some ⟨g21, 0, none⟩)), (22, .int .i64 x31), (23, .int .i64 x61), (24, .int .i64 x66), (105, .bool (((x66 : Int) == 0) && (!((decide (1 ≤ x2)) && (decide (x2 ≤ 1099511627776))))))] (fun h115 => ?_) (fun h115 => ?_) ?_
        · refine sxo_take (os := _) rfl ?_
          refine sxo_isT (k := 102) rfl h115 ?_
          refine sxo_move rfl rfl rfl ?_
          refine sxo_not rfl rfl rfl ?_
          refine sxo_pick (b := true) rfl rfl rfl rfl ?_
          refine sxo_again (d := 105) (v := .bool (((x66 : Int) == 0) && (!((decide (1 ≤ x2)) && (decide (x2 ≤ 1099511627776)))))) rfl (by rw [h115]; simp only [Bool.true_and]) ?_
          refine sxo_nil ?_
          exact sxq_case (lk_cons rfl (lk_cons rfl (lk_cons rfl (lk_cons rfl (lk_cons rfl (lk_cons rfl (lk_cons rfl (lk_cons rfl (lk_cons rfl (lk_cons rfl (lk_cons rfl (lk_cons rfl (lk_cons rfl (lk_cons rfl (lk_cons rfl (lk_cons rfl (lk_cons rfl (lk_cons rfl (lk_cons rfl lk_nil)))))))))))))))))))
        · refine sxo_take (os := _) rfl ?_
          refine sxo_isF (k := 102) rfl h115 ?_
          refine sxo_skip rfl rfl rfl ?_
          refine sxo_skip rfl rfl rfl ?_
          refine sxo_pick (b := false) rfl rfl rfl rfl ?_
          refine sxo_again (d := 105) (v := .bool (((x66 : Int) == 0) && (!((decide (1 ≤ x2)) && (decide (x2 ≤ 1099511627776)))))) rfl (by rw [h115]; simp only [Bool.false_and]) ?_
          refine sxo_nil ?_
          exact sxq_case (lk_cons rfl (lk_cons rfl (lk_cons rfl (lk_cons rfl (lk_cons rfl (lk_cons rfl (lk_cons rfl (lk_cons rfl (lk_cons rfl (lk_cons rfl (lk_cons rfl (lk_cons rfl (lk_cons rfl (lk_cons rfl (lk_cons rfl (lk_cons rfl (lk_cons rfl (lk_cons rfl (lk_cons rfl lk_nil)))))))))))))))))))
        refine sxo_take (os := _) rfl ?_
        refine sxo_nil ?_
        refine sxq_next ?_
        refine sxc_if rfl (fun h116 => ?_) (fun h116 => ?_)
        · refine sxc_region ?_
          refine sxo_assign rfl rfl rfl ?_
          refine sxo_nil ?_
          exact sxq_meetP (3, ()) (lk_cons rfl (lk_cons rfl (lk_cons rfl (lk_cons rfl (lk_cons rfl (lk_cons rfl (lk_cons rfl (lk_cons rfl (lk_cons rfl (lk_cons rfl (lk_cons rfl (lk_cons rfl (lk_cons rfl (lk_cons rfl (lk_cons rfl (lk_cons rfl (lk_cons rfl (lk_cons rfl lk_nil)))))))))))))))))) (.cons 0 rfl (.cons 0 rfl (.cons 0 rfl (.cons 0 rfl (.cons 0 rfl .nil))))) (.cons 0 rfl (.cons 0 rfl (.cons 0 rfl (.cons 0 rfl .nil)))) (fk_cons 0 rfl fk_nil)
        · refine sxc_skip ?_
          exact sxq_meetP (x66, ()) (lk_cons rfl (lk_cons rfl (lk_cons rfl (lk_cons rfl (lk_cons rfl (lk_cons rfl (lk_cons rfl (lk_cons rfl (lk_cons rfl (lk_cons rfl (lk_cons rfl (lk_cons rfl (lk_cons rfl (lk_cons rfl (lk_cons rfl (lk_cons rfl (lk_cons rfl (lk_cons rfl lk_nil)))))))))))))))))) (.cons 0 rfl (.cons 0 rfl (.cons 0 rfl (.cons 0 rfl (.cons 0 rfl .nil))))) (.cons 0 rfl (.cons 0 rfl (.cons 0 rfl (.cons 0 rfl .nil)))) (fk_cons 0 rfl fk_nil)
      · rintro ⟨x69, _⟩
        try dsimp only
        refine sxc_seq ?_
        refine sxc_region ?_
        refine sxo_move rfl rfl rfl ?_
        refine sxo_assign rfl rfl rfl ?_
        refine sxo_nil ?_
        refine sxq_next ?_
        refine sxc_seq ?_
        refine sxc_region ?_
        refine sxo_assign rfl rfl rfl ?_
        refine sxo_assign rfl rfl rfl ?_
        refine sxo_assign rfl rfl rfl ?_
        refine sxo_assign rfl rfl rfl ?_
        refine sxo_nil ?_
        refine sxq_next ?_
        refine sxc_join (fun (((x81, x82, x83, x84, x85, x86), _) : ((Int × Int × Int × Int × Int × Int) × Unit)) => [(9, .pointer (some ⟨g12, 0, none⟩)), (10, .int .i64 x9.2.2), (11, .pointer (some ⟨g16, 0, none⟩)), (12, .int .i64 x13.2.2), (13, .int .u64 x17.1), (14, .int .i64 x17.2.1), (15, .int .i64 x17.2.2), (16, .int .u64 x18.1), (17, .int .i64 x18.2.1), (18, .int .i64 x18.2.2), (20, .pointer (some ⟨g20, 0, none⟩)), (21, .pointer (some ⟨g21, 0, none⟩)), (22, .int .i64 x31), (23, .int .i64 x61), (24, .int .i64 x81), (25, .int .i64 x82), (26, .int .u64 x83), (27, .int .i64 x84), (28, .int .u64 x85), (29, .int .i64 x86)]) (fun (((x81, x82, x83, x84, x85, x86), _) : ((Int × Int × Int × Int × Int × Int) × Unit)) => [⟨g21, 25, [.int .i64 x62, .slice a63 x65.length c64]⟩, ⟨g20, 25, [.int .i64 x32, .slice a33 x35.length c34]⟩, ⟨g16, 25, [.int .i64 x13.1, .slice a14 x13.2.1.length c15]⟩, ⟨g12, 25, [.int .i64 x9.1, .slice a10 x9.2.1.length c11]⟩]) (fun (((x81, x82, x83, x84, x85, x86), _) : ((Int × Int × Int × Int × Int × Int) × Unit)) => [Ro (eI .u8) 5 1 (.slice a63 x65.length c64) x65, Ro (eI .u8) 5 1 (.slice a33 x35.length c34) x35, Ro (eI .u8) 5 1 (.slice a14 x13.2.1.length c15) x13.2.1, Ro (eI .u8) 5 1 (.slice a10 x9.2.1.length c11) x9.2.1]) (fun (((x81, x82, x83, x84, x85, x86), _) : ((Int × Int × Int × Int × Int × Int) × Unit)) => []) (fun (((x81, x82, x83, x84, x85, x86), _) : ((Int × Int × Int × Int × Int × Int) × Unit)) => M_L_GolombTells_j6 F x9 x13 x17 x18 x31 x32 x35 x61 x62 x65 x81 x82 x83 x84 x85 x86) ?_ ?_
        · refine sxc_seq ?_
          refine sxc_region ?_
          refine sxo_move rfl rfl rfl ?_
          refine sxo_eql rfl rfl rfl rfl ?_
          refine sxo_nil ?_
          refine sxq_next ?_
          refine sxc_if rfl (fun h114 => ?_) (fun h114 => ?_)
          · refine sxc_seq ?_
            refine sxc_region ?_
            refine sxo_loadB (i := 4) rfl rfl tf25 rfl rfl (by simp) rfl rfl ?_
            refine sxo_call ent24 rfl rfl rfl (fun x104 e104 => C_R_BitList F x3 x4 a5 c6 x104 e104) (.consF 0 rfl .nil) (fun x104 e104 => ?_)
            rintro ⟨a105, c106⟩
            refine sxo_assign rfl rfl rfl ?_
            refine sxo_nil ?_
            refine sxq_next ?_
            refine sxc_seq ?_
            refine sxc_region ?_
            refine sxo_move rfl rfl rfl ?_
            refine sxo_move rfl rfl rfl ?_
            refine sxo_move rfl rfl rfl ?_
            refine sxo_call ent35 rfl rfl rfl (fun x107 e107 => C_R_LeastRead F x104 a105 c106 x7 x2 x107 e107) (.consR 0 (Ro (eI .i64) 3 1 (.slice a105 x104.length c106) x104) rfl .nil) (fun x107 e107 => ?_)
            intro _
            refine sxo_move rfl rfl rfl ?_
            refine sxo_extract rfl rfl rfl rfl ?_
            refine sxo_extract rfl rfl rfl rfl ?_
            refine sxo_assign rfl rfl rfl ?_
            refine sxo_assign rfl rfl rfl ?_
            refine sxo_nil ?_
            refine sxq_next ?_
            refine sxc_join (fun (((x109, x110, x111), _) : ((Int × Int × Int) × Unit)) => [(1, .int .u64 x2), (3, .int .i64 x7), (9, .pointer (some ⟨g12, 0, none⟩)), (10, .int .i64 x9.2.2), (11, .pointer (some ⟨g16, 0, none⟩)), (12, .int .i64 x13.2.2), (13, .int .u64 x17.1), (14, .int .i64 x17.2.1), (15, .int .i64 x17.2.2), (16, .int .u64 x18.1), (17, .int .i64 x18.2.1), (18, .int .i64 x18.2.2), (20, .pointer (some ⟨g20, 0, none⟩)), (21, .pointer (some ⟨g21, 0, none⟩)), (22, .int .i64 x31), (23, .int .i64 x61), (24, .int .i64 x109), (26, .int .u64 x110), (27, .int .i64 x111), (30, .slice a105 x104.length c106)]) (fun (((x109, x110, x111), _) : ((Int × Int × Int) × Unit)) => [⟨g21, 25, [.int .i64 x62, .slice a63 x65.length c64]⟩, ⟨g20, 25, [.int .i64 x32, .slice a33 x35.length c34]⟩, ⟨g16, 25, [.int .i64 x13.1, .slice a14 x13.2.1.length c15]⟩, ⟨g12, 25, [.int .i64 x9.1, .slice a10 x9.2.1.length c11]⟩]) (fun (((x109, x110, x111), _) : ((Int × Int × Int) × Unit)) => [Ro (eI .i64) 3 1 (.slice a105 x104.length c106) x104, Ro (eI .u8) 5 1 (.slice a63 x65.length c64) x65, Ro (eI .u8) 5 1 (.slice a33 x35.length c34) x35, Ro (eI .u8) 5 1 (.slice a14 x13.2.1.length c15) x13.2.1, Ro (eI .u8) 5 1 (.slice a10 x9.2.1.length c11) x9.2.1]) (fun (((x109, x110, x111), _) : ((Int × Int × Int) × Unit)) => []) (fun (((x109, x110, x111), _) : ((Int × Int × Int) × Unit)) => M_L_GolombTells_j9 F x2 x7 x9 x13 x17 x18 x31 x32 x35 x61 x62 x65 x104 x109 x110 x111) ?_ ?_
            · refine sxc_seq ?_
              refine sxc_region ?_
              refine sxo_move rfl rfl rfl ?_
              refine sxo_lss rfl rfl rfl rfl ?_
              refine sxo_nil ?_
              refine sxq_next ?_
              refine sxc_if rfl (fun h113 => ?_) (fun h113 => ?_)
              · refine sxc_region ?_
                refine sxo_assign rfl rfl rfl ?_
                refine sxo_assign rfl rfl rfl ?_
                refine sxo_assign rfl rfl rfl ?_
                refine sxo_nil ?_
                exact sxq_meetP ((7, 0, 0), ()) (lk_cons rfl (lk_cons rfl (lk_cons rfl (lk_cons rfl (lk_cons rfl (lk_cons rfl (lk_cons rfl (lk_cons rfl (lk_cons rfl (lk_cons rfl (lk_cons rfl (lk_cons rfl (lk_cons rfl (lk_cons rfl (lk_cons rfl (lk_cons rfl (lk_cons rfl (lk_cons rfl (lk_cons rfl (lk_cons rfl lk_nil)))))))))))))))))))) (.cons 0 rfl (.cons 0 rfl (.cons 0 rfl (.cons 0 rfl .nil)))) (.cons 0 rfl (.cons 0 rfl (.cons 0 rfl (.cons 0 rfl (.cons 0 rfl .nil))))) fk_nil
              · refine sxc_skip ?_
                exact sxq_meetP ((x69, x107.1, x107.2), ()) (lk_cons rfl (lk_cons rfl (lk_cons rfl (lk_cons rfl (lk_cons rfl (lk_cons rfl (lk_cons rfl (lk_cons rfl (lk_cons rfl (lk_cons rfl (lk_cons rfl (lk_cons rfl (lk_cons rfl (lk_cons rfl (lk_cons rfl (lk_cons rfl (lk_cons rfl (lk_cons rfl (lk_cons rfl (lk_cons rfl lk_nil)))))))))))))))))))) (.cons 0 rfl (.cons 0 rfl (.cons 0 rfl (.cons 0 rfl .nil)))) (.cons 0 rfl (.cons 0 rfl (.cons 0 rfl (.cons 0 rfl (.cons 0 rfl .nil))))) fk_nil
            · rintro ⟨⟨x109, x110, x111⟩, _⟩
              try dsimp only
              refine sxc_region ?_
              refine sxo_move rfl rfl rfl ?_
              refine sxo_move rfl rfl rfl ?_
              refine sxo_move rfl rfl rfl ?_
              refine sxo_call ent36 rfl rfl rfl (fun x112 e112 => C_R_GolombRead F x104 a105 c106 x7 x2 x112 e112) (.consR 0 (Ro (eI .i64) 3 1 (.slice a105 x104.length c106) x104) rfl .nil) (fun x112 e112 => ?_)
              intro _
              refine sxo_move rfl rfl rfl ?_
              refine sxo_extract rfl rfl rfl rfl ?_
              refine sxo_extract rfl rfl rfl rfl ?_
              refine sxo_extract rfl rfl rfl rfl ?_
              refine sxo_assign rfl rfl rfl ?_
              refine sxo_assign rfl rfl rfl ?_
              refine sxo_assign rfl rfl rfl ?_
              refine sxo_nil ?_
              exact sxq_meetP ((x109, x112.2.2, x110, x111, x112.1, x112.2.1), ()) (lk_cons rfl (lk_cons rfl (lk_cons rfl (lk_cons rfl (lk_cons rfl (lk_cons rfl (lk_cons rfl (lk_cons rfl (lk_cons rfl (lk_cons rfl (lk_cons rfl (lk_cons rfl (lk_cons rfl (lk_cons rfl (lk_cons rfl (lk_cons rfl (lk_cons rfl (lk_cons rfl (lk_cons rfl (lk_cons rfl lk_nil)))))))))))))))))))) (.cons 0 rfl (.cons 0 rfl (.cons 0 rfl (.cons 0 rfl .nil)))) (.cons 1 rfl (.cons 1 rfl (.cons 1 rfl (.cons 1 rfl .nil)))) fk_nil
          · refine sxc_skip ?_
            exact sxq_meetP ((x69, x69, 0, 0, 0, 0), ()) (lk_cons rfl (lk_cons rfl (lk_cons rfl (lk_cons rfl (lk_cons rfl (lk_cons rfl (lk_cons rfl (lk_cons rfl (lk_cons rfl (lk_cons rfl (lk_cons rfl (lk_cons rfl (lk_cons rfl (lk_cons rfl (lk_cons rfl (lk_cons rfl (lk_cons rfl (lk_cons rfl (lk_cons rfl (lk_cons rfl lk_nil)))))))))))))))))))) (.cons 0 rfl (.cons 0 rfl (.cons 0 rfl (.cons 0 rfl .nil)))) (.cons 0 rfl (.cons 0 rfl (.cons 0 rfl (.cons 0 rfl .nil)))) fk_nil
        · rintro ⟨⟨x81, x82, x83, x84, x85, x86⟩, _⟩
          try dsimp only
          refine sxc_seq ?_
          refine sxc_region ?_
          refine sxo_call ent37 rfl rfl rfl (fun x87 e87 => C_L_golombBegun F  x87 e87) .nil (fun x87 e87 => ?_)
          intro _
          refine sxo_move rfl rfl rfl ?_
          refine sxo_join 4 (fun ((x90, _) : (Bool × Unit)) => [(10, .int .i64 x9.2.2), (11, .pointer (some ⟨g16, 0, none⟩)), (12, .int .i64 x13.2.2), (13, .int .u64 x17.1), (14, .int .i64 x17.2.1), (15, .int .i64 x17.2.2), (16, .int .u64 x18.1), (17, .int .i64 x18.2.1), (18, .int .i64 x18.2.2), (21, .pointer (some ⟨g21, 0, none⟩)), (22, .int .i64 x31), (23, .int .i64 x61), (24, .int .i64 x81), (25, .int .i64 x82), (26, .int .u64 x83), (27, .int .i64 x84), (28, .int .u64 x85), (29, .int .i64 x86), (133, .bool x90)]) (fun ((x90, _) : (Bool × Unit)) => [⟨g21, 25, [.int .i64 x62, .slice a63 x65.length c64]⟩, ⟨g16, 25, [.int .i64 x13.1, .slice a14 x13.2.1.length c15]⟩]) (fun ((x90, _) : (Bool × Unit)) => [Ro (eI .u8) 5 1 (.slice a63 x65.length c64) x65, Ro (eI .u8) 5 1 (.slice a14 x13.2.1.length c15) x13.2.1]) (fun ((x90, _) : (Bool × Unit)) => []) (fun ((x90, _) : (Bool × Unit)) => M_L_GolombTells_j7 F x9 x13 x17 x18 x31 x61 x62 x65 x81 x82 x83 x84 x85 x86 x90) ?_ ?_
          · refine sxo_take (os := _) rfl ?_
            refine sxo_if (fun h88 => ?_) (fun h88 => ?_)
            · refine sxo_isT (k := 129) rfl h88 ?_
              refine sxo_loadB (i := 3) rfl rfl tf25 rfl rfl (by simp) rfl rfl ?_
              refine sxo_loadB (i := 1) rfl rfl tf25 rfl rfl (by simp) rfl rfl ?_
              refine sxo_call ent28 rfl rfl rfl (fun x103 e103 => C_R_SameBits F x9.1 x9.2.1 a10 c11 x32 x35 a33 c34 x103 e103) (.consR 3 (Ro (eI .u8) 5 1 (.slice a10 x9.2.1.length c11) x9.2.1) rfl (.consR 1 (Ro (eI .u8) 5 1 (.slice a33 x35.length c34) x35) rfl .nil)) (fun x103 e103 => ?_)
              intro _
              refine sxo_pick (b := true) rfl rfl rfl rfl ?_
              refine sxo_nil ?_
              exact sxq_meetP (x103, ()) (lk_cons rfl (lk_cons rfl (lk_cons rfl (lk_cons rfl (lk_cons rfl (lk_cons rfl (lk_cons rfl (lk_cons rfl (lk_cons rfl (lk_cons rfl (lk_cons rfl (lk_cons rfl (lk_cons rfl (lk_cons rfl (lk_cons rfl (lk_cons rfl (lk_cons rfl (lk_cons rfl (lk_cons rfl lk_nil))))))))))))))))))) (.cons 0 rfl (.cons 1 rfl .nil)) (.cons 0 rfl (.cons 1 rfl .nil)) fk_nil
            · refine sxo_isF (k := 129) rfl h88 ?_
              refine sxo_skip rfl rfl rfl ?_
              refine sxo_skip rfl rfl rfl ?_
              refine sxo_skip rfl rfl rfl ?_
              refine sxo_pick (b := false) rfl rfl rfl rfl ?_
              refine sxo_nil ?_
              exact sxq_meetP (false, ()) (lk_cons rfl (lk_cons rfl (lk_cons rfl (lk_cons rfl (lk_cons rfl (lk_cons rfl (lk_cons rfl (lk_cons rfl (lk_cons rfl (lk_cons rfl (lk_cons rfl (lk_cons rfl (lk_cons rfl (lk_cons rfl (lk_cons rfl (lk_cons rfl (lk_cons rfl (lk_cons rfl (lk_cons rfl lk_nil))))))))))))))))))) (.cons 0 rfl (.cons 1 rfl .nil)) (.cons 0 rfl (.cons 1 rfl .nil)) fk_nil
          · rintro ⟨x90, _⟩
            try dsimp only
            refine sxo_take (os := _) rfl ?_
            refine sxo_move rfl rfl rfl ?_
            refine sxo_case 4 x90 [(11, .pointer (some ⟨g16, 0, none⟩)), (12, .int .i64 x13.2.2), (13, .int .u64 x17.1), (14, .int .i64 x17.2.1), (15, .int .i64 x17.2.2), (16, .int .u64 x18.1), (17, .int .i64 x18.2.1), (18, .int .i64 x18.2.2), (21, .pointer (some ⟨g21, 0, none⟩)), (23, .int .i64 x61), (24, .int .i64 x81), (25, .int .i64 x82), (26, .int .u64 x83), (27, .int .i64 x84), (28, .int .u64 x85), (29, .int .i64 x86), (138, .bool (x90 && ((x9.2.2 : Int) == x31)))] (fun h91 => ?_) (fun h91 => ?_) ?_
            · refine sxo_take (os := _) rfl ?_
              refine sxo_isT (k := 134) rfl h91 ?_
              refine sxo_move rfl rfl rfl ?_
              refine sxo_move rfl rfl rfl ?_
              refine sxo_eql rfl rfl rfl rfl ?_
              refine sxo_pick (b := true) rfl rfl rfl rfl ?_
              refine sxo_again (d := 138) (v := .bool (x90 && ((x9.2.2 : Int) == x31))) rfl (by rw [h91]; simp only [Bool.true_and]) ?_
              refine sxo_nil ?_
              exact sxq_case (lk_cons rfl (lk_cons rfl (lk_cons rfl (lk_cons rfl (lk_cons rfl (lk_cons rfl (lk_cons rfl (lk_cons rfl (lk_cons rfl (lk_cons rfl (lk_cons rfl (lk_cons rfl (lk_cons rfl (lk_cons rfl (lk_cons rfl (lk_cons rfl (lk_cons rfl lk_nil)))))))))))))))))
            · refine sxo_take (os := _) rfl ?_
              refine sxo_isF (k := 134) rfl h91 ?_
              refine sxo_skip rfl rfl rfl ?_
              refine sxo_skip rfl rfl rfl ?_
              refine sxo_skip rfl rfl rfl ?_
              refine sxo_pick (b := false) rfl rfl rfl rfl ?_
              refine sxo_again (d := 138) (v := .bool (x90 && ((x9.2.2 : Int) == x31))) rfl (by rw [h91]; simp only [Bool.false_and]) ?_
              refine sxo_nil ?_
              exact sxq_case (lk_cons rfl (lk_cons rfl (lk_cons rfl (lk_cons rfl (lk_cons rfl (lk_cons rfl (lk_cons rfl (lk_cons rfl (lk_cons rfl (lk_cons rfl (lk_cons rfl (lk_cons rfl (lk_cons rfl (lk_cons rfl (lk_cons rfl (lk_cons rfl (lk_cons rfl lk_nil)))))))))))))))))
            refine sxo_take (os := _) rfl ?_
            refine sxo_move rfl rfl rfl ?_
            refine sxo_join 4 (fun ((x94, _) : (Bool × Unit)) => [(12, .int .i64 x13.2.2), (13, .int .u64 x17.1), (14, .int .i64 x17.2.1), (15, .int .i64 x17.2.2), (16, .int .u64 x18.1), (17, .int .i64 x18.2.1), (18, .int .i64 x18.2.2), (23, .int .i64 x61), (24, .int .i64 x81), (25, .int .i64 x82), (26, .int .u64 x83), (27, .int .i64 x84), (28, .int .u64 x85), (29, .int .i64 x86), (143, .bool x94)]) (fun ((x94, _) : (Bool × Unit)) => []) (fun ((x94, _) : (Bool × Unit)) => []) (fun ((x94, _) : (Bool × Unit)) => []) (fun ((x94, _) : (Bool × Unit)) => M_L_GolombTells_j8 F x13 x17 x18 x61 x81 x82 x83 x84 x85 x86 x94) ?_ ?_
            · refine sxo_take (os := _) rfl ?_
              refine sxo_if (fun h92 => ?_) (fun h92 => ?_)
              · refine sxo_isT (k := 139) rfl h92 ?_
                refine sxo_loadB (i := 1) rfl rfl tf25 rfl rfl (by simp) rfl rfl ?_
                refine sxo_loadB (i := 0) rfl rfl tf25 rfl rfl (by simp) rfl rfl ?_
                refine sxo_call ent28 rfl rfl rfl (fun x102 e102 => C_R_SameBits F x13.1 x13.2.1 a14 c15 x62 x65 a63 c64 x102 e102) (.consR 1 (Ro (eI .u8) 5 1 (.slice a14 x13.2.1.length c15) x13.2.1) rfl (.consR 0 (Ro (eI .u8) 5 1 (.slice a63 x65.length c64) x65) rfl .nil)) (fun x102 e102 => ?_)
                intro _
                refine sxo_pick (b := true) rfl rfl rfl rfl ?_
                refine sxo_nil ?_
                exact sxq_meetP (x102, ()) (lk_cons rfl (lk_cons rfl (lk_cons rfl (lk_cons rfl (lk_cons rfl (lk_cons rfl (lk_cons rfl (lk_cons rfl (lk_cons rfl (lk_cons rfl (lk_cons rfl (lk_cons rfl (lk_cons rfl (lk_cons rfl (lk_cons rfl lk_nil))))))))))))))) .nil .nil fk_nil
              · refine sxo_isF (k := 139) rfl h92 ?_
                refine sxo_skip rfl rfl rfl ?_
                refine sxo_skip rfl rfl rfl ?_
                refine sxo_skip rfl rfl rfl ?_
                refine sxo_pick (b := false) rfl rfl rfl rfl ?_
                refine sxo_nil ?_
                exact sxq_meetP (false, ()) (lk_cons rfl (lk_cons rfl (lk_cons rfl (lk_cons rfl (lk_cons rfl (lk_cons rfl (lk_cons rfl (lk_cons rfl (lk_cons rfl (lk_cons rfl (lk_cons rfl (lk_cons rfl (lk_cons rfl (lk_cons rfl (lk_cons rfl lk_nil))))))))))))))) .nil .nil fk_nil
            · rintro ⟨x94, _⟩
              try dsimp only
              refine sxo_take (os := _) rfl ?_
              refine sxo_move rfl rfl rfl ?_
              refine sxo_case 4 x94 [(13, .int .u64 x17.1), (14, .int .i64 x17.2.1), (15, .int .i64 x17.2.2), (16, .int .u64 x18.1), (17, .int .i64 x18.2.1), (18, .int .i64 x18.2.2), (24, .int .i64 x81), (25, .int .i64 x82), (26, .int .u64 x83), (27, .int .i64 x84), (28, .int .u64 x85), (29, .int .i64 x86), (148, .bool (x94 && ((x13.2.2 : Int) == x61)))] (fun h95 => ?_) (fun h95 => ?_) ?_
              · refine sxo_take (os := _) rfl ?_
                refine sxo_isT (k := 144) rfl h95 ?_
                refine sxo_move rfl rfl rfl ?_
                refine sxo_move rfl rfl rfl ?_
                refine sxo_eql rfl rfl rfl rfl ?_
                refine sxo_pick (b := true) rfl rfl rfl rfl ?_
                refine sxo_again (d := 148) (v := .bool (x94 && ((x13.2.2 : Int) == x61))) rfl (by rw [h95]; simp only [Bool.true_and]) ?_
                refine sxo_nil ?_
                exact sxq_case (lk_cons rfl (lk_cons rfl (lk_cons rfl (lk_cons rfl (lk_cons rfl (lk_cons rfl (lk_cons rfl (lk_cons rfl (lk_cons rfl (lk_cons rfl (lk_cons rfl (lk_cons rfl (lk_cons rfl lk_nil)))))))))))))
              · refine sxo_take (os := _) rfl ?_
                refine sxo_isF (k := 144) rfl h95 ?_
                refine sxo_skip rfl rfl rfl ?_
                refine sxo_skip rfl rfl rfl ?_
                refine sxo_skip rfl rfl rfl ?_
                refine sxo_pick (b := false) rfl rfl rfl rfl ?_
                refine sxo_again (d := 148) (v := .bool (x94 && ((x13.2.2 : Int) == x61))) rfl (by rw [h95]; simp only [Bool.false_and]) ?_
                refine sxo_nil ?_
                exact sxq_case (lk_cons rfl (lk_cons rfl (lk_cons rfl (lk_cons rfl (lk_cons rfl (lk_cons rfl (lk_cons rfl (lk_cons rfl (lk_cons rfl (lk_cons rfl (lk_cons rfl (lk_cons rfl (lk_cons rfl lk_nil)))))))))))))
              refine sxo_take (os := _) rfl ?_
              refine sxo_move rfl rfl rfl ?_
              refine sxo_case 4 (x94 && ((x13.2.2 : Int) == x61)) [(14, .int .i64 x17.2.1), (15, .int .i64 x17.2.2), (16, .int .u64 x18.1), (17, .int .i64 x18.2.1), (18, .int .i64 x18.2.2), (24, .int .i64 x81), (25, .int .i64 x82), (27, .int .i64 x84), (28, .int .u64 x85), (29, .int .i64 x86), (153, .bool ((x94 && ((x13.2.2 : Int) == x61)) && ((x17.1 : Int) == x83)))] (fun h96 => ?_) (fun h96 => ?_) ?_
              · refine sxo_take (os := _) rfl ?_
                refine sxo_isT (k := 149) rfl h96 ?_
                refine sxo_move rfl rfl rfl ?_
                refine sxo_move rfl rfl rfl ?_
                refine sxo_eql rfl rfl rfl rfl ?_
                refine sxo_pick (b := true) rfl rfl rfl rfl ?_
                refine sxo_again (d := 153) (v := .bool ((x94 && ((x13.2.2 : Int) == x61)) && ((x17.1 : Int) == x83))) rfl (by rw [h96]; simp only [Bool.true_and]) ?_
                refine sxo_nil ?_
                exact sxq_case (lk_cons rfl (lk_cons rfl (lk_cons rfl (lk_cons rfl (lk_cons rfl (lk_cons rfl (lk_cons rfl (lk_cons rfl (lk_cons rfl (lk_cons rfl (lk_cons rfl lk_nil)))))))))))
              · refine sxo_take (os := _) rfl ?_
                refine sxo_isF (k := 149) rfl h96 ?_
                refine sxo_skip rfl rfl rfl ?_
                refine sxo_skip rfl rfl rfl ?_
                refine sxo_skip rfl rfl rfl ?_
                refine sxo_pick (b := false) rfl rfl rfl rfl ?_
                refine sxo_again (d := 153) (v := .bool ((x94 && ((x13.2.2 : Int) == x61)) && ((x17.1 : Int) == x83))) rfl (by rw [h96]; simp only [Bool.false_and]) ?_
                refine sxo_nil ?_
                exact sxq_case (lk_cons rfl (lk_cons rfl (lk_cons rfl (lk_cons rfl (lk_cons rfl (lk_cons rfl (lk_cons rfl (lk_cons rfl (lk_cons rfl (lk_cons rfl (lk_cons rfl lk_nil)))))))))))
              refine sxo_take (os := _) rfl ?_
              refine sxo_move rfl rfl rfl ?_
              refine sxo_case 4 ((x94 && ((x13.2.2 : Int) == x61)) && ((x17.1 : Int) == x83)) [(15, .int .i64 x17.2.2), (16, .int .u64 x18.1), (17, .int .i64 x18.2.1), (18, .int .i64 x18.2.2), (24, .int .i64 x81), (25, .int .i64 x82), (28, .int .u64 x85), (29, .int .i64 x86), (158, .bool (((x94 && ((x13.2.2 : Int) == x61)) && ((x17.1 : Int) == x83)) && ((x17.2.1 : Int) == x84)))] (fun h97 => ?_) (fun h97 => ?_) ?_
              · refine sxo_take (os := _) rfl ?_
                refine sxo_isT (k := 154) rfl h97 ?_
                refine sxo_move rfl rfl rfl ?_
                refine sxo_move rfl rfl rfl ?_
                refine sxo_eql rfl rfl rfl rfl ?_
                refine sxo_pick (b := true) rfl rfl rfl rfl ?_
                refine sxo_again (d := 158) (v := .bool (((x94 && ((x13.2.2 : Int) == x61)) && ((x17.1 : Int) == x83)) && ((x17.2.1 : Int) == x84))) rfl (by rw [h97]; simp only [Bool.true_and]) ?_
                refine sxo_nil ?_
                exact sxq_case (lk_cons rfl (lk_cons rfl (lk_cons rfl (lk_cons rfl (lk_cons rfl (lk_cons rfl (lk_cons rfl (lk_cons rfl (lk_cons rfl lk_nil)))))))))
              · refine sxo_take (os := _) rfl ?_
                refine sxo_isF (k := 154) rfl h97 ?_
                refine sxo_skip rfl rfl rfl ?_
                refine sxo_skip rfl rfl rfl ?_
                refine sxo_skip rfl rfl rfl ?_
                refine sxo_pick (b := false) rfl rfl rfl rfl ?_
                refine sxo_again (d := 158) (v := .bool (((x94 && ((x13.2.2 : Int) == x61)) && ((x17.1 : Int) == x83)) && ((x17.2.1 : Int) == x84))) rfl (by rw [h97]; simp only [Bool.false_and]) ?_
                refine sxo_nil ?_
                exact sxq_case (lk_cons rfl (lk_cons rfl (lk_cons rfl (lk_cons rfl (lk_cons rfl (lk_cons rfl (lk_cons rfl (lk_cons rfl (lk_cons rfl lk_nil)))))))))
              refine sxo_take (os := _) rfl ?_
              refine sxo_move rfl rfl rfl ?_
              refine sxo_case 4 (((x94 && ((x13.2.2 : Int) == x61)) && ((x17.1 : Int) == x83)) && ((x17.2.1 : Int) == x84)) [(16, .int .u64 x18.1), (17, .int .i64 x18.2.1), (18, .int .i64 x18.2.2), (25, .int .i64 x82), (28, .int .u64 x85), (29, .int .i64 x86), (163, .bool ((((x94 && ((x13.2.2 : Int) == x61)) && ((x17.1 : Int) == x83)) && ((x17.2.1 : Int) == x84)) && ((x17.2.2 : Int) == x81)))] (fun h98 => ?_) (fun h98 => ?_) ?_
              · refine sxo_take (os := _) rfl ?_
                refine sxo_isT (k := 159) rfl h98 ?_
                refine sxo_move rfl rfl rfl ?_
                refine sxo_move rfl rfl rfl ?_
                refine sxo_eql rfl rfl rfl rfl ?_
                refine sxo_pick (b := true) rfl rfl rfl rfl ?_
                refine sxo_again (d := 163) (v := .bool ((((x94 && ((x13.2.2 : Int) == x61)) && ((x17.1 : Int) == x83)) && ((x17.2.1 : Int) == x84)) && ((x17.2.2 : Int) == x81))) rfl (by rw [h98]; simp only [Bool.true_and]) ?_
                refine sxo_nil ?_
                exact sxq_case (lk_cons rfl (lk_cons rfl (lk_cons rfl (lk_cons rfl (lk_cons rfl (lk_cons rfl (lk_cons rfl lk_nil)))))))
              · refine sxo_take (os := _) rfl ?_
                refine sxo_isF (k := 159) rfl h98 ?_
                refine sxo_skip rfl rfl rfl ?_
                refine sxo_skip rfl rfl rfl ?_
                refine sxo_skip rfl rfl rfl ?_
                refine sxo_pick (b := false) rfl rfl rfl rfl ?_
                refine sxo_again (d := 163) (v := .bool ((((x94 && ((x13.2.2 : Int) == x61)) && ((x17.1 : Int) == x83)) && ((x17.2.1 : Int) == x84)) && ((x17.2.2 : Int) == x81))) rfl (by rw [h98]; simp only [Bool.false_and]) ?_
                refine sxo_nil ?_
                exact sxq_case (lk_cons rfl (lk_cons rfl (lk_cons rfl (lk_cons rfl (lk_cons rfl (lk_cons rfl (lk_cons rfl lk_nil)))))))
              refine sxo_take (os := _) rfl ?_
              refine sxo_move rfl rfl rfl ?_
              refine sxo_case 4 ((((x94 && ((x13.2.2 : Int) == x61)) && ((x17.1 : Int) == x83)) && ((x17.2.1 : Int) == x84)) && ((x17.2.2 : Int) == x81)) [(17, .int .i64 x18.2.1), (18, .int .i64 x18.2.2), (25, .int .i64 x82), (29, .int .i64 x86), (168, .bool (((((x94 && ((x13.2.2 : Int) == x61)) && ((x17.1 : Int) == x83)) && ((x17.2.1 : Int) == x84)) && ((x17.2.2 : Int) == x81)) && ((x18.1 : Int) == x85)))] (fun h99 => ?_) (fun h99 => ?_) ?_
              · refine sxo_take (os := _) rfl ?_
                refine sxo_isT (k := 164) rfl h99 ?_
                refine sxo_move rfl rfl rfl ?_
                refine sxo_move rfl rfl rfl ?_
                refine sxo_eql rfl rfl rfl rfl ?_
                refine sxo_pick (b := true) rfl rfl rfl rfl ?_
                refine sxo_again (d := 168) (v := .bool (((((x94 && ((x13.2.2 : Int) == x61)) && ((x17.1 : Int) == x83)) && ((x17.2.1 : Int) == x84)) && ((x17.2.2 : Int) == x81)) && ((x18.1 : Int) == x85))) rfl (by rw [h99]; simp only [Bool.true_and]) ?_
                refine sxo_nil ?_
                exact sxq_case (lk_cons rfl (lk_cons rfl (lk_cons rfl (lk_cons rfl (lk_cons rfl lk_nil)))))
              · refine sxo_take (os := _) rfl ?_
                refine sxo_isF (k := 164) rfl h99 ?_
                refine sxo_skip rfl rfl rfl ?_
                refine sxo_skip rfl rfl rfl ?_
                refine sxo_skip rfl rfl rfl ?_
                refine sxo_pick (b := false) rfl rfl rfl rfl ?_
                refine sxo_again (d := 168) (v := .bool (((((x94 && ((x13.2.2 : Int) == x61)) && ((x17.1 : Int) == x83)) && ((x17.2.1 : Int) == x84)) && ((x17.2.2 : Int) == x81)) && ((x18.1 : Int) == x85))) rfl (by rw [h99]; simp only [Bool.false_and]) ?_
                refine sxo_nil ?_
                exact sxq_case (lk_cons rfl (lk_cons rfl (lk_cons rfl (lk_cons rfl (lk_cons rfl lk_nil)))))
              refine sxo_take (os := _) rfl ?_
              refine sxo_move rfl rfl rfl ?_
              refine sxo_case 4 (((((x94 && ((x13.2.2 : Int) == x61)) && ((x17.1 : Int) == x83)) && ((x17.2.1 : Int) == x84)) && ((x17.2.2 : Int) == x81)) && ((x18.1 : Int) == x85)) [(18, .int .i64 x18.2.2), (25, .int .i64 x82), (173, .bool ((((((x94 && ((x13.2.2 : Int) == x61)) && ((x17.1 : Int) == x83)) && ((x17.2.1 : Int) == x84)) && ((x17.2.2 : Int) == x81)) && ((x18.1 : Int) == x85)) && ((x18.2.1 : Int) == x86)))] (fun h100 => ?_) (fun h100 => ?_) ?_
              · refine sxo_take (os := _) rfl ?_
                refine sxo_isT (k := 169) rfl h100 ?_
                refine sxo_move rfl rfl rfl ?_
                refine sxo_move rfl rfl rfl ?_
                refine sxo_eql rfl rfl rfl rfl ?_
                refine sxo_pick (b := true) rfl rfl rfl rfl ?_
                refine sxo_again (d := 173) (v := .bool ((((((x94 && ((x13.2.2 : Int) == x61)) && ((x17.1 : Int) == x83)) && ((x17.2.1 : Int) == x84)) && ((x17.2.2 : Int) == x81)) && ((x18.1 : Int) == x85)) && ((x18.2.1 : Int) == x86))) rfl (by rw [h100]; simp only [Bool.true_and]) ?_
                refine sxo_nil ?_
                exact sxq_case (lk_cons rfl (lk_cons rfl (lk_cons rfl lk_nil)))
              · refine sxo_take (os := _) rfl ?_
                refine sxo_isF (k := 169) rfl h100 ?_
                refine sxo_skip rfl rfl rfl ?_
                refine sxo_skip rfl rfl rfl ?_
                refine sxo_skip rfl rfl rfl ?_
                refine sxo_pick (b := false) rfl rfl rfl rfl ?_
                refine sxo_again (d := 173) (v := .bool ((((((x94 && ((x13.2.2 : Int) == x61)) && ((x17.1 : Int) == x83)) && ((x17.2.1 : Int) == x84)) && ((x17.2.2 : Int) == x81)) && ((x18.1 : Int) == x85)) && ((x18.2.1 : Int) == x86))) rfl (by rw [h100]; simp only [Bool.false_and]) ?_
                refine sxo_nil ?_
                exact sxq_case (lk_cons rfl (lk_cons rfl (lk_cons rfl lk_nil)))
              refine sxo_take (os := _) rfl ?_
              refine sxo_move rfl rfl rfl ?_
              refine sxo_case 4 ((((((x94 && ((x13.2.2 : Int) == x61)) && ((x17.1 : Int) == x83)) && ((x17.2.1 : Int) == x84)) && ((x17.2.2 : Int) == x81)) && ((x18.1 : Int) == x85)) && ((x18.2.1 : Int) == x86)) [(178, .bool (((((((x94 && ((x13.2.2 : Int) == x61)) && ((x17.1 : Int) == x83)) && ((x17.2.1 : Int) == x84)) && ((x17.2.2 : Int) == x81)) && ((x18.1 : Int) == x85)) && ((x18.2.1 : Int) == x86)) && ((x18.2.2 : Int) == x82)))] (fun h101 => ?_) (fun h101 => ?_) ?_
              · refine sxo_take (os := _) rfl ?_
                refine sxo_isT (k := 174) rfl h101 ?_
                refine sxo_move rfl rfl rfl ?_
                refine sxo_move rfl rfl rfl ?_
                refine sxo_eql rfl rfl rfl rfl ?_
                refine sxo_pick (b := true) rfl rfl rfl rfl ?_
                refine sxo_again (d := 178) (v := .bool (((((((x94 && ((x13.2.2 : Int) == x61)) && ((x17.1 : Int) == x83)) && ((x17.2.1 : Int) == x84)) && ((x17.2.2 : Int) == x81)) && ((x18.1 : Int) == x85)) && ((x18.2.1 : Int) == x86)) && ((x18.2.2 : Int) == x82))) rfl (by rw [h101]; simp only [Bool.true_and]) ?_
                refine sxo_nil ?_
                exact sxq_case (lk_cons rfl lk_nil)
              · refine sxo_take (os := _) rfl ?_
                refine sxo_isF (k := 174) rfl h101 ?_
                refine sxo_skip rfl rfl rfl ?_
                refine sxo_skip rfl rfl rfl ?_
                refine sxo_skip rfl rfl rfl ?_
                refine sxo_pick (b := false) rfl rfl rfl rfl ?_
                refine sxo_again (d := 178) (v := .bool (((((((x94 && ((x13.2.2 : Int) == x61)) && ((x17.1 : Int) == x83)) && ((x17.2.1 : Int) == x84)) && ((x17.2.2 : Int) == x81)) && ((x18.1 : Int) == x85)) && ((x18.2.1 : Int) == x86)) && ((x18.2.2 : Int) == x82))) rfl (by rw [h101]; simp only [Bool.false_and]) ?_
                refine sxo_nil ?_
                exact sxq_case (lk_cons rfl lk_nil)
              refine sxo_take (os := _) rfl ?_
              refine sxo_assign rfl rfl rfl ?_
              refine sxo_nil ?_
              refine sxq_next ?_
              refine sxc_ret ?_
              exact sxq_doneP () (.inl rfl) (res1 rfl rfl) (fun h => by subst h; rfl) (fun h => by subst h; exact .nil)

theorem C_R_zetaSpan (F : Nat) (x1 : Int) (x2 : Int) (r : (Int × Int × Int)) (hm : M_R_zetaSpan F x1 x2 = some r) :
    Pure Try.prog 76 [.int .u64 x1, .int .i64 x2] [] Unit (fun _ => .tuple #[.int .u64 r.1, .int .u64 r.2.1, .int .u64 r.2.2]) (fun _ => []) (fun _ => []) := by
  refine pure_of Try.func76 rfl Try.ntmps76 rfl hm (fun w => ?_)
  refine sxc_env (l' := [(0, .int .u64 x1), (1, .int .i64 x2)]) rfl ?_
  refine sxc_seq ?_
  refine sxc_region ?_
  refine sxo_assign rfl rfl rfl ?_
  refine sxo_assign rfl rfl rfl ?_
  refine sxo_assign rfl rfl rfl ?_
  refine sxo_nil ?_
  refine sxq_next ?_
  refine sxc_seq ?_
  refine sxc_region ?_
  refine sxo_assign rfl rfl rfl ?_
  refine sxo_assign rfl rfl rfl ?_
  refine sxo_nil ?_
  refine sxq_next ?_
  refine sxc_join (fun (((x21, x22), _) : ((Int × Int) × Unit)) => [(1, .int .i64 x2), (7, .int .u64 x21), (8, .int .u64 x22)]) (fun (((x21, x22), _) : ((Int × Int) × Unit)) => []) (fun (((x21, x22), _) : ((Int × Int) × Unit)) => []) (fun (((x21, x22), _) : ((Int × Int) × Unit)) => []) (fun (((x21, x22), _) : ((Int × Int) × Unit)) => M_R_zetaSpan_j2 F x2 x21 x22) ?_ ?_
  · refine sxc_block ?_
    refine sxc_loopP (fun (((x34, x35), _) : ((Int × Int) × Unit)) => [(0, .int .u64 x1), (1, .int .i64 x2), (7, .int .u64 x34), (8, .int .u64 x35)]) (fun (((x34, x35), _) : ((Int × Int) × Unit)) => []) (fun (((x34, x35), _) : ((Int × Int) × Unit)) => []) (fun (((x34, x35), _) : ((Int × Int) × Unit)) => []) (fun k (s : ((Int × Int) × Unit)) => M_R_zetaSpan_l3 F x1 x2 k s.1) ((0, 1), ()) F (lk_cons rfl (lk_cons rfl (lk_cons rfl (lk_cons rfl lk_nil)))) .nil .nil fk_nil (fun _ => rfl) ?_
    intro k41
    rintro ⟨⟨x34, x35⟩, _⟩
    try dsimp only
    refine sxc_meq (m' := M_R_zetaSpan_b3 F x1 x2 (M_R_zetaSpan_l3 F x1 x2 k41) x34 x35) rfl ?_
    refine sxc_seq ?_
    refine sxc_seq ?_
    refine sxc_region ?_
    refine sxo_move rfl rfl rfl ?_
    refine sxo_add rfl rfl rfl rfl ?_
    refine sxo_move rfl rfl rfl ?_
    refine sxo_move rfl rfl rfl ?_
    refine sxo_chk (fun h44 => ?_)
    refine sxo_shl rfl rfl rfl rfl h44 ?_
    refine sxo_geq rfl rfl rfl rfl ?_
    refine sxo_nil ?_
    refine sxq_next ?_
    refine sxc_if rfl (fun h46 => ?_) (fun h46 => ?_)
    · refine sxc_skip ?_
      refine sxq_next ?_
      refine sxc_block ?_
      refine sxc_seq ?_
      refine sxc_region ?_
      refine sxo_move rfl rfl rfl ?_
      refine sxo_move rfl rfl rfl ?_
      refine sxo_chk (fun h45 => ?_)
      refine sxo_shl rfl rfl rfl rfl h45 ?_
      refine sxo_assign rfl rfl rfl ?_
      refine sxo_nil ?_
      refine sxq_next ?_
      refine sxc_region ?_
      refine sxo_move rfl rfl rfl ?_
      refine sxo_add rfl rfl rfl rfl ?_
      refine sxo_assign rfl rfl rfl ?_
      refine sxo_nil ?_
      refine sxq_blkN ?_
      exact sxq_againP ((iadd .u64 x34 1, ishl .u64 x35 x2), ()) (lk_cons rfl (lk_cons rfl (lk_cons rfl (lk_cons rfl lk_nil)))) .nil .nil fk_nil
    · refine sxc_exit ?_
      refine sxq_thenX ?_
      refine sxq_thenX ?_
      refine sxq_blkX ?_
      exact sxq_meetP ((x34, x35), ()) (lk_cons rfl (lk_cons rfl (lk_cons rfl lk_nil))) .nil .nil fk_nil
  · rintro ⟨⟨x21, x22⟩, _⟩
    try dsimp only
    refine sxc_seq ?_
    refine sxc_chk (fun h26 => ?_)
    refine sxb_draw mixed [] [] [] .nil gk_nil 8 rfl ?_
    refine sxb_takeP 0 (.int .u64 x21) rfl rfl rfl rfl (by kernel_rfl) (by kernel_rfl) (by kernel_rfl) (by kernel_rfl) (by kernel_rfl) rfl (show _ = #[true, false, false, false, false, false, false, false] from rfl) (yv_pv rfl) ?_
    refine sxb_takeP 1 (.int .u64 x22) rfl rfl rfl rfl (by kernel_rfl) (by kernel_rfl) (by kernel_rfl) (by kernel_rfl) (by kernel_rfl) rfl (show _ = #[true, true, false, false, false, false, false, false] from rfl) (yv_pv rfl) ?_
    refine sxb_takeP 2 (.int .u64 x22) rfl rfl rfl rfl (by kernel_rfl) (by kernel_rfl) (by kernel_rfl) (by kernel_rfl) (by kernel_rfl) rfl (show _ = #[true, true, true, false, false, false, false, false] from rfl) (yv_pv rfl) ?_
    refine sxb_takeP 3 (.int .i64 x2) rfl rfl rfl rfl (by kernel_rfl) (by kernel_rfl) (by kernel_rfl) (by kernel_rfl) (by kernel_rfl) rfl (show _ = #[true, true, true, true, false, false, false, false] from rfl) (yv_pv rfl) ?_
    refine sxb_takeP 4 (.int .u64 (ishl .u64 x22 x2)) rfl rfl rfl rfl (by kernel_rfl) (by kernel_rfl) (by kernel_rfl) (by kernel_rfl) (by kernel_rfl) rfl (show _ = #[true, true, true, true, true, false, false, false] from rfl) (yv_shl rfl rfl h26) ?_
    refine sxb_takeP 5 (.int .u64 x21) rfl rfl rfl rfl (by kernel_rfl) (by kernel_rfl) (by kernel_rfl) (by kernel_rfl) (by kernel_rfl) rfl (show _ = #[true, true, true, true, true, true, false, false] from rfl) (yv_pv rfl) ?_
    refine sxb_takeP 6 (.int .u64 x22) rfl rfl rfl rfl (by kernel_rfl) (by kernel_rfl) (by kernel_rfl) (by kernel_rfl) (by kernel_rfl) rfl (show _ = #[true, true, true, true, true, true, true, false] from rfl) (yv_pv rfl) ?_
    refine sxb_takeP 7 (.int .u64 (ishl .u64 x22 x2)) rfl rfl rfl rfl (by kernel_rfl) (by kernel_rfl) (by kernel_rfl) (by kernel_rfl) (by kernel_rfl) rfl (show _ = #[true, true, true, true, true, true, true, true] from rfl) (yv_pv rfl) ?_
    refine sxb_done (by kernel_rfl) ?_
    refine sxq_np ?_ (by intro c h; cases h)
    refine sxq_next ?_
    refine sxc_ret ?_
    exact sxq_doneP () (.inl rfl) (res3 rfl rfl rfl rfl) (fun h => by subst h; rfl) (fun h => by subst h; exact .nil)

theorem C_R_ZetaList (F : Nat) (x1 : Int) (x2 : Int) (r : List Int) (hm : M_R_ZetaList F x1 x2 = some r) :
    Pure Try.prog 40 [.int .u64 x1, .int .i64 x2] [] (Option Addr × Nat) (fun g => .slice g.1 r.length g.2) (fun g => [Ro (eI .i64) 3 1 (.slice g.1 r.length g.2) r]) (fun _ => []) := by
  refine pure_of Try.func40 rfl Try.ntmps40 rfl hm (fun w => ?_)
  refine sxc_env (l' := [(0, .int .u64 x1), (1, .int .i64 x2)]) rfl ?_
  refine sxc_seq ?_
  refine sxc_region ?_
  refine sxo_assign rfl rfl rfl ?_
  refine sxo_nil ?_
  refine sxq_next ?_
  refine sxc_seq ?_
  refine sxc_region ?_
  refine sxo_move rfl rfl rfl ?_
  refine sxo_move rfl rfl rfl ?_
  refine sxo_call ent76 rfl rfl rfl (fun x3 e3 => C_R_zetaSpan F x1 x2 x3 e3) .nil (fun x3 e3 => ?_)
  intro _
  refine sxo_move rfl rfl rfl ?_
  refine sxo_extract rfl rfl rfl rfl ?_
  refine sxo_extract rfl rfl rfl rfl ?_
  refine sxo_extract rfl rfl rfl rfl ?_
  refine sxo_assign rfl rfl rfl ?_
  refine sxo_assign rfl rfl rfl ?_
  refine sxo_assign rfl rfl rfl ?_
  refine sxo_nil ?_
  refine sxq_next ?_
  refine sxc_seq ?_
  refine sxc_region ?_
  refine sxo_move rfl rfl rfl ?_
  refine sxo_call ent34 rfl rfl rfl (fun x4 e4 => C_R_UnaryList F x3.1 x4 e4) .nil (fun x4 e4 => ?_)
  rintro ⟨a5, c6⟩
  refine sxo_move rfl rfl rfl ?_
  refine sxo_add rfl rfl rfl rfl ?_
  refine sxo_move rfl rfl rfl ?_
  refine sxo_sub rfl rfl rfl rfl ?_
  refine sxo_move rfl rfl rfl ?_
  refine sxo_move rfl rfl rfl ?_
  refine sxo_sub rfl rfl rfl rfl ?_
  refine sxo_call ent33 rfl rfl rfl (fun x7 e7 => C_R_LeastList F (isub .u64 (iadd .u64 x1 1) x3.2.1) (isub .u64 x3.2.2 x3.2.1) x7 e7) .nil (fun x7 e7 => ?_)
  rintro ⟨a8, c9⟩
  refine sxo_app 1 (eI_ok .i64) rfl Try.underlying34 tf3 rfl rfl rfl rfl rfl (.inl ⟨0, _, rfl⟩) rfl rfl (fun x10 e10 a11 c12 => ?_)
  refine sxo_assign rfl rfl rfl ?_
  refine sxo_nil ?_
  refine sxq_next ?_
  refine sxc_ret ?_
  exact sxq_doneP (a11, c12) (.inl rfl) (res1 rfl rfl) (fun h => by subst h; rfl) (fun h => by subst h; exact (.cons 0 rfl .nil))

set_option maxHeartbeats 4000000 in
theorem C_R_ZetaRead (F : Nat) (x1 : List Int) (a2 : Option Addr) (c3 : Nat) (x4 : Int) (x5 : Int) (r : (Int × Int × Int)) (hm : M_R_ZetaRead F x1 x4 x5 = some r) :
    Pure Try.prog 41 [.slice a2 x1.length c3, .int .i64 x4, .int .i64 x5] [Sl (eI .i64) 1 (.slice a2 x1.length c3) x1] Unit (fun _ => .tuple #[.int .u64 r.1, .int .i64 r.2.1, .int .i64 r.2.2]) (fun _ => []) (fun _ => []) := by
  refine pure_of Try.func41 rfl Try.ntmps41 rfl hm (fun w => ?_)
  refine sxc_env (l' := [(0, .slice a2 x1.length c3), (1, .int .i64 x4), (2, .int .i64 x5)]) rfl ?_
  refine sxc_seq ?_
  refine sxc_region ?_
  refine sxo_assign rfl rfl rfl ?_
  refine sxo_assign rfl rfl rfl ?_
  refine sxo_assign rfl rfl rfl ?_
  refine sxo_nil ?_
  refine sxq_next ?_
  refine sxc_seq ?_
  refine sxc_region ?_
  refine sxo_move rfl rfl rfl ?_
  refine sxo_move rfl rfl rfl ?_
  refine sxo_call ent63 rfl rfl rfl (fun x6 e6 => C_R_UnaryRead F x1 a2 c3 x4 x6 e6) (.consF 0 rfl .nil) (fun x6 e6 => ?_)
  intro _
  refine sxo_move rfl rfl rfl ?_
  refine sxo_extract rfl rfl rfl rfl ?_
  refine sxo_extract rfl rfl rfl rfl ?_
  refine sxo_assign rfl rfl rfl ?_
  refine sxo_assign rfl rfl rfl ?_
  refine sxo_nil ?_
  refine sxq_next ?_
  refine sxc_seq ?_
  refine sxc_seq ?_
  refine sxc_region ?_
  refine sxo_move rfl rfl rfl ?_
  refine sxo_lss rfl rfl rfl rfl ?_
  refine sxo_nil ?_
  refine sxq_next ?_
  refine sxc_if rfl (fun h49 => ?_) (fun h49 => ?_)
  · refine sxc_seq ?_
    refine sxc_region ?_
    refine sxo_assign rfl rfl rfl ?_
    refine sxo_assign rfl rfl rfl ?_
    refine sxo_assign rfl rfl rfl ?_
    refine sxo_nil ?_
    refine sxq_next ?_
    refine sxc_ret ?_
    refine sxq_thenR ?_
    exact sxq_doneP () (.inl rfl) (res3 rfl rfl rfl rfl) (fun h => by subst h; rfl) (fun h => by subst h; exact .nil)
  · refine sxc_skip ?_
    refine sxq_next ?_
    refine sxc_seq ?_
    refine sxc_seq ?_
    refine sxc_region ?_
    refine sxo_move rfl rfl rfl ?_
    refine sxo_geq rfl rfl rfl rfl ?_
    refine sxo_move rfl rfl rfl ?_
    refine sxo_case 6 (decide (41 ≤ x6.1)) [(0, .slice a2 x1.length c3), (2, .int .i64 x5), (9, .int .u64 x6.1), (10, .int .i64 x6.2), (30, .bool ((decide (41 ≤ x6.1)) || (decide (41 ≤ (imul .i64 (iconv .i64 x6.1) x5)))))] (fun h10 => ?_) (fun h10 => ?_) ?_
    · refine sxo_take (os := _) rfl ?_
      refine sxo_isT (k := 24) rfl h10 ?_
      refine sxo_skip rfl rfl rfl ?_
      refine sxo_skip rfl rfl rfl ?_
      refine sxo_skip rfl rfl rfl ?_
      refine sxo_skip rfl rfl rfl ?_
      refine sxo_skip rfl rfl rfl ?_
      refine sxo_pick (b := true) rfl rfl rfl rfl ?_
      refine sxo_again (d := 30) (v := .bool ((decide (41 ≤ x6.1)) || (decide (41 ≤ (imul .i64 (iconv .i64 x6.1) x5))))) rfl (by rw [h10]; simp only [Bool.true_or]) ?_
      refine sxo_nil ?_
      exact sxq_case (lk_cons rfl (lk_cons rfl (lk_cons rfl (lk_cons rfl (lk_cons rfl lk_nil)))))
    · refine sxo_take (os := _) rfl ?_
      refine sxo_isF (k := 24) rfl h10 ?_
      refine sxo_move rfl rfl rfl ?_
      refine sxo_conv rfl Try.underlying22 Try.underlying3 rfl rfl ?_
      refine sxo_move rfl rfl rfl ?_
      refine sxo_mul rfl rfl rfl rfl ?_
      refine sxo_geq rfl rfl rfl rfl ?_
      refine sxo_pick (b := false) rfl rfl rfl rfl ?_
      refine sxo_again (d := 30) (v := .bool ((decide (41 ≤ x6.1)) || (decide (41 ≤ (imul .i64 (iconv .i64 x6.1) x5))))) rfl (by rw [h10]; simp only [Bool.false_or]) ?_
      refine sxo_nil ?_
      exact sxq_case (lk_cons rfl (lk_cons rfl (lk_cons rfl (lk_cons rfl (lk_cons rfl lk_nil)))))
    refine sxo_take (os := _) rfl ?_
    refine sxo_nil ?_
    refine sxq_next ?_
    refine sxc_if rfl (fun h48 => ?_) (fun h48 => ?_)
    · refine sxc_seq ?_
      refine sxc_region ?_
      refine sxo_assign rfl rfl rfl ?_
      refine sxo_assign rfl rfl rfl ?_
      refine sxo_assign rfl rfl rfl ?_
      refine sxo_nil ?_
      refine sxq_next ?_
      refine sxc_ret ?_
      refine sxq_thenR ?_
      exact sxq_doneP () (.inl rfl) (res3 rfl rfl rfl rfl) (fun h => by subst h; rfl) (fun h => by subst h; exact .nil)
    · refine sxc_skip ?_
      refine sxq_next ?_
      refine sxc_seq ?_
      refine sxc_region ?_
      refine sxo_assign rfl rfl rfl ?_
      refine sxo_nil ?_
      refine sxq_next ?_
      refine sxc_join (fun ((x26, _) : (Int × Unit)) => [(0, .slice a2 x1.length c3), (2, .int .i64 x5), (10, .int .i64 x6.2), (11, .int .u64 x26)]) (fun ((x26, _) : (Int × Unit)) => []) (fun ((x26, _) : (Int × Unit)) => []) (fun ((x26, _) : (Int × Unit)) => [Sl (eI .i64) 1 (.slice a2 x1.length c3) x1]) (fun ((x26, _) : (Int × Unit)) => M_R_ZetaRead_j2 F x1 x5 x6 x26) ?_ ?_
      · refine sxc_seq ?_
        refine sxc_region ?_
        refine sxo_assign rfl rfl rfl ?_
        refine sxo_nil ?_
        refine sxq_next ?_
        refine sxc_block ?_
        refine sxc_loopP (fun (((x37, x38), _) : ((Int × Int) × Unit)) => [(0, .slice a2 x1.length c3), (2, .int .i64 x5), (9, .int .u64 x6.1), (10, .int .i64 x6.2), (11, .int .u64 x37), (12, .int .u64 x38)]) (fun (((x37, x38), _) : ((Int × Int) × Unit)) => []) (fun (((x37, x38), _) : ((Int × Int) × Unit)) => []) (fun (((x37, x38), _) : ((Int × Int) × Unit)) => [Sl (eI .i64) 1 (.slice a2 x1.length c3) x1]) (fun k (s : ((Int × Int) × Unit)) => M_R_ZetaRead_l3 F x1 x5 x6 k s.1) ((1, 0), ()) F (lk_cons rfl (lk_cons rfl (lk_cons rfl (lk_cons rfl (lk_cons rfl (lk_cons rfl lk_nil)))))) .nil .nil (fk_cons 0 rfl fk_nil) (fun _ => rfl) ?_
        intro k43
        rintro ⟨⟨x37, x38⟩, _⟩
        try dsimp only
        refine sxc_meq (m' := M_R_ZetaRead_b3 F x1 x5 x6 (M_R_ZetaRead_l3 F x1 x5 x6 k43) x37 x38) rfl ?_
        refine sxc_seq ?_
        refine sxc_seq ?_
        refine sxc_region ?_
        refine sxo_move rfl rfl rfl ?_
        refine sxo_move rfl rfl rfl ?_
        refine sxo_lss rfl rfl rfl rfl ?_
        refine sxo_nil ?_
        refine sxq_next ?_
        refine sxc_if rfl (fun h47 => ?_) (fun h47 => ?_)
        · refine sxc_skip ?_
          refine sxq_next ?_
          refine sxc_seq ?_
          refine sxc_block ?_
          refine sxc_region ?_
          refine sxo_move rfl rfl rfl ?_
          refine sxo_move rfl rfl rfl ?_
          refine sxo_chk (fun h46 => ?_)
          refine sxo_shl rfl rfl rfl rfl h46 ?_
          refine sxo_assign rfl rfl rfl ?_
          refine sxo_nil ?_
          refine sxq_blkN ?_
          refine sxq_next ?_
          refine sxc_region ?_
          refine sxo_move rfl rfl rfl ?_
          refine sxo_add rfl rfl rfl rfl ?_
          refine sxo_assign rfl rfl rfl ?_
          refine sxo_nil ?_
          exact sxq_againP ((ishl .u64 x37 x5, iadd .u64 x38 1), ()) (lk_cons rfl (lk_cons rfl (lk_cons rfl (lk_cons rfl (lk_cons rfl (lk_cons rfl lk_nil)))))) .nil .nil (fk_cons 0 rfl fk_nil)
        · refine sxc_exit ?_
          refine sxq_thenX ?_
          refine sxq_thenX ?_
          refine sxq_blkX ?_
          exact sxq_meetP (x37, ()) (lk_cons rfl (lk_cons rfl (lk_cons rfl (lk_cons rfl lk_nil)))) .nil .nil (fk_cons 0 rfl fk_nil)
      · rintro ⟨x26, _⟩
        try dsimp only
        refine sxc_seq ?_
        refine sxc_region ?_
        refine sxo_move rfl rfl rfl ?_
        refine sxo_move rfl rfl rfl ?_
        refine sxo_move rfl rfl rfl ?_
        refine sxo_move rfl rfl rfl ?_
        refine sxo_chk (fun h27 => ?_)
        refine sxo_shl rfl rfl rfl rfl h27 ?_
        refine sxo_move rfl rfl rfl ?_
        refine sxo_sub rfl rfl rfl rfl ?_
        refine sxo_call ent35 rfl rfl rfl (fun x28 e28 => C_R_LeastRead F x1 a2 c3 x6.2 (isub .u64 (ishl .u64 x26 x5) x26) x28 e28) (.consF 0 rfl .nil) (fun x28 e28 => ?_)
        intro _
        refine sxo_move rfl rfl rfl ?_
        refine sxo_extract rfl rfl rfl rfl ?_
        refine sxo_extract rfl rfl rfl rfl ?_
        refine sxo_assign rfl rfl rfl ?_
        refine sxo_assign rfl rfl rfl ?_
        refine sxo_nil ?_
        refine sxq_next ?_
        refine sxc_seq ?_
        refine sxc_seq ?_
        refine sxc_region ?_
        refine sxo_move rfl rfl rfl ?_
        refine sxo_lss rfl rfl rfl rfl ?_
        refine sxo_nil ?_
        refine sxq_next ?_
        refine sxc_if rfl (fun h32 => ?_) (fun h32 => ?_)
        · refine sxc_seq ?_
          refine sxc_region ?_
          refine sxo_assign rfl rfl rfl ?_
          refine sxo_assign rfl rfl rfl ?_
          refine sxo_assign rfl rfl rfl ?_
          refine sxo_nil ?_
          refine sxq_next ?_
          refine sxc_ret ?_
          refine sxq_thenR ?_
          exact sxq_doneP () (.inl rfl) (res3 rfl rfl rfl rfl) (fun h => by subst h; rfl) (fun h => by subst h; exact .nil)
        · refine sxc_skip ?_
          refine sxq_next ?_
          refine sxc_seq ?_
          refine sxc_seq ?_
          refine sxc_region ?_
          refine sxo_move rfl rfl rfl ?_
          refine sxo_move rfl rfl rfl ?_
          refine sxo_add rfl rfl rfl rfl ?_
          refine sxo_sub rfl rfl rfl rfl ?_
          refine sxo_gtr rfl rfl rfl rfl ?_
          refine sxo_nil ?_
          refine sxq_next ?_
          refine sxc_if rfl (fun h31 => ?_) (fun h31 => ?_)
          · refine sxc_seq ?_
            refine sxc_region ?_
            refine sxo_assign rfl rfl rfl ?_
            refine sxo_assign rfl rfl rfl ?_
            refine sxo_assign rfl rfl rfl ?_
            refine sxo_nil ?_
            refine sxq_next ?_
            refine sxc_ret ?_
            refine sxq_thenR ?_
            exact sxq_doneP () (.inl rfl) (res3 rfl rfl rfl rfl) (fun h => by subst h; rfl) (fun h => by subst h; exact .nil)
          · refine sxc_skip ?_
            refine sxq_next ?_
            refine sxc_seq ?_
            refine sxc_region ?_
            refine sxo_move rfl rfl rfl ?_
            refine sxo_move rfl rfl rfl ?_
            refine sxo_add rfl rfl rfl rfl ?_
            refine sxo_sub rfl rfl rfl rfl ?_
            refine sxo_move rfl rfl rfl ?_
            refine sxo_assign rfl rfl rfl ?_
            refine sxo_assign rfl rfl rfl ?_
            refine sxo_assign rfl rfl rfl ?_
            refine sxo_nil ?_
            refine sxq_next ?_
            refine sxc_ret ?_
            exact sxq_doneP () (.inl rfl) (res3 rfl rfl rfl rfl) (fun h => by subst h; rfl) (fun h => by subst h; exact .nil)

set_option maxHeartbeats 4000000 in
theorem C_L_GolombZeta (F : Nat) (x1 : Int) (x2 : Int) (x3 : Int) (x4 : List Int) (a5 : Option Addr) (c6 : Nat) (x7 : Int) (r : Bool) (hm : M_L_GolombZeta F x1 x2 x3 x4 x7 = some r) :
    Pure Try.prog 6 [.int .u64 x1, .int .i64 x2, .agg #[.int .i64 x3, .slice a5 x4.length c6], .int .i64 x7] [Sl (eI .u8) 1 (.slice a5 x4.length c6) x4] Unit (fun _ => .bool r) (fun _ => []) (fun _ => []) := by
  refine pure_of Try.func6 rfl Try.ntmps6 rfl hm (fun w => ?_)
  refine sxc_env (l' := [(0, .int .u64 x1), (1, .int .i64 x2), (2, .agg #[.int .i64 x3, .slice a5 x4.length c6]), (3, .int .i64 x7)]) rfl ?_
  refine sxc_seq ?_
  refine sxc_region ?_
  refine sxo_box rfl rfl rfl (fun g8 => ?_)
  refine sxo_assign rfl rfl rfl ?_
  refine sxo_nil ?_
  refine sxq_next ?_
  refine sxc_seq ?_
  refine sxc_region ?_
  refine sxo_move rfl rfl rfl ?_
  refine sxo_move rfl rfl rfl ?_
  refine sxo_call ent38 rfl rfl rfl (fun x9 e9 => C_golomb_Zeta F x1 x2 x9 e9) .nil (fun x9 e9 => ?_)
  rintro ⟨a10, c11⟩
  refine sxo_move rfl rfl rfl ?_
  refine sxo_extract rfl rfl rfl rfl ?_
  refine sxo_extract rfl rfl rfl rfl ?_
  refine sxo_alloc rfl tf25 rfl (fun g12 => ?_)
  refine sxo_storeB (i := 0) rfl rfl rfl tf25 rfl rfl rfl rfl rfl ?_
  refine sxo_assign rfl rfl rfl ?_
  refine sxo_nil ?_
  refine sxq_next ?_
  refine sxc_seq ?_
  refine sxc_region ?_
  refine sxo_loadB (i := 1) rfl rfl tf25 rfl rfl (by simp) rfl rfl ?_
  refine sxo_move rfl rfl rfl ?_
  refine sxo_move rfl rfl rfl ?_
  refine sxo_call ent39 rfl rfl rfl (fun x13 e13 => C_golomb_ReadZeta F x3 x4 a5 c6 x7 x2 x13 e13) (.consF 0 rfl .nil) (fun x13 e13 => ?_)
  intro _
  refine sxo_move rfl rfl rfl ?_
  refine sxo_extract rfl rfl rfl rfl ?_
  refine sxo_extract rfl rfl rfl rfl ?_
  refine sxo_extract rfl rfl rfl rfl ?_
  refine sxo_assign rfl rfl rfl ?_
  refine sxo_assign rfl rfl rfl ?_
  refine sxo_assign rfl rfl rfl ?_
  refine sxo_nil ?_
  refine sxq_next ?_
  refine sxc_seq ?_
  refine sxc_region ?_
  refine sxo_move rfl rfl rfl ?_
  refine sxo_geq rfl rfl rfl rfl ?_
  refine sxo_move rfl rfl rfl ?_
  refine sxo_case 3 (decide (1 ≤ x2)) [(0, .int .u64 x1), (1, .int .i64 x2), (3, .int .i64 x7), (6, .pointer (some ⟨g8, 0, none⟩)), (9, .pointer (some ⟨g12, 0, none⟩)), (10, .int .i64 x9.2.2), (11, .int .u64 x13.1), (12, .int .i64 x13.2.1), (13, .int .i64 x13.2.2), (39, .bool ((decide (1 ≤ x2)) && (decide (x2 ≤ 16))))] (fun h14 => ?_) (fun h14 => ?_) ?_
  · refine sxo_take (os := _) rfl ?_
    refine sxo_isT (k := 36) rfl h14 ?_
    refine sxo_move rfl rfl rfl ?_
    refine sxo_leq rfl rfl rfl rfl ?_
    refine sxo_pick (b := true) rfl rfl rfl rfl ?_
    refine sxo_again (d := 39) (v := .bool ((decide (1 ≤ x2)) && (decide (x2 ≤ 16)))) rfl (by rw [h14]; simp only [Bool.true_and]) ?_
    refine sxo_nil ?_
    exact sxq_case (lk_cons rfl (lk_cons rfl (lk_cons rfl (lk_cons rfl (lk_cons rfl (lk_cons rfl (lk_cons rfl (lk_cons rfl (lk_cons rfl (lk_cons rfl lk_nil))))))))))
  · refine sxo_take (os := _) rfl ?_
    refine sxo_isF (k := 36) rfl h14 ?_
    refine sxo_skip rfl rfl rfl ?_
    refine sxo_skip rfl rfl rfl ?_
    refine sxo_pick (b := false) rfl rfl rfl rfl ?_
    refine sxo_again (d := 39) (v := .bool ((decide (1 ≤ x2)) && (decide (x2 ≤ 16)))) rfl (by rw [h14]; simp only [Bool.false_and]) ?_
    refine sxo_nil ?_
    exact sxq_case (lk_cons rfl (lk_cons rfl (lk_cons rfl (lk_cons rfl (lk_cons rfl (lk_cons rfl (lk_cons rfl (lk_cons rfl (lk_cons rfl (lk_cons rfl lk_nil))))))))))
  refine sxo_take (os := _) rfl ?_
  refine sxo_assign rfl rfl rfl ?_
  refine sxo_nil ?_
  refine sxq_next ?_
  refine sxc_seq ?_
  refine sxc_region ?_
  refine sxo_alloc rfl tf25 rfl (fun g15 => ?_)
  refine sxo_nil ?_
  refine sxq_next ?_
  refine sxc_seq ?_
  refine sxc_region ?_
  refine sxo_assign rfl rfl rfl ?_
  refine sxo_nil ?_
  refine sxq_next ?_
  refine sxc_join (fun (((x25, x26, x29), (a27, c28)) : ((Int × Int × List Int) × (Option Addr × Nat))) => [(1, .int .i64 x2), (3, .int .i64 x7), (6, .pointer (some ⟨g8, 0, none⟩)), (9, .pointer (some ⟨g12, 0, none⟩)), (10, .int .i64 x9.2.2), (11, .int .u64 x13.1), (12, .int .i64 x13.2.1), (13, .int .i64 x13.2.2), (14, .bool ((decide (1 ≤ x2)) && (decide (x2 ≤ 16)))), (15, .pointer (some ⟨g15, 0, none⟩)), (16, .int .i64 x25)]) (fun (((x25, x26, x29), (a27, c28)) : ((Int × Int × List Int) × (Option Addr × Nat))) => [⟨g15, 25, [.int .i64 x26, .slice a27 x29.length c28]⟩, ⟨g12, 25, [.int .i64 x9.1, .slice a10 x9.2.1.length c11]⟩, ⟨g8, 25, [.int .i64 x3, .slice a5 x4.length c6]⟩]) (fun (((x25, x26, x29), (a27, c28)) : ((Int × Int × List Int) × (Option Addr × Nat))) => [Ro (eI .u8) 5 1 (.slice a27 x29.length c28) x29, Ro (eI .u8) 5 1 (.slice a10 x9.2.1.length c11) x9.2.1]) (fun (((x25, x26, x29), (a27, c28)) : ((Int × Int × List Int) × (Option Addr × Nat))) => [Sl (eI .u8) 1 (.slice a5 x4.length c6) x4]) (fun (((x25, x26, x29), _) : ((Int × Int × List Int) × (Option Addr × Nat))) => M_L_GolombZeta_j1 F x2 x3 x4 x7 x9 x13 x25 x26 x29) ?_ ?_
  · refine sxc_seq ?_
    refine sxc_region ?_
    refine sxo_move rfl rfl rfl ?_
    refine sxo_move rfl rfl rfl ?_
    refine sxo_case 3 ((decide (1 ≤ x2)) && (decide (x2 ≤ 16))) [(0, .int .u64 x1), (1, .int .i64 x2), (3, .int .i64 x7), (6, .pointer (some ⟨g8, 0, none⟩)), (9, .pointer (some ⟨g12, 0, none⟩)), (10, .int .i64 x9.2.2), (11, .int .u64 x13.1), (12, .int .i64 x13.2.1), (13, .int .i64 x13.2.2), (14, .bool ((decide (1 ≤ x2)) && (decide (x2 ≤ 16)))), (15, .pointer (some ⟨g15, 0, none⟩)), (16, .int .i64 3), (44, .bool (((decide (1 ≤ x2)) && (decide (x2 ≤ 16))) && (decide (x1 ≤ 1099511627776))))] (fun h58 => ?_) (fun h58 => ?_) ?_
    · refine sxo_take (os := _) rfl ?_
      refine sxo_isT (k := 41) rfl h58 ?_
      refine sxo_move rfl rfl rfl ?_
      refine sxo_leq rfl rfl rfl rfl ?_
      refine sxo_pick (b := true) rfl rfl rfl rfl ?_
      refine sxo_again (d := 44) (v := .bool (((decide (1 ≤ x2)) && (decide (x2 ≤ 16))) && (decide (x1 ≤ 1099511627776)))) rfl (by rw [h58]; simp only [Bool.true_and]) ?_
      refine sxo_nil ?_
      exact sxq_case (lk_cons rfl (lk_cons rfl (lk_cons rfl (lk_cons rfl (lk_cons rfl (lk_cons rfl (lk_cons rfl (lk_cons rfl (lk_cons rfl (lk_cons rfl (lk_cons rfl (lk_cons rfl (lk_cons rfl lk_nil)))))))))))))
    · refine sxo_take (os := _) rfl ?_
      refine sxo_isF (k := 41) rfl h58 ?_
      refine sxo_skip rfl rfl rfl ?_
      refine sxo_skip rfl rfl rfl ?_
      refine sxo_pick (b := false) rfl rfl rfl rfl ?_
      refine sxo_again (d := 44) (v := .bool (((decide (1 ≤ x2)) && (decide (x2 ≤ 16))) && (decide (x1 ≤ 1099511627776)))) rfl (by rw [h58]; simp only [Bool.false_and]) ?_
      refine sxo_nil ?_
      exact sxq_case (lk_cons rfl (lk_cons rfl (lk_cons rfl (lk_cons rfl (lk_cons rfl (lk_cons rfl (lk_cons rfl (lk_cons rfl (lk_cons rfl (lk_cons rfl (lk_cons rfl (lk_cons rfl (lk_cons rfl lk_nil)))))))))))))
    refine sxo_take (os := _) rfl ?_
    refine sxo_nil ?_
    refine sxq_next ?_
    refine sxc_if rfl (fun h65 => ?_) (fun h65 => ?_)
    · refine sxc_region ?_
      refine sxo_move rfl rfl rfl ?_
      refine sxo_move rfl rfl rfl ?_
      refine sxo_call ent40 rfl rfl rfl (fun x59 e59 => C_R_ZetaList F x1 x2 x59 e59) .nil (fun x59 e59 => ?_)
      rintro ⟨a60, c61⟩
      refine sxo_call ent20 rfl rfl rfl (fun x62 e62 => C_R_PackBits F x59 a60 c61 x62 e62) (.consR 0 (Ro (eI .i64) 3 1 (.slice a60 x59.length c61) x59) rfl .nil) (fun x62 e62 => ?_)
      rintro ⟨a63, c64⟩
      refine sxo_assign rfl rfl rfl ?_
      refine sxo_storeB (i := 0) rfl rfl rfl tf25 rfl rfl rfl rfl rfl ?_
      refine sxo_nil ?_
      exact sxq_meetP ((0, x62.1, x62.2), (a63, c64)) (lk_cons rfl (lk_cons rfl (lk_cons rfl (lk_cons rfl (lk_cons rfl (lk_cons rfl (lk_cons rfl (lk_cons rfl (lk_cons rfl (lk_cons rfl (lk_cons rfl lk_nil))))))))))) (.cons 0 rfl (.cons 0 rfl (.cons 0 rfl .nil))) (.cons 0 rfl (.cons 1 rfl .nil)) (fk_cons 0 rfl fk_nil)
    · refine sxc_skip ?_
      refine sxq_nilrow Int (eI .u8) 5 1 ?_
      exact sxq_meetP ((3, 0, ([] : List Int)), (none, 0)) (lk_cons rfl (lk_cons rfl (lk_cons rfl (lk_cons rfl (lk_cons rfl (lk_cons rfl (lk_cons rfl (lk_cons rfl (lk_cons rfl (lk_cons rfl (lk_cons rfl lk_nil))))))))))) (.cons 0 rfl (.cons 0 rfl (.cons 0 rfl .nil))) (.cons 0 rfl (.cons 0 rfl .nil)) (fk_cons 0 rfl fk_nil)
  · rintro ⟨⟨x25, x26, x29⟩, ⟨a27, c28⟩⟩
    try dsimp only
    refine sxc_seq ?_
    refine sxc_region ?_
    refine sxo_loadB (i := 2) rfl rfl tf25 rfl rfl (by simp) rfl rfl ?_
    refine sxo_move rfl rfl rfl ?_
    refine sxo_call ent23 rfl rfl rfl (fun x30 e30 => C_R_ReadErr F x3 x4 a5 c6 x7 x30 e30) (.consF 0 rfl .nil) (fun x30 e30 => ?_)
    intro _
    refine sxo_assign rfl rfl rfl ?_
    refine sxo_nil ?_
    refine sxq_next ?_
    refine sxc_join (fun ((x33, _) : (Int × Unit)) => [(1, .int .i64 x2), (3, .int .i64 x7), (6, .pointer (some ⟨g8, 0, none⟩)), (9, .pointer (some ⟨g12, 0, none⟩)), (10, .int .i64 x9.2.2), (11, .int .u64 x13.1), (12, .int .i64 x13.2.1), (13, .int .i64 x13.2.2), (15, .pointer (some ⟨g15, 0, none⟩)), (16, .int .i64 x25), (17, .int .i64 x33)]) (fun ((x33, _) : (Int × Unit)) => [⟨g15, 25, [.int .i64 x26, .slice a27 x29.length c28]⟩, ⟨g12, 25, [.int .i64 x9.1, .slice a10 x9.2.1.length c11]⟩, ⟨g8, 25, [.int .i64 x3, .slice a5 x4.length c6]⟩]) (fun ((x33, _) : (Int × Unit)) => [Ro (eI .u8) 5 1 (.slice a27 x29.length c28) x29, Ro (eI .u8) 5 1 (.slice a10 x9.2.1.length c11) x9.2.1]) (fun ((x33, _) : (Int × Unit)) => [Sl (eI .u8) 1 (.slice a5 x4.length c6) x4]) (fun ((x33, _) : (Int × Unit)) => M_L_GolombZeta_j2 F x2 x3 x4 x7 x9 x13 x25 x26 x29 x33) ?_ ?_
    · refine sxc_seq ?_
      refine sxc_region ?_
      refine sxo_move rfl rfl rfl ?_
      refine sxo_eql rfl rfl rfl rfl ?_
      refine sxo_move rfl rfl rfl ?_
      refine sxo_case 3 ((x30 : Int) == 0) [(1, .int .i64 x2), (3, .int .i64 x7), (6, .pointer (some ⟨g8, 0, none⟩)), (9, .pointer (some ⟨g12, 0, none⟩)), (10, .int .i64 x9.2.2), (11, .int .u64 x13.1), (12, .int .i64 x13.2.1), (13, .int .i64 x13.2.2), (15, .pointer (some ⟨g15, 0, none⟩)), (16, .int .i64 x25), (17, .int .i64 x30), (57, .bool (((x30 : Int) == 0) && (!((decide (1 ≤ x2)) && (decide (x2 ≤ 16))))))] (fun h56 => ?_) (fun h56 => ?_) ?_
      · refine sxo_take (os := _) rfl ?_
        refine sxo_isT (k := 54) rfl h56 ?_
        refine sxo_move rfl rfl rfl ?_
        refine sxo_not rfl rfl rfl ?_
        refine sxo_pick (b := true) rfl rfl rfl rfl ?_
        refine sxo_again (d := 57) (v := .bool (((x30 : Int) == 0) && (!((decide (1 ≤ x2)) && (decide (x2 ≤ 16)))))) rfl (by rw [h56]; simp only [Bool.true_and]) ?_
        refine sxo_nil ?_
        exact sxq_case (lk_cons rfl (lk_cons rfl (lk_cons rfl (lk_cons rfl (lk_cons rfl (lk_cons rfl (lk_cons rfl (lk_cons rfl (lk_cons rfl (lk_cons rfl (lk_cons rfl (lk_cons rfl lk_nil))))))))))))
      · refine sxo_take (os := _) rfl ?_
        refine sxo_isF (k := 54) rfl h56 ?_
        refine sxo_skip rfl rfl rfl ?_
        refine sxo_skip rfl rfl rfl ?_
        refine sxo_pick (b := false) rfl rfl rfl rfl ?_
        refine sxo_again (d := 57) (v := .bool (((x30 : Int) == 0) && (!((decide (1 ≤ x2)) && (decide (x2 ≤ 16)))))) rfl (by rw [h56]; simp only [Bool.false_and]) ?_
        refine sxo_nil ?_
        exact sxq_case (lk_cons rfl (lk_cons rfl (lk_cons rfl (lk_cons rfl (lk_cons rfl (lk_cons rfl (lk_cons rfl (lk_cons rfl (lk_cons rfl (lk_cons rfl (lk_cons rfl (lk_cons rfl lk_nil))))))))))))
      refine sxo_take (os := _) rfl ?_
      refine sxo_nil ?_
      refine sxq_next ?_
      refine sxc_if rfl (fun h57 => ?_) (fun h57 => ?_)
      · refine sxc_region ?_
        refine sxo_assign rfl rfl rfl ?_
        refine sxo_nil ?_
        exact sxq_meetP (3, ()) (lk_cons rfl (lk_cons rfl (lk_cons rfl (lk_cons rfl (lk_cons rfl (lk_cons rfl (lk_cons rfl (lk_cons rfl (lk_cons rfl (lk_cons rfl (lk_cons rfl lk_nil))))))))))) (.cons 0 rfl (.cons 0 rfl (.cons 0 rfl .nil))) (.cons 0 rfl (.cons 0 rfl .nil)) (fk_cons 0 rfl fk_nil)
      · refine sxc_skip ?_
        exact sxq_meetP (x30, ()) (lk_cons rfl (lk_cons rfl (lk_cons rfl (lk_cons rfl (lk_cons rfl (lk_cons rfl (lk_cons rfl (lk_cons rfl (lk_cons rfl (lk_cons rfl (lk_cons rfl lk_nil))))))))))) (.cons 0 rfl (.cons 0 rfl (.cons 0 rfl .nil))) (.cons 0 rfl (.cons 0 rfl .nil)) (fk_cons 0 rfl fk_nil)
    · rintro ⟨x33, _⟩
      try dsimp only
      refine sxc_seq ?_
      refine sxc_region ?_
      refine sxo_assign rfl rfl rfl ?_
      refine sxo_assign rfl rfl rfl ?_
      refine sxo_nil ?_
      refine sxq_next ?_
      refine sxc_join (fun (((x39, x40, x41), _) : ((Int × Int × Int) × Unit)) => [(9, .pointer (some ⟨g12, 0, none⟩)), (10, .int .i64 x9.2.2), (11, .int .u64 x13.1), (12, .int .i64 x13.2.1), (13, .int .i64 x13.2.2), (15, .pointer (some ⟨g15, 0, none⟩)), (16, .int .i64 x25), (17, .int .i64 x39), (18, .int .u64 x40), (19, .int .i64 x41)]) (fun (((x39, x40, x41), _) : ((Int × Int × Int) × Unit)) => [⟨g15, 25, [.int .i64 x26, .slice a27 x29.length c28]⟩, ⟨g12, 25, [.int .i64 x9.1, .slice a10 x9.2.1.length c11]⟩]) (fun (((x39, x40, x41), _) : ((Int × Int × Int) × Unit)) => [Ro (eI .u8) 5 1 (.slice a27 x29.length c28) x29, Ro (eI .u8) 5 1 (.slice a10 x9.2.1.length c11) x9.2.1]) (fun (((x39, x40, x41), _) : ((Int × Int × Int) × Unit)) => []) (fun (((x39, x40, x41), _) : ((Int × Int × Int) × Unit)) => M_L_GolombZeta_j3 F x9 x13 x25 x26 x29 x39 x40 x41) ?_ ?_
      · refine sxc_seq ?_
        refine sxc_region ?_
        refine sxo_move rfl rfl rfl ?_
        refine sxo_eql rfl rfl rfl rfl ?_
        refine sxo_nil ?_
        refine sxq_next ?_
        refine sxc_if rfl (fun h55 => ?_) (fun h55 => ?_)
        · refine sxc_region ?_
          refine sxo_loadB (i := 2) rfl rfl tf25 rfl rfl (by simp) rfl rfl ?_
          refine sxo_call ent24 rfl rfl rfl (fun x51 e51 => C_R_BitList F x3 x4 a5 c6 x51 e51) (.consF 0 rfl .nil) (fun x51 e51 => ?_)
          rintro ⟨a52, c53⟩
          refine sxo_move rfl rfl rfl ?_
          refine sxo_move rfl rfl rfl ?_
          refine sxo_call ent41 rfl rfl rfl (fun x54 e54 => C_R_ZetaRead F x51 a52 c53 x7 x2 x54 e54) (.consR 0 (Ro (eI .i64) 3 1 (.slice a52 x51.length c53) x51) rfl .nil) (fun x54 e54 => ?_)
          intro _
          refine sxo_move rfl rfl rfl ?_
          refine sxo_extract rfl rfl rfl rfl ?_
          refine sxo_extract rfl rfl rfl rfl ?_
          refine sxo_extract rfl rfl rfl rfl ?_
          refine sxo_assign rfl rfl rfl ?_
          refine sxo_assign rfl rfl rfl ?_
          refine sxo_assign rfl rfl rfl ?_
          refine sxo_nil ?_
          exact sxq_meetP ((x54.2.2, x54.1, x54.2.1), ()) (lk_cons rfl (lk_cons rfl (lk_cons rfl (lk_cons rfl (lk_cons rfl (lk_cons rfl (lk_cons rfl (lk_cons rfl (lk_cons rfl (lk_cons rfl lk_nil)))))))))) (.cons 0 rfl (.cons 0 rfl .nil)) (.cons 1 rfl (.cons 1 rfl .nil)) fk_nil
        · refine sxc_skip ?_
          exact sxq_meetP ((x33, 0, 0), ()) (lk_cons rfl (lk_cons rfl (lk_cons rfl (lk_cons rfl (lk_cons rfl (lk_cons rfl (lk_cons rfl (lk_cons rfl (lk_cons rfl (lk_cons rfl lk_nil)))))))))) (.cons 0 rfl (.cons 0 rfl .nil)) (.cons 0 rfl (.cons 0 rfl .nil)) fk_nil
      · rintro ⟨⟨x39, x40, x41⟩, _⟩
        try dsimp only
        refine sxc_seq ?_
        refine sxc_region ?_
        refine sxo_call ent37 rfl rfl rfl (fun x42 e42 => C_L_golombBegun F  x42 e42) .nil (fun x42 e42 => ?_)
        intro _
        refine sxo_move rfl rfl rfl ?_
        refine sxo_join 4 (fun ((x45, _) : (Bool × Unit)) => [(10, .int .i64 x9.2.2), (11, .int .u64 x13.1), (12, .int .i64 x13.2.1), (13, .int .i64 x13.2.2), (16, .int .i64 x25), (17, .int .i64 x39), (18, .int .u64 x40), (19, .int .i64 x41), (74, .bool x45)]) (fun ((x45, _) : (Bool × Unit)) => []) (fun ((x45, _) : (Bool × Unit)) => []) (fun ((x45, _) : (Bool × Unit)) => []) (fun ((x45, _) : (Bool × Unit)) => M_L_GolombZeta_j4 F x9 x13 x25 x39 x40 x41 x45) ?_ ?_
        · refine sxo_take (os := _) rfl ?_
          refine sxo_if (fun h43 => ?_) (fun h43 => ?_)
          · refine sxo_isT (k := 70) rfl h43 ?_
            refine sxo_loadB (i := 1) rfl rfl tf25 rfl rfl (by simp) rfl rfl ?_
            refine sxo_loadB (i := 0) rfl rfl tf25 rfl rfl (by simp) rfl rfl ?_
            refine sxo_call ent28 rfl rfl rfl (fun x50 e50 => C_R_SameBits F x9.1 x9.2.1 a10 c11 x26 x29 a27 c28 x50 e50) (.consR 1 (Ro (eI .u8) 5 1 (.slice a10 x9.2.1.length c11) x9.2.1) rfl (.consR 0 (Ro (eI .u8) 5 1 (.slice a27 x29.length c28) x29) rfl .nil)) (fun x50 e50 => ?_)
            intro _
            refine sxo_pick (b := true) rfl rfl rfl rfl ?_
            refine sxo_nil ?_
            exact sxq_meetP (x50, ()) (lk_cons rfl (lk_cons rfl (lk_cons rfl (lk_cons rfl (lk_cons rfl (lk_cons rfl (lk_cons rfl (lk_cons rfl (lk_cons rfl lk_nil))))))))) .nil .nil fk_nil
          · refine sxo_isF (k := 70) rfl h43 ?_
            refine sxo_skip rfl rfl rfl ?_
            refine sxo_skip rfl rfl rfl ?_
            refine sxo_skip rfl rfl rfl ?_
            refine sxo_pick (b := false) rfl rfl rfl rfl ?_
            refine sxo_nil ?_
            exact sxq_meetP (false, ()) (lk_cons rfl (lk_cons rfl (lk_cons rfl (lk_cons rfl (lk_cons rfl (lk_cons rfl (lk_cons rfl (lk_cons rfl (lk_cons rfl lk_nil))))))))) .nil .nil fk_nil
        · rintro ⟨x45, _⟩
          try dsimp only
          refine sxo_take (os := _) rfl ?_
          refine sxo_move rfl rfl rfl ?_
          refine sxo_case 4 x45 [(11, .int .u64 x13.1), (12, .int .i64 x13.2.1), (13, .int .i64 x13.2.2), (17, .int .i64 x39), (18, .int .u64 x40), (19, .int .i64 x41), (79, .bool (x45 && ((x9.2.2 : Int) == x25)))] (fun h46 => ?_) (fun h46 => ?_) ?_
          · refine sxo_take (os := _) rfl ?_
            refine sxo_isT (k := 75) rfl h46 ?_
            refine sxo_move rfl rfl rfl ?_
            refine sxo_move rfl rfl rfl ?_
            refine sxo_eql rfl rfl rfl rfl ?_
            refine sxo_pick (b := true) rfl rfl rfl rfl ?_
            refine sxo_again (d := 79) (v := .bool (x45 && ((x9.2.2 : Int) == x25))) rfl (by rw [h46]; simp only [Bool.true_and]) ?_
            refine sxo_nil ?_
            exact sxq_case (lk_cons rfl (lk_cons rfl (lk_cons rfl (lk_cons rfl (lk_cons rfl (lk_cons rfl (lk_cons rfl lk_nil)))))))
          · refine sxo_take (os := _) rfl ?_
            refine sxo_isF (k := 75) rfl h46 ?_
            refine sxo_skip rfl rfl rfl ?_
            refine sxo_skip rfl rfl rfl ?_
            refine sxo_skip rfl rfl rfl ?_
            refine sxo_pick (b := false) rfl rfl rfl rfl ?_
            refine sxo_again (d := 79) (v := .bool (x45 && ((x9.2.2 : Int) == x25))) rfl (by rw [h46]; simp only [Bool.false_and]) ?_
            refine sxo_nil ?_
            exact sxq_case (lk_cons rfl (lk_cons rfl (lk_cons rfl (lk_cons rfl (lk_cons rfl (lk_cons rfl (lk_cons rfl lk_nil)))))))
          refine sxo_take (os := _) rfl ?_
          refine sxo_move rfl rfl rfl ?_
          refine sxo_case 4 (x45 && ((x9.2.2 : Int) == x25)) [(12, .int .i64 x13.2.1), (13, .int .i64 x13.2.2), (17, .int .i64 x39), (19, .int .i64 x41), (84, .bool ((x45 && ((x9.2.2 : Int) == x25)) && ((x13.1 : Int) == x40)))] (fun h47 => ?_) (fun h47 => ?_) ?_
          · refine sxo_take (os := _) rfl ?_
            refine sxo_isT (k := 80) rfl h47 ?_
            refine sxo_move rfl rfl rfl ?_
            refine sxo_move rfl rfl rfl ?_
            refine sxo_eql rfl rfl rfl rfl ?_
            refine sxo_pick (b := true) rfl rfl rfl rfl ?_
            refine sxo_again (d := 84) (v := .bool ((x45 && ((x9.2.2 : Int) == x25)) && ((x13.1 : Int) == x40))) rfl (by rw [h47]; simp only [Bool.true_and]) ?_
            refine sxo_nil ?_
            exact sxq_case (lk_cons rfl (lk_cons rfl (lk_cons rfl (lk_cons rfl (lk_cons rfl lk_nil)))))
          · refine sxo_take (os := _) rfl ?_
            refine sxo_isF (k := 80) rfl h47 ?_
            refine sxo_skip rfl rfl rfl ?_
            refine sxo_skip rfl rfl rfl ?_
            refine sxo_skip rfl rfl rfl ?_
            refine sxo_pick (b := false) rfl rfl rfl rfl ?_
            refine sxo_again (d := 84) (v := .bool ((x45 && ((x9.2.2 : Int) == x25)) && ((x13.1 : Int) == x40))) rfl (by rw [h47]; simp only [Bool.false_and]) ?_
            refine sxo_nil ?_
            exact sxq_case (lk_cons rfl (lk_cons rfl (lk_cons rfl (lk_cons rfl (lk_cons rfl lk_nil)))))
          refine sxo_take (os := _) rfl ?_
          refine sxo_move rfl rfl rfl ?_
          refine sxo_case 4 ((x45 && ((x9.2.2 : Int) == x25)) && ((x13.1 : Int) == x40)) [(13, .int .i64 x13.2.2), (17, .int .i64 x39), (89, .bool (((x45 && ((x9.2.2 : Int) == x25)) && ((x13.1 : Int) == x40)) && ((x13.2.1 : Int) == x41)))] (fun h48 => ?_) (fun h48 => ?_) ?_
          · refine sxo_take (os := _) rfl ?_
            refine sxo_isT (k := 85) rfl h48 ?_
            refine sxo_move rfl rfl rfl ?_
            refine sxo_move rfl rfl rfl ?_
            refine sxo_eql rfl rfl rfl rfl ?_
            refine sxo_pick (b := true) rfl rfl rfl rfl ?_
            refine sxo_again (d := 89) (v := .bool (((x45 && ((x9.2.2 : Int) == x25)) && ((x13.1 : Int) == x40)) && ((x13.2.1 : Int) == x41))) rfl (by rw [h48]; simp only [Bool.true_and]) ?_
            refine sxo_nil ?_
            exact sxq_case (lk_cons rfl (lk_cons rfl (lk_cons rfl lk_nil)))
          · refine sxo_take (os := _) rfl ?_
            refine sxo_isF (k := 85) rfl h48 ?_
            refine sxo_skip rfl rfl rfl ?_
            refine sxo_skip rfl rfl rfl ?_
            refine sxo_skip rfl rfl rfl ?_
            refine sxo_pick (b := false) rfl rfl rfl rfl ?_
            refine sxo_again (d := 89) (v := .bool (((x45 && ((x9.2.2 : Int) == x25)) && ((x13.1 : Int) == x40)) && ((x13.2.1 : Int) == x41))) rfl (by rw [h48]; simp only [Bool.false_and]) ?_
            refine sxo_nil ?_
            exact sxq_case (lk_cons rfl (lk_cons rfl (lk_cons rfl lk_nil)))
          refine sxo_take (os := _) rfl ?_
          refine sxo_move rfl rfl rfl ?_
          refine sxo_case 4 (((x45 && ((x9.2.2 : Int) == x25)) && ((x13.1 : Int) == x40)) && ((x13.2.1 : Int) == x41)) [(94, .bool ((((x45 && ((x9.2.2 : Int) == x25)) && ((x13.1 : Int) == x40)) && ((x13.2.1 : Int) == x41)) && ((x13.2.2 : Int) == x39)))] (fun h49 => ?_) (fun h49 => ?_) ?_
          · refine sxo_take (os := _) rfl ?_
            refine sxo_isT (k := 90) rfl h49 ?_
            refine sxo_move rfl rfl rfl ?_
            refine sxo_move rfl rfl rfl ?_
            refine sxo_eql rfl rfl rfl rfl ?_
            refine sxo_pick (b := true) rfl rfl rfl rfl ?_
            refine sxo_again (d := 94) (v := .bool ((((x45 && ((x9.2.2 : Int) == x25)) && ((x13.1 : Int) == x40)) && ((x13.2.1 : Int) == x41)) && ((x13.2.2 : Int) == x39))) rfl (by rw [h49]; simp only [Bool.true_and]) ?_
            refine sxo_nil ?_
            exact sxq_case (lk_cons rfl lk_nil)
          · refine sxo_take (os := _) rfl ?_
            refine sxo_isF (k := 90) rfl h49 ?_
            refine sxo_skip rfl rfl rfl ?_
            refine sxo_skip rfl rfl rfl ?_
            refine sxo_skip rfl rfl rfl ?_
            refine sxo_pick (b := false) rfl rfl rfl rfl ?_
            refine sxo_again (d := 94) (v := .bool ((((x45 && ((x9.2.2 : Int) == x25)) && ((x13.1 : Int) == x40)) && ((x13.2.1 : Int) == x41)) && ((x13.2.2 : Int) == x39))) rfl (by rw [h49]; simp only [Bool.false_and]) ?_
            refine sxo_nil ?_
            exact sxq_case (lk_cons rfl lk_nil)
          refine sxo_take (os := _) rfl ?_
          refine sxo_assign rfl rfl rfl ?_
          refine sxo_nil ?_
          refine sxq_next ?_
          refine sxc_ret ?_
          exact sxq_doneP () (.inl rfl) (res1 rfl rfl) (fun h => by subst h; rfl) (fun h => by subst h; exact .nil)

set_option maxHeartbeats 4000000 in
theorem C_L_GolombFull (F : Nat) (x1 : Int) (r : Bool) (hm : M_L_GolombFull F x1 = some r) :
    Pure Try.prog 7 [.int .u64 x1] [] Unit (fun _ => .bool r) (fun _ => []) (fun _ => []) := by
  refine pure_of Try.func7 rfl Try.ntmps7 rfl hm (fun w => ?_)
  refine sxc_env (l' := [(0, .int .u64 x1)]) rfl ?_
  refine sxc_seq ?_
  refine sxc_region ?_
  refine sxo_assign rfl rfl rfl ?_
  refine sxo_nil ?_
  refine sxq_next ?_
  refine sxc_seq ?_
  refine sxc_seq ?_
  refine sxc_region ?_
  refine sxo_call ent37 rfl rfl rfl (fun x4 e4 => C_L_golombBegun F  x4 e4) .nil (fun x4 e4 => ?_)
  intro _
  refine sxo_not rfl rfl rfl ?_
  refine sxo_nil ?_
  refine sxq_next ?_
  refine sxc_if rfl (fun h143 => ?_) (fun h143 => ?_)
  · refine sxc_seq ?_
    refine sxc_region ?_
    refine sxo_assign rfl rfl rfl ?_
    refine sxo_nil ?_
    refine sxq_next ?_
    refine sxc_ret ?_
    refine sxq_thenR ?_
    exact sxq_doneP () (.inl rfl) (res1 rfl rfl) (fun h => by subst h; rfl) (fun h => by subst h; exact .nil)
  · refine sxc_skip ?_
    refine sxq_next ?_
    refine sxc_seq ?_
    refine sxc_seq ?_
    refine sxc_region ?_
    refine sxo_move rfl rfl rfl ?_
    refine sxo_lss rfl rfl rfl rfl ?_
    refine sxo_move rfl rfl rfl ?_
    refine sxo_case 3 (decide (x1 < 1)) [(0, .int .u64 x1), (16, .bool ((decide (x1 < 1)) || (decide (300 < x1))))] (fun h7 => ?_) (fun h7 => ?_) ?_
    · refine sxo_take (os := _) rfl ?_
      refine sxo_isT (k := 13) rfl h7 ?_
      refine sxo_skip rfl rfl rfl ?_
      refine sxo_skip rfl rfl rfl ?_
      refine sxo_pick (b := true) rfl rfl rfl rfl ?_
      refine sxo_again (d := 16) (v := .bool ((decide (x1 < 1)) || (decide (300 < x1)))) rfl (by rw [h7]; simp only [Bool.true_or]) ?_
      refine sxo_nil ?_
      exact sxq_case (lk_cons rfl (lk_cons rfl lk_nil))
    · refine sxo_take (os := _) rfl ?_
      refine sxo_isF (k := 13) rfl h7 ?_
      refine sxo_move rfl rfl rfl ?_
      refine sxo_gtr rfl rfl rfl rfl ?_
      refine sxo_pick (b := false) rfl rfl rfl rfl ?_
      refine sxo_again (d := 16) (v := .bool ((decide (x1 < 1)) || (decide (300 < x1)))) rfl (by rw [h7]; simp only [Bool.false_or]) ?_
      refine sxo_nil ?_
      exact sxq_case (lk_cons rfl (lk_cons rfl lk_nil))
    refine sxo_take (os := _) rfl ?_
    refine sxo_nil ?_
    refine sxq_next ?_
    refine sxc_if rfl (fun h142 => ?_) (fun h142 => ?_)
    · refine sxc_seq ?_
      refine sxc_region ?_
      refine sxo_assign rfl rfl rfl ?_
      refine sxo_nil ?_
      refine sxq_next ?_
      refine sxc_ret ?_
      refine sxq_thenR ?_
      exact sxq_doneP () (.inl rfl) (res1 rfl rfl) (fun h => by subst h; rfl) (fun h => by subst h; exact .nil)
    · refine sxc_skip ?_
      refine sxq_next ?_
      refine sxc_seq ?_
      refine sxc_region ?_
      refine sxo_assign rfl rfl rfl ?_
      refine sxo_assign rfl rfl rfl ?_
      refine sxo_assign rfl rfl rfl ?_
      refine sxo_nil ?_
      refine sxq_next ?_
      refine sxc_join (fun (((x73, x74, x75), _) : ((Int × Int × Int) × Unit)) => [(3, .int .i64 x73), (4, .int .i64 x74), (5, .int .i64 x75)]) (fun (((x73, x74, x75), _) : ((Int × Int × Int) × Unit)) => []) (fun (((x73, x74, x75), _) : ((Int × Int × Int) × Unit)) => []) (fun (((x73, x74, x75), _) : ((Int × Int × Int) × Unit)) => []) (fun (((x73, x74, x75), _) : ((Int × Int × Int) × Unit)) => M_L_GolombFull_j2 F x73 x74 x75) ?_ ?_
      · refine sxc_seq ?_
        refine sxc_region ?_
        refine sxo_assign rfl rfl rfl ?_
        refine sxo_nil ?_
        refine sxq_next ?_
        refine sxc_block ?_
        refine sxc_loopP (fun (((x97, x98, x99, x100), _) : ((Int × Int × Int × Int) × Unit)) => [(0, .int .u64 x1), (3, .int .i64 x97), (4, .int .i64 x98), (5, .int .i64 x99), (6, .int .u64 x100)]) (fun (((x97, x98, x99, x100), _) : ((Int × Int × Int × Int) × Unit)) => []) (fun (((x97, x98, x99, x100), _) : ((Int × Int × Int × Int) × Unit)) => []) (fun (((x97, x98, x99, x100), _) : ((Int × Int × Int × Int) × Unit)) => []) (fun k (s : ((Int × Int × Int × Int) × Unit)) => M_L_GolombFull_l3 F x1 k s.1) ((0, 99, 0, 0), ()) F (lk_cons rfl (lk_cons rfl (lk_cons rfl (lk_cons rfl (lk_cons rfl lk_nil))))) .nil .nil fk_nil (fun _ => rfl) ?_
        intro k121
        rintro ⟨⟨x97, x98, x99, x100⟩, _⟩
        try dsimp only
        refine sxc_meq (m' := M_L_GolombFull_b3 F x1 (M_L_GolombFull_l3 F x1 k121) x97 x98 x99 x100) rfl ?_
        refine sxc_seq ?_
        refine sxc_seq ?_
        refine sxc_region ?_
        refine sxo_move rfl rfl rfl ?_
        refine sxo_move rfl rfl rfl ?_
        refine sxo_lss rfl rfl rfl rfl ?_
        refine sxo_nil ?_
        refine sxq_next ?_
        refine sxc_if rfl (fun h141 => ?_) (fun h141 => ?_)
        · refine sxc_skip ?_
          refine sxq_next ?_
          refine sxc_seq ?_
          refine sxc_block ?_
          refine sxc_seq ?_
          refine sxc_region ?_
          refine sxo_move rfl rfl rfl ?_
          refine sxo_move rfl rfl rfl ?_
          refine sxo_call ent29 rfl rfl rfl (fun x132 e132 => C_golomb_Least F x100 x1 x132 e132) .nil (fun x132 e132 => ?_)
          rintro ⟨a133, c134⟩
          refine sxo_move rfl rfl rfl ?_
          refine sxo_extract rfl rfl rfl rfl ?_
          refine sxo_extract rfl rfl rfl rfl ?_
          refine sxo_alloc rfl tf25 rfl (fun g135 => ?_)
          refine sxo_storeB (i := 0) rfl rfl rfl tf25 rfl rfl rfl rfl rfl ?_
          refine sxo_assign rfl rfl rfl ?_
          refine sxo_nil ?_
          refine sxq_next ?_
          refine sxc_seq ?_
          refine sxc_seq ?_
          refine sxc_region ?_
          refine sxo_move rfl rfl rfl ?_
          refine sxo_neq rfl rfl rfl rfl ?_
          refine sxo_move rfl rfl rfl ?_
          refine sxo_case 4 ((x132.2.2 : Int) != 0) [(0, .int .u64 x1), (3, .int .i64 x97), (4, .int .i64 x98), (5, .int .i64 x99), (6, .int .u64 x100), (7, .pointer (some ⟨g135, 0, none⟩)), (34, .bool (((x132.2.2 : Int) != 0) || (decide (9 < x132.1))))] (fun h138 => ?_) (fun h138 => ?_) ?_
          · refine sxo_take (os := _) rfl ?_
            refine sxo_isT (k := 30) rfl h138 ?_
            refine sxo_skip rfl rfl rfl ?_
            refine sxo_skip rfl rfl rfl ?_
            refine sxo_skip rfl rfl rfl ?_
            refine sxo_pick (b := true) rfl rfl rfl rfl ?_
            refine sxo_again (d := 34) (v := .bool (((x132.2.2 : Int) != 0) || (decide (9 < x132.1)))) rfl (by rw [h138]; simp only [Bool.true_or]) ?_
            refine sxo_nil ?_
            exact sxq_case (lk_cons rfl (lk_cons rfl (lk_cons rfl (lk_cons rfl (lk_cons rfl (lk_cons rfl (lk_cons rfl lk_nil)))))))
          · refine sxo_take (os := _) rfl ?_
            refine sxo_isF (k := 30) rfl h138 ?_
            refine sxo_fieldAddr rfl rfl ff25_0 rfl ?_
            refine sxo_loadB (i := 0) rfl rfl tf3 rfl rfl (fun _ => rfl) rfl rfl ?_
            refine sxo_gtr rfl rfl rfl rfl ?_
            refine sxo_pick (b := false) rfl rfl rfl rfl ?_
            refine sxo_again (d := 34) (v := .bool (((x132.2.2 : Int) != 0) || (decide (9 < x132.1)))) rfl (by rw [h138]; simp only [Bool.false_or]) ?_
            refine sxo_nil ?_
            exact sxq_case (lk_cons rfl (lk_cons rfl (lk_cons rfl (lk_cons rfl (lk_cons rfl (lk_cons rfl (lk_cons rfl lk_nil)))))))
          refine sxo_take (os := _) rfl ?_
          refine sxo_nil ?_
          refine sxq_next ?_
          refine sxc_if rfl (fun h140 => ?_) (fun h140 => ?_)
          · refine sxc_seq ?_
            refine sxc_region ?_
            refine sxo_assign rfl rfl rfl ?_
            refine sxo_nil ?_
            refine sxq_next ?_
            refine sxc_ret ?_
            refine sxq_thenR ?_
            refine sxq_blkR ?_
            refine sxq_thenR ?_
            refine sxq_thenR ?_
            refine sxq_blkR ?_
            refine sxq_thenR ?_
            exact sxq_doneP () (.inl rfl) (res1 rfl rfl) (fun h => by subst h; rfl) (fun h => by subst h; exact .nil)
          · refine sxc_skip ?_
            refine sxq_next ?_
            refine sxc_seq ?_
            refine sxc_region ?_
            refine sxo_move rfl rfl rfl ?_
            refine sxo_fieldAddr rfl rfl ff25_0 rfl ?_
            refine sxo_loadB (i := 0) rfl rfl tf3 rfl rfl (fun _ => rfl) rfl rfl ?_
            refine sxo_chk (fun h139 => ?_)
            refine sxo_shr rfl rfl rfl rfl h139 ?_
            refine sxo_add rfl rfl rfl rfl ?_
            refine sxo_assign rfl rfl rfl ?_
            refine sxo_nil ?_
            refine sxq_next ?_
            refine sxb_draw mixed [] [⟨g135, 25, [.int .i64 x132.1, .slice a133 x132.2.1.length c134]⟩] [] (.cons 0 rfl .nil) gk_nil 10 rfl ?_
            refine sxb_takeP 0 (.int .i64 x98) rfl rfl rfl rfl (by kernel_rfl) (by kernel_rfl) (by kernel_rfl) (by kernel_rfl) (by kernel_rfl) rfl (show _ = #[true, false, false, false, false, false, false, false, false, false] from rfl) (yv_pv rfl) ?_
            refine sxb_takeP 1 (.pointer (some ⟨g135, 0, none⟩)) rfl rfl rfl rfl (by kernel_rfl) (by kernel_rfl) (by kernel_rfl) (by kernel_rfl) (by kernel_rfl) rfl (show _ = #[true, true, false, false, false, false, false, false, false, false] from rfl) (yv_fieldAddr rfl ff25_0) ?_
            refine sxb_take 2 (.int .i64 x132.1) [] rfl rfl rfl rfl (by kernel_rfl) (by kernel_rfl) (by kernel_rfl) (by kernel_rfl) (by kernel_rfl) (by kernel_rfl) rfl (show _ = #[true, true, true, false, false, false, false, false, false, false] from rfl) (yv_loadB (i := 0) rfl tf3 rfl rfl (fun _ => rfl) rfl) ?_
            refine sxb_takeP 3 (.int .i64 (imin x98 x132.1)) rfl rfl rfl rfl (by kernel_rfl) (by kernel_rfl) (by kernel_rfl) (by kernel_rfl) (by kernel_rfl) rfl (show _ = #[true, true, true, true, false, false, false, false, false, false] from rfl) (yv_min rfl rfl) ?_
            refine sxb_takeP 4 (.int .i64 x99) rfl rfl rfl rfl (by kernel_rfl) (by kernel_rfl) (by kernel_rfl) (by kernel_rfl) (by kernel_rfl) rfl (show _ = #[true, true, true, true, true, false, false, false, false, false] from rfl) (yv_pv rfl) ?_
            refine sxb_takeP 5 (.pointer (some ⟨g135, 0, none⟩)) rfl rfl rfl rfl (by kernel_rfl) (by kernel_rfl) (by kernel_rfl) (by kernel_rfl) (by kernel_rfl) rfl (show _ = #[true, true, true, true, true, true, false, false, false, false] from rfl) (yv_fieldAddr rfl ff25_0) ?_
            refine sxb_take 6 (.int .i64 x132.1) [] rfl rfl rfl rfl (by kernel_rfl) (by kernel_rfl) (by kernel_rfl) (by kernel_rfl) (by kernel_rfl) (by kernel_rfl) rfl (show _ = #[true, true, true, true, true, true, true, false, false, false] from rfl) (yv_loadB (i := 0) rfl tf3 rfl rfl (fun _ => rfl) rfl) ?_
            refine sxb_takeP 7 (.int .i64 (imax x99 x132.1)) rfl rfl rfl rfl (by kernel_rfl) (by kernel_rfl) (by kernel_rfl) (by kernel_rfl) (by kernel_rfl) rfl (show _ = #[true, true, true, true, true, true, true, true, false, false] from rfl) (yv_max rfl rfl) ?_
            refine sxb_takeP 8 (.int .i64 (imin x98 x132.1)) rfl rfl rfl rfl (by kernel_rfl) (by kernel_rfl) (by kernel_rfl) (by kernel_rfl) (by kernel_rfl) rfl (show _ = #[true, true, true, true, true, true, true, true, true, false] from rfl) (yv_pv rfl) ?_
            refine sxb_takeP 9 (.int .i64 (imax x99 x132.1)) rfl rfl rfl rfl (by kernel_rfl) (by kernel_rfl) (by kernel_rfl) (by kernel_rfl) (by kernel_rfl) rfl (show _ = #[true, true, true, true, true, true, true, true, true, true] from rfl) (yv_pv rfl) ?_
            refine sxb_done (by kernel_rfl) ?_
            refine sxq_np ?_ (by intro c h; cases h)
            refine sxq_blkN ?_
            refine sxq_next ?_
            refine sxc_region ?_
            refine sxo_move rfl rfl rfl ?_
            refine sxo_add rfl rfl rfl rfl ?_
            refine sxo_assign rfl rfl rfl ?_
            refine sxo_nil ?_
            exact sxq_againP ((iadd .i64 x97 (ishr .i64 512 x132.1), imin x98 x132.1, imax x99 x132.1, iadd .u64 x100 1), ()) (lk_cons rfl (lk_cons rfl (lk_cons rfl (lk_cons rfl (lk_cons rfl lk_nil))))) .nil .nil fk_nil
        · refine sxc_exit ?_
          refine sxq_thenX ?_
          refine sxq_thenX ?_
          refine sxq_blkX ?_
          exact sxq_meetP ((x97, x98, x99), ()) (lk_cons rfl (lk_cons rfl (lk_cons rfl lk_nil))) .nil .nil fk_nil
      · rintro ⟨⟨x73, x74, x75⟩, _⟩
        try dsimp only
        refine sxc_seq ?_
        refine sxc_region ?_
        refine sxo_move rfl rfl rfl ?_
        refine sxo_eql rfl rfl rfl rfl ?_
        refine sxo_move rfl rfl rfl ?_
        refine sxo_case 5 ((x73 : Int) == 512) [(55, .bool (((x73 : Int) == 512) && (decide ((isub .i64 x75 x74) ≤ 1))))] (fun h76 => ?_) (fun h76 => ?_) ?_
        · refine sxo_take (os := _) rfl ?_
          refine sxo_isT (k := 50) rfl h76 ?_
          refine sxo_move rfl rfl rfl ?_
          refine sxo_move rfl rfl rfl ?_
          refine sxo_sub rfl rfl rfl rfl ?_
          refine sxo_leq rfl rfl rfl rfl ?_
          refine sxo_pick (b := true) rfl rfl rfl rfl ?_
          refine sxo_again (d := 55) (v := .bool (((x73 : Int) == 512) && (decide ((isub .i64 x75 x74) ≤ 1)))) rfl (by rw [h76]; simp only [Bool.true_and]) ?_
          refine sxo_nil ?_
          exact sxq_case (lk_cons rfl lk_nil)
        · refine sxo_take (os := _) rfl ?_
          refine sxo_isF (k := 50) rfl h76 ?_
          refine sxo_skip rfl rfl rfl ?_
          refine sxo_skip rfl rfl rfl ?_
          refine sxo_skip rfl rfl rfl ?_
          refine sxo_skip rfl rfl rfl ?_
          refine sxo_pick (b := false) rfl rfl rfl rfl ?_
          refine sxo_again (d := 55) (v := .bool (((x73 : Int) == 512) && (decide ((isub .i64 x75 x74) ≤ 1)))) rfl (by rw [h76]; simp only [Bool.false_and]) ?_
          refine sxo_nil ?_
          exact sxq_case (lk_cons rfl lk_nil)
        refine sxo_take (os := _) rfl ?_
        refine sxo_assign rfl rfl rfl ?_
        refine sxo_nil ?_
        refine sxq_next ?_
        refine sxc_ret ?_
        exact sxq_doneP () (.inl rfl) (res1 rfl rfl) (fun h => by subst h; rfl) (fun h => by subst h; exact .nil)

theorem C_L_GolombRises (F : Nat) (x1 : Int) (x2 : Int) (x3 : Int) (r : Bool) (hm : M_L_GolombRises F x1 x2 x3 = some r) :
    Pure Try.prog 8 [.int .u64 x1, .int .u64 x2, .int .u64 x3] [] Unit (fun _ => .bool r) (fun _ => []) (fun _ => []) := by
  refine pure_of Try.func8 rfl Try.ntmps8 rfl hm (fun w => ?_)
  refine sxc_env (l' := [(0, .int .u64 x1), (1, .int .u64 x2), (2, .int .u64 x3)]) rfl ?_
  refine sxc_seq ?_
  refine sxc_region ?_
  refine sxo_assign rfl rfl rfl ?_
  refine sxo_nil ?_
  refine sxq_next ?_
  refine sxc_seq ?_
  refine sxc_region ?_
  refine sxo_move rfl rfl rfl ?_
  refine sxo_move rfl rfl rfl ?_
  refine sxo_call ent30 rfl rfl rfl (fun x4 e4 => C_golomb_Code F x1 x3 x4 e4) .nil (fun x4 e4 => ?_)
  rintro ⟨a5, c6⟩
  refine sxo_move rfl rfl rfl ?_
  refine sxo_extract rfl rfl rfl rfl ?_
  refine sxo_extract rfl rfl rfl rfl ?_
  refine sxo_alloc rfl tf25 rfl (fun g7 => ?_)
  refine sxo_storeB (i := 0) rfl rfl rfl tf25 rfl rfl rfl rfl rfl ?_
  refine sxo_assign rfl rfl rfl ?_
  refine sxo_nil ?_
  refine sxq_next ?_
  refine sxc_seq ?_
  refine sxc_region ?_
  refine sxo_move rfl rfl rfl ?_
  refine sxo_move rfl rfl rfl ?_
  refine sxo_call ent30 rfl rfl rfl (fun x8 e8 => C_golomb_Code F x2 x3 x8 e8) .nil (fun x8 e8 => ?_)
  rintro ⟨a9, c10⟩
  refine sxo_move rfl rfl rfl ?_
  refine sxo_extract rfl rfl rfl rfl ?_
  refine sxo_extract rfl rfl rfl rfl ?_
  refine sxo_alloc rfl tf25 rfl (fun g11 => ?_)
  refine sxo_storeB (i := 0) rfl rfl rfl tf25 rfl rfl rfl rfl rfl ?_
  refine sxo_assign rfl rfl rfl ?_
  refine sxo_nil ?_
  refine sxq_next ?_
  refine sxc_seq ?_
  refine sxc_seq ?_
  refine sxc_region ?_
  refine sxo_call ent37 rfl rfl rfl (fun x14 e14 => C_L_golombBegun F  x14 e14) .nil (fun x14 e14 => ?_)
  intro _
  refine sxo_not rfl rfl rfl ?_
  refine sxo_nil ?_
  refine sxq_next ?_
  refine sxc_if rfl (fun h29 => ?_) (fun h29 => ?_)
  · refine sxc_seq ?_
    refine sxc_region ?_
    refine sxo_assign rfl rfl rfl ?_
    refine sxo_nil ?_
    refine sxq_next ?_
    refine sxc_ret ?_
    refine sxq_thenR ?_
    exact sxq_doneP () (.inl rfl) (res1 rfl rfl) (fun h => by subst h; rfl) (fun h => by subst h; exact .nil)
  · refine sxc_skip ?_
    refine sxq_next ?_
    refine sxc_seq ?_
    refine sxc_seq ?_
    refine sxc_region ?_
    refine sxo_move rfl rfl rfl ?_
    refine sxo_neq rfl rfl rfl rfl ?_
    refine sxo_move rfl rfl rfl ?_
    refine sxo_case 3 ((x4.2.2 : Int) != 0) [(0, .int .u64 x1), (1, .int .u64 x2), (2, .int .u64 x3), (7, .pointer (some ⟨g7, 0, none⟩)), (9, .pointer (some ⟨g11, 0, none⟩)), (32, .bool (((x4.2.2 : Int) != 0) || ((x8.2.2 : Int) != 0)))] (fun h18 => ?_) (fun h18 => ?_) ?_
    · refine sxo_take (os := _) rfl ?_
      refine sxo_isT (k := 29) rfl h18 ?_
      refine sxo_skip rfl rfl rfl ?_
      refine sxo_skip rfl rfl rfl ?_
      refine sxo_pick (b := true) rfl rfl rfl rfl ?_
      refine sxo_again (d := 32) (v := .bool (((x4.2.2 : Int) != 0) || ((x8.2.2 : Int) != 0))) rfl (by rw [h18]; simp only [Bool.true_or]) ?_
      refine sxo_nil ?_
      exact sxq_case (lk_cons rfl (lk_cons rfl (lk_cons rfl (lk_cons rfl (lk_cons rfl (lk_cons rfl lk_nil))))))
    · refine sxo_take (os := _) rfl ?_
      refine sxo_isF (k := 29) rfl h18 ?_
      refine sxo_move rfl rfl rfl ?_
      refine sxo_neq rfl rfl rfl rfl ?_
      refine sxo_pick (b := false) rfl rfl rfl rfl ?_
      refine sxo_again (d := 32) (v := .bool (((x4.2.2 : Int) != 0) || ((x8.2.2 : Int) != 0))) rfl (by rw [h18]; simp only [Bool.false_or]) ?_
      refine sxo_nil ?_
      exact sxq_case (lk_cons rfl (lk_cons rfl (lk_cons rfl (lk_cons rfl (lk_cons rfl (lk_cons rfl lk_nil))))))
    refine sxo_take (os := _) rfl ?_
    refine sxo_move rfl rfl rfl ?_
    refine sxo_case 4 (((x4.2.2 : Int) != 0) || ((x8.2.2 : Int) != 0)) [(0, .int .u64 x1), (2, .int .u64 x3), (7, .pointer (some ⟨g7, 0, none⟩)), (9, .pointer (some ⟨g11, 0, none⟩)), (37, .bool ((((x4.2.2 : Int) != 0) || ((x8.2.2 : Int) != 0)) || (decide (x2 < x1))))] (fun h19 => ?_) (fun h19 => ?_) ?_
    · refine sxo_take (os := _) rfl ?_
      refine sxo_isT (k := 33) rfl h19 ?_
      refine sxo_skip rfl rfl rfl ?_
      refine sxo_skip rfl rfl rfl ?_
      refine sxo_skip rfl rfl rfl ?_
      refine sxo_pick (b := true) rfl rfl rfl rfl ?_
      refine sxo_again (d := 37) (v := .bool ((((x4.2.2 : Int) != 0) || ((x8.2.2 : Int) != 0)) || (decide (x2 < x1)))) rfl (by rw [h19]; simp only [Bool.true_or]) ?_
      refine sxo_nil ?_
      exact sxq_case (lk_cons rfl (lk_cons rfl (lk_cons rfl (lk_cons rfl (lk_cons rfl lk_nil)))))
    · refine sxo_take (os := _) rfl ?_
      refine sxo_isF (k := 33) rfl h19 ?_
      refine sxo_move rfl rfl rfl ?_
      refine sxo_move rfl rfl rfl ?_
      refine sxo_gtr rfl rfl rfl rfl ?_
      refine sxo_pick (b := false) rfl rfl rfl rfl ?_
      refine sxo_again (d := 37) (v := .bool ((((x4.2.2 : Int) != 0) || ((x8.2.2 : Int) != 0)) || (decide (x2 < x1)))) rfl (by rw [h19]; simp only [Bool.false_or]) ?_
      refine sxo_nil ?_
      exact sxq_case (lk_cons rfl (lk_cons rfl (lk_cons rfl (lk_cons rfl (lk_cons rfl lk_nil)))))
    refine sxo_take (os := _) rfl ?_
    refine sxo_nil ?_
    refine sxq_next ?_
    refine sxc_if rfl (fun h28 => ?_) (fun h28 => ?_)
    · refine sxc_seq ?_
      refine sxc_region ?_
      refine sxo_assign rfl rfl rfl ?_
      refine sxo_nil ?_
      refine sxq_next ?_
      refine sxc_ret ?_
      refine sxq_thenR ?_
      exact sxq_doneP () (.inl rfl) (res1 rfl rfl) (fun h => by subst h; rfl) (fun h => by subst h; exact .nil)
    · refine sxc_skip ?_
      refine sxq_next ?_
      refine sxc_seq ?_
      refine sxc_region ?_
      refine sxo_move rfl rfl rfl ?_
      refine sxo_move rfl rfl rfl ?_
      refine sxo_add rfl rfl rfl rfl ?_
      refine sxo_move rfl rfl rfl ?_
      refine sxo_call ent30 rfl rfl rfl (fun x20 e20 => C_golomb_Code F (iadd .u64 x1 x3) x3 x20 e20) .nil (fun x20 e20 => ?_)
      rintro ⟨a21, c22⟩
      refine sxo_move rfl rfl rfl ?_
      refine sxo_extract rfl rfl rfl rfl ?_
      refine sxo_extract rfl rfl rfl rfl ?_
      refine sxo_alloc rfl tf25 rfl (fun g23 => ?_)
      refine sxo_storeB (i := 0) rfl rfl rfl tf25 rfl rfl rfl rfl rfl ?_
      refine sxo_assign rfl rfl rfl ?_
      refine sxo_nil ?_
      refine sxq_next ?_
      refine sxc_seq ?_
      refine sxc_region ?_
      refine sxo_fieldAddr rfl rfl ff25_0 rfl ?_
      refine sxo_loadB (i := 2) rfl rfl tf3 rfl rfl (fun _ => rfl) rfl rfl ?_
      refine sxo_fieldAddr rfl rfl ff25_0 rfl ?_
      refine sxo_loadB (i := 1) rfl rfl tf3 rfl rfl (fun _ => rfl) rfl rfl ?_
      refine sxo_leq rfl rfl rfl rfl ?_
      refine sxo_move rfl rfl rfl ?_
      refine sxo_join 11 (fun ((x26, _) : (Bool × Unit)) => [(62, .bool x26)]) (fun ((x26, _) : (Bool × Unit)) => []) (fun ((x26, _) : (Bool × Unit)) => []) (fun ((x26, _) : (Bool × Unit)) => []) (fun ((x26, _) : (Bool × Unit)) => M_L_GolombRises_j1 F x26) ?_ ?_
      · refine sxo_take (os := _) rfl ?_
        refine sxo_if (fun h24 => ?_) (fun h24 => ?_)
        · refine sxo_isT (k := 51) rfl h24 ?_
          refine sxo_move rfl rfl rfl ?_
          refine sxo_neq rfl rfl rfl rfl ?_
          refine sxo_move rfl rfl rfl ?_
          refine sxo_case 7 ((x20.2.2 : Int) != 0) [(51, .bool true), (61, .bool (((x20.2.2 : Int) != 0) || ((x20.1 : Int) == (iadd .i64 x4.1 1))))] (fun h27 => ?_) (fun h27 => ?_) ?_
          · refine sxo_take (os := _) rfl ?_
            refine sxo_isT (k := 54) rfl h27 ?_
            refine sxo_skip rfl rfl rfl ?_
            refine sxo_skip rfl rfl rfl ?_
            refine sxo_skip rfl rfl rfl ?_
            refine sxo_skip rfl rfl rfl ?_
            refine sxo_skip rfl rfl rfl ?_
            refine sxo_skip rfl rfl rfl ?_
            refine sxo_pick (b := true) rfl rfl rfl rfl ?_
            refine sxo_again (d := 61) (v := .bool (((x20.2.2 : Int) != 0) || ((x20.1 : Int) == (iadd .i64 x4.1 1)))) rfl (by rw [h27]; simp only [Bool.true_or]) ?_
            refine sxo_nil ?_
            exact sxq_case (lk_cons rfl (lk_cons rfl lk_nil))
          · refine sxo_take (os := _) rfl ?_
            refine sxo_isF (k := 54) rfl h27 ?_
            refine sxo_fieldAddr rfl rfl ff25_0 rfl ?_
            refine sxo_loadB (i := 0) rfl rfl tf3 rfl rfl (fun _ => rfl) rfl rfl ?_
            refine sxo_fieldAddr rfl rfl ff25_0 rfl ?_
            refine sxo_loadB (i := 2) rfl rfl tf3 rfl rfl (fun _ => rfl) rfl rfl ?_
            refine sxo_add rfl rfl rfl rfl ?_
            refine sxo_eql rfl rfl rfl rfl ?_
            refine sxo_pick (b := false) rfl rfl rfl rfl ?_
            refine sxo_again (d := 61) (v := .bool (((x20.2.2 : Int) != 0) || ((x20.1 : Int) == (iadd .i64 x4.1 1)))) rfl (by rw [h27]; simp only [Bool.false_or]) ?_
            refine sxo_nil ?_
            exact sxq_case (lk_cons rfl (lk_cons rfl lk_nil))
          refine sxo_take (os := _) rfl ?_
          refine sxo_pick (b := true) rfl rfl rfl rfl ?_
          refine sxo_nil ?_
          exact sxq_meetP ((((x20.2.2 : Int) != 0) || ((x20.1 : Int) == (iadd .i64 x4.1 1))), ()) (lk_cons rfl lk_nil) .nil .nil fk_nil
        · refine sxo_isF (k := 51) rfl h24 ?_
          refine sxo_skip rfl rfl rfl ?_
          refine sxo_skip rfl rfl rfl ?_
          refine sxo_skip rfl rfl rfl ?_
          refine sxo_skip rfl rfl rfl ?_
          refine sxo_skip rfl rfl rfl ?_
          refine sxo_skip rfl rfl rfl ?_
          refine sxo_skip rfl rfl rfl ?_
          refine sxo_skip rfl rfl rfl ?_
          refine sxo_skip rfl rfl rfl ?_
          refine sxo_skip rfl rfl rfl ?_
          refine sxo_pick (b := false) rfl rfl rfl rfl ?_
          refine sxo_nil ?_
          exact sxq_meetP (false, ()) (lk_cons rfl lk_nil) .nil .nil fk_nil
      · rintro ⟨x26, _⟩
        try dsimp only
        refine sxo_take (os := _) rfl ?_
        refine sxo_assign rfl rfl rfl ?_
        refine sxo_nil ?_
        refine sxq_next ?_
        refine sxc_ret ?_
        exact sxq_doneP () (.inl rfl) (res1 rfl rfl) (fun h => by subst h; rfl) (fun h => by subst h; exact .nil)

theorem C_bits_places (F : Nat) (x1 : Int) (x2 : List Int) (a3 : Option Addr) (c4 : Nat) (x5 : Int) (x6 : Int) (r : Unit) (hm : M_bits_places F x1 x2 x5 x6 = some r) :
    PureM Try.prog 80 [.agg #[.int .i64 x1, .slice a3 x2.length c4], .int .i64 x5, .int .i64 x6] [] [] [Sl (eI .u8) 1 (.slice a3 x2.length c4) x2] (Nat × Nat × Nat) (fun g => .func (.func 98) #[] #[.pointer (some ⟨g.1, 0, none⟩), .pointer (some ⟨g.2.1, 0, none⟩), .pointer (some ⟨g.2.2, 0, none⟩)]) (fun g => [⟨g.1, 3, [.int .i64 x5]⟩, ⟨g.2.1, 3, [.int .i64 x6]⟩, ⟨g.2.2, 25, [.int .i64 x1, .slice a3 x2.length c4]⟩]) (fun _ => []) := by
  refine pureM_of Try.func80 rfl Try.ntmps80 rfl hm (fun w => ?_)
  refine sxc_env (l' := [(0, .agg #[.int .i64 x1, .slice a3 x2.length c4]), (1, .int .i64 x5), (2, .int .i64 x6)]) rfl ?_
  refine sxc_seq ?_
  refine sxc_region ?_
  refine sxo_box rfl rfl rfl (fun g7 => ?_)
  refine sxo_box rfl rfl rfl (fun g8 => ?_)
  refine sxo_box rfl rfl rfl (fun g9 => ?_)
  refine sxo_assign rfl rfl rfl ?_
  refine sxo_nil ?_
  refine sxq_next ?_
  refine sxc_seq ?_
  refine sxc_region ?_
  refine sxo_makeFunc rfl rfl rfl ?_
  refine sxo_assign rfl rfl rfl ?_
  refine sxo_nil ?_
  refine sxq_next ?_
  refine sxc_ret ?_
  exact sxq_doneM (g8, g9, g7) (.inl rfl) (res1 rfl rfl) (fun h => by subst h; rfl) (fun h => by subst h; exact (.cons 1 rfl (.cons 0 rfl (.cons 0 rfl .nil)))) (fun h => by subst h; exact .nil)

theorem C_bits_places_1 (F : Nat) {σ τ : Type} {J : Rounds σ τ} {yy : σ → Int → Option (σ ⊕ τ)} {L : Nat} (hY : YieldC Try.prog L (fun (p : Int) => [.int .u64 p]) J yy) (s0 : σ) (gs0 : J.γ) (g1 : Nat) (x2 : Int) (g3 : Nat) (x4 : Int) (g5 : Nat) (x6 : Int) (x7 : List Int) (a8 : Option Addr) (c9 : Nat) (r : σ ⊕ τ) (hm : M_bits_places_1 F yy x2 x4 x6 x7 s0 = some r) :
    PureM Try.prog 98 ([.func (.yield L) #[] #[], .pointer (some ⟨g1, 0, none⟩), .pointer (some ⟨g3, 0, none⟩), .pointer (some ⟨g5, 0, none⟩)]) ([⟨g1, 3, [.int .i64 x2]⟩, ⟨g3, 3, [.int .i64 x4]⟩, ⟨g5, 25, [.int .i64 x6, .slice a8 x7.length c9]⟩] ++ J.IB s0 gs0) (J.IR s0 gs0) [J.F, Sl (eI .u8) 1 (.slice a8 x7.length c9) x7] (J.G r) (fun _ => .tuple #[]) (fun g => [⟨g1, 3, [.int .i64 x2]⟩, ⟨g3, 3, [.int .i64 x4]⟩, ⟨g5, 25, [.int .i64 x6, .slice a8 x7.length c9]⟩] ++ J.bs r g) (fun g => J.rs r g) := by
  refine pureM_of Try.func98 rfl Try.ntmps98 rfl hm (fun w => ?_)
  refine sxc_env (l' := [(0, .func (.yield L) #[] #[]), (1, .pointer (some ⟨g1, 0, none⟩)), (2, .pointer (some ⟨g3, 0, none⟩)), (3, .pointer (some ⟨g5, 0, none⟩))]) rfl ?_
  refine sxc_seq ?_
  refine sxc_region ?_
  refine sxo_loadB (i := 0) rfl rfl tf3 rfl rfl (fun _ => rfl) rfl rfl ?_
  refine sxo_assign rfl rfl rfl ?_
  refine sxo_nil ?_
  refine sxq_next ?_
  refine sxc_block ?_
  refine sxc_loopP (fun (((x22, x23), g24) : ((Int × σ) × J.γ)) => [(0, .func (.yield L) #[] #[]), (2, .pointer (some ⟨g3, 0, none⟩)), (3, .pointer (some ⟨g5, 0, none⟩)), (5, .int .i64 x22)]) (fun (((x22, x23), g24) : ((Int × σ) × J.γ)) => [⟨g1, 3, [.int .i64 x2]⟩, ⟨g3, 3, [.int .i64 x4]⟩, ⟨g5, 25, [.int .i64 x6, .slice a8 x7.length c9]⟩] ++ J.IB x23 g24) (fun (((x22, x23), g24) : ((Int × σ) × J.γ)) => [] ++ J.IR x23 g24) (fun (((x22, x23), g24) : ((Int × σ) × J.γ)) => [Sl (eI .u8) 1 (.slice a8 x7.length c9) x7, J.F]) (fun k (s : ((Int × σ) × J.γ)) => M_bits_places_1_l1 F yy x4 x6 x7 k s.1) ((x2, s0), gs0) F (lk_cons rfl (lk_cons rfl (lk_cons rfl (lk_cons rfl lk_nil)))) (.cons 0 rfl (.cons 0 rfl (.cons 0 rfl (pick_rest 0 rfl)))) (pick_rest 0 rfl) (fk_cons 1 rfl (fk_cons 0 rfl fk_nil)) (fun _ => rfl) ?_
  intro k37
  rintro ⟨⟨x22, x23⟩, g24⟩
  try dsimp only
  refine sxc_meq (m' := M_bits_places_1_b1 F yy x4 x6 x7 (M_bits_places_1_l1 F yy x4 x6 x7 k37) x22 x23) rfl ?_
  refine sxc_seq ?_
  refine sxc_seq ?_
  refine sxc_region ?_
  refine sxo_move rfl rfl rfl ?_
  refine sxo_loadB (i := 1) rfl rfl tf3 rfl rfl (fun _ => rfl) rfl rfl ?_
  refine sxo_lss rfl rfl rfl rfl ?_
  refine sxo_nil ?_
  refine sxq_next ?_
  refine sxc_if rfl (fun h49 => ?_) (fun h49 => ?_)
  · refine sxc_skip ?_
    refine sxq_next ?_
    refine sxc_seq ?_
    refine sxc_block ?_
    refine sxc_seq ?_
    refine sxc_region ?_
    refine sxo_move rfl rfl rfl ?_
    refine sxo_loadB (i := 2) rfl rfl tf25 rfl rfl (by simp) rfl rfl ?_
    refine sxo_move rfl rfl rfl ?_
    refine sxo_call ent96 rfl rfl rfl (fun x44 e44 => C_bits_At F x6 x7 a8 c9 x22 x44 e44) (.consF 0 rfl .nil) (fun x44 e44 => ?_)
    intro _
    refine sxo_yield hY x23 x44 g24 (B1 := [⟨g1, 3, [.int .i64 x2]⟩, ⟨g3, 3, [.int .i64 x4]⟩, ⟨g5, 25, [.int .i64 x6, .slice a8 x7.length c9]⟩]) (R1 := []) (j := 1) rfl rfl rfl rfl rfl rfl rfl (fun x45 _ g47 => ?_) (fun x46 _ g47 => ?_)
    · refine sxo_not rfl rfl rfl ?_
      refine sxo_nil ?_
      refine sxq_next ?_
      refine sxc_cond (b := false) rfl (fun h => by cases h) (fun _ => ?_)
      refine sxc_skip ?_
      refine sxq_blkN ?_
      refine sxq_next ?_
      refine sxc_region ?_
      refine sxo_move rfl rfl rfl ?_
      refine sxo_add rfl rfl rfl rfl ?_
      refine sxo_assign rfl rfl rfl ?_
      refine sxo_nil ?_
      exact sxq_againP ((iadd .i64 x22 1, x45), g47) (lk_cons rfl (lk_cons rfl (lk_cons rfl (lk_cons rfl lk_nil)))) (.cons 0 rfl (.cons 0 rfl (.cons 0 rfl (pick_rest 0 rfl)))) (pick_rest 0 rfl) (fk_cons 0 rfl (fk_cons 1 rfl fk_nil))
    · refine sxo_not rfl rfl rfl ?_
      refine sxo_nil ?_
      refine sxq_next ?_
      refine sxc_cond (b := true) rfl (fun _ => ?_) (fun h => by cases h)
      refine sxc_ret ?_
      refine sxq_blkR ?_
      refine sxq_thenR ?_
      refine sxq_thenR ?_
      refine sxq_blkR ?_
      exact sxq_doneI (B0 := [⟨g1, 3, [.int .i64 x2]⟩, ⟨g3, 3, [.int .i64 x4]⟩, ⟨g5, 25, [.int .i64 x6, .slice a8 x7.length c9]⟩]) (x := .inr x46) g47 (.inl rfl) (res0 rfl) (.cons 0 rfl (.cons 0 rfl (.cons 0 rfl (pick_rest 0 rfl)))) (pick_rest 0 rfl)
  · refine sxc_exit ?_
    refine sxq_thenX ?_
    refine sxq_thenX ?_
    refine sxq_blkX ?_
    exact sxq_doneI (B0 := [⟨g1, 3, [.int .i64 x2]⟩, ⟨g3, 3, [.int .i64 x4]⟩, ⟨g5, 25, [.int .i64 x6, .slice a8 x7.length c9]⟩]) (x := .inl x23) g24 (.inr rfl) (res0 rfl) (.cons 0 rfl (.cons 0 rfl (.cons 0 rfl (pick_rest 0 rfl)))) (pick_rest 0 rfl)
end Go.Proofs.Ytjeaicfjildchaa
