/- Each Go function of this seat computes what its model says. -/
import Derived.Test.YtecangnmnkejfaaRows
import Derived.Test.YtecangnmnkejfaaModels
namespace Go.Proofs.Ytecangnmnkejfaa
open Go SX
theorem tf3 : TyF Try.prog 3 false (.int .i64 0) 1 8 := .of (by kernel_rfl) (by kernel_rfl)
theorem tf5 : TyF Try.prog 5 false (.int .u8 0) 1 1 := .of (by kernel_rfl) (by kernel_rfl)
theorem tf22 : TyF Try.prog 22 false (.int .u64 0) 1 8 := .of (by kernel_rfl) (by kernel_rfl)
theorem tf24 : TyF Try.prog 24 false (.slice none 0 0) 1 24 := .of (by kernel_rfl) (by kernel_rfl)
theorem tf26 : TyF Try.prog 26 true (.agg #[.int .i64 0, .slice none 0 0]) 2 32 := .of (by kernel_rfl) (by kernel_rfl)
theorem tf73 : TyF Try.prog 73 true (.agg #[.int .u64 0, .int .u64 0, .int .u64 0, .int .u64 0, .int .u64 0, .int .u64 0, .int .u64 0, .int .u64 0, .int .u64 0, .int .u64 0, .int .u64 0, .int .u64 0, .int .u64 0, .int .u64 0, .int .u64 0, .int .u64 0, .int .u64 0, .int .u64 0, .int .u64 0, .int .u64 0, .int .u64 0, .int .u64 0, .int .u64 0, .int .u64 0, .int .u64 0, .int .u64 0, .int .u64 0, .int .u64 0, .int .u64 0, .int .u64 0, .int .u64 0, .int .u64 0, .int .u64 0, .int .u64 0, .int .u64 0, .int .u64 0, .int .u64 0, .int .u64 0, .int .u64 0, .int .u64 0, .int .u64 0, .int .u64 0, .int .u64 0, .int .u64 0, .int .u64 0, .int .u64 0, .int .u64 0, .int .u64 0, .int .u64 0, .int .u64 0, .int .u64 0, .int .u64 0, .int .u64 0, .int .u64 0, .int .u64 0, .int .u64 0, .int .u64 0, .int .u64 0, .int .u64 0, .int .u64 0, .int .u64 0, .int .u64 0, .int .u64 0, .int .u64 0]) 64 512 := .of (by kernel_rfl) (by kernel_rfl)
theorem tf89 : TyF Try.prog 89 false (.pointer none) 1 8 := .of (by kernel_rfl) (by kernel_rfl)
theorem ff26_0 : FdF Try.prog 26 0 0 := .of (by kernel_rfl)
theorem ff26_1 : FdF Try.prog 26 1 1 := .of (by kernel_rfl)
theorem ff91_0 : FdF Try.prog 91 0 0 := .of (by kernel_rfl)
theorem st26 : StF Try.prog 26 [(0, 1), (1, 1)] (.agg #[.int .i64 0, .slice none 0 0]) := .of (by kernel_rfl) (by kernel_rfl)
theorem st91 : StF Try.prog 91 [(0, 2)] (.agg #[.int .i64 0, .slice none 0 0]) := .of (by kernel_rfl) (by kernel_rfl)
theorem mixed : Try.prog.follows .mixedOrders = true := by kernel_rfl
theorem ent15 : Enters Try.prog 15 := enters_of Try.func15 rfl rfl
theorem ent16 : Enters Try.prog 16 := enters_of Try.func16 rfl rfl
theorem ent17 : Enters Try.prog 17 := enters_of Try.func17 rfl rfl
theorem ent18 : Enters Try.prog 18 := enters_of Try.func18 rfl rfl
theorem ent19 : Enters Try.prog 19 := enters_of Try.func19 rfl rfl
theorem ent20 : Enters Try.prog 20 := enters_of Try.func20 rfl rfl
theorem ent21 : Enters Try.prog 21 := enters_of Try.func21 rfl rfl
theorem ent22 : Enters Try.prog 22 := enters_of Try.func22 rfl rfl
theorem ent23 : Enters Try.prog 23 := enters_of Try.func23 rfl rfl
theorem ent24 : Enters Try.prog 24 := enters_of Try.func24 rfl rfl
theorem ent25 : Enters Try.prog 25 := enters_of Try.func25 rfl rfl
theorem ent26 : Enters Try.prog 26 := enters_of Try.func26 rfl rfl
theorem ent27 : Enters Try.prog 27 := enters_of Try.func27 rfl rfl
theorem ent28 : Enters Try.prog 28 := enters_of Try.func28 rfl rfl
theorem ent29 : Enters Try.prog 29 := enters_of Try.func29 rfl rfl
theorem ent30 : Enters Try.prog 30 := enters_of Try.func30 rfl rfl
theorem ent40 : Enters Try.prog 40 := enters_of Try.func40 rfl rfl
theorem ent41 : Enters Try.prog 41 := enters_of Try.func41 rfl rfl
theorem ent42 : Enters Try.prog 42 := enters_of Try.func42 rfl rfl
theorem ent43 : Enters Try.prog 43 := enters_of Try.func43 rfl rfl
theorem ent44 : Enters Try.prog 44 := enters_of Try.func44 rfl rfl
theorem ent47 : Enters Try.prog 47 := enters_of Try.func47 rfl rfl
theorem ent48 : Enters Try.prog 48 := enters_of Try.func48 rfl rfl
theorem ent49 : Enters Try.prog 49 := enters_of Try.func49 rfl rfl
theorem ent50 : Enters Try.prog 50 := enters_of Try.func50 rfl rfl
theorem ent51 : Enters Try.prog 51 := enters_of Try.func51 rfl rfl
theorem ent52 : Enters Try.prog 52 := enters_of Try.func52 rfl rfl
theorem ent53 : Enters Try.prog 53 := enters_of Try.func53 rfl rfl
theorem ent54 : Enters Try.prog 54 := enters_of Try.func54 rfl rfl
theorem ent63 : Enters Try.prog 63 := enters_of Try.func63 rfl rfl
theorem ent64 : Enters Try.prog 64 := enters_of Try.func64 rfl rfl
theorem ent65 : Enters Try.prog 65 := enters_of Try.func65 rfl rfl
theorem ent66 : Enters Try.prog 66 := enters_of Try.func66 rfl rfl
theorem ent67 : Enters Try.prog 67 := enters_of Try.func67 rfl rfl
theorem ent68 : Enters Try.prog 68 := enters_of Try.func68 rfl rfl
theorem ent74 : Enters Try.prog 74 := enters_of Try.func74 rfl rfl
theorem ent75 : Enters Try.prog 75 := enters_of Try.func75 rfl rfl
theorem ent76 : Enters Try.prog 76 := enters_of Try.func76 rfl rfl
theorem ent82 : Enters Try.prog 82 := enters_of Try.func82 rfl rfl
theorem ent83 : Enters Try.prog 83 := enters_of Try.func83 rfl rfl
theorem ent84 : Enters Try.prog 84 := enters_of Try.func84 rfl rfl
theorem ent90 : Enters Try.prog 90 := enters_of Try.func90 rfl rfl
theorem ent93 : Enters Try.prog 93 := enters_of Try.func93 rfl rfl

theorem C_fib_numbers (F : Nat)  (r : List Int) (hm : M_fib_numbers F  = some r) :
    Pure Try.prog 47 [] [] Unit (fun _ => .agg (r.flatMap (eI .u64)).toArray) (fun _ => []) (fun _ => []) := by
  refine pure_of Try.func47 rfl Try.ntmps47 rfl hm (fun w => ?_)
  refine sxc_env (l' := []) rfl ?_
  refine sxc_seq ?_
  refine sxc_region ?_
  refine sxo_alloc rfl tf73 rfl (fun g1 => ?_)
  refine sxo_blkAgain (i := 0) (cs' := (List.replicate 64 (0 : Int)).flatMap (eI .u64)) rfl rfl ?_
  refine sxo_b2r (i := 0) (xs := (List.replicate 64 (0 : Int))) (k := 64) (eI_ok .u64) rfl List.length_replicate rfl ?_
  refine sxo_nil ?_
  refine sxq_next ?_
  refine sxc_seq ?_
  refine sxc_region ?_
  refine sxo_indexAR (j := 0) rfl Try.underlying73 tf22 rfl rfl rfl rfl (fun x2 e2 => ?_)
  refine sxo_storeL (j := 0) (y' := 1) (eI_ok .u64) rfl rfl rfl tf22 rfl rfl (idx_get e2).2.1 rfl (fun x3 e3 h4 => ?_)
  have h5 : x3.length = (List.replicate 64 (0 : Int)).length := by rw [← e3, List.length_set]
  refine sxo_indexAR (j := 0) rfl Try.underlying73 tf22 rfl rfl rfl rfl (fun x6 e6 => ?_)
  refine sxo_storeL (j := 0) (y' := 2) (eI_ok .u64) rfl rfl rfl tf22 rfl rfl (idx_get e6).2.1 rfl (fun x7 e7 h8 => ?_)
  have h9 : x7.length = x3.length := by rw [← e7, List.length_set]
  refine sxo_nil ?_
  refine sxq_next ?_
  refine sxc_join (fun ((x73, _) : (List Int × Unit)) => [(0, .pointer (some ⟨g1, 0, none⟩))]) (fun ((x73, _) : (List Int × Unit)) => []) (fun ((x73, _) : (List Int × Unit)) => [Ro (eI .u64) 73 1 (.slice (some ⟨g1, 0, none⟩) x73.length 64) x73]) (fun ((x73, _) : (List Int × Unit)) => []) (fun ((x73, _) : (List Int × Unit)) => M_fib_numbers_j2 F x73) ?_ ?_
  · refine sxc_seq ?_
    refine sxc_region ?_
    refine sxo_assign rfl rfl rfl ?_
    refine sxo_nil ?_
    refine sxq_next ?_
    refine sxc_block ?_
    refine sxc_loopP (fun (((x97, x98), _) : ((List Int × Int) × Unit)) => [(0, .pointer (some ⟨g1, 0, none⟩)), (1, .int .i64 x98)]) (fun (((x97, x98), _) : ((List Int × Int) × Unit)) => []) (fun (((x97, x98), _) : ((List Int × Int) × Unit)) => [Ro (eI .u64) 73 1 (.slice (some ⟨g1, 0, none⟩) x97.length 64) x97]) (fun (((x97, x98), _) : ((List Int × Int) × Unit)) => []) (fun k (s : ((List Int × Int) × Unit)) => M_fib_numbers_l3 F k s.1) ((x7, 2), ()) F (lk_cons rfl (lk_cons rfl lk_nil)) .nil (.cons 0 rfl .nil) fk_nil (fun _ => rfl) ?_
    intro k119
    rintro ⟨⟨x97, x98⟩, _⟩
    try dsimp only
    refine sxc_meq (m' := M_fib_numbers_b3 F (M_fib_numbers_l3 F k119) x97 x98) rfl ?_
    refine sxc_seq ?_
    refine sxc_seq ?_
    refine sxc_region ?_
    refine sxo_move rfl rfl rfl ?_
    refine sxo_lss rfl rfl rfl rfl ?_
    refine sxo_nil ?_
    refine sxq_next ?_
    refine sxc_if rfl (fun h139 => ?_) (fun h139 => ?_)
    · refine sxc_skip ?_
      refine sxq_next ?_
      refine sxc_seq ?_
      refine sxc_block ?_
      refine sxc_idxA (j := 0) rfl (fun x130 e130 h131 => ?_)
      refine sxc_idxA (j := 0) rfl (fun x132 e132 h133 => ?_)
      refine sxc_idxA (j := 0) rfl (fun x134 e134 h135 => ?_)
      refine sxb_draw mixed [11] [] [CellsAt g1 ((isub .i64 x98 1).toNat * 1) ((eI .u64) x130), CellsAt g1 ((isub .i64 x98 2).toNat * 1) ((eI .u64) x132), CellsAt g1 (x98.toNat * 1) ((eI .u64) x134)] .nil (gk_R 0 rfl (at_row (eI_ok .u64) e130 rfl) (gk_R 0 rfl (at_row (eI_ok .u64) e132 rfl) (gk_R 0 rfl (at_row (eI_ok .u64) e134 rfl) gk_nil))) 12 rfl ?_
      refine sxb_takeP 0 (.int .i64 x98) rfl rfl rfl rfl (by kernel_rfl) (by kernel_rfl) (by kernel_rfl) (by kernel_rfl) (by kernel_rfl) rfl (show _ = #[true, false, false, false, false, false, false, false, false, false, false, false] from rfl) (yv_pv rfl) ?_
      refine sxb_takeP 1 (.int .i64 x98) rfl rfl rfl rfl (by kernel_rfl) (by kernel_rfl) (by kernel_rfl) (by kernel_rfl) (by kernel_rfl) rfl (show _ = #[true, true, false, false, false, false, false, false, false, false, false, false] from rfl) (yv_pv rfl) ?_
      refine sxb_takeP 2 (.int .i64 (isub .i64 x98 1)) rfl rfl rfl rfl (by kernel_rfl) (by kernel_rfl) (by kernel_rfl) (by kernel_rfl) (by kernel_rfl) rfl (show _ = #[true, true, true, false, false, false, false, false, false, false, false, false] from rfl) (yv_pv rfl) ?_
      refine sxb_takeP 3 (.pointer (some ⟨g1, (isub .i64 x98 1).toNat * 1, none⟩)) rfl rfl rfl rfl (by kernel_rfl) (by kernel_rfl) (by kernel_rfl) (by kernel_rfl) (by kernel_rfl) rfl (show _ = #[true, true, true, true, false, false, false, false, false, false, false, false] from rfl) (yv_idxA Try.underlying73 tf22 rfl rfl (idx_get e130).1 h131) ?_
      refine sxb_take 4 (.int .u64 x130) [[11]] rfl rfl rfl rfl (by kernel_rfl) (by kernel_rfl) (by kernel_rfl) (by kernel_rfl) (by kernel_rfl) (by kernel_rfl) rfl (show _ = #[true, true, true, true, true, false, false, false, false, false, false, false] from rfl) (yv_loadF (j := 0) rfl tf22 rfl rfl (fun _ => rfl) rfl) ?_
      refine sxb_takeP 5 (.int .i64 x98) rfl rfl rfl rfl (by kernel_rfl) (by kernel_rfl) (by kernel_rfl) (by kernel_rfl) (by kernel_rfl) rfl (show _ = #[true, true, true, true, true, true, false, false, false, false, false, false] from rfl) (yv_pv rfl) ?_
      refine sxb_takeP 6 (.int .i64 (isub .i64 x98 2)) rfl rfl rfl rfl (by kernel_rfl) (by kernel_rfl) (by kernel_rfl) (by kernel_rfl) (by kernel_rfl) rfl (show _ = #[true, true, true, true, true, true, true, false, false, false, false, false] from rfl) (yv_pv rfl) ?_
      refine sxb_takeP 7 (.pointer (some ⟨g1, (isub .i64 x98 2).toNat * 1, none⟩)) rfl rfl rfl rfl (by kernel_rfl) (by kernel_rfl) (by kernel_rfl) (by kernel_rfl) (by kernel_rfl) rfl (show _ = #[true, true, true, true, true, true, true, true, false, false, false, false] from rfl) (yv_idxA Try.underlying73 tf22 rfl rfl (idx_get e132).1 h133) ?_
      refine sxb_take 8 (.int .u64 x132) [[11]] rfl rfl rfl rfl (by kernel_rfl) (by kernel_rfl) (by kernel_rfl) (by kernel_rfl) (by kernel_rfl) (by kernel_rfl) rfl (show _ = #[true, true, true, true, true, true, true, true, true, false, false, false] from rfl) (yv_loadF (j := 1) rfl tf22 rfl rfl (fun _ => rfl) rfl) ?_
      refine sxb_takeP 9 (.int .u64 (iadd .u64 x130 x132)) rfl rfl rfl rfl (by kernel_rfl) (by kernel_rfl) (by kernel_rfl) (by kernel_rfl) (by kernel_rfl) rfl (show _ = #[true, true, true, true, true, true, true, true, true, true, false, false] from rfl) (yv_pv rfl) ?_
      refine sxb_takeP 10 (.pointer (some ⟨g1, x98.toNat * 1, none⟩)) rfl rfl rfl rfl (by kernel_rfl) (by kernel_rfl) (by kernel_rfl) (by kernel_rfl) (by kernel_rfl) rfl (show _ = #[true, true, true, true, true, true, true, true, true, true, true, false] from rfl) (yv_idxA Try.underlying73 tf22 rfl rfl (idx_get e134).1 h135) ?_
      refine sxb_step 11 rfl (by kernel_rfl) (show _ = #[true, true, true, true, true, true, true, true, true, true, true, true] from rfl) ?_
      refine sxo_storeL (j := 0) (y' := iadd .u64 x130 x132) (eI_ok .u64) rfl rfl rfl tf22 rfl rfl (idx_get e134).2.1 rfl (fun x136 e136 h137 => ?_)
      have h138 : x136.length = x97.length := by rw [← e136, List.length_set]
      refine sxo_nil ?_
      refine sxq_anyW 11 rfl rfl ?_
      refine sxb_done (by kernel_rfl) ?_
      refine sxq_np ?_ (by intro c h; cases h)
      refine sxq_blkN ?_
      refine sxq_next ?_
      refine sxc_region ?_
      refine sxo_move rfl rfl rfl ?_
      refine sxo_add rfl rfl rfl rfl ?_
      refine sxo_assign rfl rfl rfl ?_
      refine sxo_nil ?_
      exact sxq_againP ((x136, iadd .i64 x98 1), ()) (lk_cons rfl (lk_cons rfl lk_nil)) .nil (.cons 0 rfl .nil) fk_nil
    · refine sxc_exit ?_
      refine sxq_thenX ?_
      refine sxq_thenX ?_
      refine sxq_blkX ?_
      exact sxq_meetP (x97, ()) (lk_cons rfl lk_nil) .nil (.cons 0 rfl .nil) fk_nil
  · rintro ⟨x73, _⟩
    try dsimp only
    refine sxc_seq ?_
    refine sxc_region ?_
    refine sxo_chk (fun h74 => ?_)
    replace h74 := of_decide_eq_true h74
    refine sxo_r2b (j := 0) rfl h74 ?_
    refine sxo_loadB (i := 0) rfl rfl tf73 rfl (arr_hl (arr_len h74)) (by simp) (arr_hV (arr_len h74)) rfl ?_
    refine sxo_b2r (i := 0) (xs := x73) (k := 64) (eI_ok .u64) rfl h74 rfl ?_
    refine sxo_chk (fun h75 => ?_)
    replace h75 := of_decide_eq_true h75
    refine sxo_r2b (j := 0) rfl h75 ?_
    refine sxo_storeB (i := 0) rfl rfl rfl tf73 rfl (arr_sz h75) (arr_le h75 h75) arr_ok (arr_st (arr_len h75) h75) ?_
    refine sxo_b2r (i := 0) (xs := x73) (k := 64) (eI_ok .u64) rfl h75 rfl ?_
    refine sxo_nil ?_
    refine sxq_next ?_
    refine sxc_ret ?_
    refine sxq_chk (fun h76 => ?_)
    replace h76 := of_decide_eq_true h76
    refine sxq_r2b (j := 0) rfl h76 ?_
    exact sxq_doneP () (.inl rfl) (resL (rs := [.cell 0 73]) rfl (.cell (i := 0) rfl tf73 rfl (arr_hl (arr_len h76)) (by simp) (arr_hV (arr_len h76)) ResOk.nil) rfl) (fun h => by subst h; rfl) (fun h => by subst h; exact .nil)

theorem C_fib_Number (F : Nat) (x1 : Int) (r : (Int × Int)) (hm : M_fib_Number F x1 = some r) :
    Pure Try.prog 15 [.int .i64 x1] [] Unit (fun _ => .tuple #[.int .u64 r.1, .int .i64 r.2]) (fun _ => []) (fun _ => []) := by
  refine pure_of Try.func15 rfl Try.ntmps15 rfl hm (fun w => ?_)
  refine sxc_env (l' := [(0, .int .i64 x1)]) rfl ?_
  refine sxc_seq ?_
  refine sxc_region ?_
  refine sxo_assign rfl rfl rfl ?_
  refine sxo_assign rfl rfl rfl ?_
  refine sxo_nil ?_
  refine sxq_next ?_
  refine sxc_seq ?_
  refine sxc_seq ?_
  refine sxc_region ?_
  refine sxo_move rfl rfl rfl ?_
  refine sxo_lss rfl rfl rfl rfl ?_
  refine sxo_move rfl rfl rfl ?_
  refine sxo_case 3 (decide (x1 < 0)) [(0, .int .i64 x1), (9, .bool ((decide (x1 < 0)) || (decide (64 ≤ x1))))] (fun h4 => ?_) (fun h4 => ?_) ?_
  · refine sxo_take (os := _) rfl ?_
    refine sxo_isT (k := 6) rfl h4 ?_
    refine sxo_skip rfl rfl rfl ?_
    refine sxo_skip rfl rfl rfl ?_
    refine sxo_pick (b := true) rfl rfl rfl rfl ?_
    refine sxo_again (d := 9) (v := .bool ((decide (x1 < 0)) || (decide (64 ≤ x1)))) rfl (by rw [h4]; simp only [Bool.true_or]) ?_
    refine sxo_nil ?_
    exact sxq_case (lk_cons rfl (lk_cons rfl lk_nil))
  · refine sxo_take (os := _) rfl ?_
    refine sxo_isF (k := 6) rfl h4 ?_
    refine sxo_move rfl rfl rfl ?_
    refine sxo_geq rfl rfl rfl rfl ?_
    refine sxo_pick (b := false) rfl rfl rfl rfl ?_
    refine sxo_again (d := 9) (v := .bool ((decide (x1 < 0)) || (decide (64 ≤ x1)))) rfl (by rw [h4]; simp only [Bool.false_or]) ?_
    refine sxo_nil ?_
    exact sxq_case (lk_cons rfl (lk_cons rfl lk_nil))
  refine sxo_take (os := _) rfl ?_
  refine sxo_nil ?_
  refine sxq_next ?_
  refine sxc_if rfl (fun h8 => ?_) (fun h8 => ?_)
  · refine sxc_seq ?_
    refine sxc_region ?_
    refine sxo_assign rfl rfl rfl ?_
    refine sxo_assign rfl rfl rfl ?_
    refine sxo_nil ?_
    refine sxq_next ?_
    refine sxc_ret ?_
    refine sxq_thenR ?_
    exact sxq_doneP () (.inl rfl) (res2 rfl rfl rfl) (fun h => by subst h; rfl) (fun h => by subst h; exact .nil)
  · refine sxc_skip ?_
    refine sxq_next ?_
    refine sxc_seq ?_
    refine sxc_region ?_
    refine sxo_call ent47 rfl rfl rfl (fun x5 e5 => C_fib_numbers F  x5 e5) .nil (fun x5 e5 => ?_)
    intro _
    refine sxo_move rfl rfl rfl ?_
    refine sxo_chk (fun h6 => ?_)
    replace h6 := of_decide_eq_true h6
    refine sxo_indexV rfl Try.underlying73 tf22 rfl rfl h6 rfl (fun x7 e7 => ?_)
    refine sxo_assign rfl rfl rfl ?_
    refine sxo_assign rfl rfl rfl ?_
    refine sxo_nil ?_
    refine sxq_next ?_
    refine sxc_ret ?_
    exact sxq_doneP () (.inl rfl) (res2 rfl rfl rfl) (fun h => by subst h; rfl) (fun h => by subst h; exact .nil)

theorem C_slices_Reverse_int_int (F : Nat) (x1 : List Int) (a2 : Option Addr) (c3 : Nat) (r : List Int) (hm : M_slices_Reverse_int_int F x1 = some r) :
    PureM Try.prog 74 [.slice a2 x1.length c3] [] [Ro (eI .i64) 3 1 (.slice a2 x1.length c3) x1] [] Unit (fun _ => .tuple #[]) (fun _ => []) (fun _ => [Ro (eI .i64) 3 1 (.slice a2 r.length c3) r]) := by
  refine pureM_of Try.func74 rfl Try.ntmps74 rfl hm (fun w => ?_)
  refine sxc_env (l' := [(0, .slice a2 x1.length c3)]) rfl ?_
  refine sxc_seq ?_
  refine sxc_region ?_
  refine sxo_move rfl rfl rfl ?_
  refine sxo_len rfl Try.underlying23 rfl rfl ?_
  refine sxo_sub rfl rfl rfl rfl ?_
  refine sxo_assign rfl rfl rfl ?_
  refine sxo_assign rfl rfl rfl ?_
  refine sxo_nil ?_
  refine sxq_next ?_
  refine sxc_block ?_
  refine sxc_loopP (fun (((x51, x52, x53), _) : ((List Int × Int × Int) × Unit)) => [(0, .slice a2 x51.length c3), (2, .int .i64 x52), (3, .int .i64 x53)]) (fun (((x51, x52, x53), _) : ((List Int × Int × Int) × Unit)) => []) (fun (((x51, x52, x53), _) : ((List Int × Int × Int) × Unit)) => [Ro (eI .i64) 3 1 (.slice a2 x51.length c3) x51]) (fun (((x51, x52, x53), _) : ((List Int × Int × Int) × Unit)) => []) (fun k (s : ((List Int × Int × Int) × Unit)) => M_slices_Reverse_int_int_l1 F k s.1) ((x1, 0, isub .i64 (x1.length : Int) 1), ()) F (lk_cons rfl (lk_cons rfl (lk_cons rfl lk_nil))) .nil (.cons 0 rfl .nil) fk_nil (fun _ => rfl) ?_
  intro k100
  rintro ⟨⟨x51, x52, x53⟩, _⟩
  try dsimp only
  refine sxc_meq (m' := M_slices_Reverse_int_int_b1 F (M_slices_Reverse_int_int_l1 F k100) x51 x52 x53) rfl ?_
  refine sxc_seq ?_
  refine sxc_seq ?_
  refine sxc_region ?_
  refine sxo_move rfl rfl rfl ?_
  refine sxo_move rfl rfl rfl ?_
  refine sxo_lss rfl rfl rfl rfl ?_
  refine sxo_nil ?_
  refine sxq_next ?_
  refine sxc_if rfl (fun h146 => ?_) (fun h146 => ?_)
  · refine sxc_skip ?_
    refine sxq_next ?_
    refine sxc_seq ?_
    refine sxc_block ?_
    refine sxc_idxO (j := 0) rfl (fun x124 e124 g125 h126 => ?_)
    replace h126 : a2 = some ⟨g125, 0, none⟩ := h126
    have h127 := own_of (k := x51.length) (c := c3) h126
    refine sxc_idxO (j := 0) rfl (fun x128 e128 g129 h130 => ?_)
    replace h130 : a2 = some ⟨g129, 0, none⟩ := h130
    have h131 := own_of (k := x51.length) (c := c3) h130
    refine sxc_idxO (j := 0) rfl (fun x132 e132 g133 h134 => ?_)
    replace h134 : a2 = some ⟨g133, 0, none⟩ := h134
    have h135 := own_of (k := x51.length) (c := c3) h134
    refine sxc_idxO (j := 0) rfl (fun x136 e136 g137 h138 => ?_)
    replace h138 : a2 = some ⟨g137, 0, none⟩ := h138
    have h139 := own_of (k := x51.length) (c := c3) h138
    refine sxb_draw mixed [13, 15] [] [CellsAt g125 (x53.toNat * 1) ((eI .i64) x124), CellsAt g129 (x52.toNat * 1) ((eI .i64) x128), CellsAt g133 (x52.toNat * 1) ((eI .i64) x132), CellsAt g137 (x53.toNat * 1) ((eI .i64) x136)] .nil (gk_R 0 rfl (at_row (eI_ok .i64) e124 h126) (gk_R 0 rfl (at_row (eI_ok .i64) e128 h130) (gk_R 0 rfl (at_row (eI_ok .i64) e132 h134) (gk_R 0 rfl (at_row (eI_ok .i64) e136 h138) gk_nil)))) 16 rfl ?_
    refine sxb_takeP 0 (.slice a2 x51.length c3) rfl rfl rfl rfl (by kernel_rfl) (by kernel_rfl) (by kernel_rfl) (by kernel_rfl) (by kernel_rfl) rfl (show _ = #[true, false, false, false, false, false, false, false, false, false, false, false, false, false, false, false] from rfl) (yv_pv rfl) ?_
    refine sxb_takeP 1 (.int .i64 x52) rfl rfl rfl rfl (by kernel_rfl) (by kernel_rfl) (by kernel_rfl) (by kernel_rfl) (by kernel_rfl) rfl (show _ = #[true, true, false, false, false, false, false, false, false, false, false, false, false, false, false, false] from rfl) (yv_pv rfl) ?_
    refine sxb_takeP 2 (.slice a2 x51.length c3) rfl rfl rfl rfl (by kernel_rfl) (by kernel_rfl) (by kernel_rfl) (by kernel_rfl) (by kernel_rfl) rfl (show _ = #[true, true, true, false, false, false, false, false, false, false, false, false, false, false, false, false] from rfl) (yv_pv rfl) ?_
    refine sxb_takeP 3 (.int .i64 x53) rfl rfl rfl rfl (by kernel_rfl) (by kernel_rfl) (by kernel_rfl) (by kernel_rfl) (by kernel_rfl) rfl (show _ = #[true, true, true, true, false, false, false, false, false, false, false, false, false, false, false, false] from rfl) (yv_pv rfl) ?_
    refine sxb_takeP 4 (.slice a2 x51.length c3) rfl rfl rfl rfl (by kernel_rfl) (by kernel_rfl) (by kernel_rfl) (by kernel_rfl) (by kernel_rfl) rfl (show _ = #[true, true, true, true, true, false, false, false, false, false, false, false, false, false, false, false] from rfl) (yv_pv rfl) ?_
    refine sxb_takeP 5 (.int .i64 x53) rfl rfl rfl rfl (by kernel_rfl) (by kernel_rfl) (by kernel_rfl) (by kernel_rfl) (by kernel_rfl) rfl (show _ = #[true, true, true, true, true, true, false, false, false, false, false, false, false, false, false, false] from rfl) (yv_pv rfl) ?_
    refine sxb_again (d := 18) (v := .slice (some ⟨g125, 0, none⟩) x51.length c3) rfl (by rw [h126]) ?_
    refine sxb_takeP 6 (.pointer (some ⟨g125, x53.toNat * 1, none⟩)) rfl rfl rfl rfl (by kernel_rfl) (by kernel_rfl) (by kernel_rfl) (by kernel_rfl) (by kernel_rfl) rfl (show _ = #[true, true, true, true, true, true, true, false, false, false, false, false, false, false, false, false] from rfl) (yv_idxO Try.underlying23 tf3 rfl rfl (idx_get e124).1 (idx_lt e124)) ?_
    refine sxb_again (d := 18) (v := .slice a2 x51.length c3) rfl (by rw [h126]) ?_
    refine sxb_take 7 (.int .i64 x124) [[13], [15]] rfl rfl rfl rfl (by kernel_rfl) (by kernel_rfl) (by kernel_rfl) (by kernel_rfl) (by kernel_rfl) (by kernel_rfl) rfl (show _ = #[true, true, true, true, true, true, true, true, false, false, false, false, false, false, false, false] from rfl) (yv_loadF (j := 0) rfl tf3 rfl rfl (fun _ => rfl) rfl) ?_
    refine sxb_takeP 8 (.slice a2 x51.length c3) rfl rfl rfl rfl (by kernel_rfl) (by kernel_rfl) (by kernel_rfl) (by kernel_rfl) (by kernel_rfl) rfl (show _ = #[true, true, true, true, true, true, true, true, true, false, false, false, false, false, false, false] from rfl) (yv_pv rfl) ?_
    refine sxb_takeP 9 (.int .i64 x52) rfl rfl rfl rfl (by kernel_rfl) (by kernel_rfl) (by kernel_rfl) (by kernel_rfl) (by kernel_rfl) rfl (show _ = #[true, true, true, true, true, true, true, true, true, true, false, false, false, false, false, false] from rfl) (yv_pv rfl) ?_
    refine sxb_again (d := 22) (v := .slice (some ⟨g129, 0, none⟩) x51.length c3) rfl (by rw [h130]) ?_
    refine sxb_takeP 10 (.pointer (some ⟨g129, x52.toNat * 1, none⟩)) rfl rfl rfl rfl (by kernel_rfl) (by kernel_rfl) (by kernel_rfl) (by kernel_rfl) (by kernel_rfl) rfl (show _ = #[true, true, true, true, true, true, true, true, true, true, true, false, false, false, false, false] from rfl) (yv_idxO Try.underlying23 tf3 rfl rfl (idx_get e128).1 (idx_lt e128)) ?_
    refine sxb_again (d := 22) (v := .slice a2 x51.length c3) rfl (by rw [h130]) ?_
    refine sxb_take 11 (.int .i64 x128) [[13], [15]] rfl rfl rfl rfl (by kernel_rfl) (by kernel_rfl) (by kernel_rfl) (by kernel_rfl) (by kernel_rfl) (by kernel_rfl) rfl (show _ = #[true, true, true, true, true, true, true, true, true, true, true, true, false, false, false, false] from rfl) (yv_loadF (j := 1) rfl tf3 rfl rfl (fun _ => rfl) rfl) ?_
    refine sxb_again (d := 14) (v := .slice (some ⟨g133, 0, none⟩) x51.length c3) rfl (by rw [h134]) ?_
    refine sxb_takeP 12 (.pointer (some ⟨g133, x52.toNat * 1, none⟩)) rfl rfl rfl rfl (by kernel_rfl) (by kernel_rfl) (by kernel_rfl) (by kernel_rfl) (by kernel_rfl) rfl (show _ = #[true, true, true, true, true, true, true, true, true, true, true, true, true, false, false, false] from rfl) (yv_idxO Try.underlying23 tf3 rfl rfl (idx_get e132).1 (idx_lt e132)) ?_
    refine sxb_again (d := 14) (v := .slice a2 x51.length c3) rfl (by rw [h134]) ?_
    refine sxb_step 13 rfl (by kernel_rfl) (show _ = #[true, true, true, true, true, true, true, true, true, true, true, true, true, true, false, false] from rfl) ?_
    refine sxo_storeL (j := 0) (y' := x124) (eI_ok .i64) rfl rfl rfl tf3 rfl (own_of h134) (idx_get e132).2.1 rfl (fun x140 e140 h141 => ?_)
    have h142 : x140.length = x51.length := by rw [← e140, List.length_set]
    refine sxo_again (d := 0) (v := .slice a2 x140.length c3) rfl h141 ?_
    refine sxo_again (d := 14) (v := .slice a2 x140.length c3) rfl h141 ?_
    refine sxo_again (d := 16) (v := .slice a2 x140.length c3) rfl h141 ?_
    refine sxo_again (d := 18) (v := .slice a2 x140.length c3) rfl h141 ?_
    refine sxo_again (d := 22) (v := .slice a2 x140.length c3) rfl h141 ?_
    refine sxo_nil ?_
    refine sxq_anyW 13 rfl rfl ?_
    refine sxb_again (d := 16) (v := .slice (some ⟨g137, 0, none⟩) x140.length c3) rfl (by rw [h138]) ?_
    refine sxb_takeP 14 (.pointer (some ⟨g137, x53.toNat * 1, none⟩)) rfl rfl rfl rfl (by kernel_rfl) (by kernel_rfl) (by kernel_rfl) (by kernel_rfl) (by kernel_rfl) rfl (show _ = #[true, true, true, true, true, true, true, true, true, true, true, true, true, true, true, false] from rfl) (yv_idxO Try.underlying23 tf3 rfl rfl (idx_get e136).1 (by rw [h142]; exact (idx_lt e136))) ?_
    refine sxb_again (d := 16) (v := .slice a2 x140.length c3) rfl (by rw [h138]) ?_
    refine sxb_step 15 rfl (by kernel_rfl) (show _ = #[true, true, true, true, true, true, true, true, true, true, true, true, true, true, true, true] from rfl) ?_
    refine sxo_storeL (j := 0) (y' := x128) (eI_ok .i64) rfl rfl rfl tf3 rfl (own_of h138) (by rw [h142]; exact (idx_get e136).2.1) rfl (fun x143 e143 h144 => ?_)
    have h145 : x143.length = x140.length := by rw [← e143, List.length_set]
    refine sxo_again (d := 0) (v := .slice a2 x143.length c3) rfl h144 ?_
    refine sxo_again (d := 14) (v := .slice a2 x143.length c3) rfl h144 ?_
    refine sxo_again (d := 16) (v := .slice a2 x143.length c3) rfl h144 ?_
    refine sxo_again (d := 18) (v := .slice a2 x143.length c3) rfl h144 ?_
    refine sxo_again (d := 22) (v := .slice a2 x143.length c3) rfl h144 ?_
    refine sxo_nil ?_
    refine sxq_anyW 13 rfl rfl ?_
    refine sxb_done (by kernel_rfl) ?_
    refine sxq_np ?_ (by intro c h; cases h)
    refine sxq_blkN ?_
    refine sxq_next ?_
    refine sxc_region ?_
    refine sxo_move rfl rfl rfl ?_
    refine sxo_add rfl rfl rfl rfl ?_
    refine sxo_move rfl rfl rfl ?_
    refine sxo_sub rfl rfl rfl rfl ?_
    refine sxo_assign rfl rfl rfl ?_
    refine sxo_assign rfl rfl rfl ?_
    refine sxo_nil ?_
    exact sxq_againP ((x143, iadd .i64 x52 1, isub .i64 x53 1), ()) (lk_cons rfl (lk_cons rfl (lk_cons rfl lk_nil))) .nil (.cons 0 rfl .nil) fk_nil
  · refine sxc_exit ?_
    refine sxq_thenX ?_
    refine sxq_thenX ?_
    refine sxq_blkX ?_
    exact sxq_doneM () (.inr rfl) (res0 rfl) (fun h => by subst h; rfl) (fun h => by subst h; exact .nil) (fun h => by subst h; exact (.cons 0 rfl .nil))

theorem C_fib_parts (F : Nat) (x1 : Int) (r : List Int) (hm : M_fib_parts F x1 = some r) :
    Pure Try.prog 48 [.int .u64 x1] [] (Option Addr × Nat) (fun g => .slice g.1 r.length g.2) (fun g => [Ro (eI .i64) 3 1 (.slice g.1 r.length g.2) r]) (fun _ => []) := by
  refine pure_of Try.func48 rfl Try.ntmps48 rfl hm (fun w => ?_)
  refine sxc_env (l' := [(0, .int .u64 x1)]) rfl ?_
  refine sxc_seq ?_
  refine sxc_region ?_
  refine sxo_assign rfl rfl rfl ?_
  refine sxo_nil ?_
  refine sxq_next ?_
  refine sxc_seq ?_
  refine sxc_region ?_
  refine sxo_call ent47 rfl rfl rfl (fun x2 e2 => C_fib_numbers F  x2 e2) .nil (fun x2 e2 => ?_)
  intro _
  refine sxo_alloc rfl tf73 rfl (fun g3 => ?_)
  refine sxo_blkAgain (i := 0) (cs' := (List.replicate 64 (0 : Int)).flatMap (eI .u64)) rfl rfl ?_
  refine sxo_b2r (i := 0) (xs := (List.replicate 64 (0 : Int))) (k := 64) (eI_ok .u64) rfl List.length_replicate rfl ?_
  refine sxo_chk (fun h4 => ?_)
  replace h4 := of_decide_eq_true h4
  refine sxo_r2b (j := 0) rfl (List.length_replicate) ?_
  refine sxo_storeB (i := 0) rfl rfl rfl tf73 rfl (arr_sz h4) (arr_le (List.length_replicate) h4) arr_ok (arr_st (arr_len (List.length_replicate)) h4) ?_
  refine sxo_b2r (i := 0) (xs := x2) (k := 64) (eI_ok .u64) rfl h4 rfl ?_
  refine sxo_nil ?_
  refine sxq_next ?_
  refine sxc_seq ?_
  refine sxc_region ?_
  refine sxo_assign rfl rfl rfl ?_
  refine sxo_nil ?_
  refine sxq_next ?_
  refine sxc_join (fun ((x81, (a79, c80)) : (List Int × (Option Addr × Nat))) => [(4, .slice a79 x81.length c80)]) (fun ((x81, (a79, c80)) : (List Int × (Option Addr × Nat))) => []) (fun ((x81, (a79, c80)) : (List Int × (Option Addr × Nat))) => [Ro (eI .i64) 3 1 (.slice a79 x81.length c80) x81]) (fun ((x81, (a79, c80)) : (List Int × (Option Addr × Nat))) => []) (fun ((x81, _) : (List Int × (Option Addr × Nat))) => M_fib_parts_j5 F x81) ?_ ?_
  · refine sxc_seq ?_
    refine sxc_region ?_
    refine sxo_assign rfl rfl rfl ?_
    refine sxo_nil ?_
    refine sxq_next ?_
    refine sxc_block ?_
    refine sxc_nilrow Int (eI .i64) 3 1 ?_
    refine sxc_loopP (fun (((x108, x111, x112), (a109, c110)) : ((Int × List Int × Int) × (Option Addr × Nat))) => [(0, .int .u64 x108), (3, .pointer (some ⟨g3, 0, none⟩)), (4, .slice a109 x111.length c110), (5, .int .i64 x112)]) (fun (((x108, x111, x112), (a109, c110)) : ((Int × List Int × Int) × (Option Addr × Nat))) => []) (fun (((x108, x111, x112), (a109, c110)) : ((Int × List Int × Int) × (Option Addr × Nat))) => [Ro (eI .u64) 73 1 (.slice (some ⟨g3, 0, none⟩) x2.length 64) x2, Ro (eI .i64) 3 1 (.slice a109 x111.length c110) x111]) (fun (((x108, x111, x112), (a109, c110)) : ((Int × List Int × Int) × (Option Addr × Nat))) => []) (fun k (s : ((Int × List Int × Int) × (Option Addr × Nat))) => M_fib_parts_l8 F x2 k s.1) ((x1, ([] : List Int), 63), (none, 0)) F (lk_cons rfl (lk_cons rfl (lk_cons rfl (lk_cons rfl lk_nil)))) .nil (.cons 1 rfl (.cons 0 rfl .nil)) fk_nil (fun _ => rfl) ?_
    intro k135
    rintro ⟨⟨x108, x111, x112⟩, ⟨a109, c110⟩⟩
    try dsimp only
    refine sxc_meq (m' := M_fib_parts_b8 F x2 (M_fib_parts_l8 F x2 k135) x108 x111 x112) rfl ?_
    refine sxc_seq ?_
    refine sxc_seq ?_
    refine sxc_region ?_
    refine sxo_move rfl rfl rfl ?_
    refine sxo_geq rfl rfl rfl rfl ?_
    refine sxo_nil ?_
    refine sxq_next ?_
    refine sxc_if rfl (fun h157 => ?_) (fun h157 => ?_)
    · refine sxc_skip ?_
      refine sxq_next ?_
      refine sxc_join (fun (((x145, x148), (a146, c147)) : ((Int × List Int) × (Option Addr × Nat))) => [(0, .int .u64 x145), (3, .pointer (some ⟨g3, 0, none⟩)), (4, .slice a146 x148.length c147), (5, .int .i64 x112)]) (fun (((x145, x148), (a146, c147)) : ((Int × List Int) × (Option Addr × Nat))) => []) (fun (((x145, x148), (a146, c147)) : ((Int × List Int) × (Option Addr × Nat))) => [Ro (eI .u64) 73 1 (.slice (some ⟨g3, 0, none⟩) x2.length 64) x2, Ro (eI .i64) 3 1 (.slice a146 x148.length c147) x148]) (fun (((x145, x148), (a146, c147)) : ((Int × List Int) × (Option Addr × Nat))) => []) (fun (((x145, x148), _) : ((Int × List Int) × (Option Addr × Nat))) => M_fib_parts_j9 F (M_fib_parts_l8 F x2 k135) x112 x145 x148) ?_ ?_
      · refine sxc_block ?_
        refine sxc_seq ?_
        refine sxc_region ?_
        refine sxo_move rfl rfl rfl ?_
        refine sxo_indexAR (j := 0) rfl Try.underlying73 tf22 rfl rfl rfl rfl (fun x149 e149 => ?_)
        refine sxo_loadR (j := 0) (y := x149) (eI_ok .u64) rfl rfl tf22 rfl rfl (idx_get e149).2.2 (fun _ => rfl) rfl rfl ?_
        refine sxo_move rfl rfl rfl ?_
        refine sxo_leq rfl rfl rfl rfl ?_
        refine sxo_nil ?_
        refine sxq_next ?_
        refine sxc_if rfl (fun h156 => ?_) (fun h156 => ?_)
        · refine sxc_seq ?_
          refine sxc_region ?_
          refine sxo_move rfl rfl rfl ?_
          refine sxo_move rfl rfl rfl ?_
          refine sxo_indexAR (j := 0) rfl Try.underlying73 tf22 rfl rfl rfl rfl (fun x150 e150 => ?_)
          refine sxo_loadR (j := 0) (y := x150) (eI_ok .u64) rfl rfl tf22 rfl rfl (idx_get e150).2.2 (fun _ => rfl) rfl rfl ?_
          refine sxo_sub rfl rfl rfl rfl ?_
          refine sxo_assign rfl rfl rfl ?_
          refine sxo_nil ?_
          refine sxq_next ?_
          refine sxc_region ?_
          refine sxo_move rfl rfl rfl ?_
          refine sxo_move rfl rfl rfl ?_
          refine sxo_slit (vs := [.int .i64 x112]) (ys := ([x112] : List Int)) (eI_ok .i64) (by decide) rfl Try.underlying23 tf3 rfl rfl rfl rfl rfl (by decide) (fun a151 c152 => ?_)
          refine sxo_app 2 (eI_ok .i64) rfl Try.underlying23 tf3 rfl rfl rfl rfl rfl (.inl ⟨0, _, rfl⟩) rfl rfl (fun x153 e153 a154 c155 => ?_)
          refine sxo_assign rfl rfl rfl ?_
          refine sxo_nil ?_
          refine sxq_blkN ?_
          exact sxq_meetP ((isub .u64 x108 x150, x153), (a154, c155)) (lk_cons rfl (lk_cons rfl (lk_cons rfl (lk_cons rfl lk_nil)))) .nil (.cons 2 rfl (.cons 0 rfl .nil)) fk_nil
        · refine sxc_skip ?_
          refine sxq_blkN ?_
          exact sxq_meetP ((x108, x111), (a109, c110)) (lk_cons rfl (lk_cons rfl (lk_cons rfl (lk_cons rfl lk_nil)))) .nil (.cons 0 rfl (.cons 0 rfl .nil)) fk_nil
      · rintro ⟨⟨x145, x148⟩, ⟨a146, c147⟩⟩
        try dsimp only
        refine sxc_region ?_
        refine sxo_move rfl rfl rfl ?_
        refine sxo_sub rfl rfl rfl rfl ?_
        refine sxo_assign rfl rfl rfl ?_
        refine sxo_nil ?_
        exact sxq_againP ((x145, x148, isub .i64 x112 1), (a146, c147)) (lk_cons rfl (lk_cons rfl (lk_cons rfl (lk_cons rfl lk_nil)))) .nil (.cons 0 rfl (.cons 0 rfl .nil)) fk_nil
    · refine sxc_exit ?_
      refine sxq_thenX ?_
      refine sxq_thenX ?_
      refine sxq_blkX ?_
      exact sxq_meetP (x111, (a109, c110)) (lk_cons rfl lk_nil) .nil (.cons 1 rfl .nil) fk_nil
  · rintro ⟨x81, ⟨a79, c80⟩⟩
    try dsimp only
    refine sxc_seq ?_
    refine sxc_region ?_
    refine sxo_move rfl rfl rfl ?_
    refine sxo_callM ent74 rfl rfl rfl (fun x82 e82 => C_slices_Reverse_int_int F x81 a79 c80 x82 e82) .nil (.cons 0 rfl .nil) .nil (fun x82 e82 => ?_)
    intro _
    refine sxo_chk (fun h83 => ?_)
    replace h83 := of_decide_eq_true h83
    refine sxo_again (d := 4) (v := .slice a79 x82.length c80) rfl (by rw [h83]) ?_
    refine sxo_again (d := 25) (v := .slice a79 x82.length c80) rfl (by rw [h83]) ?_
    refine sxo_nil ?_
    refine sxq_next ?_
    refine sxc_seq ?_
    refine sxc_region ?_
    refine sxo_move rfl rfl rfl ?_
    refine sxo_assign rfl rfl rfl ?_
    refine sxo_nil ?_
    refine sxq_next ?_
    refine sxc_ret ?_
    exact sxq_doneP (a79, c80) (.inl rfl) (res1 rfl rfl) (fun h => by subst h; rfl) (fun h => by subst h; exact (.cons 0 rfl .nil))

theorem C_fib_Parts (F : Nat) (x1 : Int) (r : (List Int × Int)) (hm : M_fib_Parts F x1 = some r) :
    Pure Try.prog 16 [.int .u64 x1] [] (Option Addr × Nat) (fun g => .tuple #[.slice g.1 r.1.length g.2, .int .i64 r.2]) (fun g => [Ro (eI .i64) 3 1 (.slice g.1 r.1.length g.2) r.1]) (fun _ => []) := by
  refine pure_of Try.func16 rfl Try.ntmps16 rfl hm (fun w => ?_)
  refine sxc_env (l' := [(0, .int .u64 x1)]) rfl ?_
  refine sxc_seq ?_
  refine sxc_region ?_
  refine sxo_assign rfl rfl rfl ?_
  refine sxo_assign rfl rfl rfl ?_
  refine sxo_nil ?_
  refine sxq_next ?_
  refine sxc_seq ?_
  refine sxc_seq ?_
  refine sxc_region ?_
  refine sxo_move rfl rfl rfl ?_
  refine sxo_gtr rfl rfl rfl rfl ?_
  refine sxo_nil ?_
  refine sxq_next ?_
  refine sxc_if rfl (fun h6 => ?_) (fun h6 => ?_)
  · refine sxc_seq ?_
    refine sxc_region ?_
    refine sxo_assign rfl rfl rfl ?_
    refine sxo_assign rfl rfl rfl ?_
    refine sxo_nil ?_
    refine sxq_next ?_
    refine sxc_ret ?_
    refine sxq_thenR ?_
    refine sxq_nilrow Int (eI .i64) 3 1 ?_
    exact sxq_doneP (none, 0) (.inl rfl) (res2 rfl rfl rfl) (fun h => by subst h; rfl) (fun h => by subst h; exact (.cons 0 rfl .nil))
  · refine sxc_skip ?_
    refine sxq_next ?_
    refine sxc_seq ?_
    refine sxc_region ?_
    refine sxo_move rfl rfl rfl ?_
    refine sxo_call ent48 rfl rfl rfl (fun x3 e3 => C_fib_parts F x1 x3 e3) .nil (fun x3 e3 => ?_)
    rintro ⟨a4, c5⟩
    refine sxo_assign rfl rfl rfl ?_
    refine sxo_assign rfl rfl rfl ?_
    refine sxo_nil ?_
    refine sxq_next ?_
    refine sxc_ret ?_
    exact sxq_doneP (a4, c5) (.inl rfl) (res2 rfl rfl rfl) (fun h => by subst h; rfl) (fun h => by subst h; exact (.cons 0 rfl .nil))

theorem C_fib_Sum (F : Nat) (x1 : List Int) (a2 : Option Addr) (c3 : Nat) (r : (Int × Int)) (hm : M_fib_Sum F x1 = some r) :
    Pure Try.prog 17 [.slice a2 x1.length c3] [Sl (eI .i64) 1 (.slice a2 x1.length c3) x1] Unit (fun _ => .tuple #[.int .u64 r.1, .int .i64 r.2]) (fun _ => []) (fun _ => []) := by
  refine pure_of Try.func17 rfl Try.ntmps17 rfl hm (fun w => ?_)
  refine sxc_env (l' := [(0, .slice a2 x1.length c3)]) rfl ?_
  refine sxc_seq ?_
  refine sxc_region ?_
  refine sxo_assign rfl rfl rfl ?_
  refine sxo_assign rfl rfl rfl ?_
  refine sxo_nil ?_
  refine sxq_next ?_
  refine sxc_seq ?_
  refine sxc_region ?_
  refine sxo_call ent47 rfl rfl rfl (fun x4 e4 => C_fib_numbers F  x4 e4) .nil (fun x4 e4 => ?_)
  intro _
  refine sxo_alloc rfl tf73 rfl (fun g5 => ?_)
  refine sxo_blkAgain (i := 0) (cs' := (List.replicate 64 (0 : Int)).flatMap (eI .u64)) rfl rfl ?_
  refine sxo_b2r (i := 0) (xs := (List.replicate 64 (0 : Int))) (k := 64) (eI_ok .u64) rfl List.length_replicate rfl ?_
  refine sxo_chk (fun h6 => ?_)
  replace h6 := of_decide_eq_true h6
  refine sxo_r2b (j := 0) rfl (List.length_replicate) ?_
  refine sxo_storeB (i := 0) rfl rfl rfl tf73 rfl (arr_sz h6) (arr_le (List.length_replicate) h6) arr_ok (arr_st (arr_len (List.length_replicate)) h6) ?_
  refine sxo_b2r (i := 0) (xs := x4) (k := 64) (eI_ok .u64) rfl h6 rfl ?_
  refine sxo_nil ?_
  refine sxq_next ?_
  refine sxc_seq ?_
  refine sxc_region ?_
  refine sxo_assign rfl rfl rfl ?_
  refine sxo_nil ?_
  refine sxq_next ?_
  refine sxc_join (fun ((x77, _) : (Int × Unit)) => [(2, .int .u64 x77)]) (fun ((x77, _) : (Int × Unit)) => []) (fun ((x77, _) : (Int × Unit)) => []) (fun ((x77, _) : (Int × Unit)) => []) (fun ((x77, _) : (Int × Unit)) => M_fib_Sum_j2 F x77) ?_ ?_
  · refine sxc_seq ?_
    refine sxc_region ?_
    refine sxo_move rfl rfl rfl ?_
    refine sxo_len rfl Try.underlying23 rfl rfl ?_
    refine sxo_move rfl rfl rfl ?_
    refine sxo_nil ?_
    refine sxq_next ?_
    refine sxc_block ?_
    refine sxc_loopP (fun (((x100, x101, x102), _) : ((Int × Int × Int) × Unit)) => [(2, .int .u64 x100), (4, .pointer (some ⟨g5, 0, none⟩)), (5, .int .i64 x101), (9, .slice a2 x1.length c3), (10, .int .i64 (x1.length : Int)), (11, .int .i64 x102)]) (fun (((x100, x101, x102), _) : ((Int × Int × Int) × Unit)) => []) (fun (((x100, x101, x102), _) : ((Int × Int × Int) × Unit)) => [Ro (eI .u64) 73 1 (.slice (some ⟨g5, 0, none⟩) x4.length 64) x4]) (fun (((x100, x101, x102), _) : ((Int × Int × Int) × Unit)) => [Sl (eI .i64) 1 (.slice a2 x1.length c3) x1]) (fun k (s : ((Int × Int × Int) × Unit)) => M_fib_Sum_l3 F x1 x4 k s.1) ((0, -2, 0), ()) F (lk_cons rfl (lk_cons rfl (lk_cons rfl (lk_cons rfl (lk_cons rfl (lk_cons rfl lk_nil)))))) .nil (.cons 0 rfl .nil) (fk_cons 0 rfl fk_nil) (fun _ => rfl) ?_
    intro k125
    rintro ⟨⟨x100, x101, x102⟩, _⟩
    try dsimp only
    refine sxc_meq (m' := M_fib_Sum_b3 F x1 x4 (M_fib_Sum_l3 F x1 x4 k125) x100 x101 x102) rfl ?_
    refine sxc_seq ?_
    refine sxc_region ?_
    refine sxo_lss rfl rfl rfl rfl ?_
    refine sxo_nil ?_
    refine sxq_next ?_
    refine sxc_seq ?_
    refine sxc_if rfl (fun h147 => ?_) (fun h147 => ?_)
    · refine sxc_skip ?_
      refine sxq_next ?_
      refine sxc_seq ?_
      refine sxc_block ?_
      refine sxc_seq ?_
      refine sxc_region ?_
      refine sxo_indexF (j := 0) (eI_ok .i64) (by decide) rfl Try.underlying23 tf3 rfl rfl rfl rfl (fun x137 e137 b138 o139 => ?_)
      refine sxo_loadF (j := 0) rfl rfl tf3 rfl rfl (fun _ => rfl) rfl rfl ?_
      refine sxo_assign rfl rfl rfl ?_
      refine sxo_nil ?_
      refine sxq_next ?_
      refine sxc_seq ?_
      refine sxc_block ?_
      refine sxc_seq ?_
      refine sxc_region ?_
      refine sxo_move rfl rfl rfl ?_
      refine sxo_lss rfl rfl rfl rfl ?_
      refine sxo_move rfl rfl rfl ?_
      refine sxo_case 3 (decide (x137 < 0)) [(2, .int .u64 x100), (4, .pointer (some ⟨g5, 0, none⟩)), (5, .int .i64 x101), (9, .slice a2 x1.length c3), (10, .int .i64 (x1.length : Int)), (11, .int .i64 x102), (7, .int .i64 x137), (21, .bool ((decide (x137 < 0)) || (decide (64 ≤ x137))))] (fun h143 => ?_) (fun h143 => ?_) ?_
      · refine sxo_take (os := _) rfl ?_
        refine sxo_isT (k := 18) rfl h143 ?_
        refine sxo_skip rfl rfl rfl ?_
        refine sxo_skip rfl rfl rfl ?_
        refine sxo_pick (b := true) rfl rfl rfl rfl ?_
        refine sxo_again (d := 21) (v := .bool ((decide (x137 < 0)) || (decide (64 ≤ x137)))) rfl (by rw [h143]; simp only [Bool.true_or]) ?_
        refine sxo_nil ?_
        exact sxq_case (lk_cons rfl (lk_cons rfl (lk_cons rfl (lk_cons rfl (lk_cons rfl (lk_cons rfl (lk_cons rfl (lk_cons rfl lk_nil))))))))
      · refine sxo_take (os := _) rfl ?_
        refine sxo_isF (k := 18) rfl h143 ?_
        refine sxo_move rfl rfl rfl ?_
        refine sxo_geq rfl rfl rfl rfl ?_
        refine sxo_pick (b := false) rfl rfl rfl rfl ?_
        refine sxo_again (d := 21) (v := .bool ((decide (x137 < 0)) || (decide (64 ≤ x137)))) rfl (by rw [h143]; simp only [Bool.false_or]) ?_
        refine sxo_nil ?_
        exact sxq_case (lk_cons rfl (lk_cons rfl (lk_cons rfl (lk_cons rfl (lk_cons rfl (lk_cons rfl (lk_cons rfl (lk_cons rfl lk_nil))))))))
      refine sxo_take (os := _) rfl ?_
      refine sxo_assign rfl rfl rfl ?_
      refine sxo_nil ?_
      refine sxq_next ?_
      refine sxc_if rfl (fun h146 => ?_) (fun h146 => ?_)
      · refine sxc_seq ?_
        refine sxc_region ?_
        refine sxo_assign rfl rfl rfl ?_
        refine sxo_assign rfl rfl rfl ?_
        refine sxo_nil ?_
        refine sxq_next ?_
        refine sxc_ret ?_
        refine sxq_blkR ?_
        refine sxq_thenR ?_
        refine sxq_blkR ?_
        refine sxq_thenR ?_
        refine sxq_thenR ?_
        refine sxq_blkR ?_
        refine sxq_thenR ?_
        exact sxq_doneP () (.inl rfl) (res2 rfl rfl rfl) (fun h => by subst h; rfl) (fun h => by subst h; exact .nil)
      · refine sxc_seq ?_
        refine sxc_region ?_
        refine sxo_move rfl rfl rfl ?_
        refine sxo_move rfl rfl rfl ?_
        refine sxo_add rfl rfl rfl rfl ?_
        refine sxo_leq rfl rfl rfl rfl ?_
        refine sxo_assign rfl rfl rfl ?_
        refine sxo_nil ?_
        refine sxq_next ?_
        refine sxc_if rfl (fun h145 => ?_) (fun h145 => ?_)
        · refine sxc_seq ?_
          refine sxc_region ?_
          refine sxo_assign rfl rfl rfl ?_
          refine sxo_assign rfl rfl rfl ?_
          refine sxo_nil ?_
          refine sxq_next ?_
          refine sxc_ret ?_
          refine sxq_blkR ?_
          refine sxq_thenR ?_
          refine sxq_blkR ?_
          refine sxq_thenR ?_
          refine sxq_thenR ?_
          refine sxq_blkR ?_
          refine sxq_thenR ?_
          exact sxq_doneP () (.inl rfl) (res2 rfl rfl rfl) (fun h => by subst h; rfl) (fun h => by subst h; exact .nil)
        · refine sxc_skip ?_
          refine sxq_blkN ?_
          refine sxq_next ?_
          refine sxc_region ?_
          refine sxo_move rfl rfl rfl ?_
          refine sxo_move rfl rfl rfl ?_
          refine sxo_indexAR (j := 0) rfl Try.underlying73 tf22 rfl rfl rfl rfl (fun x144 e144 => ?_)
          refine sxo_loadR (j := 0) (y := x144) (eI_ok .u64) rfl rfl tf22 rfl rfl (idx_get e144).2.2 (fun _ => rfl) rfl rfl ?_
          refine sxo_add rfl rfl rfl rfl ?_
          refine sxo_move rfl rfl rfl ?_
          refine sxo_assign rfl rfl rfl ?_
          refine sxo_assign rfl rfl rfl ?_
          refine sxo_nil ?_
          refine sxq_blkN ?_
          refine sxq_next ?_
          refine sxc_region ?_
          refine sxo_add rfl rfl rfl rfl ?_
          refine sxo_move rfl rfl rfl ?_
          refine sxo_nil ?_
          exact sxq_againP ((iadd .u64 x100 x144, x137, iadd .i64 x102 1), ()) (lk_cons rfl (lk_cons rfl (lk_cons rfl (lk_cons rfl (lk_cons rfl (lk_cons rfl lk_nil)))))) .nil (.cons 0 rfl .nil) (fk_cons 1 rfl fk_nil)
    · refine sxc_exit ?_
      refine sxq_thenX ?_
      refine sxq_thenX ?_
      refine sxq_blkX ?_
      exact sxq_meetP (x100, ()) (lk_cons rfl lk_nil) .nil .nil fk_nil
  · rintro ⟨x77, _⟩
    try dsimp only
    refine sxc_seq ?_
    refine sxc_region ?_
    refine sxo_move rfl rfl rfl ?_
    refine sxo_assign rfl rfl rfl ?_
    refine sxo_assign rfl rfl rfl ?_
    refine sxo_nil ?_
    refine sxq_next ?_
    refine sxc_ret ?_
    exact sxq_doneP () (.inl rfl) (res2 rfl rfl rfl) (fun h => by subst h; rfl) (fun h => by subst h; exact .nil)

theorem C_slices_Clone_byte_byte (F : Nat) (x1 : List Int) (a2 : Option Addr) (c3 : Nat) (r : List Int) (hm : M_slices_Clone_byte_byte F x1 = some r) :
    Pure Try.prog 93 [.slice a2 x1.length c3] [Sl (eI .u8) 1 (.slice a2 x1.length c3) x1] (Option Addr × Nat) (fun g => .slice g.1 r.length g.2) (fun g => [Ro (eI .u8) 5 1 (.slice g.1 r.length g.2) r]) (fun _ => []) := by
  refine pure_of Try.func93 rfl Try.ntmps93 rfl hm (fun w => ?_)
  refine sxc_env (l' := [(0, .slice a2 x1.length c3)]) rfl ?_
  refine sxc_seq ?_
  refine sxc_region ?_
  refine sxo_assign rfl rfl rfl ?_
  refine sxo_nil ?_
  refine sxq_next ?_
  refine sxc_seq ?_
  refine sxc_seq ?_
  refine sxc_region ?_
  refine sxo_move rfl rfl rfl ?_
  refine sxo_eqnil rfl Try.underlying24 rfl rfl rfl ?_
  refine sxo_nil ?_
  refine sxq_next ?_
  refine sxc_cond rfl (fun h11 => ?_) (fun h11 => ?_)
  · refine sxc_nilx 0 (eI_ok .u8) (by decide) rfl h11 (fun h12 => ?_)
    subst h12
    refine sxc_meq (m' := some ([] : List Int)) rfl ?_
    refine sxc_seq ?_
    refine sxc_region ?_
    refine sxo_assign rfl rfl rfl ?_
    refine sxo_nil ?_
    refine sxq_next ?_
    refine sxc_ret ?_
    refine sxq_thenR ?_
    refine sxq_nilrow Int (eI .u8) 5 1 ?_
    exact sxq_doneP (none, 0) (.inl rfl) (res1 rfl rfl) (fun h => by subst h; rfl) (fun h => by subst h; exact (.cons 0 rfl .nil))
  · refine sxc_skip ?_
    refine sxq_next ?_
    refine sxc_seq ?_
    refine sxc_region ?_
    refine sxo_slit (vs := []) (ys := ([] : List Int)) (eI_ok .u8) (by decide) rfl Try.underlying24 tf5 rfl rfl rfl rfl rfl (by decide) (fun a6 c7 => ?_)
    refine sxo_move rfl rfl rfl ?_
    refine sxo_app 0 (eI_ok .u8) rfl Try.underlying24 tf5 rfl rfl rfl rfl rfl (.inr ⟨0, rfl⟩) rfl rfl (fun x8 e8 a9 c10 => ?_)
    refine sxo_assign rfl rfl rfl ?_
    refine sxo_nil ?_
    refine sxq_next ?_
    refine sxc_ret ?_
    exact sxq_doneP (a9, c10) (.inl rfl) (res1 rfl rfl) (fun h => by subst h; rfl) (fun h => by subst h; exact (.cons 0 rfl .nil))

theorem C_bits_own (F : Nat) (x1 : Int) (x2 : List Int) (a3 : Option Addr) (c4 : Nat) (r : (Int × List Int)) (hm : M_bits_own F x1 x2 = some r) :
    PureM Try.prog 82 [.agg #[.int .i64 x1, .slice a3 x2.length c4]] [] [] [Sl (eI .u8) 1 (.slice a3 x2.length c4) x2] ((Option Addr × Nat) × Nat) (fun g => .pointer (some ⟨g.2, 0, none⟩)) (fun g => [⟨g.2, 91, [.int .i64 r.1, .slice g.1.1 r.2.length g.1.2]⟩]) (fun g => [Ro (eI .u8) 5 1 (.slice g.1.1 r.2.length g.1.2) r.2]) := by
  refine pureM_of Try.func82 rfl Try.ntmps82 rfl hm (fun w => ?_)
  refine sxc_env (l' := [(0, .agg #[.int .i64 x1, .slice a3 x2.length c4])]) rfl ?_
  refine sxc_seq ?_
  refine sxc_region ?_
  refine sxo_box rfl rfl rfl (fun g5 => ?_)
  refine sxo_assign rfl rfl rfl ?_
  refine sxo_nil ?_
  refine sxq_next ?_
  refine sxc_seq ?_
  refine sxb_draw mixed [] [⟨g5, 26, [.int .i64 x1, .slice a3 x2.length c4]⟩] [Sl (eI .u8) 1 (.slice a3 x2.length c4) x2] (.cons 0 rfl .nil) (gk_F 0 rfl gk_nil) 9 rfl ?_
  refine sxb_takeP 0 (.pointer (some ⟨g5, 0, none⟩)) rfl rfl rfl rfl (by kernel_rfl) (by kernel_rfl) (by kernel_rfl) (by kernel_rfl) (by kernel_rfl) rfl (show _ = #[true, false, false, false, false, false, false, false, false] from rfl) (yv_fieldAddr rfl ff26_0) ?_
  refine sxb_take 1 (.int .i64 x1) [] rfl rfl rfl rfl (by kernel_rfl) (by kernel_rfl) (by kernel_rfl) (by kernel_rfl) (by kernel_rfl) (by kernel_rfl) rfl (show _ = #[true, true, false, false, false, false, false, false, false] from rfl) (yv_loadB (i := 0) rfl tf3 rfl rfl (fun _ => rfl) rfl) ?_
  refine sxb_takeP 2 (.pointer (some ⟨g5, 1, none⟩)) rfl rfl rfl rfl (by kernel_rfl) (by kernel_rfl) (by kernel_rfl) (by kernel_rfl) (by kernel_rfl) rfl (show _ = #[true, true, true, false, false, false, false, false, false] from rfl) (yv_fieldAddr rfl ff26_1) ?_
  refine sxb_take 3 (.slice a3 x2.length c4) [] rfl rfl rfl rfl (by kernel_rfl) (by kernel_rfl) (by kernel_rfl) (by kernel_rfl) (by kernel_rfl) (by kernel_rfl) rfl (show _ = #[true, true, true, true, false, false, false, false, false] from rfl) (yv_loadB (i := 0) rfl tf24 rfl rfl (fun _ => rfl) rfl) ?_
  refine sxb_step 4 rfl (by kernel_rfl) (show _ = #[true, true, true, true, true, false, false, false, false] from rfl) ?_
  refine sxo_call ent93 rfl rfl rfl (fun x10 e10 => C_slices_Clone_byte_byte F x2 a3 c4 x10 e10) (.consF 0 rfl .nil) (fun x10 e10 => ?_)
  rintro ⟨a11, c12⟩
  refine sxo_nil ?_
  refine sxq_anyB (.cons 0 rfl .nil) (gk_F 0 rfl gk_nil) ?_
  refine sxb_step 5 rfl (by kernel_rfl) (show _ = #[true, true, true, true, true, true, false, false, false] from rfl) ?_
  refine sxo_build (cells := [.int .i64 x1, .slice a11 x10.length c12]) rfl st26 rfl (by kernel_rfl) rfl ?_
  refine sxo_nil ?_
  refine sxq_anyB (.cons 0 rfl .nil) (gk_F 0 rfl gk_nil) ?_
  refine sxb_step 6 rfl (by kernel_rfl) (show _ = #[true, true, true, true, true, true, true, false, false] from rfl) ?_
  refine sxo_build (cells := [.int .i64 x1, .slice a11 x10.length c12]) rfl st91 rfl (by kernel_rfl) rfl ?_
  refine sxo_nil ?_
  refine sxq_anyB (.cons 0 rfl .nil) (gk_F 0 rfl gk_nil) ?_
  refine sxb_step 7 rfl (by kernel_rfl) (show _ = #[true, true, true, true, true, true, true, true, false] from rfl) ?_
  refine sxo_box rfl rfl rfl (fun g13 => ?_)
  refine sxo_nil ?_
  refine sxq_anyB (.cons 1 rfl .nil) (gk_F 0 rfl gk_nil) ?_
  refine sxb_takeP 8 (.pointer (some ⟨g13, 0, none⟩)) rfl rfl rfl rfl (by kernel_rfl) (by kernel_rfl) (by kernel_rfl) (by kernel_rfl) (by kernel_rfl) rfl (show _ = #[true, true, true, true, true, true, true, true, true] from rfl) (yv_pv rfl) ?_
  refine sxb_done (by kernel_rfl) ?_
  refine sxq_np ?_ (by intro c h; cases h)
  refine sxq_next ?_
  refine sxc_ret ?_
  exact sxq_doneM ((a11, c12), g13) (.inl rfl) (res1 rfl rfl) (fun h => by subst h; rfl) (fun h => by subst h; exact (.cons 0 rfl .nil)) (fun h => by subst h; exact (.cons 0 rfl .nil))

theorem C_bits_writer_bit (F : Nat) (g1 : Nat) (x2 : Int) (x3 : List Int) (a4 : Option Addr) (c5 : Nat) (x6 : Int) (r : (Int × List Int)) (hm : M_bits_writer_bit F x2 x3 x6 = some r) :
    PureM Try.prog 67 [.pointer (some ⟨g1, 0, none⟩), .int .u64 x6] [⟨g1, 91, [.int .i64 x2, .slice a4 x3.length c5]⟩] [Ro (eI .u8) 5 1 (.slice a4 x3.length c5) x3] [] (Option Addr × Nat) (fun _ => .tuple #[]) (fun g => [⟨g1, 91, [.int .i64 r.1, .slice g.1 r.2.length g.2]⟩]) (fun g => [Ro (eI .u8) 5 1 (.slice g.1 r.2.length g.2) r.2]) := by
  refine pureM_of Try.func67 rfl Try.ntmps67 rfl hm (fun w => ?_)
  refine sxc_env (l' := [(0, .pointer (some ⟨g1, 0, none⟩)), (1, .int .u64 x6)]) rfl ?_
  refine sxc_join (fun ((x15, (a13, c14)) : (List Int × (Option Addr × Nat))) => [(0, .pointer (some ⟨g1, 0, none⟩)), (1, .int .u64 x6)]) (fun ((x15, (a13, c14)) : (List Int × (Option Addr × Nat))) => [⟨g1, 91, [.int .i64 x2, .slice a13 x15.length c14]⟩]) (fun ((x15, (a13, c14)) : (List Int × (Option Addr × Nat))) => [Ro (eI .u8) 5 1 (.slice a13 x15.length c14) x15]) (fun ((x15, (a13, c14)) : (List Int × (Option Addr × Nat))) => []) (fun ((x15, _) : (List Int × (Option Addr × Nat))) => M_bits_writer_bit_j1 F x2 x6 x15) ?_ ?_
  · refine sxc_seq ?_
    refine sxc_region ?_
    refine sxo_move rfl rfl rfl ?_
    refine sxo_nilCheck rfl rfl rfl ?_
    refine sxo_fieldAddr rfl rfl ff91_0 rfl ?_
    refine sxo_fieldAddr rfl rfl ff26_0 rfl ?_
    refine sxo_loadB (i := 0) rfl rfl tf3 rfl rfl (fun _ => rfl) rfl rfl ?_
    refine sxo_rem rfl rfl rfl rfl rfl ?_
    refine sxo_eql rfl rfl rfl rfl ?_
    refine sxo_nil ?_
    refine sxq_next ?_
    refine sxc_if rfl (fun h49 => ?_) (fun h49 => ?_)
    · refine sxc_region ?_
      refine sxo_move rfl rfl rfl ?_
      refine sxo_move rfl rfl rfl ?_
      refine sxo_nilCheck rfl rfl rfl ?_
      refine sxo_fieldAddr rfl rfl ff91_0 rfl ?_
      refine sxo_fieldAddr rfl rfl ff26_1 rfl ?_
      refine sxo_loadB (i := 0) rfl rfl tf24 rfl rfl (fun _ => rfl) rfl rfl ?_
      refine sxo_slit (vs := [.int .u8 0]) (ys := ([0] : List Int)) (eI_ok .u8) (by decide) rfl Try.underlying24 tf5 rfl rfl rfl rfl rfl (by decide) (fun a44 c45 => ?_)
      refine sxo_app 1 (eI_ok .u8) rfl Try.underlying24 tf5 rfl rfl rfl rfl rfl (.inl ⟨0, _, rfl⟩) rfl rfl (fun x46 e46 a47 c48 => ?_)
      refine sxo_nilCheck rfl rfl rfl ?_
      refine sxo_fieldAddr rfl rfl ff91_0 rfl ?_
      refine sxo_fieldAddr rfl rfl ff26_1 rfl ?_
      refine sxo_storeB (i := 0) rfl rfl rfl tf24 rfl rfl rfl rfl rfl ?_
      refine sxo_nil ?_
      exact sxq_meetP (x46, (a47, c48)) (lk_cons rfl (lk_cons rfl lk_nil)) (.cons 0 rfl .nil) (.cons 0 rfl .nil) fk_nil
    · refine sxc_skip ?_
      exact sxq_meetP (x3, (a4, c5)) (lk_cons rfl (lk_cons rfl lk_nil)) (.cons 0 rfl .nil) (.cons 0 rfl .nil) fk_nil
  · rintro ⟨x15, ⟨a13, c14⟩⟩
    try dsimp only
    refine sxc_seq ?_
    refine sxc_idxO (j := 0) rfl (fun x30 e30 g31 h32 => ?_)
    replace h32 : a13 = some ⟨g31, 0, none⟩ := h32
    have h33 := own_of (k := x15.length) (c := c14) h32
    refine sxc_chk (fun h34 => ?_)
    refine sxc_idxO (j := 0) rfl (fun x36 e36 g37 h38 => ?_)
    replace h38 : a13 = some ⟨g37, 0, none⟩ := h38
    have h39 := own_of (k := x15.length) (c := c14) h38
    refine sxb_draw mixed [25] [⟨g1, 91, [.int .i64 x2, .slice a13 x15.length c14]⟩] [CellsAt g31 ((iquo .i64 x2 8).toNat * 1) ((eI .u8) x30), CellsAt g37 ((iquo .i64 x2 8).toNat * 1) ((eI .u8) x36)] (.cons 0 rfl .nil) (gk_R 0 rfl (at_row (eI_ok .u8) e30 h32) (gk_R 0 rfl (at_row (eI_ok .u8) e36 h38) gk_nil)) 26 rfl ?_
    refine sxb_takeP 0 (.pointer (some ⟨g1, 0, none⟩)) rfl rfl rfl rfl (by kernel_rfl) (by kernel_rfl) (by kernel_rfl) (by kernel_rfl) (by kernel_rfl) rfl (show _ = #[true, false, false, false, false, false, false, false, false, false, false, false, false, false, false, false, false, false, false, false, false, false, false, false, false, false] from rfl) (yv_pv rfl) ?_
    refine sxb_takeP 1 (.pointer (some ⟨g1, 0, none⟩)) rfl rfl rfl rfl (by kernel_rfl) (by kernel_rfl) (by kernel_rfl) (by kernel_rfl) (by kernel_rfl) rfl (show _ = #[true, true, false, false, false, false, false, false, false, false, false, false, false, false, false, false, false, false, false, false, false, false, false, false, false, false] from rfl) (yv_pv rfl) ?_
    refine sxb_takeP 2 (.pointer (some ⟨g1, 0, none⟩)) rfl rfl rfl rfl (by kernel_rfl) (by kernel_rfl) (by kernel_rfl) (by kernel_rfl) (by kernel_rfl) rfl (show _ = #[true, true, true, false, false, false, false, false, false, false, false, false, false, false, false, false, false, false, false, false, false, false, false, false, false, false] from rfl) (yv_fieldAddr rfl ff91_0) ?_
    refine sxb_takeP 3 (.pointer (some ⟨g1, 1, none⟩)) rfl rfl rfl rfl (by kernel_rfl) (by kernel_rfl) (by kernel_rfl) (by kernel_rfl) (by kernel_rfl) rfl (show _ = #[true, true, true, true, false, false, false, false, false, false, false, false, false, false, false, false, false, false, false, false, false, false, false, false, false, false] from rfl) (yv_fieldAddr rfl ff26_1) ?_
    refine sxb_take 4 (.slice a13 x15.length c14) [[25]] rfl rfl rfl rfl (by kernel_rfl) (by kernel_rfl) (by kernel_rfl) (by kernel_rfl) (by kernel_rfl) (by kernel_rfl) rfl (show _ = #[true, true, true, true, true, false, false, false, false, false, false, false, false, false, false, false, false, false, false, false, false, false, false, false, false, false] from rfl) (yv_loadB (i := 0) rfl tf24 rfl rfl (fun _ => rfl) rfl) ?_
    refine sxb_takeP 5 (.pointer (some ⟨g1, 0, none⟩)) rfl rfl rfl rfl (by kernel_rfl) (by kernel_rfl) (by kernel_rfl) (by kernel_rfl) (by kernel_rfl) rfl (show _ = #[true, true, true, true, true, true, false, false, false, false, false, false, false, false, false, false, false, false, false, false, false, false, false, false, false, false] from rfl) (yv_pv rfl) ?_
    refine sxb_takeP 6 (.pointer (some ⟨g1, 0, none⟩)) rfl rfl rfl rfl (by kernel_rfl) (by kernel_rfl) (by kernel_rfl) (by kernel_rfl) (by kernel_rfl) rfl (show _ = #[true, true, true, true, true, true, true, false, false, false, false, false, false, false, false, false, false, false, false, false, false, false, false, false, false, false] from rfl) (yv_pv rfl) ?_
    refine sxb_takeP 7 (.pointer (some ⟨g1, 0, none⟩)) rfl rfl rfl rfl (by kernel_rfl) (by kernel_rfl) (by kernel_rfl) (by kernel_rfl) (by kernel_rfl) rfl (show _ = #[true, true, true, true, true, true, true, true, false, false, false, false, false, false, false, false, false, false, false, false, false, false, false, false, false, false] from rfl) (yv_fieldAddr rfl ff91_0) ?_
    refine sxb_takeP 8 (.pointer (some ⟨g1, 0, none⟩)) rfl rfl rfl rfl (by kernel_rfl) (by kernel_rfl) (by kernel_rfl) (by kernel_rfl) (by kernel_rfl) rfl (show _ = #[true, true, true, true, true, true, true, true, true, false, false, false, false, false, false, false, false, false, false, false, false, false, false, false, false, false] from rfl) (yv_fieldAddr rfl ff26_0) ?_
    refine sxb_take 9 (.int .i64 x2) [[25]] rfl rfl rfl rfl (by kernel_rfl) (by kernel_rfl) (by kernel_rfl) (by kernel_rfl) (by kernel_rfl) (by kernel_rfl) rfl (show _ = #[true, true, true, true, true, true, true, true, true, true, false, false, false, false, false, false, false, false, false, false, false, false, false, false, false, false] from rfl) (yv_loadB (i := 0) rfl tf3 rfl rfl (fun _ => rfl) rfl) ?_
    refine sxb_takeP 10 (.int .i64 (iquo .i64 x2 8)) rfl rfl rfl rfl (by kernel_rfl) (by kernel_rfl) (by kernel_rfl) (by kernel_rfl) (by kernel_rfl) rfl (show _ = #[true, true, true, true, true, true, true, true, true, true, true, false, false, false, false, false, false, false, false, false, false, false, false, false, false, false] from rfl) (yv_quo rfl rfl rfl) ?_
    refine sxb_again (d := 26) (v := .slice (some ⟨g31, 0, none⟩) x15.length c14) rfl (by rw [h32]) ?_
    refine sxb_takeP 11 (.pointer (some ⟨g31, (iquo .i64 x2 8).toNat * 1, none⟩)) rfl rfl rfl rfl (by kernel_rfl) (by kernel_rfl) (by kernel_rfl) (by kernel_rfl) (by kernel_rfl) rfl (show _ = #[true, true, true, true, true, true, true, true, true, true, true, true, false, false, false, false, false, false, false, false, false, false, false, false, false, false] from rfl) (yv_idxO Try.underlying24 tf5 rfl rfl (idx_get e30).1 (idx_lt e30)) ?_
    refine sxb_again (d := 26) (v := .slice a13 x15.length c14) rfl (by rw [h32]) ?_
    refine sxb_take 12 (.int .u8 x30) [[25]] rfl rfl rfl rfl (by kernel_rfl) (by kernel_rfl) (by kernel_rfl) (by kernel_rfl) (by kernel_rfl) (by kernel_rfl) rfl (show _ = #[true, true, true, true, true, true, true, true, true, true, true, true, true, false, false, false, false, false, false, false, false, false, false, false, false, false] from rfl) (yv_loadF (j := 0) rfl tf5 rfl rfl (fun _ => rfl) rfl) ?_
    refine sxb_takeP 13 (.int .u64 x6) rfl rfl rfl rfl (by kernel_rfl) (by kernel_rfl) (by kernel_rfl) (by kernel_rfl) (by kernel_rfl) rfl (show _ = #[true, true, true, true, true, true, true, true, true, true, true, true, true, true, false, false, false, false, false, false, false, false, false, false, false, false] from rfl) (yv_pv rfl) ?_
    refine sxb_takeP 14 (.int .u64 (ishl .u64 x6 7)) rfl rfl rfl rfl (by kernel_rfl) (by kernel_rfl) (by kernel_rfl) (by kernel_rfl) (by kernel_rfl) rfl (show _ = #[true, true, true, true, true, true, true, true, true, true, true, true, true, true, true, false, false, false, false, false, false, false, false, false, false, false] from rfl) (yv_shl rfl rfl rfl) ?_
    refine sxb_takeP 15 (.int .u8 (iconv .u8 (ishl .u64 x6 7))) rfl rfl rfl rfl (by kernel_rfl) (by kernel_rfl) (by kernel_rfl) (by kernel_rfl) (by kernel_rfl) rfl (show _ = #[true, true, true, true, true, true, true, true, true, true, true, true, true, true, true, true, false, false, false, false, false, false, false, false, false, false] from rfl) (yv_conv Try.underlying22 Try.underlying5 rfl) ?_
    refine sxb_takeP 16 (.pointer (some ⟨g1, 0, none⟩)) rfl rfl rfl rfl (by kernel_rfl) (by kernel_rfl) (by kernel_rfl) (by kernel_rfl) (by kernel_rfl) rfl (show _ = #[true, true, true, true, true, true, true, true, true, true, true, true, true, true, true, true, true, false, false, false, false, false, false, false, false, false] from rfl) (yv_pv rfl) ?_
    refine sxb_takeP 17 (.pointer (some ⟨g1, 0, none⟩)) rfl rfl rfl rfl (by kernel_rfl) (by kernel_rfl) (by kernel_rfl) (by kernel_rfl) (by kernel_rfl) rfl (show _ = #[true, true, true, true, true, true, true, true, true, true, true, true, true, true, true, true, true, true, false, false, false, false, false, false, false, false] from rfl) (yv_pv rfl) ?_
    refine sxb_takeP 18 (.pointer (some ⟨g1, 0, none⟩)) rfl rfl rfl rfl (by kernel_rfl) (by kernel_rfl) (by kernel_rfl) (by kernel_rfl) (by kernel_rfl) rfl (show _ = #[true, true, true, true, true, true, true, true, true, true, true, true, true, true, true, true, true, true, true, false, false, false, false, false, false, false] from rfl) (yv_fieldAddr rfl ff91_0) ?_
    refine sxb_takeP 19 (.pointer (some ⟨g1, 0, none⟩)) rfl rfl rfl rfl (by kernel_rfl) (by kernel_rfl) (by kernel_rfl) (by kernel_rfl) (by kernel_rfl) rfl (show _ = #[true, true, true, true, true, true, true, true, true, true, true, true, true, true, true, true, true, true, true, true, false, false, false, false, false, false] from rfl) (yv_fieldAddr rfl ff26_0) ?_
    refine sxb_take 20 (.int .i64 x2) [[25]] rfl rfl rfl rfl (by kernel_rfl) (by kernel_rfl) (by kernel_rfl) (by kernel_rfl) (by kernel_rfl) (by kernel_rfl) rfl (show _ = #[true, true, true, true, true, true, true, true, true, true, true, true, true, true, true, true, true, true, true, true, true, false, false, false, false, false] from rfl) (yv_loadB (i := 0) rfl tf3 rfl rfl (fun _ => rfl) rfl) ?_
    refine sxb_takeP 21 (.int .i64 (irem x2 8)) rfl rfl rfl rfl (by kernel_rfl) (by kernel_rfl) (by kernel_rfl) (by kernel_rfl) (by kernel_rfl) rfl (show _ = #[true, true, true, true, true, true, true, true, true, true, true, true, true, true, true, true, true, true, true, true, true, true, false, false, false, false] from rfl) (yv_rem rfl rfl rfl) ?_
    refine sxb_takeP 22 (.int .u8 (ishr .u8 (iconv .u8 (ishl .u64 x6 7)) (irem x2 8))) rfl rfl rfl rfl (by kernel_rfl) (by kernel_rfl) (by kernel_rfl) (by kernel_rfl) (by kernel_rfl) rfl (show _ = #[true, true, true, true, true, true, true, true, true, true, true, true, true, true, true, true, true, true, true, true, true, true, true, false, false, false] from rfl) (yv_shr rfl rfl h34) ?_
    refine sxb_takeP 23 (.int .u8 (ior .u8 x30 (ishr .u8 (iconv .u8 (ishl .u64 x6 7)) (irem x2 8)))) rfl rfl rfl rfl (by kernel_rfl) (by kernel_rfl) (by kernel_rfl) (by kernel_rfl) (by kernel_rfl) rfl (show _ = #[true, true, true, true, true, true, true, true, true, true, true, true, true, true, true, true, true, true, true, true, true, true, true, true, false, false] from rfl) (yv_pv rfl) ?_
    refine sxb_again (d := 26) (v := .slice (some ⟨g37, 0, none⟩) x15.length c14) rfl (by rw [h38]) ?_
    refine sxb_takeP 24 (.pointer (some ⟨g37, (iquo .i64 x2 8).toNat * 1, none⟩)) rfl rfl rfl rfl (by kernel_rfl) (by kernel_rfl) (by kernel_rfl) (by kernel_rfl) (by kernel_rfl) rfl (show _ = #[true, true, true, true, true, true, true, true, true, true, true, true, true, true, true, true, true, true, true, true, true, true, true, true, true, false] from rfl) (yv_idxO Try.underlying24 tf5 rfl rfl (idx_get e36).1 (idx_lt e36)) ?_
    refine sxb_again (d := 26) (v := .slice a13 x15.length c14) rfl (by rw [h38]) ?_
    refine sxb_step 25 rfl (by kernel_rfl) (show _ = #[true, true, true, true, true, true, true, true, true, true, true, true, true, true, true, true, true, true, true, true, true, true, true, true, true, true] from rfl) ?_
    refine sxo_storeL (j := 0) (y' := ior .u8 x30 (ishr .u8 (iconv .u8 (ishl .u64 x6 7)) (irem x2 8))) (eI_ok .u8) rfl rfl rfl tf5 rfl (own_of h38) (idx_get e36).2.1 rfl (fun x41 e41 h42 => ?_)
    have h43 : x41.length = x15.length := by rw [← e41, List.length_set]
    refine sxo_again (d := 26) (v := .slice a13 x41.length c14) rfl h42 ?_
    refine sxo_blkAgain (i := 0) (cs' := [.int .i64 x2, .slice a13 x41.length c14]) rfl (by rw [h42]) ?_
    refine sxo_nil ?_
    refine sxq_anyW 25 rfl rfl ?_
    refine sxb_done (by kernel_rfl) ?_
    refine sxq_np ?_ (by intro c h; cases h)
    refine sxq_next ?_
    refine sxc_region ?_
    refine sxo_move rfl rfl rfl ?_
    refine sxo_nilCheck rfl rfl rfl ?_
    refine sxo_fieldAddr rfl rfl ff91_0 rfl ?_
    refine sxo_fieldAddr rfl rfl ff26_0 rfl ?_
    refine sxo_loadB (i := 0) rfl rfl tf3 rfl rfl (fun _ => rfl) rfl rfl ?_
    refine sxo_add rfl rfl rfl rfl ?_
    refine sxo_nilCheck rfl rfl rfl ?_
    refine sxo_fieldAddr rfl rfl ff91_0 rfl ?_
    refine sxo_fieldAddr rfl rfl ff26_0 rfl ?_
    refine sxo_storeB (i := 0) rfl rfl rfl tf3 rfl rfl rfl rfl rfl ?_
    refine sxo_nil ?_
    exact sxq_doneM (a13, c14) (.inr rfl) (res0 rfl) (fun h => by subst h; rfl) (fun h => by subst h; exact (.cons 0 rfl .nil)) (fun h => by subst h; exact (.cons 0 rfl .nil))

theorem C_bits_writer_number (F : Nat) (g1 : Nat) (x2 : Int) (x3 : List Int) (a4 : Option Addr) (c5 : Nat) (x6 : Int) (x7 : Int) (r : (Int × List Int)) (hm : M_bits_writer_number F x2 x3 x6 x7 = some r) :
    PureM Try.prog 84 [.pointer (some ⟨g1, 0, none⟩), .int .u64 x6, .int .i64 x7] [⟨g1, 91, [.int .i64 x2, .slice a4 x3.length c5]⟩] [Ro (eI .u8) 5 1 (.slice a4 x3.length c5) x3] [] (Option Addr × Nat) (fun _ => .tuple #[]) (fun g => [⟨g1, 91, [.int .i64 r.1, .slice g.1 r.2.length g.2]⟩]) (fun g => [Ro (eI .u8) 5 1 (.slice g.1 r.2.length g.2) r.2]) := by
  refine pureM_of Try.func84 rfl Try.ntmps84 rfl hm (fun w => ?_)
  refine sxc_env (l' := [(0, .pointer (some ⟨g1, 0, none⟩)), (1, .int .u64 x6), (2, .int .i64 x7)]) rfl ?_
  refine sxc_seq ?_
  refine sxc_region ?_
  refine sxo_move rfl rfl rfl ?_
  refine sxo_sub rfl rfl rfl rfl ?_
  refine sxo_assign rfl rfl rfl ?_
  refine sxo_nil ?_
  refine sxq_next ?_
  refine sxc_block ?_
  refine sxc_loopP (fun (((x18, x19, x22), (a20, c21)) : ((Int × Int × List Int) × (Option Addr × Nat))) => [(0, .pointer (some ⟨g1, 0, none⟩)), (1, .int .u64 x6), (6, .int .i64 x18)]) (fun (((x18, x19, x22), (a20, c21)) : ((Int × Int × List Int) × (Option Addr × Nat))) => [⟨g1, 91, [.int .i64 x19, .slice a20 x22.length c21]⟩]) (fun (((x18, x19, x22), (a20, c21)) : ((Int × Int × List Int) × (Option Addr × Nat))) => [Ro (eI .u8) 5 1 (.slice a20 x22.length c21) x22]) (fun (((x18, x19, x22), (a20, c21)) : ((Int × Int × List Int) × (Option Addr × Nat))) => []) (fun k (s : ((Int × Int × List Int) × (Option Addr × Nat))) => M_bits_writer_number_l1 F x6 k s.1) ((isub .i64 x7 1, x2, x3), (a4, c5)) F (lk_cons rfl (lk_cons rfl (lk_cons rfl lk_nil))) (.cons 0 rfl .nil) (.cons 0 rfl .nil) fk_nil (fun _ => rfl) ?_
  intro k33
  rintro ⟨⟨x18, x19, x22⟩, ⟨a20, c21⟩⟩
  try dsimp only
  refine sxc_meq (m' := M_bits_writer_number_b1 F x6 (M_bits_writer_number_l1 F x6 k33) x18 x19 x22) rfl ?_
  refine sxc_seq ?_
  refine sxc_seq ?_
  refine sxc_region ?_
  refine sxo_move rfl rfl rfl ?_
  refine sxo_geq rfl rfl rfl rfl ?_
  refine sxo_nil ?_
  refine sxq_next ?_
  refine sxc_if rfl (fun h43 => ?_) (fun h43 => ?_)
  · refine sxc_skip ?_
    refine sxq_next ?_
    refine sxc_seq ?_
    refine sxc_block ?_
    refine sxc_region ?_
    refine sxo_move rfl rfl rfl ?_
    refine sxo_move rfl rfl rfl ?_
    refine sxo_move rfl rfl rfl ?_
    refine sxo_chk (fun h39 => ?_)
    refine sxo_shr rfl rfl rfl rfl h39 ?_
    refine sxo_and rfl rfl rfl rfl ?_
    refine sxo_callM ent67 rfl rfl rfl (fun x40 e40 => C_bits_writer_bit F g1 x19 x22 a20 c21 (iand .u64 (ishr .u64 x6 x18) 1) x40 e40) (.cons 0 rfl .nil) (.cons 0 rfl .nil) .nil (fun x40 e40 => ?_)
    rintro ⟨a41, c42⟩
    refine sxo_nil ?_
    refine sxq_blkN ?_
    refine sxq_next ?_
    refine sxc_region ?_
    refine sxo_move rfl rfl rfl ?_
    refine sxo_sub rfl rfl rfl rfl ?_
    refine sxo_assign rfl rfl rfl ?_
    refine sxo_nil ?_
    exact sxq_againP ((isub .i64 x18 1, x40.1, x40.2), (a41, c42)) (lk_cons rfl (lk_cons rfl (lk_cons rfl lk_nil))) (.cons 0 rfl .nil) (.cons 0 rfl .nil) fk_nil
  · refine sxc_exit ?_
    refine sxq_thenX ?_
    refine sxq_thenX ?_
    refine sxq_blkX ?_
    exact sxq_doneM (a20, c21) (.inr rfl) (res0 rfl) (fun h => by subst h; rfl) (fun h => by subst h; exact (.cons 0 rfl .nil)) (fun h => by subst h; exact (.cons 0 rfl .nil))

theorem C_bits_Add (F : Nat) (x1 : Int) (x2 : List Int) (a3 : Option Addr) (c4 : Nat) (x5 : Int) (x6 : Int) (r : (Int × List Int)) (hm : M_bits_Add F x1 x2 x5 x6 = some r) :
    Pure Try.prog 68 [.agg #[.int .i64 x1, .slice a3 x2.length c4], .int .u64 x5, .int .i64 x6] [Sl (eI .u8) 1 (.slice a3 x2.length c4) x2] (Option Addr × Nat) (fun g => .agg #[.int .i64 r.1, .slice g.1 r.2.length g.2]) (fun g => [Ro (eI .u8) 5 1 (.slice g.1 r.2.length g.2) r.2]) (fun _ => []) := by
  refine pure_of Try.func68 rfl Try.ntmps68 rfl hm (fun w => ?_)
  refine sxc_env (l' := [(0, .agg #[.int .i64 x1, .slice a3 x2.length c4]), (1, .int .u64 x5), (2, .int .i64 x6)]) rfl ?_
  refine sxc_seq ?_
  refine sxc_region ?_
  refine sxo_box rfl rfl rfl (fun g7 => ?_)
  refine sxo_alloc rfl tf26 rfl (fun g8 => ?_)
  refine sxo_nil ?_
  refine sxq_next ?_
  refine sxc_seq ?_
  refine sxc_region ?_
  refine sxo_loadB (i := 1) rfl rfl tf26 rfl rfl (by simp) rfl rfl ?_
  refine sxo_callM ent82 rfl rfl rfl (fun x9 e9 => C_bits_own F x1 x2 a3 c4 x9 e9) .nil .nil (.consF 0 rfl .nil) (fun x9 e9 => ?_)
  rintro ⟨⟨a10, c11⟩, g12⟩
  refine sxo_assign rfl rfl rfl ?_
  refine sxo_nil ?_
  refine sxq_next ?_
  refine sxc_seq ?_
  refine sxc_region ?_
  refine sxo_move rfl rfl rfl ?_
  refine sxo_move rfl rfl rfl ?_
  refine sxo_move rfl rfl rfl ?_
  refine sxo_callM ent84 rfl rfl rfl (fun x13 e13 => C_bits_writer_number F g12 x9.1 x9.2 a10 c11 x5 x6 x13 e13) (.cons 0 rfl .nil) (.cons 0 rfl .nil) .nil (fun x13 e13 => ?_)
  rintro ⟨a14, c15⟩
  refine sxo_nil ?_
  refine sxq_next ?_
  refine sxc_seq ?_
  refine sxc_region ?_
  refine sxo_move rfl rfl rfl ?_
  refine sxo_nilCheck rfl rfl rfl ?_
  refine sxo_fieldAddr rfl rfl ff91_0 rfl ?_
  refine sxo_loadB (i := 0) rfl rfl tf26 rfl rfl (by simp) rfl rfl ?_
  refine sxo_storeB (i := 1) rfl rfl rfl tf26 rfl rfl rfl rfl rfl ?_
  refine sxo_nil ?_
  refine sxq_next ?_
  refine sxc_ret ?_
  exact sxq_doneP (a14, c15) (.inl rfl) (resL (rs := [.cell 6 26]) rfl (.cell (i := 1) rfl tf26 rfl rfl (by simp) rfl ResOk.nil) rfl) (fun h => by subst h; rfl) (fun h => by subst h; exact (.cons 0 rfl .nil))

theorem C_slices_Index_int_int (F : Nat) (x1 : List Int) (a2 : Option Addr) (c3 : Nat) (x4 : Int) (r : Int) (hm : M_slices_Index_int_int F x1 x4 = some r) :
    Pure Try.prog 90 [.slice a2 x1.length c3, .int .i64 x4] [Sl (eI .i64) 1 (.slice a2 x1.length c3) x1] Unit (fun _ => .int .i64 r) (fun _ => []) (fun _ => []) := by
  refine pure_of Try.func90 rfl Try.ntmps90 rfl hm (fun w => ?_)
  refine sxc_env (l' := [(0, .slice a2 x1.length c3), (1, .int .i64 x4)]) rfl ?_
  refine sxc_seq ?_
  refine sxc_region ?_
  refine sxo_assign rfl rfl rfl ?_
  refine sxo_nil ?_
  refine sxq_next ?_
  refine sxc_join (fun ((_, _) : (Unit × Unit)) => []) (fun ((_, _) : (Unit × Unit)) => []) (fun ((_, _) : (Unit × Unit)) => []) (fun ((_, _) : (Unit × Unit)) => []) (fun ((_, _) : (Unit × Unit)) => M_slices_Index_int_int_j2 F) ?_ ?_
  · refine sxc_seq ?_
    refine sxc_region ?_
    refine sxo_move rfl rfl rfl ?_
    refine sxo_len rfl Try.underlying23 rfl rfl ?_
    refine sxo_move rfl rfl rfl ?_
    refine sxo_nil ?_
    refine sxq_next ?_
    refine sxc_block ?_
    refine sxc_loopP (fun ((x47, _) : (Int × Unit)) => [(0, .slice a2 x1.length c3), (1, .int .i64 x4), (7, .int .i64 (x1.length : Int)), (8, .int .i64 x47)]) (fun ((x47, _) : (Int × Unit)) => []) (fun ((x47, _) : (Int × Unit)) => []) (fun ((x47, _) : (Int × Unit)) => [Sl (eI .i64) 1 (.slice a2 x1.length c3) x1]) (fun k (s : (Int × Unit)) => M_slices_Index_int_int_l3 F x1 x4 k s.1) (0, ()) F (lk_cons rfl (lk_cons rfl (lk_cons rfl (lk_cons rfl lk_nil)))) .nil .nil (fk_cons 0 rfl fk_nil) (fun _ => rfl) ?_
    intro k58
    rintro ⟨x47, _⟩
    try dsimp only
    refine sxc_meq (m' := M_slices_Index_int_int_b3 F x1 x4 (M_slices_Index_int_int_l3 F x1 x4 k58) x47) rfl ?_
    refine sxc_seq ?_
    refine sxc_region ?_
    refine sxo_lss rfl rfl rfl rfl ?_
    refine sxo_nil ?_
    refine sxq_next ?_
    refine sxc_seq ?_
    refine sxc_if rfl (fun h68 => ?_) (fun h68 => ?_)
    · refine sxc_skip ?_
      refine sxq_next ?_
      refine sxc_seq ?_
      refine sxc_block ?_
      refine sxc_seq ?_
      refine sxc_region ?_
      refine sxo_move rfl rfl rfl ?_
      refine sxo_assign rfl rfl rfl ?_
      refine sxo_nil ?_
      refine sxq_next ?_
      refine sxc_seq ?_
      refine sxc_region ?_
      refine sxo_move rfl rfl rfl ?_
      refine sxo_move rfl rfl rfl ?_
      refine sxo_move rfl rfl rfl ?_
      refine sxo_indexF (j := 0) (eI_ok .i64) (by decide) rfl Try.underlying23 tf3 rfl rfl rfl rfl (fun x64 e64 b65 o66 => ?_)
      refine sxo_loadF (j := 0) rfl rfl tf3 rfl rfl (fun _ => rfl) rfl rfl ?_
      refine sxo_eql rfl rfl rfl rfl ?_
      refine sxo_nil ?_
      refine sxq_next ?_
      refine sxc_if rfl (fun h67 => ?_) (fun h67 => ?_)
      · refine sxc_seq ?_
        refine sxc_region ?_
        refine sxo_move rfl rfl rfl ?_
        refine sxo_assign rfl rfl rfl ?_
        refine sxo_nil ?_
        refine sxq_next ?_
        refine sxc_ret ?_
        refine sxq_blkR ?_
        refine sxq_thenR ?_
        refine sxq_thenR ?_
        refine sxq_blkR ?_
        refine sxq_thenR ?_
        exact sxq_doneP () (.inl rfl) (res1 rfl rfl) (fun h => by subst h; rfl) (fun h => by subst h; exact .nil)
      · refine sxc_skip ?_
        refine sxq_blkN ?_
        refine sxq_next ?_
        refine sxc_region ?_
        refine sxo_add rfl rfl rfl rfl ?_
        refine sxo_move rfl rfl rfl ?_
        refine sxo_nil ?_
        exact sxq_againP (iadd .i64 x47 1, ()) (lk_cons rfl (lk_cons rfl (lk_cons rfl (lk_cons rfl lk_nil)))) .nil .nil (fk_cons 1 rfl fk_nil)
    · refine sxc_exit ?_
      refine sxq_thenX ?_
      refine sxq_thenX ?_
      refine sxq_blkX ?_
      exact sxq_meetP ((), ()) lk_nil .nil .nil fk_nil
  · rintro ⟨_, _⟩
    try dsimp only
    refine sxc_seq ?_
    refine sxc_region ?_
    refine sxo_assign rfl rfl rfl ?_
    refine sxo_nil ?_
    refine sxq_next ?_
    refine sxc_ret ?_
    exact sxq_doneP () (.inl rfl) (res1 rfl rfl) (fun h => by subst h; rfl) (fun h => by subst h; exact .nil)

theorem C_slices_Contains_int_int (F : Nat) (x1 : List Int) (a2 : Option Addr) (c3 : Nat) (x4 : Int) (r : Bool) (hm : M_slices_Contains_int_int F x1 x4 = some r) :
    Pure Try.prog 75 [.slice a2 x1.length c3, .int .i64 x4] [Sl (eI .i64) 1 (.slice a2 x1.length c3) x1] Unit (fun _ => .bool r) (fun _ => []) (fun _ => []) := by
  refine pure_of Try.func75 rfl Try.ntmps75 rfl hm (fun w => ?_)
  refine sxc_env (l' := [(0, .slice a2 x1.length c3), (1, .int .i64 x4)]) rfl ?_
  refine sxc_seq ?_
  refine sxc_region ?_
  refine sxo_assign rfl rfl rfl ?_
  refine sxo_nil ?_
  refine sxq_next ?_
  refine sxc_seq ?_
  refine sxc_region ?_
  refine sxo_move rfl rfl rfl ?_
  refine sxo_move rfl rfl rfl ?_
  refine sxo_call ent90 rfl rfl rfl (fun x5 e5 => C_slices_Index_int_int F x1 a2 c3 x4 x5 e5) (.consF 0 rfl .nil) (fun x5 e5 => ?_)
  intro _
  refine sxo_geq rfl rfl rfl rfl ?_
  refine sxo_assign rfl rfl rfl ?_
  refine sxo_nil ?_
  refine sxq_next ?_
  refine sxc_ret ?_
  exact sxq_doneP () (.inl rfl) (res1 rfl rfl) (fun h => by subst h; rfl) (fun h => by subst h; exact .nil)

theorem C_fib_Raw (F : Nat) (x1 : Int) (r : (Int × List Int)) (hm : M_fib_Raw F x1 = some r) :
    Pure Try.prog 49 [.int .u64 x1] [] (Option Addr × Nat) (fun g => .agg #[.int .i64 r.1, .slice g.1 r.2.length g.2]) (fun g => [Ro (eI .u8) 5 1 (.slice g.1 r.2.length g.2) r.2]) (fun _ => []) := by
  refine pure_of Try.func49 rfl Try.ntmps49 rfl hm (fun w => ?_)
  refine sxc_env (l' := [(0, .int .u64 x1)]) rfl ?_
  refine sxc_seq ?_
  refine sxc_region ?_
  refine sxo_alloc rfl tf26 rfl (fun g2 => ?_)
  refine sxo_nil ?_
  refine sxq_next ?_
  refine sxc_seq ?_
  refine sxc_region ?_
  refine sxo_move rfl rfl rfl ?_
  refine sxo_add rfl rfl rfl rfl ?_
  refine sxo_call ent48 rfl rfl rfl (fun x3 e3 => C_fib_parts F (iadd .u64 x1 1) x3 e3) .nil (fun x3 e3 => ?_)
  rintro ⟨a4, c5⟩
  refine sxo_assign rfl rfl rfl ?_
  refine sxo_nil ?_
  refine sxq_next ?_
  refine sxc_seq ?_
  refine sxc_region ?_
  refine sxo_build (cells := [.int .i64 0, .slice none 0 0]) rfl st26 rfl (by kernel_rfl) rfl ?_
  refine sxo_alloc rfl tf26 rfl (fun g6 => ?_)
  refine sxo_storeB (i := 0) rfl rfl rfl tf26 rfl rfl rfl rfl rfl ?_
  refine sxo_nil ?_
  refine sxq_next ?_
  refine sxc_join (fun (((x71, x74), (a72, c73)) : ((Int × List Int) × (Option Addr × Nat))) => [(2, .pointer (some ⟨g2, 0, none⟩)), (4, .pointer (some ⟨g6, 0, none⟩))]) (fun (((x71, x74), (a72, c73)) : ((Int × List Int) × (Option Addr × Nat))) => [⟨g6, 26, [.int .i64 x71, .slice a72 x74.length c73]⟩, ⟨g2, 26, [.int .i64 0, .slice none 0 0]⟩]) (fun (((x71, x74), (a72, c73)) : ((Int × List Int) × (Option Addr × Nat))) => [Ro (eI .u8) 5 1 (.slice a72 x74.length c73) x74]) (fun (((x71, x74), (a72, c73)) : ((Int × List Int) × (Option Addr × Nat))) => []) (fun (((x71, x74), _) : ((Int × List Int) × (Option Addr × Nat))) => M_fib_Raw_j8 F x71 x74) ?_ ?_
  · refine sxc_seq ?_
    refine sxc_region ?_
    refine sxo_move rfl rfl rfl ?_
    refine sxo_move rfl rfl rfl ?_
    refine sxo_len rfl Try.underlying23 rfl rfl ?_
    refine sxo_sub rfl rfl rfl rfl ?_
    refine sxo_indexR (j := 0) rfl Try.underlying23 tf3 rfl rfl rfl rfl (fun x78 e78 g79 h80 => ?_)
    refine sxo_loadR (j := 0) (y := x78) (eI_ok .i64) rfl rfl tf3 rfl h80 (idx_get e78).2.2 (fun _ => rfl) rfl rfl ?_
    refine sxo_add rfl rfl rfl rfl ?_
    refine sxo_move rfl rfl rfl ?_
    refine sxo_nil ?_
    refine sxq_next ?_
    refine sxc_block ?_
    refine sxc_nilrow Int (eI .u8) 5 1 ?_
    refine sxc_loopP (fun (((x100, x101, x104), (a102, c103)) : ((Int × Int × List Int) × (Option Addr × Nat))) => [(2, .pointer (some ⟨g2, 0, none⟩)), (3, .slice a4 x3.length c5), (4, .pointer (some ⟨g6, 0, none⟩)), (17, .int .i64 (iadd .i64 x78 1)), (18, .int .i64 x100)]) (fun (((x100, x101, x104), (a102, c103)) : ((Int × Int × List Int) × (Option Addr × Nat))) => [⟨g6, 26, [.int .i64 x101, .slice a102 x104.length c103]⟩, ⟨g2, 26, [.int .i64 0, .slice none 0 0]⟩]) (fun (((x100, x101, x104), (a102, c103)) : ((Int × Int × List Int) × (Option Addr × Nat))) => [Ro (eI .i64) 3 1 (.slice a4 x3.length c5) x3, Ro (eI .u8) 5 1 (.slice a102 x104.length c103) x104]) (fun (((x100, x101, x104), (a102, c103)) : ((Int × Int × List Int) × (Option Addr × Nat))) => []) (fun k (s : ((Int × Int × List Int) × (Option Addr × Nat))) => M_fib_Raw_l13 F x3 x78 k s.1) ((0, 0, ([] : List Int)), (none, 0)) F (lk_cons rfl (lk_cons rfl (lk_cons rfl (lk_cons rfl (lk_cons rfl lk_nil))))) (.cons 0 rfl (.cons 0 rfl .nil)) (.cons 1 rfl (.cons 0 rfl .nil)) fk_nil (fun _ => rfl) ?_
    intro k123
    rintro ⟨⟨x100, x101, x104⟩, ⟨a102, c103⟩⟩
    try dsimp only
    refine sxc_meq (m' := M_fib_Raw_b13 F x3 x78 (M_fib_Raw_l13 F x3 x78 k123) x100 x101 x104) rfl ?_
    refine sxc_seq ?_
    refine sxc_region ?_
    refine sxo_lss rfl rfl rfl rfl ?_
    refine sxo_nil ?_
    refine sxq_next ?_
    refine sxc_seq ?_
    refine sxc_if rfl (fun h141 => ?_) (fun h141 => ?_)
    · refine sxc_skip ?_
      refine sxq_next ?_
      refine sxc_seq ?_
      refine sxc_block ?_
      refine sxc_seq ?_
      refine sxc_region ?_
      refine sxo_move rfl rfl rfl ?_
      refine sxo_assign rfl rfl rfl ?_
      refine sxo_nil ?_
      refine sxq_next ?_
      refine sxc_seq ?_
      refine sxc_region ?_
      refine sxo_assign rfl rfl rfl ?_
      refine sxo_nil ?_
      refine sxq_next ?_
      refine sxc_join (fun ((x135, _) : (Int × Unit)) => [(2, .pointer (some ⟨g2, 0, none⟩)), (3, .slice a4 x3.length c5), (4, .pointer (some ⟨g6, 0, none⟩)), (6, .int .u64 x135), (17, .int .i64 (iadd .i64 x78 1)), (18, .int .i64 x100)]) (fun ((x135, _) : (Int × Unit)) => [⟨g6, 26, [.int .i64 x101, .slice a102 x104.length c103]⟩, ⟨g2, 26, [.int .i64 0, .slice none 0 0]⟩]) (fun ((x135, _) : (Int × Unit)) => [Ro (eI .i64) 3 1 (.slice a4 x3.length c5) x3, Ro (eI .u8) 5 1 (.slice a102 x104.length c103) x104]) (fun ((x135, _) : (Int × Unit)) => []) (fun ((x135, _) : (Int × Unit)) => M_fib_Raw_j15 F (M_fib_Raw_l13 F x3 x78 k123) x100 x101 x104 x135) ?_ ?_
      · refine sxc_seq ?_
        refine sxc_region ?_
        refine sxo_move rfl rfl rfl ?_
        refine sxo_move rfl rfl rfl ?_
        refine sxo_call ent75 rfl rfl rfl (fun x139 e139 => C_slices_Contains_int_int F x3 a4 c5 x100 x139 e139) (.consR 0 (Ro (eI .i64) 3 1 (.slice a4 x3.length c5) x3) rfl .nil) (fun x139 e139 => ?_)
        intro _
        refine sxo_nil ?_
        refine sxq_next ?_
        refine sxc_if rfl (fun h140 => ?_) (fun h140 => ?_)
        · refine sxc_region ?_
          refine sxo_assign rfl rfl rfl ?_
          refine sxo_nil ?_
          exact sxq_meetP (1, ()) (lk_cons rfl (lk_cons rfl (lk_cons rfl (lk_cons rfl (lk_cons rfl (lk_cons rfl lk_nil)))))) (.cons 0 rfl (.cons 0 rfl .nil)) (.cons 0 rfl (.cons 0 rfl .nil)) fk_nil
        · refine sxc_skip ?_
          exact sxq_meetP (0, ()) (lk_cons rfl (lk_cons rfl (lk_cons rfl (lk_cons rfl (lk_cons rfl (lk_cons rfl lk_nil)))))) (.cons 0 rfl (.cons 0 rfl .nil)) (.cons 0 rfl (.cons 0 rfl .nil)) fk_nil
      · rintro ⟨x135, _⟩
        try dsimp only
        refine sxc_region ?_
        refine sxo_loadB (i := 0) rfl rfl tf26 rfl rfl (by simp) rfl rfl ?_
        refine sxo_move rfl rfl rfl ?_
        refine sxo_call ent68 rfl rfl rfl (fun x136 e136 => C_bits_Add F x101 x104 a102 c103 x135 1 x136 e136) (.consR 1 (Ro (eI .u8) 5 1 (.slice a102 x104.length c103) x104) rfl .nil) (fun x136 e136 => ?_)
        rintro ⟨a137, c138⟩
        refine sxo_storeB (i := 0) rfl rfl rfl tf26 rfl rfl rfl rfl rfl ?_
        refine sxo_nil ?_
        refine sxq_blkN ?_
        refine sxq_next ?_
        refine sxc_region ?_
        refine sxo_add rfl rfl rfl rfl ?_
        refine sxo_move rfl rfl rfl ?_
        refine sxo_nil ?_
        exact sxq_againP ((iadd .i64 x100 1, x136.1, x136.2), (a137, c138)) (lk_cons rfl (lk_cons rfl (lk_cons rfl (lk_cons rfl (lk_cons rfl lk_nil))))) (.cons 0 rfl (.cons 0 rfl .nil)) (.cons 1 rfl (.cons 0 rfl .nil)) fk_nil
    · refine sxc_exit ?_
      refine sxq_thenX ?_
      refine sxq_thenX ?_
      refine sxq_blkX ?_
      exact sxq_meetP ((x101, x104), (a102, c103)) (lk_cons rfl (lk_cons rfl lk_nil)) (.cons 0 rfl (.cons 0 rfl .nil)) (.cons 1 rfl .nil) fk_nil
  · rintro ⟨⟨x71, x74⟩, ⟨a72, c73⟩⟩
    try dsimp only
    refine sxc_seq ?_
    refine sxc_region ?_
    refine sxo_loadB (i := 0) rfl rfl tf26 rfl rfl (by simp) rfl rfl ?_
    refine sxo_call ent68 rfl rfl rfl (fun x75 e75 => C_bits_Add F x71 x74 a72 c73 1 1 x75 e75) (.consR 0 (Ro (eI .u8) 5 1 (.slice a72 x74.length c73) x74) rfl .nil) (fun x75 e75 => ?_)
    rintro ⟨a76, c77⟩
    refine sxo_storeB (i := 1) rfl rfl rfl tf26 rfl rfl rfl rfl rfl ?_
    refine sxo_nil ?_
    refine sxq_next ?_
    refine sxc_ret ?_
    exact sxq_doneP (a76, c77) (.inl rfl) (resL (rs := [.cell 2 26]) rfl (.cell (i := 1) rfl tf26 rfl rfl (by simp) rfl ResOk.nil) rfl) (fun h => by subst h; rfl) (fun h => by subst h; exact (.cons 0 rfl .nil))

theorem C_fib_Code (F : Nat) (x1 : Int) (r : (Int × List Int × Int)) (hm : M_fib_Code F x1 = some r) :
    Pure Try.prog 18 [.int .u64 x1] [] (Option Addr × Nat) (fun g => .tuple #[.agg #[.int .i64 r.1, .slice g.1 r.2.1.length g.2], .int .i64 r.2.2]) (fun g => [Ro (eI .u8) 5 1 (.slice g.1 r.2.1.length g.2) r.2.1]) (fun _ => []) := by
  refine pure_of Try.func18 rfl Try.ntmps18 rfl hm (fun w => ?_)
  refine sxc_env (l' := [(0, .int .u64 x1)]) rfl ?_
  refine sxc_seq ?_
  refine sxc_region ?_
  refine sxo_alloc rfl tf26 rfl (fun g2 => ?_)
  refine sxo_assign rfl rfl rfl ?_
  refine sxo_nil ?_
  refine sxq_next ?_
  refine sxc_seq ?_
  refine sxc_seq ?_
  refine sxc_region ?_
  refine sxo_move rfl rfl rfl ?_
  refine sxo_gtr rfl rfl rfl rfl ?_
  refine sxo_nil ?_
  refine sxq_next ?_
  refine sxc_if rfl (fun h7 => ?_) (fun h7 => ?_)
  · refine sxc_seq ?_
    refine sxc_region ?_
    refine sxo_build (cells := [.int .i64 0, .slice none 0 0]) rfl st26 rfl (by kernel_rfl) rfl ?_
    refine sxo_storeB (i := 0) rfl rfl rfl tf26 rfl rfl rfl rfl rfl ?_
    refine sxo_assign rfl rfl rfl ?_
    refine sxo_nil ?_
    refine sxq_next ?_
    refine sxc_ret ?_
    refine sxq_thenR ?_
    refine sxq_nilrow Int (eI .u8) 5 1 ?_
    exact sxq_doneP (none, 0) (.inl rfl) (resL (rs := [.cell 2 26, .tmp 3]) rfl (.cell (i := 0) rfl tf26 rfl rfl (by simp) rfl (.tmp rfl ResOk.nil)) rfl) (fun h => by subst h; rfl) (fun h => by subst h; exact (.cons 0 rfl .nil))
  · refine sxc_skip ?_
    refine sxq_next ?_
    refine sxc_seq ?_
    refine sxc_region ?_
    refine sxo_move rfl rfl rfl ?_
    refine sxo_call ent49 rfl rfl rfl (fun x4 e4 => C_fib_Raw F x1 x4 e4) .nil (fun x4 e4 => ?_)
    rintro ⟨a5, c6⟩
    refine sxo_storeB (i := 0) rfl rfl rfl tf26 rfl rfl rfl rfl rfl ?_
    refine sxo_assign rfl rfl rfl ?_
    refine sxo_nil ?_
    refine sxq_next ?_
    refine sxc_ret ?_
    exact sxq_doneP (a5, c6) (.inl rfl) (resL (rs := [.cell 2 26, .tmp 3]) rfl (.cell (i := 0) rfl tf26 rfl rfl (by simp) rfl (.tmp rfl ResOk.nil)) rfl) (fun h => by subst h; rfl) (fun h => by subst h; exact (.cons 0 rfl .nil))

theorem C_bits_Check (F : Nat) (x1 : Int) (x2 : List Int) (a3 : Option Addr) (c4 : Nat) (r : Int) (hm : M_bits_Check F x1 x2 = some r) :
    Pure Try.prog 63 [.agg #[.int .i64 x1, .slice a3 x2.length c4]] [Sl (eI .u8) 1 (.slice a3 x2.length c4) x2] Unit (fun _ => .int .i64 r) (fun _ => []) (fun _ => []) := by
  refine pure_of Try.func63 rfl Try.ntmps63 rfl hm (fun w => ?_)
  refine sxc_env (l' := [(0, .agg #[.int .i64 x1, .slice a3 x2.length c4])]) rfl ?_
  refine sxc_seq ?_
  refine sxc_region ?_
  refine sxo_box rfl rfl rfl (fun g5 => ?_)
  refine sxo_assign rfl rfl rfl ?_
  refine sxo_nil ?_
  refine sxq_next ?_
  refine sxc_seq ?_
  refine sxc_block ?_
  refine sxc_seq ?_
  refine sxc_region ?_
  refine sxo_fieldAddr rfl rfl ff26_0 rfl ?_
  refine sxo_loadB (i := 0) rfl rfl tf3 rfl rfl (fun _ => rfl) rfl rfl ?_
  refine sxo_lss rfl rfl rfl rfl ?_
  refine sxo_move rfl rfl rfl ?_
  refine sxo_case 4 (decide (x1 < 0)) [(1, .pointer (some ⟨g5, 0, none⟩)), (11, .bool ((decide (x1 < 0)) || (decide (8192 < x1))))] (fun h27 => ?_) (fun h27 => ?_) ?_
  · refine sxo_take (os := _) rfl ?_
    refine sxo_isT (k := 7) rfl h27 ?_
    refine sxo_skip rfl rfl rfl ?_
    refine sxo_skip rfl rfl rfl ?_
    refine sxo_skip rfl rfl rfl ?_
    refine sxo_pick (b := true) rfl rfl rfl rfl ?_
    refine sxo_again (d := 11) (v := .bool ((decide (x1 < 0)) || (decide (8192 < x1)))) rfl (by rw [h27]; simp only [Bool.true_or]) ?_
    refine sxo_nil ?_
    exact sxq_case (lk_cons rfl (lk_cons rfl lk_nil))
  · refine sxo_take (os := _) rfl ?_
    refine sxo_isF (k := 7) rfl h27 ?_
    refine sxo_fieldAddr rfl rfl ff26_0 rfl ?_
    refine sxo_loadB (i := 0) rfl rfl tf3 rfl rfl (fun _ => rfl) rfl rfl ?_
    refine sxo_gtr rfl rfl rfl rfl ?_
    refine sxo_pick (b := false) rfl rfl rfl rfl ?_
    refine sxo_again (d := 11) (v := .bool ((decide (x1 < 0)) || (decide (8192 < x1)))) rfl (by rw [h27]; simp only [Bool.false_or]) ?_
    refine sxo_nil ?_
    exact sxq_case (lk_cons rfl (lk_cons rfl lk_nil))
  refine sxo_take (os := _) rfl ?_
  refine sxo_assign rfl rfl rfl ?_
  refine sxo_nil ?_
  refine sxq_next ?_
  refine sxc_if rfl (fun h47 => ?_) (fun h47 => ?_)
  · refine sxc_seq ?_
    refine sxc_region ?_
    refine sxo_assign rfl rfl rfl ?_
    refine sxo_nil ?_
    refine sxq_next ?_
    refine sxc_ret ?_
    refine sxq_blkR ?_
    refine sxq_thenR ?_
    exact sxq_doneP () (.inl rfl) (res1 rfl rfl) (fun h => by subst h; rfl) (fun h => by subst h; exact .nil)
  · refine sxc_seq ?_
    refine sxc_region ?_
    refine sxo_fieldAddr rfl rfl ff26_1 rfl ?_
    refine sxo_loadB (i := 0) rfl rfl tf24 rfl rfl (fun _ => rfl) rfl rfl ?_
    refine sxo_len rfl Try.underlying24 rfl rfl ?_
    refine sxo_fieldAddr rfl rfl ff26_0 rfl ?_
    refine sxo_loadB (i := 0) rfl rfl tf3 rfl rfl (fun _ => rfl) rfl rfl ?_
    refine sxo_add rfl rfl rfl rfl ?_
    refine sxo_quo rfl rfl rfl rfl rfl ?_
    refine sxo_neq rfl rfl rfl rfl ?_
    refine sxo_assign rfl rfl rfl ?_
    refine sxo_nil ?_
    refine sxq_next ?_
    refine sxc_if rfl (fun h46 => ?_) (fun h46 => ?_)
    · refine sxc_seq ?_
      refine sxc_region ?_
      refine sxo_assign rfl rfl rfl ?_
      refine sxo_nil ?_
      refine sxq_next ?_
      refine sxc_ret ?_
      refine sxq_blkR ?_
      refine sxq_thenR ?_
      exact sxq_doneP () (.inl rfl) (res1 rfl rfl) (fun h => by subst h; rfl) (fun h => by subst h; exact .nil)
    · refine sxc_join (fun ((x36, _) : (Bool × Unit)) => [(21, .bool x36)]) (fun ((x36, _) : (Bool × Unit)) => []) (fun ((x36, _) : (Bool × Unit)) => []) (fun ((x36, _) : (Bool × Unit)) => []) (fun ((x36, _) : (Bool × Unit)) => M_bits_Check_j2 F x36) ?_ ?_
      · refine sxc_split (fun h38 => ?_) (fun h38 => ?_)
        · refine sxc_idxF (j := 0) (eI_ok .u8) (by decide) rfl (fun x39 e39 b40 o41 h42 => ?_)
          replace h42 : a3 = some ⟨b40, o41, none⟩ := h42
          refine sxc_chk (fun h43 => ?_)
          refine sxb_draw mixed [] [⟨g5, 26, [.int .i64 x1, .slice a3 x2.length c4]⟩] [CellsAt b40 (o41 + (isub .i64 (x2.length : Int) 1).toNat * 1) ((eI .u8) x39), Sl (eI .u8) 1 (.slice a3 x2.length c4) x2] (.cons 0 rfl .nil) (gk_F 0 rfl (gk_F 1 rfl gk_nil)) 20 rfl ?_
          refine sxb_takeP 0 (.pointer (some ⟨g5, 0, none⟩)) rfl rfl rfl rfl (by kernel_rfl) (by kernel_rfl) (by kernel_rfl) (by kernel_rfl) (by kernel_rfl) rfl (show _ = #[true, false, false, false, false, false, false, false, false, false, false, false, false, false, false, false, false, false, false, false] from rfl) (yv_fieldAddr rfl ff26_0) ?_
          refine sxb_take 1 (.int .i64 x1) [] rfl rfl rfl rfl (by kernel_rfl) (by kernel_rfl) (by kernel_rfl) (by kernel_rfl) (by kernel_rfl) (by kernel_rfl) rfl (show _ = #[true, true, false, false, false, false, false, false, false, false, false, false, false, false, false, false, false, false, false, false] from rfl) (yv_loadB (i := 0) rfl tf3 rfl rfl (fun _ => rfl) rfl) ?_
          refine sxb_takeP 2 (.int .i64 (irem x1 8)) rfl rfl rfl rfl (by kernel_rfl) (by kernel_rfl) (by kernel_rfl) (by kernel_rfl) (by kernel_rfl) rfl (show _ = #[true, true, true, false, false, false, false, false, false, false, false, false, false, false, false, false, false, false, false, false] from rfl) (yv_rem rfl rfl rfl) ?_
          refine sxb_takeP 3 (.bool (((irem x1 8) : Int) != 0)) rfl rfl rfl rfl (by kernel_rfl) (by kernel_rfl) (by kernel_rfl) (by kernel_rfl) (by kernel_rfl) rfl (show _ = #[true, true, true, true, false, false, false, false, false, false, false, false, false, false, false, false, false, false, false, false] from rfl) (yv_pv rfl) ?_
          refine sxb_takeP 4 (.bool (((irem x1 8) : Int) != 0)) rfl rfl rfl rfl (by kernel_rfl) (by kernel_rfl) (by kernel_rfl) (by kernel_rfl) (by kernel_rfl) rfl (show _ = #[true, true, true, true, true, false, false, false, false, false, false, false, false, false, false, false, false, false, false, false] from rfl) (yv_pv rfl) ?_
          refine sxb_again (d := 26) (v := .bool true) rfl (by rw [h38]) ?_
          refine sxb_takeP 5 (.pointer (some ⟨g5, 1, none⟩)) rfl rfl rfl rfl (by kernel_rfl) (by kernel_rfl) (by kernel_rfl) (by kernel_rfl) (by kernel_rfl) rfl (show _ = #[true, true, true, true, true, true, false, false, false, false, false, false, false, false, false, false, false, false, false, false] from rfl) (yv_fieldAddr rfl ff26_1) ?_
          refine sxb_take 6 (.slice a3 x2.length c4) [] rfl rfl rfl rfl (by kernel_rfl) (by kernel_rfl) (by kernel_rfl) (by kernel_rfl) (by kernel_rfl) (by kernel_rfl) rfl (show _ = #[true, true, true, true, true, true, true, false, false, false, false, false, false, false, false, false, false, false, false, false] from rfl) (yv_loadB (i := 0) rfl tf24 rfl rfl (fun _ => rfl) rfl) ?_
          refine sxb_takeP 7 (.pointer (some ⟨g5, 1, none⟩)) rfl rfl rfl rfl (by kernel_rfl) (by kernel_rfl) (by kernel_rfl) (by kernel_rfl) (by kernel_rfl) rfl (show _ = #[true, true, true, true, true, true, true, true, false, false, false, false, false, false, false, false, false, false, false, false] from rfl) (yv_fieldAddr rfl ff26_1) ?_
          refine sxb_take 8 (.slice a3 x2.length c4) [] rfl rfl rfl rfl (by kernel_rfl) (by kernel_rfl) (by kernel_rfl) (by kernel_rfl) (by kernel_rfl) (by kernel_rfl) rfl (show _ = #[true, true, true, true, true, true, true, true, true, false, false, false, false, false, false, false, false, false, false, false] from rfl) (yv_loadB (i := 0) rfl tf24 rfl rfl (fun _ => rfl) rfl) ?_
          refine sxb_takeP 9 (.int .i64 (x2.length : Int)) rfl rfl rfl rfl (by kernel_rfl) (by kernel_rfl) (by kernel_rfl) (by kernel_rfl) (by kernel_rfl) rfl (show _ = #[true, true, true, true, true, true, true, true, true, true, false, false, false, false, false, false, false, false, false, false] from rfl) (yv_len Try.underlying24 rfl) ?_
          refine sxb_takeP 10 (.int .i64 (isub .i64 (x2.length : Int) 1)) rfl rfl rfl rfl (by kernel_rfl) (by kernel_rfl) (by kernel_rfl) (by kernel_rfl) (by kernel_rfl) rfl (show _ = #[true, true, true, true, true, true, true, true, true, true, true, false, false, false, false, false, false, false, false, false] from rfl) (yv_pv rfl) ?_
          refine sxb_again (d := 28) (v := .slice (some ⟨b40, o41, none⟩) x2.length c4) rfl (by rw [h42]) ?_
          refine sxb_takeP 11 (.pointer (some ⟨b40, (o41 + (isub .i64 (x2.length : Int) 1).toNat * 1), none⟩)) rfl rfl rfl rfl (by kernel_rfl) (by kernel_rfl) (by kernel_rfl) (by kernel_rfl) (by kernel_rfl) rfl (show _ = #[true, true, true, true, true, true, true, true, true, true, true, true, false, false, false, false, false, false, false, false] from rfl) (yv_idx Try.underlying24 tf5 rfl rfl (idx_get e39).1 (idx_lt e39)) ?_
          refine sxb_again (d := 28) (v := .slice a3 x2.length c4) rfl (by rw [h42]) ?_
          refine sxb_take 12 (.int .u8 x39) [] rfl rfl rfl rfl (by kernel_rfl) (by kernel_rfl) (by kernel_rfl) (by kernel_rfl) (by kernel_rfl) (by kernel_rfl) rfl (show _ = #[true, true, true, true, true, true, true, true, true, true, true, true, true, false, false, false, false, false, false, false] from rfl) (yv_loadF (j := 0) rfl tf5 rfl rfl (fun _ => rfl) rfl) ?_
          refine sxb_takeP 13 (.pointer (some ⟨g5, 0, none⟩)) rfl rfl rfl rfl (by kernel_rfl) (by kernel_rfl) (by kernel_rfl) (by kernel_rfl) (by kernel_rfl) rfl (show _ = #[true, true, true, true, true, true, true, true, true, true, true, true, true, true, false, false, false, false, false, false] from rfl) (yv_fieldAddr rfl ff26_0) ?_
          refine sxb_take 14 (.int .i64 x1) [] rfl rfl rfl rfl (by kernel_rfl) (by kernel_rfl) (by kernel_rfl) (by kernel_rfl) (by kernel_rfl) (by kernel_rfl) rfl (show _ = #[true, true, true, true, true, true, true, true, true, true, true, true, true, true, true, false, false, false, false, false] from rfl) (yv_loadB (i := 0) rfl tf3 rfl rfl (fun _ => rfl) rfl) ?_
          refine sxb_takeP 15 (.int .i64 (irem x1 8)) rfl rfl rfl rfl (by kernel_rfl) (by kernel_rfl) (by kernel_rfl) (by kernel_rfl) (by kernel_rfl) rfl (show _ = #[true, true, true, true, true, true, true, true, true, true, true, true, true, true, true, true, false, false, false, false] from rfl) (yv_rem rfl rfl rfl) ?_
          refine sxb_takeP 16 (.int .u8 (ishl .u8 x39 (irem x1 8))) rfl rfl rfl rfl (by kernel_rfl) (by kernel_rfl) (by kernel_rfl) (by kernel_rfl) (by kernel_rfl) rfl (show _ = #[true, true, true, true, true, true, true, true, true, true, true, true, true, true, true, true, true, false, false, false] from rfl) (yv_shl rfl rfl h43) ?_
          refine sxb_takeP 17 (.bool (((ishl .u8 x39 (irem x1 8)) : Int) != 0)) rfl rfl rfl rfl (by kernel_rfl) (by kernel_rfl) (by kernel_rfl) (by kernel_rfl) (by kernel_rfl) rfl (show _ = #[true, true, true, true, true, true, true, true, true, true, true, true, true, true, true, true, true, true, false, false] from rfl) (yv_pv rfl) ?_
          refine sxb_takeP 18 (.bool (((ishl .u8 x39 (irem x1 8)) : Int) != 0)) rfl rfl rfl rfl (by kernel_rfl) (by kernel_rfl) (by kernel_rfl) (by kernel_rfl) (by kernel_rfl) rfl (show _ = #[true, true, true, true, true, true, true, true, true, true, true, true, true, true, true, true, true, true, true, false] from rfl) (yv_pv rfl) ?_
          refine sxb_takeP 19 (.bool (((ishl .u8 x39 (irem x1 8)) : Int) != 0)) rfl rfl rfl rfl (by kernel_rfl) (by kernel_rfl) (by kernel_rfl) (by kernel_rfl) (by kernel_rfl) rfl (show _ = #[true, true, true, true, true, true, true, true, true, true, true, true, true, true, true, true, true, true, true, true] from rfl) (yv_pv rfl) ?_
          refine sxb_done (by kernel_rfl) ?_
          refine sxq_np ?_ (by intro c h; cases h)
          exact sxq_meetP ((((ishl .u8 x39 (irem x1 8)) : Int) != 0), ()) (lk_cons rfl lk_nil) .nil .nil fk_nil
        · refine sxb_draw mixed [] [⟨g5, 26, [.int .i64 x1, .slice a3 x2.length c4]⟩] [Sl (eI .u8) 1 (.slice a3 x2.length c4) x2] (.cons 0 rfl .nil) (gk_F 0 rfl gk_nil) 20 rfl ?_
          refine sxb_takeP 0 (.pointer (some ⟨g5, 0, none⟩)) rfl rfl rfl rfl (by kernel_rfl) (by kernel_rfl) (by kernel_rfl) (by kernel_rfl) (by kernel_rfl) rfl (show _ = #[true, false, false, false, false, false, false, false, false, false, false, false, false, false, false, false, false, false, false, false] from rfl) (yv_fieldAddr rfl ff26_0) ?_
          refine sxb_take 1 (.int .i64 x1) [] rfl rfl rfl rfl (by kernel_rfl) (by kernel_rfl) (by kernel_rfl) (by kernel_rfl) (by kernel_rfl) (by kernel_rfl) rfl (show _ = #[true, true, false, false, false, false, false, false, false, false, false, false, false, false, false, false, false, false, false, false] from rfl) (yv_loadB (i := 0) rfl tf3 rfl rfl (fun _ => rfl) rfl) ?_
          refine sxb_takeP 2 (.int .i64 (irem x1 8)) rfl rfl rfl rfl (by kernel_rfl) (by kernel_rfl) (by kernel_rfl) (by kernel_rfl) (by kernel_rfl) rfl (show _ = #[true, true, true, false, false, false, false, false, false, false, false, false, false, false, false, false, false, false, false, false] from rfl) (yv_rem rfl rfl rfl) ?_
          refine sxb_takeP 3 (.bool (((irem x1 8) : Int) != 0)) rfl rfl rfl rfl (by kernel_rfl) (by kernel_rfl) (by kernel_rfl) (by kernel_rfl) (by kernel_rfl) rfl (show _ = #[true, true, true, true, false, false, false, false, false, false, false, false, false, false, false, false, false, false, false, false] from rfl) (yv_pv rfl) ?_
          refine sxb_takeP 4 (.bool (((irem x1 8) : Int) != 0)) rfl rfl rfl rfl (by kernel_rfl) (by kernel_rfl) (by kernel_rfl) (by kernel_rfl) (by kernel_rfl) rfl (show _ = #[true, true, true, true, true, false, false, false, false, false, false, false, false, false, false, false, false, false, false, false] from rfl) (yv_pv rfl) ?_
          refine sxb_again (d := 26) (v := .bool false) rfl (by rw [h38]) ?_
          refine sxb_skip 5 rfl rfl rfl rfl (by kernel_rfl) (by kernel_rfl) (by kernel_rfl) (by kernel_rfl) (by kernel_rfl) rfl (show _ = #[true, true, true, true, true, true, false, false, false, false, false, false, false, false, false, false, false, false, false, false] from rfl) ?_
          refine sxb_skip 6 rfl rfl rfl rfl (by kernel_rfl) (by kernel_rfl) (by kernel_rfl) (by kernel_rfl) (by kernel_rfl) rfl (show _ = #[true, true, true, true, true, true, true, false, false, false, false, false, false, false, false, false, false, false, false, false] from rfl) ?_
          refine sxb_skip 7 rfl rfl rfl rfl (by kernel_rfl) (by kernel_rfl) (by kernel_rfl) (by kernel_rfl) (by kernel_rfl) rfl (show _ = #[true, true, true, true, true, true, true, true, false, false, false, false, false, false, false, false, false, false, false, false] from rfl) ?_
          refine sxb_skip 8 rfl rfl rfl rfl (by kernel_rfl) (by kernel_rfl) (by kernel_rfl) (by kernel_rfl) (by kernel_rfl) rfl (show _ = #[true, true, true, true, true, true, true, true, true, false, false, false, false, false, false, false, false, false, false, false] from rfl) ?_
          refine sxb_skip 9 rfl rfl rfl rfl (by kernel_rfl) (by kernel_rfl) (by kernel_rfl) (by kernel_rfl) (by kernel_rfl) rfl (show _ = #[true, true, true, true, true, true, true, true, true, true, false, false, false, false, false, false, false, false, false, false] from rfl) ?_
          refine sxb_skip 10 rfl rfl rfl rfl (by kernel_rfl) (by kernel_rfl) (by kernel_rfl) (by kernel_rfl) (by kernel_rfl) rfl (show _ = #[true, true, true, true, true, true, true, true, true, true, true, false, false, false, false, false, false, false, false, false] from rfl) ?_
          refine sxb_skip 11 rfl rfl rfl rfl (by kernel_rfl) (by kernel_rfl) (by kernel_rfl) (by kernel_rfl) (by kernel_rfl) rfl (show _ = #[true, true, true, true, true, true, true, true, true, true, true, true, false, false, false, false, false, false, false, false] from rfl) ?_
          refine sxb_skip 12 rfl rfl rfl rfl (by kernel_rfl) (by kernel_rfl) (by kernel_rfl) (by kernel_rfl) (by kernel_rfl) rfl (show _ = #[true, true, true, true, true, true, true, true, true, true, true, true, true, false, false, false, false, false, false, false] from rfl) ?_
          refine sxb_skip 13 rfl rfl rfl rfl (by kernel_rfl) (by kernel_rfl) (by kernel_rfl) (by kernel_rfl) (by kernel_rfl) rfl (show _ = #[true, true, true, true, true, true, true, true, true, true, true, true, true, true, false, false, false, false, false, false] from rfl) ?_
          refine sxb_skip 14 rfl rfl rfl rfl (by kernel_rfl) (by kernel_rfl) (by kernel_rfl) (by kernel_rfl) (by kernel_rfl) rfl (show _ = #[true, true, true, true, true, true, true, true, true, true, true, true, true, true, true, false, false, false, false, false] from rfl) ?_
          refine sxb_skip 15 rfl rfl rfl rfl (by kernel_rfl) (by kernel_rfl) (by kernel_rfl) (by kernel_rfl) (by kernel_rfl) rfl (show _ = #[true, true, true, true, true, true, true, true, true, true, true, true, true, true, true, true, false, false, false, false] from rfl) ?_
          refine sxb_skip 16 rfl rfl rfl rfl (by kernel_rfl) (by kernel_rfl) (by kernel_rfl) (by kernel_rfl) (by kernel_rfl) rfl (show _ = #[true, true, true, true, true, true, true, true, true, true, true, true, true, true, true, true, true, false, false, false] from rfl) ?_
          refine sxb_skip 17 rfl rfl rfl rfl (by kernel_rfl) (by kernel_rfl) (by kernel_rfl) (by kernel_rfl) (by kernel_rfl) rfl (show _ = #[true, true, true, true, true, true, true, true, true, true, true, true, true, true, true, true, true, true, false, false] from rfl) ?_
          refine sxb_takeP 18 (.bool false) rfl rfl rfl rfl (by kernel_rfl) (by kernel_rfl) (by kernel_rfl) (by kernel_rfl) (by kernel_rfl) rfl (show _ = #[true, true, true, true, true, true, true, true, true, true, true, true, true, true, true, true, true, true, true, false] from rfl) (yv_pv rfl) ?_
          refine sxb_takeP 19 (.bool false) rfl rfl rfl rfl (by kernel_rfl) (by kernel_rfl) (by kernel_rfl) (by kernel_rfl) (by kernel_rfl) rfl (show _ = #[true, true, true, true, true, true, true, true, true, true, true, true, true, true, true, true, true, true, true, true] from rfl) (yv_pv rfl) ?_
          refine sxb_done (by kernel_rfl) ?_
          refine sxq_np ?_ (by intro c h; cases h)
          exact sxq_meetP (false, ()) (lk_cons rfl lk_nil) .nil .nil fk_nil
      · rintro ⟨x36, _⟩
        try dsimp only
        refine sxc_if rfl (fun h37 => ?_) (fun h37 => ?_)
        · refine sxc_seq ?_
          refine sxc_region ?_
          refine sxo_assign rfl rfl rfl ?_
          refine sxo_nil ?_
          refine sxq_next ?_
          refine sxc_ret ?_
          refine sxq_blkR ?_
          refine sxq_thenR ?_
          exact sxq_doneP () (.inl rfl) (res1 rfl rfl) (fun h => by subst h; rfl) (fun h => by subst h; exact .nil)
        · refine sxc_skip ?_
          refine sxq_blkN ?_
          refine sxq_next ?_
          refine sxc_seq ?_
          refine sxc_region ?_
          refine sxo_assign rfl rfl rfl ?_
          refine sxo_nil ?_
          refine sxq_next ?_
          refine sxc_ret ?_
          exact sxq_doneP () (.inl rfl) (res1 rfl rfl) (fun h => by subst h; rfl) (fun h => by subst h; exact .nil)

theorem C_elias_Check (F : Nat) (x1 : Int) (x2 : List Int) (a3 : Option Addr) (c4 : Nat) (x5 : Int) (r : Int) (hm : M_elias_Check F x1 x2 x5 = some r) :
    Pure Try.prog 50 [.agg #[.int .i64 x1, .slice a3 x2.length c4], .int .i64 x5] [Sl (eI .u8) 1 (.slice a3 x2.length c4) x2] Unit (fun _ => .int .i64 r) (fun _ => []) (fun _ => []) := by
  refine pure_of Try.func50 rfl Try.ntmps50 rfl hm (fun w => ?_)
  refine sxc_env (l' := [(0, .agg #[.int .i64 x1, .slice a3 x2.length c4]), (1, .int .i64 x5)]) rfl ?_
  refine sxc_seq ?_
  refine sxc_region ?_
  refine sxo_box rfl rfl rfl (fun g6 => ?_)
  refine sxo_assign rfl rfl rfl ?_
  refine sxo_nil ?_
  refine sxq_next ?_
  refine sxc_seq ?_
  refine sxc_region ?_
  refine sxo_loadB (i := 0) rfl rfl tf26 rfl rfl (by simp) rfl rfl ?_
  refine sxo_call ent63 rfl rfl rfl (fun x7 e7 => C_bits_Check F x1 x2 a3 c4 x7 e7) (.consF 0 rfl .nil) (fun x7 e7 => ?_)
  intro _
  refine sxo_assign rfl rfl rfl ?_
  refine sxo_nil ?_
  refine sxq_next ?_
  refine sxc_join (fun ((x13, _) : (Int × Unit)) => [(5, .int .i64 x13)]) (fun ((x13, _) : (Int × Unit)) => []) (fun ((x13, _) : (Int × Unit)) => []) (fun ((x13, _) : (Int × Unit)) => []) (fun ((x13, _) : (Int × Unit)) => M_elias_Check_j2 F x13) ?_ ?_
  · refine sxc_seq ?_
    refine sxc_region ?_
    refine sxo_move rfl rfl rfl ?_
    refine sxo_eql rfl rfl rfl rfl ?_
    refine sxo_move rfl rfl rfl ?_
    refine sxo_join 9 (fun ((x16, _) : (Bool × Unit)) => [(5, .int .i64 x7), (19, .bool x16)]) (fun ((x16, _) : (Bool × Unit)) => []) (fun ((x16, _) : (Bool × Unit)) => []) (fun ((x16, _) : (Bool × Unit)) => []) (fun ((x16, _) : (Bool × Unit)) => M_elias_Check_j3 F x7 x16) ?_ ?_
    · refine sxo_take (os := _) rfl ?_
      refine sxo_if (fun h14 => ?_) (fun h14 => ?_)
      · refine sxo_isT (k := 10) rfl h14 ?_
        refine sxo_move rfl rfl rfl ?_
        refine sxo_lss rfl rfl rfl rfl ?_
        refine sxo_move rfl rfl rfl ?_
        refine sxo_case 5 (decide (x5 < 0)) [(5, .int .i64 x7), (10, .bool true), (18, .bool ((decide (x5 < 0)) || (decide (x1 < x5))))] (fun h18 => ?_) (fun h18 => ?_) ?_
        · refine sxo_take (os := _) rfl ?_
          refine sxo_isT (k := 13) rfl h18 ?_
          refine sxo_skip rfl rfl rfl ?_
          refine sxo_skip rfl rfl rfl ?_
          refine sxo_skip rfl rfl rfl ?_
          refine sxo_skip rfl rfl rfl ?_
          refine sxo_pick (b := true) rfl rfl rfl rfl ?_
          refine sxo_again (d := 18) (v := .bool ((decide (x5 < 0)) || (decide (x1 < x5)))) rfl (by rw [h18]; simp only [Bool.true_or]) ?_
          refine sxo_nil ?_
          exact sxq_case (lk_cons rfl (lk_cons rfl (lk_cons rfl lk_nil)))
        · refine sxo_take (os := _) rfl ?_
          refine sxo_isF (k := 13) rfl h18 ?_
          refine sxo_move rfl rfl rfl ?_
          refine sxo_fieldAddr rfl rfl ff26_0 rfl ?_
          refine sxo_loadB (i := 0) rfl rfl tf3 rfl rfl (fun _ => rfl) rfl rfl ?_
          refine sxo_gtr rfl rfl rfl rfl ?_
          refine sxo_pick (b := false) rfl rfl rfl rfl ?_
          refine sxo_again (d := 18) (v := .bool ((decide (x5 < 0)) || (decide (x1 < x5)))) rfl (by rw [h18]; simp only [Bool.false_or]) ?_
          refine sxo_nil ?_
          exact sxq_case (lk_cons rfl (lk_cons rfl (lk_cons rfl lk_nil)))
        refine sxo_take (os := _) rfl ?_
        refine sxo_pick (b := true) rfl rfl rfl rfl ?_
        refine sxo_nil ?_
        exact sxq_meetP (((decide (x5 < 0)) || (decide (x1 < x5))), ()) (lk_cons rfl (lk_cons rfl lk_nil)) .nil .nil fk_nil
      · refine sxo_isF (k := 10) rfl h14 ?_
        refine sxo_skip rfl rfl rfl ?_
        refine sxo_skip rfl rfl rfl ?_
        refine sxo_skip rfl rfl rfl ?_
        refine sxo_skip rfl rfl rfl ?_
        refine sxo_skip rfl rfl rfl ?_
        refine sxo_skip rfl rfl rfl ?_
        refine sxo_skip rfl rfl rfl ?_
        refine sxo_skip rfl rfl rfl ?_
        refine sxo_pick (b := false) rfl rfl rfl rfl ?_
        refine sxo_nil ?_
        exact sxq_meetP (false, ()) (lk_cons rfl (lk_cons rfl lk_nil)) .nil .nil fk_nil
    · rintro ⟨x16, _⟩
      try dsimp only
      refine sxo_take (os := _) rfl ?_
      refine sxo_nil ?_
      refine sxq_next ?_
      refine sxc_if rfl (fun h17 => ?_) (fun h17 => ?_)
      · refine sxc_region ?_
        refine sxo_assign rfl rfl rfl ?_
        refine sxo_nil ?_
        exact sxq_meetP (3, ()) (lk_cons rfl lk_nil) .nil .nil fk_nil
      · refine sxc_skip ?_
        exact sxq_meetP (x7, ()) (lk_cons rfl lk_nil) .nil .nil fk_nil
  · rintro ⟨x13, _⟩
    try dsimp only
    refine sxc_seq ?_
    refine sxc_region ?_
    refine sxo_move rfl rfl rfl ?_
    refine sxo_assign rfl rfl rfl ?_
    refine sxo_nil ?_
    refine sxq_next ?_
    refine sxc_ret ?_
    exact sxq_doneP () (.inl rfl) (res1 rfl rfl) (fun h => by subst h; rfl) (fun h => by subst h; exact .nil)

theorem C_bits_At (F : Nat) (x1 : Int) (x2 : List Int) (a3 : Option Addr) (c4 : Nat) (x5 : Int) (r : Int) (hm : M_bits_At F x1 x2 x5 = some r) :
    Pure Try.prog 76 [.agg #[.int .i64 x1, .slice a3 x2.length c4], .int .i64 x5] [Sl (eI .u8) 1 (.slice a3 x2.length c4) x2] Unit (fun _ => .int .u64 r) (fun _ => []) (fun _ => []) := by
  refine pure_of Try.func76 rfl Try.ntmps76 rfl hm (fun w => ?_)
  refine sxc_env (l' := [(0, .agg #[.int .i64 x1, .slice a3 x2.length c4]), (1, .int .i64 x5)]) rfl ?_
  refine sxc_seq ?_
  refine sxc_region ?_
  refine sxo_box rfl rfl rfl (fun g6 => ?_)
  refine sxo_assign rfl rfl rfl ?_
  refine sxo_nil ?_
  refine sxq_next ?_
  refine sxc_seq ?_
  refine sxc_region ?_
  refine sxo_fieldAddr rfl rfl ff26_1 rfl ?_
  refine sxo_loadB (i := 0) rfl rfl tf24 rfl rfl (fun _ => rfl) rfl rfl ?_
  refine sxo_move rfl rfl rfl ?_
  refine sxo_quo rfl rfl rfl rfl rfl ?_
  refine sxo_indexF (j := 0) (eI_ok .u8) (by decide) rfl Try.underlying24 tf5 rfl rfl rfl rfl (fun x7 e7 b8 o9 => ?_)
  refine sxo_loadF (j := 0) rfl rfl tf5 rfl rfl (fun _ => rfl) rfl rfl ?_
  refine sxo_move rfl rfl rfl ?_
  refine sxo_rem rfl rfl rfl rfl rfl ?_
  refine sxo_sub rfl rfl rfl rfl ?_
  refine sxo_chk (fun h10 => ?_)
  refine sxo_shr rfl rfl rfl rfl h10 ?_
  refine sxo_conv rfl Try.underlying5 Try.underlying22 rfl rfl ?_
  refine sxo_and rfl rfl rfl rfl ?_
  refine sxo_assign rfl rfl rfl ?_
  refine sxo_lett (fun x11 e11 => ?_)
  refine sxo_again (d := 4) (v := .int .u64 x11) rfl (by rw [e11]) ?_
  refine sxo_nil ?_
  refine sxq_next ?_
  refine sxc_ret ?_
  exact sxq_doneP () (.inl rfl) (res1 rfl rfl) (fun h => by subst h; rfl) (fun h => by subst h; exact .nil)

set_option maxHeartbeats 4000000 in
theorem C_fib_From (F : Nat) (x1 : Int) (x2 : List Int) (a3 : Option Addr) (c4 : Nat) (x5 : Int) (r : (Int × Int × Int)) (hm : M_fib_From F x1 x2 x5 = some r) :
    Pure Try.prog 51 [.agg #[.int .i64 x1, .slice a3 x2.length c4], .int .i64 x5] [Sl (eI .u8) 1 (.slice a3 x2.length c4) x2] Unit (fun _ => .tuple #[.int .u64 r.1, .int .i64 r.2.1, .int .i64 r.2.2]) (fun _ => []) (fun _ => []) := by
  refine pure_of Try.func51 rfl Try.ntmps51 rfl hm (fun w => ?_)
  refine sxc_env (l' := [(0, .agg #[.int .i64 x1, .slice a3 x2.length c4]), (1, .int .i64 x5)]) rfl ?_
  refine sxc_seq ?_
  refine sxc_region ?_
  refine sxo_box rfl rfl rfl (fun g6 => ?_)
  refine sxo_assign rfl rfl rfl ?_
  refine sxo_assign rfl rfl rfl ?_
  refine sxo_assign rfl rfl rfl ?_
  refine sxo_nil ?_
  refine sxq_next ?_
  refine sxc_seq ?_
  refine sxc_region ?_
  refine sxo_call ent47 rfl rfl rfl (fun x7 e7 => C_fib_numbers F  x7 e7) .nil (fun x7 e7 => ?_)
  intro _
  refine sxo_alloc rfl tf73 rfl (fun g8 => ?_)
  refine sxo_blkAgain (i := 0) (cs' := (List.replicate 64 (0 : Int)).flatMap (eI .u64)) rfl rfl ?_
  refine sxo_b2r (i := 0) (xs := (List.replicate 64 (0 : Int))) (k := 64) (eI_ok .u64) rfl List.length_replicate rfl ?_
  refine sxo_chk (fun h9 => ?_)
  replace h9 := of_decide_eq_true h9
  refine sxo_r2b (j := 0) rfl (List.length_replicate) ?_
  refine sxo_storeB (i := 0) rfl rfl rfl tf73 rfl (arr_sz h9) (arr_le (List.length_replicate) h9) arr_ok (arr_st (arr_len (List.length_replicate)) h9) ?_
  refine sxo_b2r (i := 0) (xs := x7) (k := 64) (eI_ok .u64) rfl h9 rfl ?_
  refine sxo_nil ?_
  refine sxq_next ?_
  refine sxc_seq ?_
  refine sxc_region ?_
  refine sxo_assign rfl rfl rfl ?_
  refine sxo_assign rfl rfl rfl ?_
  refine sxo_nil ?_
  refine sxq_next ?_
  refine sxc_seq ?_
  refine sxc_region ?_
  refine sxo_assign rfl rfl rfl ?_
  refine sxo_nil ?_
  refine sxq_next ?_
  refine sxc_join (fun ((_, _) : (Unit × Unit)) => []) (fun ((_, _) : (Unit × Unit)) => []) (fun ((_, _) : (Unit × Unit)) => []) (fun ((_, _) : (Unit × Unit)) => []) (fun ((_, _) : (Unit × Unit)) => M_fib_From_j16 F) ?_ ?_
  · refine sxc_seq ?_
    refine sxc_region ?_
    refine sxo_move rfl rfl rfl ?_
    refine sxo_assign rfl rfl rfl ?_
    refine sxo_nil ?_
    refine sxq_next ?_
    refine sxc_block ?_
    refine sxc_loopP (fun (((x223, x224, x225, x226), _) : ((Int × Int × Bool × Int) × Unit)) => [(1, .int .i64 x5), (2, .pointer (some ⟨g6, 0, none⟩)), (7, .pointer (some ⟨g8, 0, none⟩)), (8, .int .u64 x223), (9, .int .u64 x224), (10, .bool x225), (11, .int .i64 x226)]) (fun (((x223, x224, x225, x226), _) : ((Int × Int × Bool × Int) × Unit)) => [⟨g6, 26, [.int .i64 x1, .slice a3 x2.length c4]⟩]) (fun (((x223, x224, x225, x226), _) : ((Int × Int × Bool × Int) × Unit)) => [Ro (eI .u64) 73 1 (.slice (some ⟨g8, 0, none⟩) x7.length 64) x7]) (fun (((x223, x224, x225, x226), _) : ((Int × Int × Bool × Int) × Unit)) => [Sl (eI .u8) 1 (.slice a3 x2.length c4) x2]) (fun k (s : ((Int × Int × Bool × Int) × Unit)) => M_fib_From_l25 F x1 x2 x5 x7 k s.1) ((0, 0, false, x5), ()) F (lk_cons rfl (lk_cons rfl (lk_cons rfl (lk_cons rfl (lk_cons rfl (lk_cons rfl (lk_cons rfl lk_nil))))))) (.cons 0 rfl .nil) (.cons 0 rfl .nil) (fk_cons 0 rfl fk_nil) (fun _ => rfl) ?_
    intro k287
    rintro ⟨⟨x223, x224, x225, x226⟩, _⟩
    try dsimp only
    refine sxc_meq (m' := M_fib_From_b25 F x1 x2 x5 x7 (M_fib_From_l25 F x1 x2 x5 x7 k287) x223 x224 x225 x226) rfl ?_
    refine sxc_seq ?_
    refine sxc_seq ?_
    refine sxc_region ?_
    refine sxo_move rfl rfl rfl ?_
    refine sxo_fieldAddr rfl rfl ff26_0 rfl ?_
    refine sxo_loadB (i := 0) rfl rfl tf3 rfl rfl (fun _ => rfl) rfl rfl ?_
    refine sxo_lss rfl rfl rfl rfl ?_
    refine sxo_nil ?_
    refine sxq_next ?_
    refine sxc_if rfl (fun h347 => ?_) (fun h347 => ?_)
    · refine sxc_skip ?_
      refine sxq_next ?_
      refine sxc_seq ?_
      refine sxc_block ?_
      refine sxc_seq ?_
      refine sxc_region ?_
      refine sxo_loadB (i := 0) rfl rfl tf26 rfl rfl (by simp) rfl rfl ?_
      refine sxo_move rfl rfl rfl ?_
      refine sxo_call ent76 rfl rfl rfl (fun x318 e318 => C_bits_At F x1 x2 a3 c4 x226 x318 e318) (.consF 0 rfl .nil) (fun x318 e318 => ?_)
      intro _
      refine sxo_assign rfl rfl rfl ?_
      refine sxo_nil ?_
      refine sxq_next ?_
      refine sxc_join (fun (((x332, x333), _) : ((Int × Bool) × Unit)) => [(1, .int .i64 x5), (2, .pointer (some ⟨g6, 0, none⟩)), (7, .pointer (some ⟨g8, 0, none⟩)), (8, .int .u64 x332), (10, .bool x333), (11, .int .i64 x226), (12, .int .u64 x318)]) (fun (((x332, x333), _) : ((Int × Bool) × Unit)) => [⟨g6, 26, [.int .i64 x1, .slice a3 x2.length c4]⟩]) (fun (((x332, x333), _) : ((Int × Bool) × Unit)) => [Ro (eI .u64) 73 1 (.slice (some ⟨g8, 0, none⟩) x7.length 64) x7]) (fun (((x332, x333), _) : ((Int × Bool) × Unit)) => [Sl (eI .u8) 1 (.slice a3 x2.length c4) x2]) (fun (((x332, x333), _) : ((Int × Bool) × Unit)) => M_fib_From_j30 F (M_fib_From_l25 F x1 x2 x5 x7 k287) x226 x318 x332 x333) ?_ ?_
      · refine sxc_block ?_
        refine sxc_seq ?_
        refine sxc_region ?_
        refine sxo_move rfl rfl rfl ?_
        refine sxo_eql rfl rfl rfl rfl ?_
        refine sxo_move rfl rfl rfl ?_
        refine sxo_case 3 ((x318 : Int) == 1) [(1, .int .i64 x5), (2, .pointer (some ⟨g6, 0, none⟩)), (7, .pointer (some ⟨g8, 0, none⟩)), (8, .int .u64 x223), (9, .int .u64 x224), (10, .bool x225), (11, .int .i64 x226), (12, .int .u64 x318), (30, .bool (((x318 : Int) == 1) && ((x224 : Int) == 1)))] (fun h334 => ?_) (fun h334 => ?_) ?_
        · refine sxo_take (os := _) rfl ?_
          refine sxo_isT (k := 27) rfl h334 ?_
          refine sxo_move rfl rfl rfl ?_
          refine sxo_eql rfl rfl rfl rfl ?_
          refine sxo_pick (b := true) rfl rfl rfl rfl ?_
          refine sxo_again (d := 30) (v := .bool (((x318 : Int) == 1) && ((x224 : Int) == 1))) rfl (by rw [h334]; simp only [Bool.true_and]) ?_
          refine sxo_nil ?_
          exact sxq_case (lk_cons rfl (lk_cons rfl (lk_cons rfl (lk_cons rfl (lk_cons rfl (lk_cons rfl (lk_cons rfl (lk_cons rfl (lk_cons rfl lk_nil)))))))))
        · refine sxo_take (os := _) rfl ?_
          refine sxo_isF (k := 27) rfl h334 ?_
          refine sxo_skip rfl rfl rfl ?_
          refine sxo_skip rfl rfl rfl ?_
          refine sxo_pick (b := false) rfl rfl rfl rfl ?_
          refine sxo_again (d := 30) (v := .bool (((x318 : Int) == 1) && ((x224 : Int) == 1))) rfl (by rw [h334]; simp only [Bool.false_and]) ?_
          refine sxo_nil ?_
          exact sxq_case (lk_cons rfl (lk_cons rfl (lk_cons rfl (lk_cons rfl (lk_cons rfl (lk_cons rfl (lk_cons rfl (lk_cons rfl (lk_cons rfl lk_nil)))))))))
        refine sxo_take (os := _) rfl ?_
        refine sxo_move rfl rfl rfl ?_
        refine sxo_join 7 (fun ((x337, _) : (Bool × Unit)) => [(1, .int .i64 x5), (2, .pointer (some ⟨g6, 0, none⟩)), (7, .pointer (some ⟨g8, 0, none⟩)), (8, .int .u64 x223), (9, .int .u64 x224), (10, .bool x225), (11, .int .i64 x226), (12, .int .u64 x318), (38, .bool x337)]) (fun ((x337, _) : (Bool × Unit)) => [⟨g6, 26, [.int .i64 x1, .slice a3 x2.length c4]⟩]) (fun ((x337, _) : (Bool × Unit)) => [Ro (eI .u64) 73 1 (.slice (some ⟨g8, 0, none⟩) x7.length 64) x7]) (fun ((x337, _) : (Bool × Unit)) => [Sl (eI .u8) 1 (.slice a3 x2.length c4) x2]) (fun ((x337, _) : (Bool × Unit)) => M_fib_From_j31 F (M_fib_From_l25 F x1 x2 x5 x7 k287) x5 x7 x223 x224 x225 x226 x318 x337) ?_ ?_
        · refine sxo_take (os := _) rfl ?_
          refine sxo_if (fun h335 => ?_) (fun h335 => ?_)
          · refine sxo_isT (k := 31) rfl h335 ?_
            refine sxo_move rfl rfl rfl ?_
            refine sxo_move rfl rfl rfl ?_
            refine sxo_case 4 x225 [(1, .int .i64 x5), (2, .pointer (some ⟨g6, 0, none⟩)), (7, .pointer (some ⟨g8, 0, none⟩)), (8, .int .u64 x223), (9, .int .u64 x224), (10, .bool x225), (11, .int .i64 x226), (12, .int .u64 x318), (31, .bool true), (32, .bool x225), (33, .bool x225), (37, .bool (x225 || (decide (1099511627776 < (isub .u64 x223 1)))))] (fun h346 => ?_) (fun h346 => ?_) ?_
            · refine sxo_take (os := _) rfl ?_
              refine sxo_isT (k := 33) rfl h346 ?_
              refine sxo_skip rfl rfl rfl ?_
              refine sxo_skip rfl rfl rfl ?_
              refine sxo_skip rfl rfl rfl ?_
              refine sxo_pick (b := true) rfl rfl rfl rfl ?_
              refine sxo_again (d := 37) (v := .bool (x225 || (decide (1099511627776 < (isub .u64 x223 1))))) rfl (by rw [h346]; simp only [Bool.true_or]) ?_
              refine sxo_again (d := 33) (v := .bool x225) rfl (by rw [h346]) ?_
              refine sxo_nil ?_
              exact sxq_case (lk_cons rfl (lk_cons rfl (lk_cons rfl (lk_cons rfl (lk_cons rfl (lk_cons rfl (lk_cons rfl (lk_cons rfl (lk_cons rfl (lk_cons rfl (lk_cons rfl (lk_cons rfl lk_nil))))))))))))
            · refine sxo_take (os := _) rfl ?_
              refine sxo_isF (k := 33) rfl h346 ?_
              refine sxo_move rfl rfl rfl ?_
              refine sxo_sub rfl rfl rfl rfl ?_
              refine sxo_gtr rfl rfl rfl rfl ?_
              refine sxo_pick (b := false) rfl rfl rfl rfl ?_
              refine sxo_again (d := 37) (v := .bool (x225 || (decide (1099511627776 < (isub .u64 x223 1))))) rfl (by rw [h346]; simp only [Bool.false_or]) ?_
              refine sxo_again (d := 33) (v := .bool x225) rfl (by rw [h346]) ?_
              refine sxo_nil ?_
              exact sxq_case (lk_cons rfl (lk_cons rfl (lk_cons rfl (lk_cons rfl (lk_cons rfl (lk_cons rfl (lk_cons rfl (lk_cons rfl (lk_cons rfl (lk_cons rfl (lk_cons rfl (lk_cons rfl lk_nil))))))))))))
            refine sxo_take (os := _) rfl ?_
            refine sxo_pick (b := true) rfl rfl rfl rfl ?_
            refine sxo_nil ?_
            exact sxq_meetP ((x225 || (decide (1099511627776 < (isub .u64 x223 1)))), ()) (lk_cons rfl (lk_cons rfl (lk_cons rfl (lk_cons rfl (lk_cons rfl (lk_cons rfl (lk_cons rfl (lk_cons rfl (lk_cons rfl lk_nil))))))))) (.cons 0 rfl .nil) (.cons 0 rfl .nil) (fk_cons 0 rfl fk_nil)
          · refine sxo_isF (k := 31) rfl h335 ?_
            refine sxo_skip rfl rfl rfl ?_
            refine sxo_skip rfl rfl rfl ?_
            refine sxo_skip rfl rfl rfl ?_
            refine sxo_skip rfl rfl rfl ?_
            refine sxo_skip rfl rfl rfl ?_
            refine sxo_skip rfl rfl rfl ?_
            refine sxo_pick (b := false) rfl rfl rfl rfl ?_
            refine sxo_nil ?_
            exact sxq_meetP (false, ()) (lk_cons rfl (lk_cons rfl (lk_cons rfl (lk_cons rfl (lk_cons rfl (lk_cons rfl (lk_cons rfl (lk_cons rfl (lk_cons rfl lk_nil))))))))) (.cons 0 rfl .nil) (.cons 0 rfl .nil) (fk_cons 0 rfl fk_nil)
        · rintro ⟨x337, _⟩
          try dsimp only
          refine sxo_take (os := _) rfl ?_
          refine sxo_assign rfl rfl rfl ?_
          refine sxo_nil ?_
          refine sxq_next ?_
          refine sxc_if rfl (fun h345 => ?_) (fun h345 => ?_)
          · refine sxc_seq ?_
            refine sxc_region ?_
            refine sxo_assign rfl rfl rfl ?_
            refine sxo_assign rfl rfl rfl ?_
            refine sxo_assign rfl rfl rfl ?_
            refine sxo_nil ?_
            refine sxq_next ?_
            refine sxc_ret ?_
            refine sxq_blkR ?_
            refine sxq_thenR ?_
            refine sxq_blkR ?_
            refine sxq_thenR ?_
            refine sxq_thenR ?_
            refine sxq_blkR ?_
            refine sxq_thenR ?_
            exact sxq_doneP () (.inl rfl) (res3 rfl rfl rfl rfl) (fun h => by subst h; rfl) (fun h => by subst h; exact .nil)
          · refine sxc_seq ?_
            refine sxc_region ?_
            refine sxo_move rfl rfl rfl ?_
            refine sxo_eql rfl rfl rfl rfl ?_
            refine sxo_move rfl rfl rfl ?_
            refine sxo_case 3 ((x318 : Int) == 1) [(1, .int .i64 x5), (2, .pointer (some ⟨g6, 0, none⟩)), (7, .pointer (some ⟨g8, 0, none⟩)), (8, .int .u64 x223), (10, .bool x225), (11, .int .i64 x226), (12, .int .u64 x318), (45, .bool (((x318 : Int) == 1) && ((x224 : Int) == 1)))] (fun h338 => ?_) (fun h338 => ?_) ?_
            · refine sxo_take (os := _) rfl ?_
              refine sxo_isT (k := 42) rfl h338 ?_
              refine sxo_move rfl rfl rfl ?_
              refine sxo_eql rfl rfl rfl rfl ?_
              refine sxo_pick (b := true) rfl rfl rfl rfl ?_
              refine sxo_again (d := 45) (v := .bool (((x318 : Int) == 1) && ((x224 : Int) == 1))) rfl (by rw [h338]; simp only [Bool.true_and]) ?_
              refine sxo_nil ?_
              exact sxq_case (lk_cons rfl (lk_cons rfl (lk_cons rfl (lk_cons rfl (lk_cons rfl (lk_cons rfl (lk_cons rfl (lk_cons rfl lk_nil))))))))
            · refine sxo_take (os := _) rfl ?_
              refine sxo_isF (k := 42) rfl h338 ?_
              refine sxo_skip rfl rfl rfl ?_
              refine sxo_skip rfl rfl rfl ?_
              refine sxo_pick (b := false) rfl rfl rfl rfl ?_
              refine sxo_again (d := 45) (v := .bool (((x318 : Int) == 1) && ((x224 : Int) == 1))) rfl (by rw [h338]; simp only [Bool.false_and]) ?_
              refine sxo_nil ?_
              exact sxq_case (lk_cons rfl (lk_cons rfl (lk_cons rfl (lk_cons rfl (lk_cons rfl (lk_cons rfl (lk_cons rfl (lk_cons rfl lk_nil))))))))
            refine sxo_take (os := _) rfl ?_
            refine sxo_assign rfl rfl rfl ?_
            refine sxo_nil ?_
            refine sxq_next ?_
            refine sxc_if rfl (fun h344 => ?_) (fun h344 => ?_)
            · refine sxc_seq ?_
              refine sxc_region ?_
              refine sxo_move rfl rfl rfl ?_
              refine sxo_sub rfl rfl rfl rfl ?_
              refine sxo_move rfl rfl rfl ?_
              refine sxo_add rfl rfl rfl rfl ?_
              refine sxo_assign rfl rfl rfl ?_
              refine sxo_assign rfl rfl rfl ?_
              refine sxo_assign rfl rfl rfl ?_
              refine sxo_nil ?_
              refine sxq_next ?_
              refine sxc_ret ?_
              refine sxq_blkR ?_
              refine sxq_thenR ?_
              refine sxq_blkR ?_
              refine sxq_thenR ?_
              refine sxq_thenR ?_
              refine sxq_blkR ?_
              refine sxq_thenR ?_
              exact sxq_doneP () (.inl rfl) (res3 rfl rfl rfl rfl) (fun h => by subst h; rfl) (fun h => by subst h; exact .nil)
            · refine sxc_seq ?_
              refine sxc_region ?_
              refine sxo_move rfl rfl rfl ?_
              refine sxo_eql rfl rfl rfl rfl ?_
              refine sxo_move rfl rfl rfl ?_
              refine sxo_case 5 ((x318 : Int) == 1) [(1, .int .i64 x5), (2, .pointer (some ⟨g6, 0, none⟩)), (7, .pointer (some ⟨g8, 0, none⟩)), (8, .int .u64 x223), (10, .bool x225), (11, .int .i64 x226), (12, .int .u64 x318), (58, .bool (((x318 : Int) == 1) && (decide (64 ≤ (isub .i64 x226 x5)))))] (fun h339 => ?_) (fun h339 => ?_) ?_
              · refine sxo_take (os := _) rfl ?_
                refine sxo_isT (k := 53) rfl h339 ?_
                refine sxo_move rfl rfl rfl ?_
                refine sxo_move rfl rfl rfl ?_
                refine sxo_sub rfl rfl rfl rfl ?_
                refine sxo_geq rfl rfl rfl rfl ?_
                refine sxo_pick (b := true) rfl rfl rfl rfl ?_
                refine sxo_again (d := 58) (v := .bool (((x318 : Int) == 1) && (decide (64 ≤ (isub .i64 x226 x5))))) rfl (by rw [h339]; simp only [Bool.true_and]) ?_
                refine sxo_nil ?_
                exact sxq_case (lk_cons rfl (lk_cons rfl (lk_cons rfl (lk_cons rfl (lk_cons rfl (lk_cons rfl (lk_cons rfl (lk_cons rfl lk_nil))))))))
              · refine sxo_take (os := _) rfl ?_
                refine sxo_isF (k := 53) rfl h339 ?_
                refine sxo_skip rfl rfl rfl ?_
                refine sxo_skip rfl rfl rfl ?_
                refine sxo_skip rfl rfl rfl ?_
                refine sxo_skip rfl rfl rfl ?_
                refine sxo_pick (b := false) rfl rfl rfl rfl ?_
                refine sxo_again (d := 58) (v := .bool (((x318 : Int) == 1) && (decide (64 ≤ (isub .i64 x226 x5))))) rfl (by rw [h339]; simp only [Bool.false_and]) ?_
                refine sxo_nil ?_
                exact sxq_case (lk_cons rfl (lk_cons rfl (lk_cons rfl (lk_cons rfl (lk_cons rfl (lk_cons rfl (lk_cons rfl (lk_cons rfl lk_nil))))))))
              refine sxo_take (os := _) rfl ?_
              refine sxo_assign rfl rfl rfl ?_
              refine sxo_nil ?_
              refine sxq_next ?_
              refine sxc_if rfl (fun h343 => ?_) (fun h343 => ?_)
              · refine sxc_region ?_
                refine sxo_assign rfl rfl rfl ?_
                refine sxo_nil ?_
                refine sxq_blkN ?_
                exact sxq_meetP ((x223, true), ()) (lk_cons rfl (lk_cons rfl (lk_cons rfl (lk_cons rfl (lk_cons rfl (lk_cons rfl (lk_cons rfl lk_nil))))))) (.cons 0 rfl .nil) (.cons 0 rfl .nil) (fk_cons 0 rfl fk_nil)
              · refine sxc_seq ?_
                refine sxc_region ?_
                refine sxo_move rfl rfl rfl ?_
                refine sxo_eql rfl rfl rfl rfl ?_
                refine sxo_assign rfl rfl rfl ?_
                refine sxo_nil ?_
                refine sxq_next ?_
                refine sxc_if rfl (fun h342 => ?_) (fun h342 => ?_)
                · refine sxc_seq ?_
                  refine sxc_region ?_
                  refine sxo_move rfl rfl rfl ?_
                  refine sxo_move rfl rfl rfl ?_
                  refine sxo_move rfl rfl rfl ?_
                  refine sxo_sub rfl rfl rfl rfl ?_
                  refine sxo_indexAR (j := 0) rfl Try.underlying73 tf22 rfl rfl rfl rfl (fun x340 e340 => ?_)
                  refine sxo_loadR (j := 0) (y := x340) (eI_ok .u64) rfl rfl tf22 rfl rfl (idx_get e340).2.2 (fun _ => rfl) rfl rfl ?_
                  refine sxo_add rfl rfl rfl rfl ?_
                  refine sxo_assign rfl rfl rfl ?_
                  refine sxo_nil ?_
                  refine sxq_next ?_
                  refine sxc_region ?_
                  refine sxo_move rfl rfl rfl ?_
                  refine sxo_move rfl rfl rfl ?_
                  refine sxo_case 3 x225 [(1, .int .i64 x5), (2, .pointer (some ⟨g6, 0, none⟩)), (7, .pointer (some ⟨g8, 0, none⟩)), (8, .int .u64 (iadd .u64 x223 x340)), (11, .int .i64 x226), (12, .int .u64 x318), (73, .bool (x225 || (decide (2199023255552 < (iadd .u64 x223 x340)))))] (fun h341 => ?_) (fun h341 => ?_) ?_
                  · refine sxo_take (os := _) rfl ?_
                    refine sxo_isT (k := 70) rfl h341 ?_
                    refine sxo_skip rfl rfl rfl ?_
                    refine sxo_skip rfl rfl rfl ?_
                    refine sxo_pick (b := true) rfl rfl rfl rfl ?_
                    refine sxo_again (d := 73) (v := .bool (x225 || (decide (2199023255552 < (iadd .u64 x223 x340))))) rfl (by rw [h341]; simp only [Bool.true_or]) ?_
                    refine sxo_nil ?_
                    exact sxq_case (lk_cons rfl (lk_cons rfl (lk_cons rfl (lk_cons rfl (lk_cons rfl (lk_cons rfl (lk_cons rfl lk_nil)))))))
                  · refine sxo_take (os := _) rfl ?_
                    refine sxo_isF (k := 70) rfl h341 ?_
                    refine sxo_move rfl rfl rfl ?_
                    refine sxo_gtr rfl rfl rfl rfl ?_
                    refine sxo_pick (b := false) rfl rfl rfl rfl ?_
                    refine sxo_again (d := 73) (v := .bool (x225 || (decide (2199023255552 < (iadd .u64 x223 x340))))) rfl (by rw [h341]; simp only [Bool.false_or]) ?_
                    refine sxo_nil ?_
                    exact sxq_case (lk_cons rfl (lk_cons rfl (lk_cons rfl (lk_cons rfl (lk_cons rfl (lk_cons rfl (lk_cons rfl lk_nil)))))))
                  refine sxo_take (os := _) rfl ?_
                  refine sxo_assign rfl rfl rfl ?_
                  refine sxo_nil ?_
                  refine sxq_blkN ?_
                  exact sxq_meetP ((iadd .u64 x223 x340, (x225 || (decide (2199023255552 < (iadd .u64 x223 x340))))), ()) (lk_cons rfl (lk_cons rfl (lk_cons rfl (lk_cons rfl (lk_cons rfl (lk_cons rfl (lk_cons rfl lk_nil))))))) (.cons 0 rfl .nil) (.cons 0 rfl .nil) (fk_cons 0 rfl fk_nil)
                · refine sxc_skip ?_
                  refine sxq_blkN ?_
                  exact sxq_meetP ((x223, x225), ()) (lk_cons rfl (lk_cons rfl (lk_cons rfl (lk_cons rfl (lk_cons rfl (lk_cons rfl (lk_cons rfl lk_nil))))))) (.cons 0 rfl .nil) (.cons 0 rfl .nil) (fk_cons 0 rfl fk_nil)
      · rintro ⟨⟨x332, x333⟩, _⟩
        try dsimp only
        refine sxc_region ?_
        refine sxo_move rfl rfl rfl ?_
        refine sxo_assign rfl rfl rfl ?_
        refine sxo_nil ?_
        refine sxq_blkN ?_
        refine sxq_next ?_
        refine sxc_region ?_
        refine sxo_move rfl rfl rfl ?_
        refine sxo_add rfl rfl rfl rfl ?_
        refine sxo_assign rfl rfl rfl ?_
        refine sxo_nil ?_
        exact sxq_againP ((x332, x318, x333, iadd .i64 x226 1), ()) (lk_cons rfl (lk_cons rfl (lk_cons rfl (lk_cons rfl (lk_cons rfl (lk_cons rfl (lk_cons rfl lk_nil))))))) (.cons 0 rfl .nil) (.cons 0 rfl .nil) (fk_cons 0 rfl fk_nil)
    · refine sxc_exit ?_
      refine sxq_thenX ?_
      refine sxq_thenX ?_
      refine sxq_blkX ?_
      exact sxq_meetP ((), ()) lk_nil .nil .nil fk_nil
  · rintro ⟨_, _⟩
    try dsimp only
    refine sxc_seq ?_
    refine sxc_region ?_
    refine sxo_assign rfl rfl rfl ?_
    refine sxo_assign rfl rfl rfl ?_
    refine sxo_assign rfl rfl rfl ?_
    refine sxo_nil ?_
    refine sxq_next ?_
    refine sxc_ret ?_
    exact sxq_doneP () (.inl rfl) (res3 rfl rfl rfl rfl) (fun h => by subst h; rfl) (fun h => by subst h; exact .nil)

theorem C_fib_Read (F : Nat) (x1 : Int) (x2 : List Int) (a3 : Option Addr) (c4 : Nat) (x5 : Int) (r : (Int × Int × Int)) (hm : M_fib_Read F x1 x2 x5 = some r) :
    Pure Try.prog 19 [.agg #[.int .i64 x1, .slice a3 x2.length c4], .int .i64 x5] [Sl (eI .u8) 1 (.slice a3 x2.length c4) x2] Unit (fun _ => .tuple #[.int .u64 r.1, .int .i64 r.2.1, .int .i64 r.2.2]) (fun _ => []) (fun _ => []) := by
  refine pure_of Try.func19 rfl Try.ntmps19 rfl hm (fun w => ?_)
  refine sxc_env (l' := [(0, .agg #[.int .i64 x1, .slice a3 x2.length c4]), (1, .int .i64 x5)]) rfl ?_
  refine sxc_seq ?_
  refine sxc_region ?_
  refine sxo_box rfl rfl rfl (fun g6 => ?_)
  refine sxo_assign rfl rfl rfl ?_
  refine sxo_assign rfl rfl rfl ?_
  refine sxo_assign rfl rfl rfl ?_
  refine sxo_nil ?_
  refine sxq_next ?_
  refine sxc_seq ?_
  refine sxc_seq ?_
  refine sxc_region ?_
  refine sxo_loadB (i := 0) rfl rfl tf26 rfl rfl (by simp) rfl rfl ?_
  refine sxo_move rfl rfl rfl ?_
  refine sxo_call ent50 rfl rfl rfl (fun x9 e9 => C_elias_Check F x1 x2 a3 c4 x5 x9 e9) (.consF 0 rfl .nil) (fun x9 e9 => ?_)
  intro _
  refine sxo_assign rfl rfl rfl ?_
  refine sxo_nil ?_
  refine sxq_next ?_
  refine sxc_seq ?_
  refine sxc_region ?_
  refine sxo_move rfl rfl rfl ?_
  refine sxo_neq rfl rfl rfl rfl ?_
  refine sxo_nil ?_
  refine sxq_next ?_
  refine sxc_if rfl (fun h11 => ?_) (fun h11 => ?_)
  · refine sxc_seq ?_
    refine sxc_region ?_
    refine sxo_move rfl rfl rfl ?_
    refine sxo_assign rfl rfl rfl ?_
    refine sxo_assign rfl rfl rfl ?_
    refine sxo_assign rfl rfl rfl ?_
    refine sxo_nil ?_
    refine sxq_next ?_
    refine sxc_ret ?_
    refine sxq_thenR ?_
    exact sxq_doneP () (.inl rfl) (res3 rfl rfl rfl rfl) (fun h => by subst h; rfl) (fun h => by subst h; exact .nil)
  · refine sxc_skip ?_
    refine sxq_next ?_
    refine sxc_seq ?_
    refine sxc_region ?_
    refine sxo_loadB (i := 0) rfl rfl tf26 rfl rfl (by simp) rfl rfl ?_
    refine sxo_move rfl rfl rfl ?_
    refine sxo_call ent51 rfl rfl rfl (fun x10 e10 => C_fib_From F x1 x2 a3 c4 x5 x10 e10) (.consF 0 rfl .nil) (fun x10 e10 => ?_)
    intro _
    refine sxo_extract rfl rfl rfl rfl ?_
    refine sxo_extract rfl rfl rfl rfl ?_
    refine sxo_extract rfl rfl rfl rfl ?_
    refine sxo_assign rfl rfl rfl ?_
    refine sxo_assign rfl rfl rfl ?_
    refine sxo_assign rfl rfl rfl ?_
    refine sxo_nil ?_
    refine sxq_next ?_
    refine sxc_ret ?_
    exact sxq_doneP () (.inl rfl) (res3 rfl rfl rfl rfl) (fun h => by subst h; rfl) (fun h => by subst h; exact .nil)

theorem C_R_FibNum (F : Nat) (x1 : Int) (r : Int) (hm : M_R_FibNum F x1 = some r) :
    Pure Try.prog 20 [.int .i64 x1] [] Unit (fun _ => .int .u64 r) (fun _ => []) (fun _ => []) := by
  refine pure_of Try.func20 rfl Try.ntmps20 rfl hm (fun w => ?_)
  refine sxc_env (l' := [(0, .int .i64 x1)]) rfl ?_
  refine sxc_seq ?_
  refine sxc_region ?_
  refine sxo_assign rfl rfl rfl ?_
  refine sxo_nil ?_
  refine sxq_next ?_
  refine sxc_seq ?_
  refine sxc_region ?_
  refine sxo_assign rfl rfl rfl ?_
  refine sxo_assign rfl rfl rfl ?_
  refine sxo_nil ?_
  refine sxq_next ?_
  refine sxc_join (fun ((x16, _) : (Int × Unit)) => [(3, .int .u64 x16)]) (fun ((x16, _) : (Int × Unit)) => []) (fun ((x16, _) : (Int × Unit)) => []) (fun ((x16, _) : (Int × Unit)) => []) (fun ((x16, _) : (Int × Unit)) => M_R_FibNum_j2 F x16) ?_ ?_
  · refine sxc_seq ?_
    refine sxc_region ?_
    refine sxo_assign rfl rfl rfl ?_
    refine sxo_nil ?_
    refine sxq_next ?_
    refine sxc_block ?_
    refine sxc_loopP (fun (((x23, x24, x25), _) : ((Int × Int × Int) × Unit)) => [(0, .int .i64 x1), (3, .int .u64 x23), (4, .int .u64 x24), (5, .int .i64 x25)]) (fun (((x23, x24, x25), _) : ((Int × Int × Int) × Unit)) => []) (fun (((x23, x24, x25), _) : ((Int × Int × Int) × Unit)) => []) (fun (((x23, x24, x25), _) : ((Int × Int × Int) × Unit)) => []) (fun k (s : ((Int × Int × Int) × Unit)) => M_R_FibNum_l3 F x1 k s.1) ((1, 1, 0), ()) F (lk_cons rfl (lk_cons rfl (lk_cons rfl (lk_cons rfl lk_nil)))) .nil .nil fk_nil (fun _ => rfl) ?_
    intro k28
    rintro ⟨⟨x23, x24, x25⟩, _⟩
    try dsimp only
    refine sxc_meq (m' := M_R_FibNum_b3 F x1 (M_R_FibNum_l3 F x1 k28) x23 x24 x25) rfl ?_
    refine sxc_seq ?_
    refine sxc_seq ?_
    refine sxc_region ?_
    refine sxo_move rfl rfl rfl ?_
    refine sxo_move rfl rfl rfl ?_
    refine sxo_lss rfl rfl rfl rfl ?_
    refine sxo_nil ?_
    refine sxq_next ?_
    refine sxc_if rfl (fun h30 => ?_) (fun h30 => ?_)
    · refine sxc_skip ?_
      refine sxq_next ?_
      refine sxc_seq ?_
      refine sxc_block ?_
      refine sxc_region ?_
      refine sxo_move rfl rfl rfl ?_
      refine sxo_move rfl rfl rfl ?_
      refine sxo_add rfl rfl rfl rfl ?_
      refine sxo_move rfl rfl rfl ?_
      refine sxo_assign rfl rfl rfl ?_
      refine sxo_assign rfl rfl rfl ?_
      refine sxo_nil ?_
      refine sxq_blkN ?_
      refine sxq_next ?_
      refine sxc_region ?_
      refine sxo_move rfl rfl rfl ?_
      refine sxo_add rfl rfl rfl rfl ?_
      refine sxo_assign rfl rfl rfl ?_
      refine sxo_nil ?_
      exact sxq_againP ((iadd .u64 x23 x24, x23, iadd .i64 x25 1), ()) (lk_cons rfl (lk_cons rfl (lk_cons rfl (lk_cons rfl lk_nil)))) .nil .nil fk_nil
    · refine sxc_exit ?_
      refine sxq_thenX ?_
      refine sxq_thenX ?_
      refine sxq_blkX ?_
      exact sxq_meetP (x23, ()) (lk_cons rfl lk_nil) .nil .nil fk_nil
  · rintro ⟨x16, _⟩
    try dsimp only
    refine sxc_seq ?_
    refine sxc_region ?_
    refine sxo_move rfl rfl rfl ?_
    refine sxo_assign rfl rfl rfl ?_
    refine sxo_nil ?_
    refine sxq_next ?_
    refine sxc_ret ?_
    exact sxq_doneP () (.inl rfl) (res1 rfl rfl) (fun h => by subst h; rfl) (fun h => by subst h; exact .nil)

theorem C_R_FibParts : ∀ (F : Nat) (x1 : Int) (r : List Int), M_R_FibParts F x1 = some r → Pure Try.prog 21 [.int .u64 x1] [] (Option Addr × Nat) (fun g => .slice g.1 r.length g.2) (fun g => [Ro (eI .i64) 3 1 (.slice g.1 r.length g.2) r]) (fun _ => []) := by
  intro F
  induction F with
  | zero => intro x1 r hm; exact absurd hm (by simp [M_R_FibParts])
  | succ F ih =>
    intro x1 r hm
    refine pure_of Try.func21 rfl Try.ntmps21 rfl hm (fun w => ?_)
    refine sxc_env (l' := [(0, .int .u64 x1)]) rfl ?_
    refine sxc_seq ?_
    refine sxc_region ?_
    refine sxo_assign rfl rfl rfl ?_
    refine sxo_nil ?_
    refine sxq_next ?_
    refine sxc_seq ?_
    refine sxc_seq ?_
    refine sxc_region ?_
    refine sxo_move rfl rfl rfl ?_
    refine sxo_eql rfl rfl rfl rfl ?_
    refine sxo_nil ?_
    refine sxq_next ?_
    refine sxc_if rfl (fun h41 => ?_) (fun h41 => ?_)
    · refine sxc_seq ?_
      refine sxc_region ?_
      refine sxo_assign rfl rfl rfl ?_
      refine sxo_nil ?_
      refine sxq_next ?_
      refine sxc_ret ?_
      refine sxq_thenR ?_
      refine sxq_nilrow Int (eI .i64) 3 1 ?_
      exact sxq_doneP (none, 0) (.inl rfl) (res1 rfl rfl) (fun h => by subst h; rfl) (fun h => by subst h; exact (.cons 0 rfl .nil))
    · refine sxc_skip ?_
      refine sxq_next ?_
      refine sxc_seq ?_
      refine sxc_region ?_
      refine sxo_assign rfl rfl rfl ?_
      refine sxo_nil ?_
      refine sxq_next ?_
      refine sxc_join (fun ((x17, _) : (Int × Unit)) => [(0, .int .u64 x1), (3, .int .i64 x17)]) (fun ((x17, _) : (Int × Unit)) => []) (fun ((x17, _) : (Int × Unit)) => []) (fun ((x17, _) : (Int × Unit)) => []) (fun ((x17, _) : (Int × Unit)) => M_R_FibParts_j2 F (M_R_FibParts F) x1 x17) ?_ ?_
      · refine sxc_block ?_
        refine sxc_loopP (fun ((x31, _) : (Int × Unit)) => [(0, .int .u64 x1), (3, .int .i64 x31)]) (fun ((x31, _) : (Int × Unit)) => []) (fun ((x31, _) : (Int × Unit)) => []) (fun ((x31, _) : (Int × Unit)) => []) (fun k (s : (Int × Unit)) => M_R_FibParts_l3 F (M_R_FibParts F) x1 k s.1) (0, ()) F (lk_cons rfl (lk_cons rfl lk_nil)) .nil .nil fk_nil (fun _ => rfl) ?_
        intro k36
        rintro ⟨x31, _⟩
        try dsimp only
        refine sxc_meq (m' := M_R_FibParts_b3 F (M_R_FibParts F) x1 (M_R_FibParts_l3 F (M_R_FibParts F) x1 k36) x31) rfl ?_
        refine sxc_seq ?_
        refine sxc_seq ?_
        refine sxc_region ?_
        refine sxo_move rfl rfl rfl ?_
        refine sxo_add rfl rfl rfl rfl ?_
        refine sxo_call ent20 rfl rfl rfl (fun x39 e39 => C_R_FibNum F (iadd .i64 x31 1) x39 e39) .nil (fun x39 e39 => ?_)
        intro _
        refine sxo_move rfl rfl rfl ?_
        refine sxo_leq rfl rfl rfl rfl ?_
        refine sxo_nil ?_
        refine sxq_next ?_
        refine sxc_if rfl (fun h40 => ?_) (fun h40 => ?_)
        · refine sxc_skip ?_
          refine sxq_next ?_
          refine sxc_block ?_
          refine sxc_region ?_
          refine sxo_move rfl rfl rfl ?_
          refine sxo_add rfl rfl rfl rfl ?_
          refine sxo_assign rfl rfl rfl ?_
          refine sxo_nil ?_
          refine sxq_blkN ?_
          exact sxq_againP (iadd .i64 x31 1, ()) (lk_cons rfl (lk_cons rfl lk_nil)) .nil .nil fk_nil
        · refine sxc_exit ?_
          refine sxq_thenX ?_
          refine sxq_thenX ?_
          refine sxq_blkX ?_
          exact sxq_meetP (x31, ()) (lk_cons rfl (lk_cons rfl lk_nil)) .nil .nil fk_nil
      · rintro ⟨x17, _⟩
        try dsimp only
        refine sxc_seq ?_
        refine sxc_region ?_
        refine sxo_move rfl rfl rfl ?_
        refine sxo_move rfl rfl rfl ?_
        refine sxo_call ent20 rfl rfl rfl (fun x18 e18 => C_R_FibNum F x17 x18 e18) .nil (fun x18 e18 => ?_)
        intro _
        refine sxo_sub rfl rfl rfl rfl ?_
        refine sxo_call ent21 rfl rfl rfl (fun x19 e19 => ih (isub .u64 x1 x18) x19 e19) .nil (fun x19 e19 => ?_)
        rintro ⟨a20, c21⟩
        refine sxo_move rfl rfl rfl ?_
        refine sxo_slit (vs := [.int .i64 x17]) (ys := ([x17] : List Int)) (eI_ok .i64) (by decide) rfl Try.underlying23 tf3 rfl rfl rfl rfl rfl (by decide) (fun a22 c23 => ?_)
        refine sxo_app 1 (eI_ok .i64) rfl Try.underlying23 tf3 rfl rfl rfl rfl rfl (.inl ⟨0, _, rfl⟩) rfl rfl (fun x24 e24 a25 c26 => ?_)
        refine sxo_assign rfl rfl rfl ?_
        refine sxo_nil ?_
        refine sxq_next ?_
        refine sxc_ret ?_
        exact sxq_doneP (a25, c26) (.inl rfl) (res1 rfl rfl) (fun h => by subst h; rfl) (fun h => by subst h; exact (.cons 0 rfl .nil))

theorem C_R_PackBits (F : Nat) (x1 : List Int) (a2 : Option Addr) (c3 : Nat) (r : (Int × List Int)) (hm : M_R_PackBits F x1 = some r) :
    Pure Try.prog 22 [.slice a2 x1.length c3] [Sl (eI .i64) 1 (.slice a2 x1.length c3) x1] (Option Addr × Nat) (fun g => .agg #[.int .i64 r.1, .slice g.1 r.2.length g.2]) (fun g => [Ro (eI .u8) 5 1 (.slice g.1 r.2.length g.2) r.2]) (fun _ => []) := by
  refine pure_of Try.func22 rfl Try.ntmps22 rfl hm (fun w => ?_)
  refine sxc_env (l' := [(0, .slice a2 x1.length c3)]) rfl ?_
  refine sxc_seq ?_
  refine sxc_region ?_
  refine sxo_alloc rfl tf26 rfl (fun g4 => ?_)
  refine sxo_nil ?_
  refine sxq_next ?_
  refine sxc_seq ?_
  refine sxc_region ?_
  refine sxo_move rfl rfl rfl ?_
  refine sxo_len rfl Try.underlying23 rfl rfl ?_
  refine sxo_build (cells := [.int .i64 (x1.length : Int), .slice none 0 0]) rfl st26 rfl (by kernel_rfl) rfl ?_
  refine sxo_alloc rfl tf26 rfl (fun g5 => ?_)
  refine sxo_storeB (i := 0) rfl rfl rfl tf26 rfl rfl rfl rfl rfl ?_
  refine sxo_nil ?_
  refine sxq_next ?_
  refine sxc_join (fun ((x497, (a495, c496)) : (List Int × (Option Addr × Nat))) => [(2, .pointer (some ⟨g4, 0, none⟩)), (3, .pointer (some ⟨g5, 0, none⟩))]) (fun ((x497, (a495, c496)) : (List Int × (Option Addr × Nat))) => [⟨g5, 26, [.int .i64 (x1.length : Int), .slice a495 x497.length c496]⟩, ⟨g4, 26, [.int .i64 0, .slice none 0 0]⟩]) (fun ((x497, (a495, c496)) : (List Int × (Option Addr × Nat))) => [Ro (eI .u8) 5 1 (.slice a495 x497.length c496) x497]) (fun ((x497, (a495, c496)) : (List Int × (Option Addr × Nat))) => []) (fun ((x497, _) : (List Int × (Option Addr × Nat))) => M_R_PackBits_j59 F x1 x497) ?_ ?_
  · refine sxc_seq ?_
    refine sxc_region ?_
    refine sxo_assign rfl rfl rfl ?_
    refine sxo_nil ?_
    refine sxq_next ?_
    refine sxc_block ?_
    refine sxc_nilrow Int (eI .u8) 5 1 ?_
    refine sxc_loopP (fun (((x660, x663), (a661, c662)) : ((Int × List Int) × (Option Addr × Nat))) => [(0, .slice a2 x1.length c3), (2, .pointer (some ⟨g4, 0, none⟩)), (3, .pointer (some ⟨g5, 0, none⟩)), (4, .int .i64 x660)]) (fun (((x660, x663), (a661, c662)) : ((Int × List Int) × (Option Addr × Nat))) => [⟨g5, 26, [.int .i64 (x1.length : Int), .slice a661 x663.length c662]⟩, ⟨g4, 26, [.int .i64 0, .slice none 0 0]⟩]) (fun (((x660, x663), (a661, c662)) : ((Int × List Int) × (Option Addr × Nat))) => [Ro (eI .u8) 5 1 (.slice a661 x663.length c662) x663]) (fun (((x660, x663), (a661, c662)) : ((Int × List Int) × (Option Addr × Nat))) => [Sl (eI .i64) 1 (.slice a2 x1.length c3) x1]) (fun k (s : ((Int × List Int) × (Option Addr × Nat))) => M_R_PackBits_l98 F x1 k s.1) ((0, ([] : List Int)), (none, 0)) F (lk_cons rfl (lk_cons rfl (lk_cons rfl (lk_cons rfl lk_nil)))) (.cons 0 rfl (.cons 0 rfl .nil)) (.cons 0 rfl .nil) (fk_cons 0 rfl fk_nil) (fun _ => rfl) ?_
    intro k825
    rintro ⟨⟨x660, x663⟩, ⟨a661, c662⟩⟩
    try dsimp only
    refine sxc_meq (m' := M_R_PackBits_b98 F x1 (M_R_PackBits_l98 F x1 k825) x660 x663) rfl ?_
    refine sxc_seq ?_
    refine sxc_seq ?_
    refine sxc_region ?_
    refine sxo_move rfl rfl rfl ?_
    refine sxo_move rfl rfl rfl ?_
    refine sxo_len rfl Try.underlying23 rfl rfl ?_
    refine sxo_lss rfl rfl rfl rfl ?_
    refine sxo_nil ?_
    refine sxq_next ?_
    refine sxc_if rfl (fun h986 => ?_) (fun h986 => ?_)
    · refine sxc_skip ?_
      refine sxq_next ?_
      refine sxc_join (fun ((x907, (a905, c906)) : (List Int × (Option Addr × Nat))) => [(0, .slice a2 x1.length c3), (2, .pointer (some ⟨g4, 0, none⟩)), (3, .pointer (some ⟨g5, 0, none⟩)), (4, .int .i64 x660)]) (fun ((x907, (a905, c906)) : (List Int × (Option Addr × Nat))) => [⟨g5, 26, [.int .i64 (x1.length : Int), .slice a905 x907.length c906]⟩, ⟨g4, 26, [.int .i64 0, .slice none 0 0]⟩]) (fun ((x907, (a905, c906)) : (List Int × (Option Addr × Nat))) => [Ro (eI .u8) 5 1 (.slice a905 x907.length c906) x907]) (fun ((x907, (a905, c906)) : (List Int × (Option Addr × Nat))) => [Sl (eI .i64) 1 (.slice a2 x1.length c3) x1]) (fun ((x907, _) : (List Int × (Option Addr × Nat))) => M_R_PackBits_j108 F (M_R_PackBits_l98 F x1 k825) x660 x907) ?_ ?_
      · refine sxc_block ?_
        refine sxc_seq ?_
        refine sxc_region ?_
        refine sxo_assign rfl rfl rfl ?_
        refine sxo_nil ?_
        refine sxq_next ?_
        refine sxc_join (fun ((x944, _) : (Int × Unit)) => [(0, .slice a2 x1.length c3), (2, .pointer (some ⟨g4, 0, none⟩)), (3, .pointer (some ⟨g5, 0, none⟩)), (4, .int .i64 x660), (5, .int .i64 x944)]) (fun ((x944, _) : (Int × Unit)) => [⟨g5, 26, [.int .i64 (x1.length : Int), .slice a661 x663.length c662]⟩, ⟨g4, 26, [.int .i64 0, .slice none 0 0]⟩]) (fun ((x944, _) : (Int × Unit)) => [Ro (eI .u8) 5 1 (.slice a661 x663.length c662) x663]) (fun ((x944, _) : (Int × Unit)) => [Sl (eI .i64) 1 (.slice a2 x1.length c3) x1]) (fun ((x944, _) : (Int × Unit)) => M_R_PackBits_j113 F (M_R_PackBits_l98 F x1 k825) x660 x663 x944) ?_ ?_
        · refine sxc_seq ?_
          refine sxc_region ?_
          refine sxo_assign rfl rfl rfl ?_
          refine sxo_nil ?_
          refine sxq_next ?_
          refine sxc_block ?_
          refine sxc_loopP (fun (((x961, x962), _) : ((Int × Int) × Unit)) => [(0, .slice a2 x1.length c3), (2, .pointer (some ⟨g4, 0, none⟩)), (3, .pointer (some ⟨g5, 0, none⟩)), (4, .int .i64 x660), (5, .int .i64 x961), (6, .int .i64 x962)]) (fun (((x961, x962), _) : ((Int × Int) × Unit)) => [⟨g5, 26, [.int .i64 (x1.length : Int), .slice a661 x663.length c662]⟩, ⟨g4, 26, [.int .i64 0, .slice none 0 0]⟩]) (fun (((x961, x962), _) : ((Int × Int) × Unit)) => [Ro (eI .u8) 5 1 (.slice a661 x663.length c662) x663]) (fun (((x961, x962), _) : ((Int × Int) × Unit)) => [Sl (eI .i64) 1 (.slice a2 x1.length c3) x1]) (fun k (s : ((Int × Int) × Unit)) => M_R_PackBits_l116 F (M_R_PackBits_l98 F x1 k825) x1 x660 x663 k s.1) ((0, 0), ()) F (lk_cons rfl (lk_cons rfl (lk_cons rfl (lk_cons rfl (lk_cons rfl (lk_cons rfl lk_nil)))))) (.cons 0 rfl (.cons 0 rfl .nil)) (.cons 0 rfl .nil) (fk_cons 0 rfl fk_nil) (fun _ => rfl) ?_
          intro k974
          rintro ⟨⟨x961, x962⟩, _⟩
          try dsimp only
          refine sxc_meq (m' := M_R_PackBits_b116 F (M_R_PackBits_l98 F x1 k825) x1 x660 x663 (M_R_PackBits_l116 F (M_R_PackBits_l98 F x1 k825) x1 x660 x663 k974) x961 x962) rfl ?_
          refine sxc_seq ?_
          refine sxc_seq ?_
          refine sxc_region ?_
          refine sxo_move rfl rfl rfl ?_
          refine sxo_lss rfl rfl rfl rfl ?_
          refine sxo_nil ?_
          refine sxq_next ?_
          refine sxc_if rfl (fun h985 => ?_) (fun h985 => ?_)
          · refine sxc_skip ?_
            refine sxq_next ?_
            refine sxc_join (fun ((x980, _) : (Int × Unit)) => [(0, .slice a2 x1.length c3), (2, .pointer (some ⟨g4, 0, none⟩)), (3, .pointer (some ⟨g5, 0, none⟩)), (4, .int .i64 x660), (5, .int .i64 x980), (6, .int .i64 x962)]) (fun ((x980, _) : (Int × Unit)) => [⟨g5, 26, [.int .i64 (x1.length : Int), .slice a661 x663.length c662]⟩, ⟨g4, 26, [.int .i64 0, .slice none 0 0]⟩]) (fun ((x980, _) : (Int × Unit)) => [Ro (eI .u8) 5 1 (.slice a661 x663.length c662) x663]) (fun ((x980, _) : (Int × Unit)) => [Sl (eI .i64) 1 (.slice a2 x1.length c3) x1]) (fun ((x980, _) : (Int × Unit)) => M_R_PackBits_j117 F (M_R_PackBits_l116 F (M_R_PackBits_l98 F x1 k825) x1 x660 x663 k974) x962 x980) ?_ ?_
            · refine sxc_block ?_
              refine sxc_seq ?_
              refine sxc_region ?_
              refine sxo_move rfl rfl rfl ?_
              refine sxo_mul rfl rfl rfl rfl ?_
              refine sxo_assign rfl rfl rfl ?_
              refine sxo_nil ?_
              refine sxq_next ?_
              refine sxc_seq ?_
              refine sxc_region ?_
              refine sxo_move rfl rfl rfl ?_
              refine sxo_move rfl rfl rfl ?_
              refine sxo_add rfl rfl rfl rfl ?_
              refine sxo_move rfl rfl rfl ?_
              refine sxo_len rfl Try.underlying23 rfl rfl ?_
              refine sxo_lss rfl rfl rfl rfl ?_
              refine sxo_nil ?_
              refine sxq_next ?_
              refine sxc_if rfl (fun h984 => ?_) (fun h984 => ?_)
              · refine sxc_region ?_
                refine sxo_move rfl rfl rfl ?_
                refine sxo_move rfl rfl rfl ?_
                refine sxo_move rfl rfl rfl ?_
                refine sxo_move rfl rfl rfl ?_
                refine sxo_add rfl rfl rfl rfl ?_
                refine sxo_indexF (j := 0) (eI_ok .i64) (by decide) rfl Try.underlying23 tf3 rfl rfl rfl rfl (fun x981 e981 b982 o983 => ?_)
                refine sxo_loadF (j := 0) rfl rfl tf3 rfl rfl (fun _ => rfl) rfl rfl ?_
                refine sxo_add rfl rfl rfl rfl ?_
                refine sxo_assign rfl rfl rfl ?_
                refine sxo_nil ?_
                refine sxq_blkN ?_
                exact sxq_meetP (iadd .i64 (imul .i64 2 x961) x981, ()) (lk_cons rfl (lk_cons rfl (lk_cons rfl (lk_cons rfl (lk_cons rfl (lk_cons rfl lk_nil)))))) (.cons 0 rfl (.cons 0 rfl .nil)) (.cons 0 rfl .nil) (fk_cons 1 rfl fk_nil)
              · refine sxc_skip ?_
                refine sxq_blkN ?_
                exact sxq_meetP (imul .i64 2 x961, ()) (lk_cons rfl (lk_cons rfl (lk_cons rfl (lk_cons rfl (lk_cons rfl (lk_cons rfl lk_nil)))))) (.cons 0 rfl (.cons 0 rfl .nil)) (.cons 0 rfl .nil) (fk_cons 0 rfl fk_nil)
            · rintro ⟨x980, _⟩
              try dsimp only
              refine sxc_region ?_
              refine sxo_move rfl rfl rfl ?_
              refine sxo_add rfl rfl rfl rfl ?_
              refine sxo_assign rfl rfl rfl ?_
              refine sxo_nil ?_
              exact sxq_againP ((x980, iadd .i64 x962 1), ()) (lk_cons rfl (lk_cons rfl (lk_cons rfl (lk_cons rfl (lk_cons rfl (lk_cons rfl lk_nil)))))) (.cons 0 rfl (.cons 0 rfl .nil)) (.cons 0 rfl .nil) (fk_cons 0 rfl fk_nil)
          · refine sxc_exit ?_
            refine sxq_thenX ?_
            refine sxq_thenX ?_
            refine sxq_blkX ?_
            exact sxq_meetP (x961, ()) (lk_cons rfl (lk_cons rfl (lk_cons rfl (lk_cons rfl (lk_cons rfl lk_nil))))) (.cons 0 rfl (.cons 0 rfl .nil)) (.cons 0 rfl .nil) (fk_cons 0 rfl fk_nil)
        · rintro ⟨x944, _⟩
          try dsimp only
          refine sxc_region ?_
          refine sxo_fieldAddr rfl rfl ff26_1 rfl ?_
          refine sxo_loadB (i := 0) rfl rfl tf24 rfl rfl (fun _ => rfl) rfl rfl ?_
          refine sxo_move rfl rfl rfl ?_
          refine sxo_conv rfl Try.underlying3 Try.underlying5 rfl rfl ?_
          refine sxo_slit (vs := [.int .u8 (iconv .u8 x944)]) (ys := ([iconv .u8 x944] : List Int)) (eI_ok .u8) (by decide) rfl Try.underlying24 tf5 rfl rfl rfl rfl rfl (by decide) (fun a945 c946 => ?_)
          refine sxo_app 1 (eI_ok .u8) rfl Try.underlying24 tf5 rfl rfl rfl rfl rfl (.inl ⟨0, _, rfl⟩) rfl rfl (fun x947 e947 a948 c949 => ?_)
          refine sxo_fieldAddr rfl rfl ff26_1 rfl ?_
          refine sxo_storeB (i := 0) rfl rfl rfl tf24 rfl rfl rfl rfl rfl ?_
          refine sxo_nil ?_
          refine sxq_blkN ?_
          exact sxq_meetP (x947, (a948, c949)) (lk_cons rfl (lk_cons rfl (lk_cons rfl (lk_cons rfl lk_nil)))) (.cons 0 rfl (.cons 0 rfl .nil)) (.cons 0 rfl .nil) (fk_cons 0 rfl fk_nil)
      · rintro ⟨x907, ⟨a905, c906⟩⟩
        try dsimp only
        refine sxc_region ?_
        refine sxo_move rfl rfl rfl ?_
        refine sxo_add rfl rfl rfl rfl ?_
        refine sxo_assign rfl rfl rfl ?_
        refine sxo_nil ?_
        exact sxq_againP ((iadd .i64 x660 8, x907), (a905, c906)) (lk_cons rfl (lk_cons rfl (lk_cons rfl (lk_cons rfl lk_nil)))) (.cons 0 rfl (.cons 0 rfl .nil)) (.cons 0 rfl .nil) (fk_cons 0 rfl fk_nil)
    · refine sxc_exit ?_
      refine sxq_thenX ?_
      refine sxq_thenX ?_
      refine sxq_blkX ?_
      exact sxq_meetP (x663, (a661, c662)) (lk_cons rfl (lk_cons rfl lk_nil)) (.cons 0 rfl (.cons 0 rfl .nil)) (.cons 0 rfl .nil) fk_nil
  · rintro ⟨x497, ⟨a495, c496⟩⟩
    try dsimp only
    refine sxc_seq ?_
    refine sxc_region ?_
    refine sxo_loadB (i := 0) rfl rfl tf26 rfl rfl (by simp) rfl rfl ?_
    refine sxo_storeB (i := 1) rfl rfl rfl tf26 rfl rfl rfl rfl rfl ?_
    refine sxo_nil ?_
    refine sxq_next ?_
    refine sxc_ret ?_
    exact sxq_doneP (a495, c496) (.inl rfl) (resL (rs := [.cell 2 26]) rfl (.cell (i := 1) rfl tf26 rfl rfl (by simp) rfl ResOk.nil) rfl) (fun h => by subst h; rfl) (fun h => by subst h; exact (.cons 0 rfl .nil))

theorem C_R_FibList (F : Nat) (x1 : Int) (r : List Int) (hm : M_R_FibList F x1 = some r) :
    Pure Try.prog 23 [.int .u64 x1] [] (Option Addr × Nat) (fun g => .slice g.1 r.length g.2) (fun g => [Ro (eI .i64) 3 1 (.slice g.1 r.length g.2) r]) (fun _ => []) := by
  refine pure_of Try.func23 rfl Try.ntmps23 rfl hm (fun w => ?_)
  refine sxc_env (l' := [(0, .int .u64 x1)]) rfl ?_
  refine sxc_seq ?_
  refine sxc_region ?_
  refine sxo_assign rfl rfl rfl ?_
  refine sxo_nil ?_
  refine sxq_next ?_
  refine sxc_seq ?_
  refine sxc_region ?_
  refine sxo_move rfl rfl rfl ?_
  refine sxo_add rfl rfl rfl rfl ?_
  refine sxo_call ent21 rfl rfl rfl (fun x2 e2 => C_R_FibParts F (iadd .u64 x1 1) x2 e2) .nil (fun x2 e2 => ?_)
  rintro ⟨a3, c4⟩
  refine sxo_assign rfl rfl rfl ?_
  refine sxo_nil ?_
  refine sxq_next ?_
  refine sxc_seq ?_
  refine sxc_region ?_
  refine sxo_move rfl rfl rfl ?_
  refine sxo_move rfl rfl rfl ?_
  refine sxo_len rfl Try.underlying23 rfl rfl ?_
  refine sxo_sub rfl rfl rfl rfl ?_
  refine sxo_indexR (j := 0) rfl Try.underlying23 tf3 rfl rfl rfl rfl (fun x5 e5 g6 h7 => ?_)
  refine sxo_loadR (j := 0) (y := x5) (eI_ok .i64) rfl rfl tf3 rfl h7 (idx_get e5).2.2 (fun _ => rfl) rfl rfl ?_
  refine sxo_add rfl rfl rfl rfl ?_
  refine sxo_mk (eI_ok .i64) rfl Try.underlying23 tf3 rfl rfl rfl rfl rfl rfl rfl (fun x8 e8 a9 c10 => ?_)
  refine sxo_assign rfl rfl rfl ?_
  refine sxo_nil ?_
  refine sxq_next ?_
  refine sxc_join (fun ((x74, _) : (List Int × Unit)) => [(4, .slice a9 x74.length c10)]) (fun ((x74, _) : (List Int × Unit)) => []) (fun ((x74, _) : (List Int × Unit)) => [Ro (eI .i64) 3 1 (.slice a9 x74.length c10) x74]) (fun ((x74, _) : (List Int × Unit)) => []) (fun ((x74, _) : (List Int × Unit)) => M_R_FibList_j2 F x74) ?_ ?_
  · refine sxc_seq ?_
    refine sxc_region ?_
    refine sxo_assign rfl rfl rfl ?_
    refine sxo_nil ?_
    refine sxq_next ?_
    refine sxc_block ?_
    refine sxc_loopP (fun (((x100, x101), _) : ((List Int × Int) × Unit)) => [(3, .slice a3 x2.length c4), (4, .slice a9 x100.length c10), (5, .int .i64 x101)]) (fun (((x100, x101), _) : ((List Int × Int) × Unit)) => []) (fun (((x100, x101), _) : ((List Int × Int) × Unit)) => [Ro (eI .i64) 3 1 (.slice a3 x2.length c4) x2, Ro (eI .i64) 3 1 (.slice a9 x100.length c10) x100]) (fun (((x100, x101), _) : ((List Int × Int) × Unit)) => []) (fun k (s : ((List Int × Int) × Unit)) => M_R_FibList_l3 F x2 k s.1) ((x8, 0), ()) F (lk_cons rfl (lk_cons rfl (lk_cons rfl lk_nil))) .nil (.cons 1 rfl (.cons 0 rfl .nil)) fk_nil (fun _ => rfl) ?_
    intro k122
    rintro ⟨⟨x100, x101⟩, _⟩
    try dsimp only
    refine sxc_meq (m' := M_R_FibList_b3 F x2 (M_R_FibList_l3 F x2 k122) x100 x101) rfl ?_
    refine sxc_seq ?_
    refine sxc_seq ?_
    refine sxc_region ?_
    refine sxo_move rfl rfl rfl ?_
    refine sxo_move rfl rfl rfl ?_
    refine sxo_len rfl Try.underlying23 rfl rfl ?_
    refine sxo_lss rfl rfl rfl rfl ?_
    refine sxo_nil ?_
    refine sxq_next ?_
    refine sxc_if rfl (fun h142 => ?_) (fun h142 => ?_)
    · refine sxc_skip ?_
      refine sxq_next ?_
      refine sxc_seq ?_
      refine sxc_block ?_
      refine sxc_region ?_
      refine sxo_move rfl rfl rfl ?_
      refine sxo_move rfl rfl rfl ?_
      refine sxo_move rfl rfl rfl ?_
      refine sxo_indexR (j := 0) rfl Try.underlying23 tf3 rfl rfl rfl rfl (fun x133 e133 g134 h135 => ?_)
      refine sxo_loadR (j := 0) (y := x133) (eI_ok .i64) rfl rfl tf3 rfl h135 (idx_get e133).2.2 (fun _ => rfl) rfl rfl ?_
      refine sxo_indexR (j := 1) rfl Try.underlying23 tf3 rfl rfl rfl rfl (fun x136 e136 g137 h138 => ?_)
      refine sxo_storeL (j := 1) (y' := 1) (eI_ok .i64) rfl rfl rfl tf3 rfl h138 (idx_get e136).2.1 rfl (fun x139 e139 h140 => ?_)
      have h141 : x139.length = x100.length := by rw [← e139, List.length_set]
      refine sxo_again (d := 4) (v := .slice a9 x139.length c10) rfl h140 ?_
      refine sxo_again (d := 23) (v := .slice a9 x139.length c10) rfl h140 ?_
      refine sxo_nil ?_
      refine sxq_blkN ?_
      refine sxq_next ?_
      refine sxc_region ?_
      refine sxo_move rfl rfl rfl ?_
      refine sxo_add rfl rfl rfl rfl ?_
      refine sxo_assign rfl rfl rfl ?_
      refine sxo_nil ?_
      exact sxq_againP ((x139, iadd .i64 x101 1), ()) (lk_cons rfl (lk_cons rfl (lk_cons rfl lk_nil))) .nil (.cons 1 rfl (.cons 0 rfl .nil)) fk_nil
    · refine sxc_exit ?_
      refine sxq_thenX ?_
      refine sxq_thenX ?_
      refine sxq_blkX ?_
      exact sxq_meetP (x100, ()) (lk_cons rfl lk_nil) .nil (.cons 1 rfl .nil) fk_nil
  · rintro ⟨x74, _⟩
    try dsimp only
    refine sxc_seq ?_
    refine sxc_region ?_
    refine sxo_move rfl rfl rfl ?_
    refine sxo_slit (vs := [.int .i64 1]) (ys := ([1] : List Int)) (eI_ok .i64) (by decide) rfl Try.underlying23 tf3 rfl rfl rfl rfl rfl (by decide) (fun a75 c76 => ?_)
    refine sxo_app 1 (eI_ok .i64) rfl Try.underlying23 tf3 rfl rfl rfl rfl rfl (.inl ⟨0, _, rfl⟩) rfl rfl (fun x77 e77 a78 c79 => ?_)
    refine sxo_assign rfl rfl rfl ?_
    refine sxo_nil ?_
    refine sxq_next ?_
    refine sxc_ret ?_
    exact sxq_doneP (a78, c79) (.inl rfl) (res1 rfl rfl) (fun h => by subst h; rfl) (fun h => by subst h; exact (.cons 0 rfl .nil))

theorem C_R_between (F : Nat) (x1 : Int) (x2 : Int) (x3 : Int) (r : Bool) (hm : M_R_between F x1 x2 x3 = some r) :
    Pure Try.prog 52 [.int .i64 x1, .int .i64 x2, .int .i64 x3] [] Unit (fun _ => .bool r) (fun _ => []) (fun _ => []) := by
  refine pure_of Try.func52 rfl Try.ntmps52 rfl hm (fun w => ?_)
  refine sxc_env (l' := [(0, .int .i64 x1), (1, .int .i64 x2), (2, .int .i64 x3)]) rfl ?_
  refine sxc_seq ?_
  refine sxc_region ?_
  refine sxo_assign rfl rfl rfl ?_
  refine sxo_nil ?_
  refine sxq_next ?_
  refine sxc_seq ?_
  refine sxc_region ?_
  refine sxo_move rfl rfl rfl ?_
  refine sxo_move rfl rfl rfl ?_
  refine sxo_geq rfl rfl rfl rfl ?_
  refine sxo_move rfl rfl rfl ?_
  refine sxo_case 4 (decide (x2 ≤ x1)) [(14, .bool ((decide (x2 ≤ x1)) && (decide (x1 ≤ x3))))] (fun h4 => ?_) (fun h4 => ?_) ?_
  · refine sxo_take (os := _) rfl ?_
    refine sxo_isT (k := 10) rfl h4 ?_
    refine sxo_move rfl rfl rfl ?_
    refine sxo_move rfl rfl rfl ?_
    refine sxo_leq rfl rfl rfl rfl ?_
    refine sxo_pick (b := true) rfl rfl rfl rfl ?_
    refine sxo_again (d := 14) (v := .bool ((decide (x2 ≤ x1)) && (decide (x1 ≤ x3)))) rfl (by rw [h4]; simp only [Bool.true_and]) ?_
    refine sxo_nil ?_
    exact sxq_case (lk_cons rfl lk_nil)
  · refine sxo_take (os := _) rfl ?_
    refine sxo_isF (k := 10) rfl h4 ?_
    refine sxo_skip rfl rfl rfl ?_
    refine sxo_skip rfl rfl rfl ?_
    refine sxo_skip rfl rfl rfl ?_
    refine sxo_pick (b := false) rfl rfl rfl rfl ?_
    refine sxo_again (d := 14) (v := .bool ((decide (x2 ≤ x1)) && (decide (x1 ≤ x3)))) rfl (by rw [h4]; simp only [Bool.false_and]) ?_
    refine sxo_nil ?_
    exact sxq_case (lk_cons rfl lk_nil)
  refine sxo_take (os := _) rfl ?_
  refine sxo_assign rfl rfl rfl ?_
  refine sxo_nil ?_
  refine sxq_next ?_
  refine sxc_ret ?_
  exact sxq_doneP () (.inl rfl) (res1 rfl rfl) (fun h => by subst h; rfl) (fun h => by subst h; exact .nil)

theorem C_R_FibSum (F : Nat) (x1 : List Int) (a2 : Option Addr) (c3 : Nat) (r : (Int × Int)) (hm : M_R_FibSum F x1 = some r) :
    Pure Try.prog 24 [.slice a2 x1.length c3] [Sl (eI .i64) 1 (.slice a2 x1.length c3) x1] Unit (fun _ => .tuple #[.int .u64 r.1, .int .i64 r.2]) (fun _ => []) (fun _ => []) := by
  refine pure_of Try.func24 rfl Try.ntmps24 rfl hm (fun w => ?_)
  refine sxc_env (l' := [(0, .slice a2 x1.length c3)]) rfl ?_
  refine sxc_seq ?_
  refine sxc_region ?_
  refine sxo_assign rfl rfl rfl ?_
  refine sxo_assign rfl rfl rfl ?_
  refine sxo_nil ?_
  refine sxq_next ?_
  refine sxc_seq ?_
  refine sxc_region ?_
  refine sxo_assign rfl rfl rfl ?_
  refine sxo_nil ?_
  refine sxq_next ?_
  refine sxc_join (fun ((x337, _) : (Int × Unit)) => [(4, .int .u64 x337)]) (fun ((x337, _) : (Int × Unit)) => []) (fun ((x337, _) : (Int × Unit)) => []) (fun ((x337, _) : (Int × Unit)) => []) (fun ((x337, _) : (Int × Unit)) => M_R_FibSum_j14 F x337) ?_ ?_
  · refine sxc_seq ?_
    refine sxc_region ?_
    refine sxo_assign rfl rfl rfl ?_
    refine sxo_nil ?_
    refine sxq_next ?_
    refine sxc_block ?_
    refine sxc_loopP (fun (((x448, x449), _) : ((Int × Int) × Unit)) => [(0, .slice a2 x1.length c3), (4, .int .u64 x448), (5, .int .i64 x449)]) (fun (((x448, x449), _) : ((Int × Int) × Unit)) => []) (fun (((x448, x449), _) : ((Int × Int) × Unit)) => []) (fun (((x448, x449), _) : ((Int × Int) × Unit)) => [Sl (eI .i64) 1 (.slice a2 x1.length c3) x1]) (fun k (s : ((Int × Int) × Unit)) => M_R_FibSum_l23 F x1 k s.1) ((0, 0), ()) F (lk_cons rfl (lk_cons rfl (lk_cons rfl lk_nil))) .nil .nil (fk_cons 0 rfl fk_nil) (fun _ => rfl) ?_
    intro k560
    rintro ⟨⟨x448, x449⟩, _⟩
    try dsimp only
    refine sxc_meq (m' := M_R_FibSum_b23 F x1 (M_R_FibSum_l23 F x1 k560) x448 x449) rfl ?_
    refine sxc_seq ?_
    refine sxc_seq ?_
    refine sxc_region ?_
    refine sxo_move rfl rfl rfl ?_
    refine sxo_move rfl rfl rfl ?_
    refine sxo_len rfl Try.underlying23 rfl rfl ?_
    refine sxo_lss rfl rfl rfl rfl ?_
    refine sxo_nil ?_
    refine sxq_next ?_
    refine sxc_if rfl (fun h670 => ?_) (fun h670 => ?_)
    · refine sxc_skip ?_
      refine sxq_next ?_
      refine sxc_seq ?_
      refine sxc_block ?_
      refine sxc_seq ?_
      refine sxc_seq ?_
      refine sxc_region ?_
      refine sxo_move rfl rfl rfl ?_
      refine sxo_move rfl rfl rfl ?_
      refine sxo_indexF (j := 0) (eI_ok .i64) (by decide) rfl Try.underlying23 tf3 rfl rfl rfl rfl (fun x621 e621 b622 o623 => ?_)
      refine sxo_loadF (j := 0) rfl rfl tf3 rfl rfl (fun _ => rfl) rfl rfl ?_
      refine sxo_call ent52 rfl rfl rfl (fun x624 e624 => C_R_between F x621 0 63 x624 e624) .nil (fun x624 e624 => ?_)
      intro _
      refine sxo_not rfl rfl rfl ?_
      refine sxo_nil ?_
      refine sxq_next ?_
      refine sxc_if rfl (fun h669 => ?_) (fun h669 => ?_)
      · refine sxc_seq ?_
        refine sxc_region ?_
        refine sxo_assign rfl rfl rfl ?_
        refine sxo_assign rfl rfl rfl ?_
        refine sxo_nil ?_
        refine sxq_next ?_
        refine sxc_ret ?_
        refine sxq_thenR ?_
        refine sxq_blkR ?_
        refine sxq_thenR ?_
        refine sxq_thenR ?_
        refine sxq_blkR ?_
        refine sxq_thenR ?_
        exact sxq_doneP () (.inl rfl) (res2 rfl rfl rfl) (fun h => by subst h; rfl) (fun h => by subst h; exact .nil)
      · refine sxc_skip ?_
        refine sxq_next ?_
        refine sxc_seq ?_
        refine sxc_join (fun ((x654, _) : (Bool × Unit)) => [(0, .slice a2 x1.length c3), (4, .int .u64 x448), (5, .int .i64 x449), (32, .bool x654)]) (fun ((x654, _) : (Bool × Unit)) => []) (fun ((x654, _) : (Bool × Unit)) => []) (fun ((x654, _) : (Bool × Unit)) => [Sl (eI .i64) 1 (.slice a2 x1.length c3) x1]) (fun ((x654, _) : (Bool × Unit)) => M_R_FibSum_j27 F (M_R_FibSum_l23 F x1 k560) x1 x448 x449 x654) ?_ ?_
        · refine sxc_split (fun h660 => ?_) (fun h660 => ?_)
          · refine sxc_idxF (j := 1) (eI_ok .i64) (by decide) rfl (fun x661 e661 b662 o663 h664 => ?_)
            replace h664 : a2 = some ⟨b662, o663, none⟩ := h664
            refine sxc_idxF (j := 2) (eI_ok .i64) (by decide) rfl (fun x665 e665 b666 o667 h668 => ?_)
            replace h668 : a2 = some ⟨b666, o667, none⟩ := h668
            refine sxb_draw mixed [] [] [CellsAt b666 (o667 + (isub .i64 x449 1).toNat * 1) ((eI .i64) x665), CellsAt b662 (o663 + x449.toNat * 1) ((eI .i64) x661), CellsAt b622 o623 ((eI .i64) x621), Sl (eI .i64) 1 (.slice a2 x1.length c3) x1] .nil (gk_F 0 rfl (gk_F 1 rfl (gk_F 2 rfl (gk_F 3 rfl gk_nil)))) 15 rfl ?_
            refine sxb_takeP 0 (.int .i64 x449) rfl rfl rfl rfl (by kernel_rfl) (by kernel_rfl) (by kernel_rfl) (by kernel_rfl) (by kernel_rfl) rfl (show _ = #[true, false, false, false, false, false, false, false, false, false, false, false, false, false, false] from rfl) (yv_pv rfl) ?_
            refine sxb_takeP 1 (.bool (decide (0 < x449))) rfl rfl rfl rfl (by kernel_rfl) (by kernel_rfl) (by kernel_rfl) (by kernel_rfl) (by kernel_rfl) rfl (show _ = #[true, true, false, false, false, false, false, false, false, false, false, false, false, false, false] from rfl) (yv_pv rfl) ?_
            refine sxb_takeP 2 (.bool (decide (0 < x449))) rfl rfl rfl rfl (by kernel_rfl) (by kernel_rfl) (by kernel_rfl) (by kernel_rfl) (by kernel_rfl) rfl (show _ = #[true, true, true, false, false, false, false, false, false, false, false, false, false, false, false] from rfl) (yv_pv rfl) ?_
            refine sxb_again (d := 20) (v := .bool true) rfl (by rw [h660]) ?_
            refine sxb_takeP 3 (.slice a2 x1.length c3) rfl rfl rfl rfl (by kernel_rfl) (by kernel_rfl) (by kernel_rfl) (by kernel_rfl) (by kernel_rfl) rfl (show _ = #[true, true, true, true, false, false, false, false, false, false, false, false, false, false, false] from rfl) (yv_pv rfl) ?_
            refine sxb_takeP 4 (.int .i64 x449) rfl rfl rfl rfl (by kernel_rfl) (by kernel_rfl) (by kernel_rfl) (by kernel_rfl) (by kernel_rfl) rfl (show _ = #[true, true, true, true, true, false, false, false, false, false, false, false, false, false, false] from rfl) (yv_pv rfl) ?_
            refine sxb_again (d := 21) (v := .slice (some ⟨b662, o663, none⟩) x1.length c3) rfl (by rw [h664]) ?_
            refine sxb_takeP 5 (.pointer (some ⟨b662, (o663 + x449.toNat * 1), none⟩)) rfl rfl rfl rfl (by kernel_rfl) (by kernel_rfl) (by kernel_rfl) (by kernel_rfl) (by kernel_rfl) rfl (show _ = #[true, true, true, true, true, true, false, false, false, false, false, false, false, false, false] from rfl) (yv_idx Try.underlying23 tf3 rfl rfl (idx_get e661).1 (idx_lt e661)) ?_
            refine sxb_again (d := 21) (v := .slice a2 x1.length c3) rfl (by rw [h664]) ?_
            refine sxb_take 6 (.int .i64 x661) [] rfl rfl rfl rfl (by kernel_rfl) (by kernel_rfl) (by kernel_rfl) (by kernel_rfl) (by kernel_rfl) (by kernel_rfl) rfl (show _ = #[true, true, true, true, true, true, true, false, false, false, false, false, false, false, false] from rfl) (yv_loadF (j := 1) rfl tf3 rfl rfl (fun _ => rfl) rfl) ?_
            refine sxb_takeP 7 (.slice a2 x1.length c3) rfl rfl rfl rfl (by kernel_rfl) (by kernel_rfl) (by kernel_rfl) (by kernel_rfl) (by kernel_rfl) rfl (show _ = #[true, true, true, true, true, true, true, true, false, false, false, false, false, false, false] from rfl) (yv_pv rfl) ?_
            refine sxb_takeP 8 (.int .i64 x449) rfl rfl rfl rfl (by kernel_rfl) (by kernel_rfl) (by kernel_rfl) (by kernel_rfl) (by kernel_rfl) rfl (show _ = #[true, true, true, true, true, true, true, true, true, false, false, false, false, false, false] from rfl) (yv_pv rfl) ?_
            refine sxb_takeP 9 (.int .i64 (isub .i64 x449 1)) rfl rfl rfl rfl (by kernel_rfl) (by kernel_rfl) (by kernel_rfl) (by kernel_rfl) (by kernel_rfl) rfl (show _ = #[true, true, true, true, true, true, true, true, true, true, false, false, false, false, false] from rfl) (yv_pv rfl) ?_
            refine sxb_again (d := 25) (v := .slice (some ⟨b666, o667, none⟩) x1.length c3) rfl (by rw [h668]) ?_
            refine sxb_takeP 10 (.pointer (some ⟨b666, (o667 + (isub .i64 x449 1).toNat * 1), none⟩)) rfl rfl rfl rfl (by kernel_rfl) (by kernel_rfl) (by kernel_rfl) (by kernel_rfl) (by kernel_rfl) rfl (show _ = #[true, true, true, true, true, true, true, true, true, true, true, false, false, false, false] from rfl) (yv_idx Try.underlying23 tf3 rfl rfl (idx_get e665).1 (idx_lt e665)) ?_
            refine sxb_again (d := 25) (v := .slice a2 x1.length c3) rfl (by rw [h668]) ?_
            refine sxb_take 11 (.int .i64 x665) [] rfl rfl rfl rfl (by kernel_rfl) (by kernel_rfl) (by kernel_rfl) (by kernel_rfl) (by kernel_rfl) (by kernel_rfl) rfl (show _ = #[true, true, true, true, true, true, true, true, true, true, true, true, false, false, false] from rfl) (yv_loadF (j := 0) rfl tf3 rfl rfl (fun _ => rfl) rfl) ?_
            refine sxb_takeP 12 (.int .i64 (iadd .i64 x665 2)) rfl rfl rfl rfl (by kernel_rfl) (by kernel_rfl) (by kernel_rfl) (by kernel_rfl) (by kernel_rfl) rfl (show _ = #[true, true, true, true, true, true, true, true, true, true, true, true, true, false, false] from rfl) (yv_pv rfl) ?_
            refine sxb_takeP 13 (.bool (decide (x661 < (iadd .i64 x665 2)))) rfl rfl rfl rfl (by kernel_rfl) (by kernel_rfl) (by kernel_rfl) (by kernel_rfl) (by kernel_rfl) rfl (show _ = #[true, true, true, true, true, true, true, true, true, true, true, true, true, true, false] from rfl) (yv_pv rfl) ?_
            refine sxb_takeP 14 (.bool (decide (x661 < (iadd .i64 x665 2)))) rfl rfl rfl rfl (by kernel_rfl) (by kernel_rfl) (by kernel_rfl) (by kernel_rfl) (by kernel_rfl) rfl (show _ = #[true, true, true, true, true, true, true, true, true, true, true, true, true, true, true] from rfl) (yv_pv rfl) ?_
            refine sxb_done (by kernel_rfl) ?_
            refine sxq_np ?_ (by intro c h; cases h)
            exact sxq_meetP ((decide (x661 < (iadd .i64 x665 2))), ()) (lk_cons rfl (lk_cons rfl (lk_cons rfl (lk_cons rfl lk_nil)))) .nil .nil (fk_cons 3 rfl fk_nil)
          · refine sxb_draw mixed [] [] [CellsAt b622 o623 ((eI .i64) x621), Sl (eI .i64) 1 (.slice a2 x1.length c3) x1] .nil (gk_F 0 rfl (gk_F 1 rfl gk_nil)) 15 rfl ?_
            refine sxb_takeP 0 (.int .i64 x449) rfl rfl rfl rfl (by kernel_rfl) (by kernel_rfl) (by kernel_rfl) (by kernel_rfl) (by kernel_rfl) rfl (show _ = #[true, false, false, false, false, false, false, false, false, false, false, false, false, false, false] from rfl) (yv_pv rfl) ?_
            refine sxb_takeP 1 (.bool (decide (0 < x449))) rfl rfl rfl rfl (by kernel_rfl) (by kernel_rfl) (by kernel_rfl) (by kernel_rfl) (by kernel_rfl) rfl (show _ = #[true, true, false, false, false, false, false, false, false, false, false, false, false, false, false] from rfl) (yv_pv rfl) ?_
            refine sxb_takeP 2 (.bool (decide (0 < x449))) rfl rfl rfl rfl (by kernel_rfl) (by kernel_rfl) (by kernel_rfl) (by kernel_rfl) (by kernel_rfl) rfl (show _ = #[true, true, true, false, false, false, false, false, false, false, false, false, false, false, false] from rfl) (yv_pv rfl) ?_
            refine sxb_again (d := 20) (v := .bool false) rfl (by rw [h660]) ?_
            refine sxb_skip 3 rfl rfl rfl rfl (by kernel_rfl) (by kernel_rfl) (by kernel_rfl) (by kernel_rfl) (by kernel_rfl) rfl (show _ = #[true, true, true, true, false, false, false, false, false, false, false, false, false, false, false] from rfl) ?_
            refine sxb_skip 4 rfl rfl rfl rfl (by kernel_rfl) (by kernel_rfl) (by kernel_rfl) (by kernel_rfl) (by kernel_rfl) rfl (show _ = #[true, true, true, true, true, false, false, false, false, false, false, false, false, false, false] from rfl) ?_
            refine sxb_skip 5 rfl rfl rfl rfl (by kernel_rfl) (by kernel_rfl) (by kernel_rfl) (by kernel_rfl) (by kernel_rfl) rfl (show _ = #[true, true, true, true, true, true, false, false, false, false, false, false, false, false, false] from rfl) ?_
            refine sxb_skip 6 rfl rfl rfl rfl (by kernel_rfl) (by kernel_rfl) (by kernel_rfl) (by kernel_rfl) (by kernel_rfl) rfl (show _ = #[true, true, true, true, true, true, true, false, false, false, false, false, false, false, false] from rfl) ?_
            refine sxb_skip 7 rfl rfl rfl rfl (by kernel_rfl) (by kernel_rfl) (by kernel_rfl) (by kernel_rfl) (by kernel_rfl) rfl (show _ = #[true, true, true, true, true, true, true, true, false, false, false, false, false, false, false] from rfl) ?_
            refine sxb_skip 8 rfl rfl rfl rfl (by kernel_rfl) (by kernel_rfl) (by kernel_rfl) (by kernel_rfl) (by kernel_rfl) rfl (show _ = #[true, true, true, true, true, true, true, true, true, false, false, false, false, false, false] from rfl) ?_
            refine sxb_skip 9 rfl rfl rfl rfl (by kernel_rfl) (by kernel_rfl) (by kernel_rfl) (by kernel_rfl) (by kernel_rfl) rfl (show _ = #[true, true, true, true, true, true, true, true, true, true, false, false, false, false, false] from rfl) ?_
            refine sxb_skip 10 rfl rfl rfl rfl (by kernel_rfl) (by kernel_rfl) (by kernel_rfl) (by kernel_rfl) (by kernel_rfl) rfl (show _ = #[true, true, true, true, true, true, true, true, true, true, true, false, false, false, false] from rfl) ?_
            refine sxb_skip 11 rfl rfl rfl rfl (by kernel_rfl) (by kernel_rfl) (by kernel_rfl) (by kernel_rfl) (by kernel_rfl) rfl (show _ = #[true, true, true, true, true, true, true, true, true, true, true, true, false, false, false] from rfl) ?_
            refine sxb_skip 12 rfl rfl rfl rfl (by kernel_rfl) (by kernel_rfl) (by kernel_rfl) (by kernel_rfl) (by kernel_rfl) rfl (show _ = #[true, true, true, true, true, true, true, true, true, true, true, true, true, false, false] from rfl) ?_
            refine sxb_skip 13 rfl rfl rfl rfl (by kernel_rfl) (by kernel_rfl) (by kernel_rfl) (by kernel_rfl) (by kernel_rfl) rfl (show _ = #[true, true, true, true, true, true, true, true, true, true, true, true, true, true, false] from rfl) ?_
            refine sxb_takeP 14 (.bool false) rfl rfl rfl rfl (by kernel_rfl) (by kernel_rfl) (by kernel_rfl) (by kernel_rfl) (by kernel_rfl) rfl (show _ = #[true, true, true, true, true, true, true, true, true, true, true, true, true, true, true] from rfl) (yv_pv rfl) ?_
            refine sxb_done (by kernel_rfl) ?_
            refine sxq_np ?_ (by intro c h; cases h)
            exact sxq_meetP (false, ()) (lk_cons rfl (lk_cons rfl (lk_cons rfl (lk_cons rfl lk_nil)))) .nil .nil (fk_cons 1 rfl fk_nil)
        · rintro ⟨x654, _⟩
          try dsimp only
          refine sxc_if rfl (fun h659 => ?_) (fun h659 => ?_)
          · refine sxc_seq ?_
            refine sxc_region ?_
            refine sxo_assign rfl rfl rfl ?_
            refine sxo_assign rfl rfl rfl ?_
            refine sxo_nil ?_
            refine sxq_next ?_
            refine sxc_ret ?_
            refine sxq_thenR ?_
            refine sxq_blkR ?_
            refine sxq_thenR ?_
            refine sxq_thenR ?_
            refine sxq_blkR ?_
            refine sxq_thenR ?_
            exact sxq_doneP () (.inl rfl) (res2 rfl rfl rfl) (fun h => by subst h; rfl) (fun h => by subst h; exact .nil)
          · refine sxc_skip ?_
            refine sxq_next ?_
            refine sxc_region ?_
            refine sxo_move rfl rfl rfl ?_
            refine sxo_move rfl rfl rfl ?_
            refine sxo_move rfl rfl rfl ?_
            refine sxo_indexF (j := 0) (eI_ok .i64) (by decide) rfl Try.underlying23 tf3 rfl rfl rfl rfl (fun x655 e655 b656 o657 => ?_)
            refine sxo_loadF (j := 0) rfl rfl tf3 rfl rfl (fun _ => rfl) rfl rfl ?_
            refine sxo_call ent20 rfl rfl rfl (fun x658 e658 => C_R_FibNum F x655 x658 e658) .nil (fun x658 e658 => ?_)
            intro _
            refine sxo_add rfl rfl rfl rfl ?_
            refine sxo_assign rfl rfl rfl ?_
            refine sxo_nil ?_
            refine sxq_blkN ?_
            refine sxq_next ?_
            refine sxc_region ?_
            refine sxo_move rfl rfl rfl ?_
            refine sxo_add rfl rfl rfl rfl ?_
            refine sxo_assign rfl rfl rfl ?_
            refine sxo_nil ?_
            exact sxq_againP ((iadd .u64 x448 x658, iadd .i64 x449 1), ()) (lk_cons rfl (lk_cons rfl (lk_cons rfl lk_nil))) .nil .nil (fk_cons 1 rfl fk_nil)
    · refine sxc_exit ?_
      refine sxq_thenX ?_
      refine sxq_thenX ?_
      refine sxq_blkX ?_
      exact sxq_meetP (x448, ()) (lk_cons rfl lk_nil) .nil .nil fk_nil
  · rintro ⟨x337, _⟩
    try dsimp only
    refine sxc_seq ?_
    refine sxc_region ?_
    refine sxo_move rfl rfl rfl ?_
    refine sxo_assign rfl rfl rfl ?_
    refine sxo_assign rfl rfl rfl ?_
    refine sxo_nil ?_
    refine sxq_next ?_
    refine sxc_ret ?_
    exact sxq_doneP () (.inl rfl) (res2 rfl rfl rfl) (fun h => by subst h; rfl) (fun h => by subst h; exact .nil)

theorem C_R_BitList (F : Nat) (x1 : Int) (x2 : List Int) (a3 : Option Addr) (c4 : Nat) (r : List Int) (hm : M_R_BitList F x1 x2 = some r) :
    Pure Try.prog 27 [.agg #[.int .i64 x1, .slice a3 x2.length c4]] [Sl (eI .u8) 1 (.slice a3 x2.length c4) x2] (Option Addr × Nat) (fun g => .slice g.1 r.length g.2) (fun g => [Ro (eI .i64) 3 1 (.slice g.1 r.length g.2) r]) (fun _ => []) := by
  refine pure_of Try.func27 rfl Try.ntmps27 rfl hm (fun w => ?_)
  refine sxc_env (l' := [(0, .agg #[.int .i64 x1, .slice a3 x2.length c4])]) rfl ?_
  refine sxc_seq ?_
  refine sxc_region ?_
  refine sxo_box rfl rfl rfl (fun g5 => ?_)
  refine sxo_assign rfl rfl rfl ?_
  refine sxo_nil ?_
  refine sxq_next ?_
  refine sxc_seq ?_
  refine sxc_region ?_
  refine sxo_assign rfl rfl rfl ?_
  refine sxo_nil ?_
  refine sxq_next ?_
  refine sxc_join (fun ((x190, (a188, c189)) : (List Int × (Option Addr × Nat))) => [(3, .slice a188 x190.length c189)]) (fun ((x190, (a188, c189)) : (List Int × (Option Addr × Nat))) => []) (fun ((x190, (a188, c189)) : (List Int × (Option Addr × Nat))) => [Ro (eI .i64) 3 1 (.slice a188 x190.length c189) x190]) (fun ((x190, (a188, c189)) : (List Int × (Option Addr × Nat))) => []) (fun ((x190, _) : (List Int × (Option Addr × Nat))) => M_R_BitList_j23 F x190) ?_ ?_
  · refine sxc_seq ?_
    refine sxc_region ?_
    refine sxo_assign rfl rfl rfl ?_
    refine sxo_nil ?_
    refine sxq_next ?_
    refine sxc_block ?_
    refine sxc_nilrow Int (eI .i64) 3 1 ?_
    refine sxc_loopP (fun (((x252, x253), (a250, c251)) : ((List Int × Int) × (Option Addr × Nat))) => [(1, .pointer (some ⟨g5, 0, none⟩)), (3, .slice a250 x252.length c251), (4, .int .i64 x253)]) (fun (((x252, x253), (a250, c251)) : ((List Int × Int) × (Option Addr × Nat))) => [⟨g5, 26, [.int .i64 x1, .slice a3 x2.length c4]⟩]) (fun (((x252, x253), (a250, c251)) : ((List Int × Int) × (Option Addr × Nat))) => [Ro (eI .i64) 3 1 (.slice a250 x252.length c251) x252]) (fun (((x252, x253), (a250, c251)) : ((List Int × Int) × (Option Addr × Nat))) => [Sl (eI .u8) 1 (.slice a3 x2.length c4) x2]) (fun k (s : ((List Int × Int) × (Option Addr × Nat))) => M_R_BitList_l38 F x1 x2 k s.1) ((([] : List Int), 0), (none, 0)) F (lk_cons rfl (lk_cons rfl (lk_cons rfl lk_nil))) (.cons 0 rfl .nil) (.cons 0 rfl .nil) (fk_cons 0 rfl fk_nil) (fun _ => rfl) ?_
    intro k313
    rintro ⟨⟨x252, x253⟩, ⟨a250, c251⟩⟩
    try dsimp only
    refine sxc_meq (m' := M_R_BitList_b38 F x1 x2 (M_R_BitList_l38 F x1 x2 k313) x252 x253) rfl ?_
    refine sxc_seq ?_
    refine sxc_seq ?_
    refine sxc_region ?_
    refine sxo_move rfl rfl rfl ?_
    refine sxo_fieldAddr rfl rfl ff26_0 rfl ?_
    refine sxo_loadB (i := 0) rfl rfl tf3 rfl rfl (fun _ => rfl) rfl rfl ?_
    refine sxo_lss rfl rfl rfl rfl ?_
    refine sxo_nil ?_
    refine sxq_next ?_
    refine sxc_if rfl (fun h372 => ?_) (fun h372 => ?_)
    · refine sxc_skip ?_
      refine sxq_next ?_
      refine sxc_join (fun ((x344, (a342, c343)) : (List Int × (Option Addr × Nat))) => [(1, .pointer (some ⟨g5, 0, none⟩)), (3, .slice a342 x344.length c343), (4, .int .i64 x253)]) (fun ((x344, (a342, c343)) : (List Int × (Option Addr × Nat))) => [⟨g5, 26, [.int .i64 x1, .slice a3 x2.length c4]⟩]) (fun ((x344, (a342, c343)) : (List Int × (Option Addr × Nat))) => [Ro (eI .i64) 3 1 (.slice a342 x344.length c343) x344]) (fun ((x344, (a342, c343)) : (List Int × (Option Addr × Nat))) => [Sl (eI .u8) 1 (.slice a3 x2.length c4) x2]) (fun ((x344, _) : (List Int × (Option Addr × Nat))) => M_R_BitList_j42 F (M_R_BitList_l38 F x1 x2 k313) x253 x344) ?_ ?_
      · refine sxc_block ?_
        refine sxc_seq ?_
        refine sxc_region ?_
        refine sxo_fieldAddr rfl rfl ff26_1 rfl ?_
        refine sxo_loadB (i := 0) rfl rfl tf24 rfl rfl (fun _ => rfl) rfl rfl ?_
        refine sxo_move rfl rfl rfl ?_
        refine sxo_quo rfl rfl rfl rfl rfl ?_
        refine sxo_indexF (j := 0) (eI_ok .u8) (by decide) rfl Try.underlying24 tf5 rfl rfl rfl rfl (fun x345 e345 b346 o347 => ?_)
        refine sxo_loadF (j := 0) rfl rfl tf5 rfl rfl (fun _ => rfl) rfl rfl ?_
        refine sxo_conv rfl Try.underlying5 Try.underlying3 rfl rfl ?_
        refine sxo_assign rfl rfl rfl ?_
        refine sxo_nil ?_
        refine sxq_next ?_
        refine sxc_join (fun ((x357, _) : (Int × Unit)) => [(1, .pointer (some ⟨g5, 0, none⟩)), (3, .slice a250 x252.length c251), (4, .int .i64 x253), (5, .int .i64 x357)]) (fun ((x357, _) : (Int × Unit)) => [⟨g5, 26, [.int .i64 x1, .slice a3 x2.length c4]⟩]) (fun ((x357, _) : (Int × Unit)) => [Ro (eI .i64) 3 1 (.slice a250 x252.length c251) x252]) (fun ((x357, _) : (Int × Unit)) => [Sl (eI .u8) 1 (.slice a3 x2.length c4) x2]) (fun ((x357, _) : (Int × Unit)) => M_R_BitList_j44 F (M_R_BitList_l38 F x1 x2 k313) x252 x253 x357) ?_ ?_
        · refine sxc_seq ?_
          refine sxc_region ?_
          refine sxo_assign rfl rfl rfl ?_
          refine sxo_nil ?_
          refine sxq_next ?_
          refine sxc_block ?_
          refine sxc_loopP (fun (((x365, x366), _) : ((Int × Int) × Unit)) => [(1, .pointer (some ⟨g5, 0, none⟩)), (3, .slice a250 x252.length c251), (4, .int .i64 x253), (5, .int .i64 x365), (6, .int .i64 x366)]) (fun (((x365, x366), _) : ((Int × Int) × Unit)) => [⟨g5, 26, [.int .i64 x1, .slice a3 x2.length c4]⟩]) (fun (((x365, x366), _) : ((Int × Int) × Unit)) => [Ro (eI .i64) 3 1 (.slice a250 x252.length c251) x252]) (fun (((x365, x366), _) : ((Int × Int) × Unit)) => [Sl (eI .u8) 1 (.slice a3 x2.length c4) x2]) (fun k (s : ((Int × Int) × Unit)) => M_R_BitList_l45 F (M_R_BitList_l38 F x1 x2 k313) x252 x253 k s.1) ((iconv .i64 x345, 0), ()) F (lk_cons rfl (lk_cons rfl (lk_cons rfl (lk_cons rfl (lk_cons rfl lk_nil))))) (.cons 0 rfl .nil) (.cons 0 rfl .nil) (fk_cons 1 rfl fk_nil) (fun _ => rfl) ?_
          intro k369
          rintro ⟨⟨x365, x366⟩, _⟩
          try dsimp only
          refine sxc_meq (m' := M_R_BitList_b45 F (M_R_BitList_l38 F x1 x2 k313) x252 x253 (M_R_BitList_l45 F (M_R_BitList_l38 F x1 x2 k313) x252 x253 k369) x365 x366) rfl ?_
          refine sxc_seq ?_
          refine sxc_seq ?_
          refine sxc_region ?_
          refine sxo_move rfl rfl rfl ?_
          refine sxo_move rfl rfl rfl ?_
          refine sxo_rem rfl rfl rfl rfl rfl ?_
          refine sxo_sub rfl rfl rfl rfl ?_
          refine sxo_lss rfl rfl rfl rfl ?_
          refine sxo_nil ?_
          refine sxq_next ?_
          refine sxc_if rfl (fun h371 => ?_) (fun h371 => ?_)
          · refine sxc_skip ?_
            refine sxq_next ?_
            refine sxc_seq ?_
            refine sxc_block ?_
            refine sxc_region ?_
            refine sxo_move rfl rfl rfl ?_
            refine sxo_quo rfl rfl rfl rfl rfl ?_
            refine sxo_assign rfl rfl rfl ?_
            refine sxo_nil ?_
            refine sxq_blkN ?_
            refine sxq_next ?_
            refine sxc_region ?_
            refine sxo_move rfl rfl rfl ?_
            refine sxo_add rfl rfl rfl rfl ?_
            refine sxo_assign rfl rfl rfl ?_
            refine sxo_nil ?_
            exact sxq_againP ((iquo .i64 x365 2, iadd .i64 x366 1), ()) (lk_cons rfl (lk_cons rfl (lk_cons rfl (lk_cons rfl (lk_cons rfl lk_nil))))) (.cons 0 rfl .nil) (.cons 0 rfl .nil) (fk_cons 0 rfl fk_nil)
          · refine sxc_exit ?_
            refine sxq_thenX ?_
            refine sxq_thenX ?_
            refine sxq_blkX ?_
            exact sxq_meetP (x365, ()) (lk_cons rfl (lk_cons rfl (lk_cons rfl (lk_cons rfl lk_nil)))) (.cons 0 rfl .nil) (.cons 0 rfl .nil) (fk_cons 0 rfl fk_nil)
        · rintro ⟨x357, _⟩
          try dsimp only
          refine sxc_region ?_
          refine sxo_move rfl rfl rfl ?_
          refine sxo_move rfl rfl rfl ?_
          refine sxo_rem rfl rfl rfl rfl rfl ?_
          refine sxo_slit (vs := [.int .i64 (irem x357 2)]) (ys := ([irem x357 2] : List Int)) (eI_ok .i64) (by decide) rfl Try.underlying23 tf3 rfl rfl rfl rfl rfl (by decide) (fun a358 c359 => ?_)
          refine sxo_app 1 (eI_ok .i64) rfl Try.underlying23 tf3 rfl rfl rfl rfl rfl (.inl ⟨0, _, rfl⟩) rfl rfl (fun x360 e360 a361 c362 => ?_)
          refine sxo_assign rfl rfl rfl ?_
          refine sxo_nil ?_
          refine sxq_blkN ?_
          exact sxq_meetP (x360, (a361, c362)) (lk_cons rfl (lk_cons rfl (lk_cons rfl lk_nil))) (.cons 0 rfl .nil) (.cons 0 rfl .nil) (fk_cons 0 rfl fk_nil)
      · rintro ⟨x344, ⟨a342, c343⟩⟩
        try dsimp only
        refine sxc_region ?_
        refine sxo_move rfl rfl rfl ?_
        refine sxo_add rfl rfl rfl rfl ?_
        refine sxo_assign rfl rfl rfl ?_
        refine sxo_nil ?_
        exact sxq_againP ((x344, iadd .i64 x253 1), (a342, c343)) (lk_cons rfl (lk_cons rfl (lk_cons rfl lk_nil))) (.cons 0 rfl .nil) (.cons 0 rfl .nil) (fk_cons 0 rfl fk_nil)
    · refine sxc_exit ?_
      refine sxq_thenX ?_
      refine sxq_thenX ?_
      refine sxq_blkX ?_
      exact sxq_meetP (x252, (a250, c251)) (lk_cons rfl lk_nil) .nil (.cons 0 rfl .nil) fk_nil
  · rintro ⟨x190, ⟨a188, c189⟩⟩
    try dsimp only
    refine sxc_seq ?_
    refine sxc_region ?_
    refine sxo_move rfl rfl rfl ?_
    refine sxo_assign rfl rfl rfl ?_
    refine sxo_nil ?_
    refine sxq_next ?_
    refine sxc_ret ?_
    exact sxq_doneP (a188, c189) (.inl rfl) (res1 rfl rfl) (fun h => by subst h; rfl) (fun h => by subst h; exact (.cons 0 rfl .nil))

theorem C_R_BitsCheck (F : Nat) (x1 : Int) (x2 : List Int) (a3 : Option Addr) (c4 : Nat) (r : Int) (hm : M_R_BitsCheck F x1 x2 = some r) :
    Pure Try.prog 53 [.agg #[.int .i64 x1, .slice a3 x2.length c4]] [Sl (eI .u8) 1 (.slice a3 x2.length c4) x2] Unit (fun _ => .int .i64 r) (fun _ => []) (fun _ => []) := by
  refine pure_of Try.func53 rfl Try.ntmps53 rfl hm (fun w => ?_)
  refine sxc_env (l' := [(0, .agg #[.int .i64 x1, .slice a3 x2.length c4])]) rfl ?_
  refine sxc_seq ?_
  refine sxc_region ?_
  refine sxo_box rfl rfl rfl (fun g5 => ?_)
  refine sxo_assign rfl rfl rfl ?_
  refine sxo_nil ?_
  refine sxq_next ?_
  refine sxc_seq ?_
  refine sxc_seq ?_
  refine sxc_region ?_
  refine sxo_fieldAddr rfl rfl ff26_0 rfl ?_
  refine sxo_loadB (i := 0) rfl rfl tf3 rfl rfl (fun _ => rfl) rfl rfl ?_
  refine sxo_call ent52 rfl rfl rfl (fun x8 e8 => C_R_between F x1 0 8192 x8 e8) .nil (fun x8 e8 => ?_)
  intro _
  refine sxo_not rfl rfl rfl ?_
  refine sxo_nil ?_
  refine sxq_next ?_
  refine sxc_if rfl (fun h81 => ?_) (fun h81 => ?_)
  · refine sxc_seq ?_
    refine sxc_region ?_
    refine sxo_assign rfl rfl rfl ?_
    refine sxo_nil ?_
    refine sxq_next ?_
    refine sxc_ret ?_
    refine sxq_thenR ?_
    exact sxq_doneP () (.inl rfl) (res1 rfl rfl) (fun h => by subst h; rfl) (fun h => by subst h; exact .nil)
  · refine sxc_skip ?_
    refine sxq_next ?_
    refine sxc_seq ?_
    refine sxc_region ?_
    refine sxo_fieldAddr rfl rfl ff26_0 rfl ?_
    refine sxo_loadB (i := 0) rfl rfl tf3 rfl rfl (fun _ => rfl) rfl rfl ?_
    refine sxo_quo rfl rfl rfl rfl rfl ?_
    refine sxo_assign rfl rfl rfl ?_
    refine sxo_nil ?_
    refine sxq_next ?_
    refine sxc_join (fun ((x10, _) : (Int × Unit)) => [(1, .pointer (some ⟨g5, 0, none⟩)), (3, .int .i64 x10)]) (fun ((x10, _) : (Int × Unit)) => [⟨g5, 26, [.int .i64 x1, .slice a3 x2.length c4]⟩]) (fun ((x10, _) : (Int × Unit)) => []) (fun ((x10, _) : (Int × Unit)) => [Sl (eI .u8) 1 (.slice a3 x2.length c4) x2]) (fun ((x10, _) : (Int × Unit)) => M_R_BitsCheck_j1 F x1 x2 x10) ?_ ?_
    · refine sxc_seq ?_
      refine sxc_region ?_
      refine sxo_fieldAddr rfl rfl ff26_0 rfl ?_
      refine sxo_loadB (i := 0) rfl rfl tf3 rfl rfl (fun _ => rfl) rfl rfl ?_
      refine sxo_rem rfl rfl rfl rfl rfl ?_
      refine sxo_gtr rfl rfl rfl rfl ?_
      refine sxo_nil ?_
      refine sxq_next ?_
      refine sxc_if rfl (fun h80 => ?_) (fun h80 => ?_)
      · refine sxc_region ?_
        refine sxo_move rfl rfl rfl ?_
        refine sxo_add rfl rfl rfl rfl ?_
        refine sxo_assign rfl rfl rfl ?_
        refine sxo_nil ?_
        exact sxq_meetP (iadd .i64 (iquo .i64 x1 8) 1, ()) (lk_cons rfl (lk_cons rfl lk_nil)) (.cons 0 rfl .nil) .nil (fk_cons 0 rfl fk_nil)
      · refine sxc_skip ?_
        exact sxq_meetP (iquo .i64 x1 8, ()) (lk_cons rfl (lk_cons rfl lk_nil)) (.cons 0 rfl .nil) .nil (fk_cons 0 rfl fk_nil)
    · rintro ⟨x10, _⟩
      try dsimp only
      refine sxc_seq ?_
      refine sxc_seq ?_
      refine sxc_region ?_
      refine sxo_fieldAddr rfl rfl ff26_1 rfl ?_
      refine sxo_loadB (i := 0) rfl rfl tf24 rfl rfl (fun _ => rfl) rfl rfl ?_
      refine sxo_len rfl Try.underlying24 rfl rfl ?_
      refine sxo_move rfl rfl rfl ?_
      refine sxo_neq rfl rfl rfl rfl ?_
      refine sxo_nil ?_
      refine sxq_next ?_
      refine sxc_if rfl (fun h79 => ?_) (fun h79 => ?_)
      · refine sxc_seq ?_
        refine sxc_region ?_
        refine sxo_assign rfl rfl rfl ?_
        refine sxo_nil ?_
        refine sxq_next ?_
        refine sxc_ret ?_
        refine sxq_thenR ?_
        exact sxq_doneP () (.inl rfl) (res1 rfl rfl) (fun h => by subst h; rfl) (fun h => by subst h; exact .nil)
      · refine sxc_skip ?_
        refine sxq_next ?_
        refine sxc_seq ?_
        refine sxc_region ?_
        refine sxo_move rfl rfl rfl ?_
        refine sxo_mul rfl rfl rfl rfl ?_
        refine sxo_fieldAddr rfl rfl ff26_1 rfl ?_
        refine sxo_loadB (i := 0) rfl rfl tf24 rfl rfl (fun _ => rfl) rfl rfl ?_
        refine sxo_build (cells := [.int .i64 (imul .i64 8 x10), .slice a3 x2.length c4]) rfl st26 rfl (by kernel_rfl) rfl ?_
        refine sxo_call ent27 rfl rfl rfl (fun x12 e12 => C_R_BitList F (imul .i64 8 x10) x2 a3 c4 x12 e12) (.consF 0 rfl .nil) (fun x12 e12 => ?_)
        rintro ⟨a13, c14⟩
        refine sxo_assign rfl rfl rfl ?_
        refine sxo_nil ?_
        refine sxq_next ?_
        refine sxc_join (fun ((_, _) : (Unit × Unit)) => []) (fun ((_, _) : (Unit × Unit)) => []) (fun ((_, _) : (Unit × Unit)) => []) (fun ((_, _) : (Unit × Unit)) => []) (fun ((_, _) : (Unit × Unit)) => M_R_BitsCheck_j3 F) ?_ ?_
        · refine sxc_seq ?_
          refine sxc_region ?_
          refine sxo_fieldAddr rfl rfl ff26_0 rfl ?_
          refine sxo_loadB (i := 0) rfl rfl tf3 rfl rfl (fun _ => rfl) rfl rfl ?_
          refine sxo_assign rfl rfl rfl ?_
          refine sxo_nil ?_
          refine sxq_next ?_
          refine sxc_block ?_
          refine sxc_loopP (fun ((x57, _) : (Int × Unit)) => [(4, .slice a13 x12.length c14), (5, .int .i64 x57)]) (fun ((x57, _) : (Int × Unit)) => []) (fun ((x57, _) : (Int × Unit)) => [Ro (eI .i64) 3 1 (.slice a13 x12.length c14) x12]) (fun ((x57, _) : (Int × Unit)) => []) (fun k (s : (Int × Unit)) => M_R_BitsCheck_l4 F x12 k s.1) (x1, ()) F (lk_cons rfl (lk_cons rfl lk_nil)) .nil (.cons 0 rfl .nil) fk_nil (fun _ => rfl) ?_
          intro k68
          rintro ⟨x57, _⟩
          try dsimp only
          refine sxc_meq (m' := M_R_BitsCheck_b4 F x12 (M_R_BitsCheck_l4 F x12 k68) x57) rfl ?_
          refine sxc_seq ?_
          refine sxc_seq ?_
          refine sxc_region ?_
          refine sxo_move rfl rfl rfl ?_
          refine sxo_move rfl rfl rfl ?_
          refine sxo_len rfl Try.underlying23 rfl rfl ?_
          refine sxo_lss rfl rfl rfl rfl ?_
          refine sxo_nil ?_
          refine sxq_next ?_
          refine sxc_if rfl (fun h78 => ?_) (fun h78 => ?_)
          · refine sxc_skip ?_
            refine sxq_next ?_
            refine sxc_seq ?_
            refine sxc_block ?_
            refine sxc_seq ?_
            refine sxc_region ?_
            refine sxo_move rfl rfl rfl ?_
            refine sxo_move rfl rfl rfl ?_
            refine sxo_indexR (j := 0) rfl Try.underlying23 tf3 rfl rfl rfl rfl (fun x74 e74 g75 h76 => ?_)
            refine sxo_loadR (j := 0) (y := x74) (eI_ok .i64) rfl rfl tf3 rfl h76 (idx_get e74).2.2 (fun _ => rfl) rfl rfl ?_
            refine sxo_neq rfl rfl rfl rfl ?_
            refine sxo_nil ?_
            refine sxq_next ?_
            refine sxc_if rfl (fun h77 => ?_) (fun h77 => ?_)
            · refine sxc_seq ?_
              refine sxc_region ?_
              refine sxo_assign rfl rfl rfl ?_
              refine sxo_nil ?_
              refine sxq_next ?_
              refine sxc_ret ?_
              refine sxq_blkR ?_
              refine sxq_thenR ?_
              refine sxq_thenR ?_
              refine sxq_blkR ?_
              refine sxq_thenR ?_
              exact sxq_doneP () (.inl rfl) (res1 rfl rfl) (fun h => by subst h; rfl) (fun h => by subst h; exact .nil)
            · refine sxc_skip ?_
              refine sxq_blkN ?_
              refine sxq_next ?_
              refine sxc_region ?_
              refine sxo_move rfl rfl rfl ?_
              refine sxo_add rfl rfl rfl rfl ?_
              refine sxo_assign rfl rfl rfl ?_
              refine sxo_nil ?_
              exact sxq_againP (iadd .i64 x57 1, ()) (lk_cons rfl (lk_cons rfl lk_nil)) .nil (.cons 0 rfl .nil) fk_nil
          · refine sxc_exit ?_
            refine sxq_thenX ?_
            refine sxq_thenX ?_
            refine sxq_blkX ?_
            exact sxq_meetP ((), ()) lk_nil .nil .nil fk_nil
        · rintro ⟨_, _⟩
          try dsimp only
          refine sxc_seq ?_
          refine sxc_region ?_
          refine sxo_assign rfl rfl rfl ?_
          refine sxo_nil ?_
          refine sxq_next ?_
          refine sxc_ret ?_
          exact sxq_doneP () (.inl rfl) (res1 rfl rfl) (fun h => by subst h; rfl) (fun h => by subst h; exact .nil)

theorem C_R_ReadErr (F : Nat) (x1 : Int) (x2 : List Int) (a3 : Option Addr) (c4 : Nat) (x5 : Int) (r : Int) (hm : M_R_ReadErr F x1 x2 x5 = some r) :
    Pure Try.prog 25 [.agg #[.int .i64 x1, .slice a3 x2.length c4], .int .i64 x5] [Sl (eI .u8) 1 (.slice a3 x2.length c4) x2] Unit (fun _ => .int .i64 r) (fun _ => []) (fun _ => []) := by
  refine pure_of Try.func25 rfl Try.ntmps25 rfl hm (fun w => ?_)
  refine sxc_env (l' := [(0, .agg #[.int .i64 x1, .slice a3 x2.length c4]), (1, .int .i64 x5)]) rfl ?_
  refine sxc_seq ?_
  refine sxc_region ?_
  refine sxo_box rfl rfl rfl (fun g6 => ?_)
  refine sxo_assign rfl rfl rfl ?_
  refine sxo_nil ?_
  refine sxq_next ?_
  refine sxc_seq ?_
  refine sxc_region ?_
  refine sxo_loadB (i := 0) rfl rfl tf26 rfl rfl (by simp) rfl rfl ?_
  refine sxo_call ent53 rfl rfl rfl (fun x7 e7 => C_R_BitsCheck F x1 x2 a3 c4 x7 e7) (.consF 0 rfl .nil) (fun x7 e7 => ?_)
  intro _
  refine sxo_assign rfl rfl rfl ?_
  refine sxo_nil ?_
  refine sxq_next ?_
  refine sxc_join (fun ((x13, _) : (Int × Unit)) => [(5, .int .i64 x13)]) (fun ((x13, _) : (Int × Unit)) => []) (fun ((x13, _) : (Int × Unit)) => []) (fun ((x13, _) : (Int × Unit)) => []) (fun ((x13, _) : (Int × Unit)) => M_R_ReadErr_j2 F x13) ?_ ?_
  · refine sxc_seq ?_
    refine sxc_region ?_
    refine sxo_move rfl rfl rfl ?_
    refine sxo_eql rfl rfl rfl rfl ?_
    refine sxo_move rfl rfl rfl ?_
    refine sxo_join 6 (fun ((x16, _) : (Bool × Unit)) => [(5, .int .i64 x7), (16, .bool x16)]) (fun ((x16, _) : (Bool × Unit)) => []) (fun ((x16, _) : (Bool × Unit)) => []) (fun ((x16, _) : (Bool × Unit)) => []) (fun ((x16, _) : (Bool × Unit)) => M_R_ReadErr_j3 F x7 x16) ?_ ?_
    · refine sxo_take (os := _) rfl ?_
      refine sxo_if (fun h14 => ?_) (fun h14 => ?_)
      · refine sxo_isT (k := 10) rfl h14 ?_
        refine sxo_move rfl rfl rfl ?_
        refine sxo_fieldAddr rfl rfl ff26_0 rfl ?_
        refine sxo_loadB (i := 0) rfl rfl tf3 rfl rfl (fun _ => rfl) rfl rfl ?_
        refine sxo_call ent52 rfl rfl rfl (fun x18 e18 => C_R_between F x5 0 x1 x18 e18) .nil (fun x18 e18 => ?_)
        intro _
        refine sxo_not rfl rfl rfl ?_
        refine sxo_pick (b := true) rfl rfl rfl rfl ?_
        refine sxo_nil ?_
        exact sxq_meetP ((!x18), ()) (lk_cons rfl (lk_cons rfl lk_nil)) .nil .nil fk_nil
      · refine sxo_isF (k := 10) rfl h14 ?_
        refine sxo_skip rfl rfl rfl ?_
        refine sxo_skip rfl rfl rfl ?_
        refine sxo_skip rfl rfl rfl ?_
        refine sxo_skip rfl rfl rfl ?_
        refine sxo_skip rfl rfl rfl ?_
        refine sxo_pick (b := false) rfl rfl rfl rfl ?_
        refine sxo_nil ?_
        exact sxq_meetP (false, ()) (lk_cons rfl (lk_cons rfl lk_nil)) .nil .nil fk_nil
    · rintro ⟨x16, _⟩
      try dsimp only
      refine sxo_take (os := _) rfl ?_
      refine sxo_nil ?_
      refine sxq_next ?_
      refine sxc_if rfl (fun h17 => ?_) (fun h17 => ?_)
      · refine sxc_region ?_
        refine sxo_assign rfl rfl rfl ?_
        refine sxo_nil ?_
        exact sxq_meetP (3, ()) (lk_cons rfl lk_nil) .nil .nil fk_nil
      · refine sxc_skip ?_
        exact sxq_meetP (x7, ()) (lk_cons rfl lk_nil) .nil .nil fk_nil
  · rintro ⟨x13, _⟩
    try dsimp only
    refine sxc_seq ?_
    refine sxc_region ?_
    refine sxo_move rfl rfl rfl ?_
    refine sxo_assign rfl rfl rfl ?_
    refine sxo_nil ?_
    refine sxq_next ?_
    refine sxc_ret ?_
    exact sxq_doneP () (.inl rfl) (res1 rfl rfl) (fun h => by subst h; rfl) (fun h => by subst h; exact .nil)

set_option maxHeartbeats 4000000 in
theorem C_R_FibRead (F : Nat) (x1 : List Int) (a2 : Option Addr) (c3 : Nat) (x4 : Int) (r : (Int × Int × Int)) (hm : M_R_FibRead F x1 x4 = some r) :
    Pure Try.prog 26 [.slice a2 x1.length c3, .int .i64 x4] [Sl (eI .i64) 1 (.slice a2 x1.length c3) x1] Unit (fun _ => .tuple #[.int .u64 r.1, .int .i64 r.2.1, .int .i64 r.2.2]) (fun _ => []) (fun _ => []) := by
  refine pure_of Try.func26 rfl Try.ntmps26 rfl hm (fun w => ?_)
  refine sxc_env (l' := [(0, .slice a2 x1.length c3), (1, .int .i64 x4)]) rfl ?_
  refine sxc_seq ?_
  refine sxc_region ?_
  refine sxo_assign rfl rfl rfl ?_
  refine sxo_assign rfl rfl rfl ?_
  refine sxo_assign rfl rfl rfl ?_
  refine sxo_nil ?_
  refine sxq_next ?_
  refine sxc_seq ?_
  refine sxc_region ?_
  refine sxo_move rfl rfl rfl ?_
  refine sxo_assign rfl rfl rfl ?_
  refine sxo_nil ?_
  refine sxq_next ?_
  refine sxc_join (fun ((x169, _) : (Int × Unit)) => [(0, .slice a2 x1.length c3), (1, .int .i64 x4), (7, .int .i64 x169)]) (fun ((x169, _) : (Int × Unit)) => []) (fun ((x169, _) : (Int × Unit)) => []) (fun ((x169, _) : (Int × Unit)) => [Sl (eI .i64) 1 (.slice a2 x1.length c3) x1]) (fun ((x169, _) : (Int × Unit)) => M_R_FibRead_j20 F x1 x4 x169) ?_ ?_
  · refine sxc_block ?_
    refine sxc_loopP (fun ((x309, _) : (Int × Unit)) => [(0, .slice a2 x1.length c3), (1, .int .i64 x4), (7, .int .i64 x309)]) (fun ((x309, _) : (Int × Unit)) => []) (fun ((x309, _) : (Int × Unit)) => []) (fun ((x309, _) : (Int × Unit)) => [Sl (eI .i64) 1 (.slice a2 x1.length c3) x1]) (fun k (s : (Int × Unit)) => M_R_FibRead_l36 F x1 x4 k s.1) (x4, ()) F (lk_cons rfl (lk_cons rfl (lk_cons rfl lk_nil))) .nil .nil (fk_cons 0 rfl fk_nil) (fun _ => rfl) ?_
    intro k364
    rintro ⟨x309, _⟩
    try dsimp only
    refine sxc_meq (m' := M_R_FibRead_b36 F x1 x4 (M_R_FibRead_l36 F x1 x4 k364) x309) rfl ?_
    refine sxc_seq ?_
    refine sxc_seq ?_
    refine sxc_region ?_
    refine sxo_move rfl rfl rfl ?_
    refine sxo_add rfl rfl rfl rfl ?_
    refine sxo_move rfl rfl rfl ?_
    refine sxo_len rfl Try.underlying23 rfl rfl ?_
    refine sxo_lss rfl rfl rfl rfl ?_
    refine sxo_move rfl rfl rfl ?_
    refine sxo_join 15 (fun ((x405, _) : (Bool × Unit)) => [(0, .slice a2 x1.length c3), (1, .int .i64 x4), (7, .int .i64 x309), (31, .bool x405)]) (fun ((x405, _) : (Bool × Unit)) => []) (fun ((x405, _) : (Bool × Unit)) => []) (fun ((x405, _) : (Bool × Unit)) => [Sl (eI .i64) 1 (.slice a2 x1.length c3) x1]) (fun ((x405, _) : (Bool × Unit)) => M_R_FibRead_j41 F (M_R_FibRead_l36 F x1 x4 k364) x1 x4 x309 x405) ?_ ?_
    · refine sxo_take (os := _) rfl ?_
      refine sxo_if (fun h392 => ?_) (fun h392 => ?_)
      · refine sxo_isT (k := 16) rfl h392 ?_
        refine sxo_move rfl rfl rfl ?_
        refine sxo_move rfl rfl rfl ?_
        refine sxo_indexF (j := 0) (eI_ok .i64) (by decide) rfl Try.underlying23 tf3 rfl rfl rfl rfl (fun x407 e407 b408 o409 => ?_)
        refine sxo_loadF (j := 0) rfl rfl tf3 rfl rfl (fun _ => rfl) rfl rfl ?_
        refine sxo_eql rfl rfl rfl rfl ?_
        refine sxo_move rfl rfl rfl ?_
        refine sxo_join 7 (fun (((x414, x415), _) : ((Bool × Bool) × Unit)) => [(0, .slice a2 x1.length c3), (1, .int .i64 x4), (7, .int .i64 x309), (16, .bool true), (17, .slice a2 x1.length c3), (18, .int .i64 x309), (19, .pointer (some ⟨b408, o409, none⟩)), (20, .int .i64 x407), (21, .bool ((x407 : Int) == 1)), (22, .bool x414), (29, .bool x415)]) (fun (((x414, x415), _) : ((Bool × Bool) × Unit)) => []) (fun (((x414, x415), _) : ((Bool × Bool) × Unit)) => []) (fun (((x414, x415), _) : ((Bool × Bool) × Unit)) => [Sl (eI .i64) 1 (.slice a2 x1.length c3) x1]) (fun (((x414, x415), _) : ((Bool × Bool) × Unit)) => M_R_FibRead_j42 F (M_R_FibRead_l36 F x1 x4 k364) x1 x4 x309 x414 x415) ?_ ?_
        · refine sxo_take (os := _) rfl ?_
          refine sxo_if (fun h410 => ?_) (fun h410 => ?_)
          · refine sxo_isT (k := 22) rfl h410 ?_
            refine sxo_move rfl rfl rfl ?_
            refine sxo_move rfl rfl rfl ?_
            refine sxo_add rfl rfl rfl rfl ?_
            refine sxo_indexF (j := 1) (eI_ok .i64) (by decide) rfl Try.underlying23 tf3 rfl rfl rfl rfl (fun x416 e416 b417 o418 => ?_)
            refine sxo_loadF (j := 0) rfl rfl tf3 rfl rfl (fun _ => rfl) rfl rfl ?_
            refine sxo_eql rfl rfl rfl rfl ?_
            refine sxo_pick (b := true) rfl rfl rfl rfl ?_
            refine sxo_nil ?_
            exact sxq_meetP ((true, ((x416 : Int) == 1)), ()) (lk_cons rfl (lk_cons rfl (lk_cons rfl (lk_cons rfl (lk_cons rfl (lk_cons rfl (lk_cons rfl (lk_cons rfl (lk_cons rfl (lk_cons rfl (lk_cons rfl lk_nil))))))))))) .nil .nil (fk_cons 2 rfl fk_nil)
          · refine sxo_isF (k := 22) rfl h410 ?_
            refine sxo_skip rfl rfl rfl ?_
            refine sxo_skip rfl rfl rfl ?_
            refine sxo_skip rfl rfl rfl ?_
            refine sxo_skip rfl rfl rfl ?_
            refine sxo_skip rfl rfl rfl ?_
            refine sxo_skip rfl rfl rfl ?_
            refine sxo_pick (b := false) rfl rfl rfl rfl ?_
            refine sxo_nil ?_
            exact sxq_meetP ((false, false), ()) (lk_cons rfl (lk_cons rfl (lk_cons rfl (lk_cons rfl (lk_cons rfl (lk_cons rfl (lk_cons rfl (lk_cons rfl (lk_cons rfl (lk_cons rfl (lk_cons rfl lk_nil))))))))))) .nil .nil (fk_cons 1 rfl fk_nil)
        · rintro ⟨⟨x414, x415⟩, _⟩
          try dsimp only
          refine sxo_take (os := _) rfl ?_
          refine sxo_not rfl rfl rfl ?_
          refine sxo_pick (b := true) rfl rfl rfl rfl ?_
          refine sxo_nil ?_
          exact sxq_meetP ((!x415), ()) (lk_cons rfl (lk_cons rfl (lk_cons rfl (lk_cons rfl lk_nil)))) .nil .nil (fk_cons 0 rfl fk_nil)
      · refine sxo_isF (k := 16) rfl h392 ?_
        refine sxo_skip rfl rfl rfl ?_
        refine sxo_skip rfl rfl rfl ?_
        refine sxo_skip rfl rfl rfl ?_
        refine sxo_skip rfl rfl rfl ?_
        refine sxo_skip rfl rfl rfl ?_
        refine sxo_skip rfl rfl rfl ?_
        refine sxo_skip rfl rfl rfl ?_
        refine sxo_skip rfl rfl rfl ?_
        refine sxo_skip rfl rfl rfl ?_
        refine sxo_skip rfl rfl rfl ?_
        refine sxo_skip rfl rfl rfl ?_
        refine sxo_skip rfl rfl rfl ?_
        refine sxo_skip rfl rfl rfl ?_
        refine sxo_skip rfl rfl rfl ?_
        refine sxo_pick (b := false) rfl rfl rfl rfl ?_
        refine sxo_nil ?_
        exact sxq_meetP (false, ()) (lk_cons rfl (lk_cons rfl (lk_cons rfl (lk_cons rfl lk_nil)))) .nil .nil (fk_cons 0 rfl fk_nil)
    · rintro ⟨x405, _⟩
      try dsimp only
      refine sxo_take (os := _) rfl ?_
      refine sxo_nil ?_
      refine sxq_next ?_
      refine sxc_if rfl (fun h406 => ?_) (fun h406 => ?_)
      · refine sxc_skip ?_
        refine sxq_next ?_
        refine sxc_block ?_
        refine sxc_region ?_
        refine sxo_move rfl rfl rfl ?_
        refine sxo_add rfl rfl rfl rfl ?_
        refine sxo_assign rfl rfl rfl ?_
        refine sxo_nil ?_
        refine sxq_blkN ?_
        exact sxq_againP (iadd .i64 x309 1, ()) (lk_cons rfl (lk_cons rfl (lk_cons rfl lk_nil))) .nil .nil (fk_cons 0 rfl fk_nil)
      · refine sxc_exit ?_
        refine sxq_thenX ?_
        refine sxq_thenX ?_
        refine sxq_blkX ?_
        exact sxq_meetP (x309, ()) (lk_cons rfl (lk_cons rfl (lk_cons rfl lk_nil))) .nil .nil (fk_cons 0 rfl fk_nil)
  · rintro ⟨x169, _⟩
    try dsimp only
    refine sxc_seq ?_
    refine sxc_seq ?_
    refine sxc_region ?_
    refine sxo_move rfl rfl rfl ?_
    refine sxo_add rfl rfl rfl rfl ?_
    refine sxo_move rfl rfl rfl ?_
    refine sxo_len rfl Try.underlying23 rfl rfl ?_
    refine sxo_geq rfl rfl rfl rfl ?_
    refine sxo_nil ?_
    refine sxq_next ?_
    refine sxc_if rfl (fun h254 => ?_) (fun h254 => ?_)
    · refine sxc_seq ?_
      refine sxc_region ?_
      refine sxo_assign rfl rfl rfl ?_
      refine sxo_assign rfl rfl rfl ?_
      refine sxo_assign rfl rfl rfl ?_
      refine sxo_nil ?_
      refine sxq_next ?_
      refine sxc_ret ?_
      refine sxq_thenR ?_
      exact sxq_doneP () (.inl rfl) (res3 rfl rfl rfl rfl) (fun h => by subst h; rfl) (fun h => by subst h; exact .nil)
    · refine sxc_skip ?_
      refine sxq_next ?_
      refine sxc_seq ?_
      refine sxc_seq ?_
      refine sxc_region ?_
      refine sxo_move rfl rfl rfl ?_
      refine sxo_move rfl rfl rfl ?_
      refine sxo_sub rfl rfl rfl rfl ?_
      refine sxo_gtr rfl rfl rfl rfl ?_
      refine sxo_nil ?_
      refine sxq_next ?_
      refine sxc_if rfl (fun h253 => ?_) (fun h253 => ?_)
      · refine sxc_seq ?_
        refine sxc_region ?_
        refine sxo_assign rfl rfl rfl ?_
        refine sxo_assign rfl rfl rfl ?_
        refine sxo_assign rfl rfl rfl ?_
        refine sxo_nil ?_
        refine sxq_next ?_
        refine sxc_ret ?_
        refine sxq_thenR ?_
        exact sxq_doneP () (.inl rfl) (res3 rfl rfl rfl rfl) (fun h => by subst h; rfl) (fun h => by subst h; exact .nil)
      · refine sxc_skip ?_
        refine sxq_next ?_
        refine sxc_seq ?_
        refine sxc_region ?_
        refine sxo_assign rfl rfl rfl ?_
        refine sxo_nil ?_
        refine sxq_next ?_
        refine sxc_join (fun ((x211, _) : (Int × Unit)) => [(7, .int .i64 x169), (8, .int .u64 x211)]) (fun ((x211, _) : (Int × Unit)) => []) (fun ((x211, _) : (Int × Unit)) => []) (fun ((x211, _) : (Int × Unit)) => []) (fun ((x211, _) : (Int × Unit)) => M_R_FibRead_j22 F x169 x211) ?_ ?_
        · refine sxc_seq ?_
          refine sxc_region ?_
          refine sxo_move rfl rfl rfl ?_
          refine sxo_assign rfl rfl rfl ?_
          refine sxo_nil ?_
          refine sxq_next ?_
          refine sxc_block ?_
          refine sxc_loopP (fun (((x226, x227), _) : ((Int × Int) × Unit)) => [(0, .slice a2 x1.length c3), (1, .int .i64 x4), (7, .int .i64 x169), (8, .int .u64 x226), (9, .int .i64 x227)]) (fun (((x226, x227), _) : ((Int × Int) × Unit)) => []) (fun (((x226, x227), _) : ((Int × Int) × Unit)) => []) (fun (((x226, x227), _) : ((Int × Int) × Unit)) => [Sl (eI .i64) 1 (.slice a2 x1.length c3) x1]) (fun k (s : ((Int × Int) × Unit)) => M_R_FibRead_l23 F x1 x4 x169 k s.1) ((0, x4), ()) F (lk_cons rfl (lk_cons rfl (lk_cons rfl (lk_cons rfl (lk_cons rfl lk_nil))))) .nil .nil (fk_cons 0 rfl fk_nil) (fun _ => rfl) ?_
          intro k240
          rintro ⟨⟨x226, x227⟩, _⟩
          try dsimp only
          refine sxc_meq (m' := M_R_FibRead_b23 F x1 x4 x169 (M_R_FibRead_l23 F x1 x4 x169 k240) x226 x227) rfl ?_
          refine sxc_seq ?_
          refine sxc_seq ?_
          refine sxc_region ?_
          refine sxo_move rfl rfl rfl ?_
          refine sxo_move rfl rfl rfl ?_
          refine sxo_leq rfl rfl rfl rfl ?_
          refine sxo_nil ?_
          refine sxq_next ?_
          refine sxc_if rfl (fun h252 => ?_) (fun h252 => ?_)
          · refine sxc_skip ?_
            refine sxq_next ?_
            refine sxc_seq ?_
            refine sxc_block ?_
            refine sxc_idxF (j := 0) (eI_ok .i64) (by decide) rfl (fun x247 e247 b248 o249 h250 => ?_)
            replace h250 : a2 = some ⟨b248, o249, none⟩ := h250
            refine sxb_draw mixed [] [] [CellsAt b248 (o249 + x227.toNat * 1) ((eI .i64) x247), Sl (eI .i64) 1 (.slice a2 x1.length c3) x1] .nil (gk_F 0 rfl (gk_F 1 rfl gk_nil)) 13 rfl ?_
            refine sxb_takeP 0 (.int .u64 x226) rfl rfl rfl rfl (by kernel_rfl) (by kernel_rfl) (by kernel_rfl) (by kernel_rfl) (by kernel_rfl) rfl (show _ = #[true, false, false, false, false, false, false, false, false, false, false, false, false] from rfl) (yv_pv rfl) ?_
            refine sxb_takeP 1 (.slice a2 x1.length c3) rfl rfl rfl rfl (by kernel_rfl) (by kernel_rfl) (by kernel_rfl) (by kernel_rfl) (by kernel_rfl) rfl (show _ = #[true, true, false, false, false, false, false, false, false, false, false, false, false] from rfl) (yv_pv rfl) ?_
            refine sxb_takeP 2 (.int .i64 x227) rfl rfl rfl rfl (by kernel_rfl) (by kernel_rfl) (by kernel_rfl) (by kernel_rfl) (by kernel_rfl) rfl (show _ = #[true, true, true, false, false, false, false, false, false, false, false, false, false] from rfl) (yv_pv rfl) ?_
            refine sxb_again (d := 50) (v := .slice (some ⟨b248, o249, none⟩) x1.length c3) rfl (by rw [h250]) ?_
            refine sxb_takeP 3 (.pointer (some ⟨b248, (o249 + x227.toNat * 1), none⟩)) rfl rfl rfl rfl (by kernel_rfl) (by kernel_rfl) (by kernel_rfl) (by kernel_rfl) (by kernel_rfl) rfl (show _ = #[true, true, true, true, false, false, false, false, false, false, false, false, false] from rfl) (yv_idx Try.underlying23 tf3 rfl rfl (idx_get e247).1 (idx_lt e247)) ?_
            refine sxb_again (d := 50) (v := .slice a2 x1.length c3) rfl (by rw [h250]) ?_
            refine sxb_take 4 (.int .i64 x247) [] rfl rfl rfl rfl (by kernel_rfl) (by kernel_rfl) (by kernel_rfl) (by kernel_rfl) (by kernel_rfl) (by kernel_rfl) rfl (show _ = #[true, true, true, true, true, false, false, false, false, false, false, false, false] from rfl) (yv_loadF (j := 0) rfl tf3 rfl rfl (fun _ => rfl) rfl) ?_
            refine sxb_takeP 5 (.int .u64 (iconv .u64 x247)) rfl rfl rfl rfl (by kernel_rfl) (by kernel_rfl) (by kernel_rfl) (by kernel_rfl) (by kernel_rfl) rfl (show _ = #[true, true, true, true, true, true, false, false, false, false, false, false, false] from rfl) (yv_conv Try.underlying3 Try.underlying22 rfl) ?_
            refine sxb_takeP 6 (.int .i64 x227) rfl rfl rfl rfl (by kernel_rfl) (by kernel_rfl) (by kernel_rfl) (by kernel_rfl) (by kernel_rfl) rfl (show _ = #[true, true, true, true, true, true, true, false, false, false, false, false, false] from rfl) (yv_pv rfl) ?_
            refine sxb_takeP 7 (.int .i64 x4) rfl rfl rfl rfl (by kernel_rfl) (by kernel_rfl) (by kernel_rfl) (by kernel_rfl) (by kernel_rfl) rfl (show _ = #[true, true, true, true, true, true, true, true, false, false, false, false, false] from rfl) (yv_pv rfl) ?_
            refine sxb_takeP 8 (.int .i64 (isub .i64 x227 x4)) rfl rfl rfl rfl (by kernel_rfl) (by kernel_rfl) (by kernel_rfl) (by kernel_rfl) (by kernel_rfl) rfl (show _ = #[true, true, true, true, true, true, true, true, true, false, false, false, false] from rfl) (yv_pv rfl) ?_
            refine sxb_step 9 rfl (by kernel_rfl) (show _ = #[true, true, true, true, true, true, true, true, true, true, false, false, false] from rfl) ?_
            refine sxo_call ent20 rfl rfl rfl (fun x251 e251 => C_R_FibNum F (isub .i64 x227 x4) x251 e251) .nil (fun x251 e251 => ?_)
            intro _
            refine sxo_nil ?_
            refine sxq_anyB .nil (gk_F 0 rfl (gk_F 1 rfl gk_nil)) ?_
            refine sxb_takeP 10 (.int .u64 (imul .u64 (iconv .u64 x247) x251)) rfl rfl rfl rfl (by kernel_rfl) (by kernel_rfl) (by kernel_rfl) (by kernel_rfl) (by kernel_rfl) rfl (show _ = #[true, true, true, true, true, true, true, true, true, true, true, false, false] from rfl) (yv_pv rfl) ?_
            refine sxb_takeP 11 (.int .u64 (iadd .u64 x226 (imul .u64 (iconv .u64 x247) x251))) rfl rfl rfl rfl (by kernel_rfl) (by kernel_rfl) (by kernel_rfl) (by kernel_rfl) (by kernel_rfl) rfl (show _ = #[true, true, true, true, true, true, true, true, true, true, true, true, false] from rfl) (yv_pv rfl) ?_
            refine sxb_takeP 12 (.int .u64 (iadd .u64 x226 (imul .u64 (iconv .u64 x247) x251))) rfl rfl rfl rfl (by kernel_rfl) (by kernel_rfl) (by kernel_rfl) (by kernel_rfl) (by kernel_rfl) rfl (show _ = #[true, true, true, true, true, true, true, true, true, true, true, true, true] from rfl) (yv_pv rfl) ?_
            refine sxb_done (by kernel_rfl) ?_
            refine sxq_np ?_ (by intro c h; cases h)
            refine sxq_blkN ?_
            refine sxq_next ?_
            refine sxc_region ?_
            refine sxo_move rfl rfl rfl ?_
            refine sxo_add rfl rfl rfl rfl ?_
            refine sxo_assign rfl rfl rfl ?_
            refine sxo_nil ?_
            exact sxq_againP ((iadd .u64 x226 (imul .u64 (iconv .u64 x247) x251), iadd .i64 x227 1), ()) (lk_cons rfl (lk_cons rfl (lk_cons rfl (lk_cons rfl (lk_cons rfl lk_nil))))) .nil .nil (fk_cons 1 rfl fk_nil)
          · refine sxc_exit ?_
            refine sxq_thenX ?_
            refine sxq_thenX ?_
            refine sxq_blkX ?_
            exact sxq_meetP (x226, ()) (lk_cons rfl (lk_cons rfl lk_nil)) .nil .nil fk_nil
        · rintro ⟨x211, _⟩
          try dsimp only
          refine sxc_seq ?_
          refine sxc_seq ?_
          refine sxc_region ?_
          refine sxo_move rfl rfl rfl ?_
          refine sxo_sub rfl rfl rfl rfl ?_
          refine sxo_gtr rfl rfl rfl rfl ?_
          refine sxo_nil ?_
          refine sxq_next ?_
          refine sxc_if rfl (fun h213 => ?_) (fun h213 => ?_)
          · refine sxc_seq ?_
            refine sxc_region ?_
            refine sxo_assign rfl rfl rfl ?_
            refine sxo_assign rfl rfl rfl ?_
            refine sxo_assign rfl rfl rfl ?_
            refine sxo_nil ?_
            refine sxq_next ?_
            refine sxc_ret ?_
            refine sxq_thenR ?_
            exact sxq_doneP () (.inl rfl) (res3 rfl rfl rfl rfl) (fun h => by subst h; rfl) (fun h => by subst h; exact .nil)
          · refine sxc_skip ?_
            refine sxq_next ?_
            refine sxc_seq ?_
            refine sxc_region ?_
            refine sxo_move rfl rfl rfl ?_
            refine sxo_sub rfl rfl rfl rfl ?_
            refine sxo_move rfl rfl rfl ?_
            refine sxo_add rfl rfl rfl rfl ?_
            refine sxo_assign rfl rfl rfl ?_
            refine sxo_assign rfl rfl rfl ?_
            refine sxo_assign rfl rfl rfl ?_
            refine sxo_nil ?_
            refine sxq_next ?_
            refine sxc_ret ?_
            exact sxq_doneP () (.inl rfl) (res3 rfl rfl rfl rfl) (fun h => by subst h; rfl) (fun h => by subst h; exact .nil)

theorem C_R_SameInts (F : Nat) (x1 : List Int) (a2 : Option Addr) (c3 : Nat) (x4 : List Int) (a5 : Option Addr) (c6 : Nat) (r : Bool) (hm : M_R_SameInts F x1 x4 = some r) :
    Pure Try.prog 29 [.slice a2 x1.length c3, .slice a5 x4.length c6] [Sl (eI .i64) 1 (.slice a2 x1.length c3) x1, Sl (eI .i64) 1 (.slice a5 x4.length c6) x4] Unit (fun _ => .bool r) (fun _ => []) (fun _ => []) := by
  refine pure_of Try.func29 rfl Try.ntmps29 rfl hm (fun w => ?_)
  refine sxc_env (l' := [(0, .slice a2 x1.length c3), (1, .slice a5 x4.length c6)]) rfl ?_
  refine sxc_seq ?_
  refine sxc_region ?_
  refine sxo_assign rfl rfl rfl ?_
  refine sxo_nil ?_
  refine sxq_next ?_
  refine sxc_seq ?_
  refine sxc_seq ?_
  refine sxc_region ?_
  refine sxo_move rfl rfl rfl ?_
  refine sxo_len rfl Try.underlying23 rfl rfl ?_
  refine sxo_move rfl rfl rfl ?_
  refine sxo_len rfl Try.underlying23 rfl rfl ?_
  refine sxo_neq rfl rfl rfl rfl ?_
  refine sxo_nil ?_
  refine sxq_next ?_
  refine sxc_if rfl (fun h228 => ?_) (fun h228 => ?_)
  · refine sxc_seq ?_
    refine sxc_region ?_
    refine sxo_assign rfl rfl rfl ?_
    refine sxo_nil ?_
    refine sxq_next ?_
    refine sxc_ret ?_
    refine sxq_thenR ?_
    exact sxq_doneP () (.inl rfl) (res1 rfl rfl) (fun h => by subst h; rfl) (fun h => by subst h; exact .nil)
  · refine sxc_skip ?_
    refine sxq_next ?_
    refine sxc_join (fun ((_, _) : (Unit × Unit)) => []) (fun ((_, _) : (Unit × Unit)) => []) (fun ((_, _) : (Unit × Unit)) => []) (fun ((_, _) : (Unit × Unit)) => []) (fun ((_, _) : (Unit × Unit)) => M_R_SameInts_j2 F) ?_ ?_
    · refine sxc_seq ?_
      refine sxc_region ?_
      refine sxo_assign rfl rfl rfl ?_
      refine sxo_nil ?_
      refine sxq_next ?_
      refine sxc_block ?_
      refine sxc_loopP (fun ((x154, _) : (Int × Unit)) => [(0, .slice a2 x1.length c3), (1, .slice a5 x4.length c6), (5, .int .i64 x154)]) (fun ((x154, _) : (Int × Unit)) => []) (fun ((x154, _) : (Int × Unit)) => []) (fun ((x154, _) : (Int × Unit)) => [Sl (eI .i64) 1 (.slice a2 x1.length c3) x1, Sl (eI .i64) 1 (.slice a5 x4.length c6) x4]) (fun k (s : (Int × Unit)) => M_R_SameInts_l3 F x1 x4 k s.1) (0, ()) F (lk_cons rfl (lk_cons rfl (lk_cons rfl lk_nil))) .nil .nil (fk_cons 0 rfl (fk_cons 1 rfl fk_nil)) (fun _ => rfl) ?_
      intro k191
      rintro ⟨x154, _⟩
      try dsimp only
      refine sxc_meq (m' := M_R_SameInts_b3 F x1 x4 (M_R_SameInts_l3 F x1 x4 k191) x154) rfl ?_
      refine sxc_seq ?_
      refine sxc_seq ?_
      refine sxc_region ?_
      refine sxo_move rfl rfl rfl ?_
      refine sxo_move rfl rfl rfl ?_
      refine sxo_len rfl Try.underlying23 rfl rfl ?_
      refine sxo_lss rfl rfl rfl rfl ?_
      refine sxo_nil ?_
      refine sxq_next ?_
      refine sxc_if rfl (fun h227 => ?_) (fun h227 => ?_)
      · refine sxc_skip ?_
        refine sxq_next ?_
        refine sxc_seq ?_
        refine sxc_block ?_
        refine sxc_seq ?_
        refine sxc_idxF (j := 0) (eI_ok .i64) (by decide) rfl (fun x218 e218 b219 o220 h221 => ?_)
        replace h221 : a2 = some ⟨b219, o220, none⟩ := h221
        refine sxc_idxF (j := 2) (eI_ok .i64) (by decide) rfl (fun x222 e222 b223 o224 h225 => ?_)
        replace h225 : a5 = some ⟨b223, o224, none⟩ := h225
        refine sxb_draw mixed [] [] [CellsAt b223 (o224 + x154.toNat * 1) ((eI .i64) x222), CellsAt b219 (o220 + x154.toNat * 1) ((eI .i64) x218), Sl (eI .i64) 1 (.slice a2 x1.length c3) x1, Sl (eI .i64) 1 (.slice a5 x4.length c6) x4] .nil (gk_F 0 rfl (gk_F 1 rfl (gk_F 2 rfl (gk_F 3 rfl gk_nil)))) 9 rfl ?_
        refine sxb_takeP 0 (.slice a2 x1.length c3) rfl rfl rfl rfl (by kernel_rfl) (by kernel_rfl) (by kernel_rfl) (by kernel_rfl) (by kernel_rfl) rfl (show _ = #[true, false, false, false, false, false, false, false, false] from rfl) (yv_pv rfl) ?_
        refine sxb_takeP 1 (.int .i64 x154) rfl rfl rfl rfl (by kernel_rfl) (by kernel_rfl) (by kernel_rfl) (by kernel_rfl) (by kernel_rfl) rfl (show _ = #[true, true, false, false, false, false, false, false, false] from rfl) (yv_pv rfl) ?_
        refine sxb_again (d := 17) (v := .slice (some ⟨b219, o220, none⟩) x1.length c3) rfl (by rw [h221]) ?_
        refine sxb_takeP 2 (.pointer (some ⟨b219, (o220 + x154.toNat * 1), none⟩)) rfl rfl rfl rfl (by kernel_rfl) (by kernel_rfl) (by kernel_rfl) (by kernel_rfl) (by kernel_rfl) rfl (show _ = #[true, true, true, false, false, false, false, false, false] from rfl) (yv_idx Try.underlying23 tf3 rfl rfl (idx_get e218).1 (idx_lt e218)) ?_
        refine sxb_again (d := 17) (v := .slice a2 x1.length c3) rfl (by rw [h221]) ?_
        refine sxb_take 3 (.int .i64 x218) [] rfl rfl rfl rfl (by kernel_rfl) (by kernel_rfl) (by kernel_rfl) (by kernel_rfl) (by kernel_rfl) (by kernel_rfl) rfl (show _ = #[true, true, true, true, false, false, false, false, false] from rfl) (yv_loadF (j := 1) rfl tf3 rfl rfl (fun _ => rfl) rfl) ?_
        refine sxb_takeP 4 (.slice a5 x4.length c6) rfl rfl rfl rfl (by kernel_rfl) (by kernel_rfl) (by kernel_rfl) (by kernel_rfl) (by kernel_rfl) rfl (show _ = #[true, true, true, true, true, false, false, false, false] from rfl) (yv_pv rfl) ?_
        refine sxb_takeP 5 (.int .i64 x154) rfl rfl rfl rfl (by kernel_rfl) (by kernel_rfl) (by kernel_rfl) (by kernel_rfl) (by kernel_rfl) rfl (show _ = #[true, true, true, true, true, true, false, false, false] from rfl) (yv_pv rfl) ?_
        refine sxb_again (d := 21) (v := .slice (some ⟨b223, o224, none⟩) x4.length c6) rfl (by rw [h225]) ?_
        refine sxb_takeP 6 (.pointer (some ⟨b223, (o224 + x154.toNat * 1), none⟩)) rfl rfl rfl rfl (by kernel_rfl) (by kernel_rfl) (by kernel_rfl) (by kernel_rfl) (by kernel_rfl) rfl (show _ = #[true, true, true, true, true, true, true, false, false] from rfl) (yv_idx Try.underlying23 tf3 rfl rfl (idx_get e222).1 (idx_lt e222)) ?_
        refine sxb_again (d := 21) (v := .slice a5 x4.length c6) rfl (by rw [h225]) ?_
        refine sxb_take 7 (.int .i64 x222) [] rfl rfl rfl rfl (by kernel_rfl) (by kernel_rfl) (by kernel_rfl) (by kernel_rfl) (by kernel_rfl) (by kernel_rfl) rfl (show _ = #[true, true, true, true, true, true, true, true, false] from rfl) (yv_loadF (j := 0) rfl tf3 rfl rfl (fun _ => rfl) rfl) ?_
        refine sxb_takeP 8 (.bool ((x218 : Int) != x222)) rfl rfl rfl rfl (by kernel_rfl) (by kernel_rfl) (by kernel_rfl) (by kernel_rfl) (by kernel_rfl) rfl (show _ = #[true, true, true, true, true, true, true, true, true] from rfl) (yv_pv rfl) ?_
        refine sxb_done (by kernel_rfl) ?_
        refine sxq_np ?_ (by intro c h; cases h)
        refine sxq_next ?_
        refine sxc_if rfl (fun h226 => ?_) (fun h226 => ?_)
        · refine sxc_seq ?_
          refine sxc_region ?_
          refine sxo_assign rfl rfl rfl ?_
          refine sxo_nil ?_
          refine sxq_next ?_
          refine sxc_ret ?_
          refine sxq_blkR ?_
          refine sxq_thenR ?_
          refine sxq_thenR ?_
          refine sxq_blkR ?_
          refine sxq_thenR ?_
          exact sxq_doneP () (.inl rfl) (res1 rfl rfl) (fun h => by subst h; rfl) (fun h => by subst h; exact .nil)
        · refine sxc_skip ?_
          refine sxq_blkN ?_
          refine sxq_next ?_
          refine sxc_region ?_
          refine sxo_move rfl rfl rfl ?_
          refine sxo_add rfl rfl rfl rfl ?_
          refine sxo_assign rfl rfl rfl ?_
          refine sxo_nil ?_
          exact sxq_againP (iadd .i64 x154 1, ()) (lk_cons rfl (lk_cons rfl (lk_cons rfl lk_nil))) .nil .nil (fk_cons 2 rfl (fk_cons 3 rfl fk_nil))
      · refine sxc_exit ?_
        refine sxq_thenX ?_
        refine sxq_thenX ?_
        refine sxq_blkX ?_
        exact sxq_meetP ((), ()) lk_nil .nil .nil fk_nil
    · rintro ⟨_, _⟩
      try dsimp only
      refine sxc_seq ?_
      refine sxc_region ?_
      refine sxo_assign rfl rfl rfl ?_
      refine sxo_nil ?_
      refine sxq_next ?_
      refine sxc_ret ?_
      exact sxq_doneP () (.inl rfl) (res1 rfl rfl) (fun h => by subst h; rfl) (fun h => by subst h; exact .nil)

theorem C_R_SameBytes (F : Nat) (x1 : List Int) (a2 : Option Addr) (c3 : Nat) (x4 : List Int) (a5 : Option Addr) (c6 : Nat) (r : Bool) (hm : M_R_SameBytes F x1 x4 = some r) :
    Pure Try.prog 54 [.slice a2 x1.length c3, .slice a5 x4.length c6] [Sl (eI .u8) 1 (.slice a2 x1.length c3) x1, Sl (eI .u8) 1 (.slice a5 x4.length c6) x4] Unit (fun _ => .bool r) (fun _ => []) (fun _ => []) := by
  refine pure_of Try.func54 rfl Try.ntmps54 rfl hm (fun w => ?_)
  refine sxc_env (l' := [(0, .slice a2 x1.length c3), (1, .slice a5 x4.length c6)]) rfl ?_
  refine sxc_seq ?_
  refine sxc_region ?_
  refine sxo_assign rfl rfl rfl ?_
  refine sxo_nil ?_
  refine sxq_next ?_
  refine sxc_seq ?_
  refine sxc_seq ?_
  refine sxc_region ?_
  refine sxo_move rfl rfl rfl ?_
  refine sxo_len rfl Try.underlying24 rfl rfl ?_
  refine sxo_move rfl rfl rfl ?_
  refine sxo_len rfl Try.underlying24 rfl rfl ?_
  refine sxo_neq rfl rfl rfl rfl ?_
  refine sxo_nil ?_
  refine sxq_next ?_
  refine sxc_if rfl (fun h228 => ?_) (fun h228 => ?_)
  · refine sxc_seq ?_
    refine sxc_region ?_
    refine sxo_assign rfl rfl rfl ?_
    refine sxo_nil ?_
    refine sxq_next ?_
    refine sxc_ret ?_
    refine sxq_thenR ?_
    exact sxq_doneP () (.inl rfl) (res1 rfl rfl) (fun h => by subst h; rfl) (fun h => by subst h; exact .nil)
  · refine sxc_skip ?_
    refine sxq_next ?_
    refine sxc_join (fun ((_, _) : (Unit × Unit)) => []) (fun ((_, _) : (Unit × Unit)) => []) (fun ((_, _) : (Unit × Unit)) => []) (fun ((_, _) : (Unit × Unit)) => []) (fun ((_, _) : (Unit × Unit)) => M_R_SameBytes_j2 F) ?_ ?_
    · refine sxc_seq ?_
      refine sxc_region ?_
      refine sxo_assign rfl rfl rfl ?_
      refine sxo_nil ?_
      refine sxq_next ?_
      refine sxc_block ?_
      refine sxc_loopP (fun ((x154, _) : (Int × Unit)) => [(0, .slice a2 x1.length c3), (1, .slice a5 x4.length c6), (5, .int .i64 x154)]) (fun ((x154, _) : (Int × Unit)) => []) (fun ((x154, _) : (Int × Unit)) => []) (fun ((x154, _) : (Int × Unit)) => [Sl (eI .u8) 1 (.slice a2 x1.length c3) x1, Sl (eI .u8) 1 (.slice a5 x4.length c6) x4]) (fun k (s : (Int × Unit)) => M_R_SameBytes_l3 F x1 x4 k s.1) (0, ()) F (lk_cons rfl (lk_cons rfl (lk_cons rfl lk_nil))) .nil .nil (fk_cons 0 rfl (fk_cons 1 rfl fk_nil)) (fun _ => rfl) ?_
      intro k191
      rintro ⟨x154, _⟩
      try dsimp only
      refine sxc_meq (m' := M_R_SameBytes_b3 F x1 x4 (M_R_SameBytes_l3 F x1 x4 k191) x154) rfl ?_
      refine sxc_seq ?_
      refine sxc_seq ?_
      refine sxc_region ?_
      refine sxo_move rfl rfl rfl ?_
      refine sxo_move rfl rfl rfl ?_
      refine sxo_len rfl Try.underlying24 rfl rfl ?_
      refine sxo_lss rfl rfl rfl rfl ?_
      refine sxo_nil ?_
      refine sxq_next ?_
      refine sxc_if rfl (fun h227 => ?_) (fun h227 => ?_)
      · refine sxc_skip ?_
        refine sxq_next ?_
        refine sxc_seq ?_
        refine sxc_block ?_
        refine sxc_seq ?_
        refine sxc_idxF (j := 0) (eI_ok .u8) (by decide) rfl (fun x218 e218 b219 o220 h221 => ?_)
        replace h221 : a2 = some ⟨b219, o220, none⟩ := h221
        refine sxc_idxF (j := 2) (eI_ok .u8) (by decide) rfl (fun x222 e222 b223 o224 h225 => ?_)
        replace h225 : a5 = some ⟨b223, o224, none⟩ := h225
        refine sxb_draw mixed [] [] [CellsAt b223 (o224 + x154.toNat * 1) ((eI .u8) x222), CellsAt b219 (o220 + x154.toNat * 1) ((eI .u8) x218), Sl (eI .u8) 1 (.slice a2 x1.length c3) x1, Sl (eI .u8) 1 (.slice a5 x4.length c6) x4] .nil (gk_F 0 rfl (gk_F 1 rfl (gk_F 2 rfl (gk_F 3 rfl gk_nil)))) 9 rfl ?_
        refine sxb_takeP 0 (.slice a2 x1.length c3) rfl rfl rfl rfl (by kernel_rfl) (by kernel_rfl) (by kernel_rfl) (by kernel_rfl) (by kernel_rfl) rfl (show _ = #[true, false, false, false, false, false, false, false, false] from rfl) (yv_pv rfl) ?_
        refine sxb_takeP 1 (.int .i64 x154) rfl rfl rfl rfl (by kernel_rfl) (by kernel_rfl) (by kernel_rfl) (by kernel_rfl) (by kernel_rfl) rfl (show _ = #[true, true, false, false, false, false, false, false, false] from rfl) (yv_pv rfl) ?_
        refine sxb_again (d := 17) (v := .slice (some ⟨b219, o220, none⟩) x1.length c3) rfl (by rw [h221]) ?_
        refine sxb_takeP 2 (.pointer (some ⟨b219, (o220 + x154.toNat * 1), none⟩)) rfl rfl rfl rfl (by kernel_rfl) (by kernel_rfl) (by kernel_rfl) (by kernel_rfl) (by kernel_rfl) rfl (show _ = #[true, true, true, false, false, false, false, false, false] from rfl) (yv_idx Try.underlying24 tf5 rfl rfl (idx_get e218).1 (idx_lt e218)) ?_
        refine sxb_again (d := 17) (v := .slice a2 x1.length c3) rfl (by rw [h221]) ?_
        refine sxb_take 3 (.int .u8 x218) [] rfl rfl rfl rfl (by kernel_rfl) (by kernel_rfl) (by kernel_rfl) (by kernel_rfl) (by kernel_rfl) (by kernel_rfl) rfl (show _ = #[true, true, true, true, false, false, false, false, false] from rfl) (yv_loadF (j := 1) rfl tf5 rfl rfl (fun _ => rfl) rfl) ?_
        refine sxb_takeP 4 (.slice a5 x4.length c6) rfl rfl rfl rfl (by kernel_rfl) (by kernel_rfl) (by kernel_rfl) (by kernel_rfl) (by kernel_rfl) rfl (show _ = #[true, true, true, true, true, false, false, false, false] from rfl) (yv_pv rfl) ?_
        refine sxb_takeP 5 (.int .i64 x154) rfl rfl rfl rfl (by kernel_rfl) (by kernel_rfl) (by kernel_rfl) (by kernel_rfl) (by kernel_rfl) rfl (show _ = #[true, true, true, true, true, true, false, false, false] from rfl) (yv_pv rfl) ?_
        refine sxb_again (d := 21) (v := .slice (some ⟨b223, o224, none⟩) x4.length c6) rfl (by rw [h225]) ?_
        refine sxb_takeP 6 (.pointer (some ⟨b223, (o224 + x154.toNat * 1), none⟩)) rfl rfl rfl rfl (by kernel_rfl) (by kernel_rfl) (by kernel_rfl) (by kernel_rfl) (by kernel_rfl) rfl (show _ = #[true, true, true, true, true, true, true, false, false] from rfl) (yv_idx Try.underlying24 tf5 rfl rfl (idx_get e222).1 (idx_lt e222)) ?_
        refine sxb_again (d := 21) (v := .slice a5 x4.length c6) rfl (by rw [h225]) ?_
        refine sxb_take 7 (.int .u8 x222) [] rfl rfl rfl rfl (by kernel_rfl) (by kernel_rfl) (by kernel_rfl) (by kernel_rfl) (by kernel_rfl) (by kernel_rfl) rfl (show _ = #[true, true, true, true, true, true, true, true, false] from rfl) (yv_loadF (j := 0) rfl tf5 rfl rfl (fun _ => rfl) rfl) ?_
        refine sxb_takeP 8 (.bool ((x218 : Int) != x222)) rfl rfl rfl rfl (by kernel_rfl) (by kernel_rfl) (by kernel_rfl) (by kernel_rfl) (by kernel_rfl) rfl (show _ = #[true, true, true, true, true, true, true, true, true] from rfl) (yv_pv rfl) ?_
        refine sxb_done (by kernel_rfl) ?_
        refine sxq_np ?_ (by intro c h; cases h)
        refine sxq_next ?_
        refine sxc_if rfl (fun h226 => ?_) (fun h226 => ?_)
        · refine sxc_seq ?_
          refine sxc_region ?_
          refine sxo_assign rfl rfl rfl ?_
          refine sxo_nil ?_
          refine sxq_next ?_
          refine sxc_ret ?_
          refine sxq_blkR ?_
          refine sxq_thenR ?_
          refine sxq_thenR ?_
          refine sxq_blkR ?_
          refine sxq_thenR ?_
          exact sxq_doneP () (.inl rfl) (res1 rfl rfl) (fun h => by subst h; rfl) (fun h => by subst h; exact .nil)
        · refine sxc_skip ?_
          refine sxq_blkN ?_
          refine sxq_next ?_
          refine sxc_region ?_
          refine sxo_move rfl rfl rfl ?_
          refine sxo_add rfl rfl rfl rfl ?_
          refine sxo_assign rfl rfl rfl ?_
          refine sxo_nil ?_
          exact sxq_againP (iadd .i64 x154 1, ()) (lk_cons rfl (lk_cons rfl (lk_cons rfl lk_nil))) .nil .nil (fk_cons 2 rfl (fk_cons 3 rfl fk_nil))
      · refine sxc_exit ?_
        refine sxq_thenX ?_
        refine sxq_thenX ?_
        refine sxq_blkX ?_
        exact sxq_meetP ((), ()) lk_nil .nil .nil fk_nil
    · rintro ⟨_, _⟩
      try dsimp only
      refine sxc_seq ?_
      refine sxc_region ?_
      refine sxo_assign rfl rfl rfl ?_
      refine sxo_nil ?_
      refine sxq_next ?_
      refine sxc_ret ?_
      exact sxq_doneP () (.inl rfl) (res1 rfl rfl) (fun h => by subst h; rfl) (fun h => by subst h; exact .nil)

theorem C_R_SameBits (F : Nat) (x1 : Int) (x2 : List Int) (a3 : Option Addr) (c4 : Nat) (x5 : Int) (x6 : List Int) (a7 : Option Addr) (c8 : Nat) (r : Bool) (hm : M_R_SameBits F x1 x2 x5 x6 = some r) :
    Pure Try.prog 30 [.agg #[.int .i64 x1, .slice a3 x2.length c4], .agg #[.int .i64 x5, .slice a7 x6.length c8]] [Sl (eI .u8) 1 (.slice a3 x2.length c4) x2, Sl (eI .u8) 1 (.slice a7 x6.length c8) x6] Unit (fun _ => .bool r) (fun _ => []) (fun _ => []) := by
  refine pure_of Try.func30 rfl Try.ntmps30 rfl hm (fun w => ?_)
  refine sxc_env (l' := [(0, .agg #[.int .i64 x1, .slice a3 x2.length c4]), (1, .agg #[.int .i64 x5, .slice a7 x6.length c8])]) rfl ?_
  refine sxc_seq ?_
  refine sxc_region ?_
  refine sxo_box rfl rfl rfl (fun g9 => ?_)
  refine sxo_box rfl rfl rfl (fun g10 => ?_)
  refine sxo_assign rfl rfl rfl ?_
  refine sxo_nil ?_
  refine sxq_next ?_
  refine sxc_seq ?_
  refine sxc_region ?_
  refine sxo_fieldAddr rfl rfl ff26_0 rfl ?_
  refine sxo_loadB (i := 1) rfl rfl tf3 rfl rfl (fun _ => rfl) rfl rfl ?_
  refine sxo_fieldAddr rfl rfl ff26_0 rfl ?_
  refine sxo_loadB (i := 0) rfl rfl tf3 rfl rfl (fun _ => rfl) rfl rfl ?_
  refine sxo_eql rfl rfl rfl rfl ?_
  refine sxo_move rfl rfl rfl ?_
  refine sxo_join 6 (fun ((x13, _) : (Bool × Unit)) => [(16, .bool x13)]) (fun ((x13, _) : (Bool × Unit)) => []) (fun ((x13, _) : (Bool × Unit)) => []) (fun ((x13, _) : (Bool × Unit)) => []) (fun ((x13, _) : (Bool × Unit)) => M_R_SameBits_j1 F x13) ?_ ?_
  · refine sxo_take (os := _) rfl ?_
    refine sxo_if (fun h11 => ?_) (fun h11 => ?_)
    · refine sxo_isT (k := 10) rfl h11 ?_
      refine sxo_fieldAddr rfl rfl ff26_1 rfl ?_
      refine sxo_loadB (i := 1) rfl rfl tf24 rfl rfl (fun _ => rfl) rfl rfl ?_
      refine sxo_fieldAddr rfl rfl ff26_1 rfl ?_
      refine sxo_loadB (i := 0) rfl rfl tf24 rfl rfl (fun _ => rfl) rfl rfl ?_
      refine sxo_call ent54 rfl rfl rfl (fun x14 e14 => C_R_SameBytes F x2 a3 c4 x6 a7 c8 x14 e14) (.consF 0 rfl (.consF 1 rfl .nil)) (fun x14 e14 => ?_)
      intro _
      refine sxo_pick (b := true) rfl rfl rfl rfl ?_
      refine sxo_nil ?_
      exact sxq_meetP (x14, ()) (lk_cons rfl lk_nil) .nil .nil fk_nil
    · refine sxo_isF (k := 10) rfl h11 ?_
      refine sxo_skip rfl rfl rfl ?_
      refine sxo_skip rfl rfl rfl ?_
      refine sxo_skip rfl rfl rfl ?_
      refine sxo_skip rfl rfl rfl ?_
      refine sxo_skip rfl rfl rfl ?_
      refine sxo_pick (b := false) rfl rfl rfl rfl ?_
      refine sxo_nil ?_
      exact sxq_meetP (false, ()) (lk_cons rfl lk_nil) .nil .nil fk_nil
  · rintro ⟨x13, _⟩
    try dsimp only
    refine sxo_take (os := _) rfl ?_
    refine sxo_assign rfl rfl rfl ?_
    refine sxo_nil ?_
    refine sxq_next ?_
    refine sxc_ret ?_
    exact sxq_doneP () (.inl rfl) (res1 rfl rfl) (fun h => by subst h; rfl) (fun h => by subst h; exact .nil)

set_option maxHeartbeats 4000000 in
theorem C_L_fibBegun (F : Nat)  (r : Bool) (hm : M_L_fibBegun F  = some r) :
    Pure Try.prog 28 [] [] Unit (fun _ => .bool r) (fun _ => []) (fun _ => []) := by
  refine pure_of Try.func28 rfl Try.ntmps28 rfl hm (fun w => ?_)
  refine sxc_env (l' := []) rfl ?_
  refine sxc_seq ?_
  refine sxc_region ?_
  refine sxo_assign rfl rfl rfl ?_
  refine sxo_nil ?_
  refine sxq_next ?_
  refine sxc_seq ?_
  refine sxc_region ?_
  refine sxo_call ent15 rfl rfl rfl (fun x1 e1 => C_fib_Number F 4 x1 e1) .nil (fun x1 e1 => ?_)
  intro _
  refine sxo_move rfl rfl rfl ?_
  refine sxo_extract rfl rfl rfl rfl ?_
  refine sxo_extract rfl rfl rfl rfl ?_
  refine sxo_assign rfl rfl rfl ?_
  refine sxo_assign rfl rfl rfl ?_
  refine sxo_nil ?_
  refine sxq_next ?_
  refine sxc_seq ?_
  refine sxc_region ?_
  refine sxo_call ent16 rfl rfl rfl (fun x2 e2 => C_fib_Parts F 12 x2 e2) .nil (fun x2 e2 => ?_)
  rintro ⟨a3, c4⟩
  refine sxo_move rfl rfl rfl ?_
  refine sxo_extract rfl rfl rfl rfl ?_
  refine sxo_extract rfl rfl rfl rfl ?_
  refine sxo_assign rfl rfl rfl ?_
  refine sxo_assign rfl rfl rfl ?_
  refine sxo_nil ?_
  refine sxq_next ?_
  refine sxc_seq ?_
  refine sxc_region ?_
  refine sxo_slit (vs := [.int .i64 0, .int .i64 2, .int .i64 4]) (ys := ([0, 2, 4] : List Int)) (eI_ok .i64) (by decide) rfl Try.underlying23 tf3 rfl rfl rfl rfl rfl (by decide) (fun a5 c6 => ?_)
  refine sxo_call ent17 rfl rfl rfl (fun x7 e7 => C_fib_Sum F ([0, 2, 4] : List Int) a5 c6 x7 e7) (.consR 0 (Ro (eI .i64) 3 1 (.slice a5 ([0, 2, 4] : List Int).length c6) ([0, 2, 4] : List Int)) rfl .nil) (fun x7 e7 => ?_)
  intro _
  refine sxo_move rfl rfl rfl ?_
  refine sxo_extract rfl rfl rfl rfl ?_
  refine sxo_extract rfl rfl rfl rfl ?_
  refine sxo_assign rfl rfl rfl ?_
  refine sxo_assign rfl rfl rfl ?_
  refine sxo_nil ?_
  refine sxq_next ?_
  refine sxc_seq ?_
  refine sxc_region ?_
  refine sxo_call ent18 rfl rfl rfl (fun x8 e8 => C_fib_Code F 11 x8 e8) .nil (fun x8 e8 => ?_)
  rintro ⟨a9, c10⟩
  refine sxo_move rfl rfl rfl ?_
  refine sxo_extract rfl rfl rfl rfl ?_
  refine sxo_extract rfl rfl rfl rfl ?_
  refine sxo_alloc rfl tf26 rfl (fun g11 => ?_)
  refine sxo_storeB (i := 0) rfl rfl rfl tf26 rfl rfl rfl rfl rfl ?_
  refine sxo_assign rfl rfl rfl ?_
  refine sxo_nil ?_
  refine sxq_next ?_
  refine sxc_seq ?_
  refine sxc_region ?_
  refine sxo_loadB (i := 0) rfl rfl tf26 rfl rfl (by simp) rfl rfl ?_
  refine sxo_call ent19 rfl rfl rfl (fun x12 e12 => C_fib_Read F x8.1 x8.2.1 a9 c10 0 x12 e12) (.consR 0 (Ro (eI .u8) 5 1 (.slice a9 x8.2.1.length c10) x8.2.1) rfl .nil) (fun x12 e12 => ?_)
  intro _
  refine sxo_move rfl rfl rfl ?_
  refine sxo_extract rfl rfl rfl rfl ?_
  refine sxo_extract rfl rfl rfl rfl ?_
  refine sxo_extract rfl rfl rfl rfl ?_
  refine sxo_assign rfl rfl rfl ?_
  refine sxo_assign rfl rfl rfl ?_
  refine sxo_assign rfl rfl rfl ?_
  refine sxo_nil ?_
  refine sxq_next ?_
  refine sxc_seq ?_
  refine sxc_region ?_
  refine sxo_slit (vs := [.int .i64 2, .int .i64 3]) (ys := ([2, 3] : List Int)) (eI_ok .i64) (by decide) rfl Try.underlying23 tf3 rfl rfl rfl rfl rfl (by decide) (fun a13 c14 => ?_)
  refine sxo_call ent17 rfl rfl rfl (fun x15 e15 => C_fib_Sum F ([2, 3] : List Int) a13 c14 x15 e15) (.consR 0 (Ro (eI .i64) 3 1 (.slice a13 ([2, 3] : List Int).length c14) ([2, 3] : List Int)) rfl .nil) (fun x15 e15 => ?_)
  intro _
  refine sxo_move rfl rfl rfl ?_
  refine sxo_extract rfl rfl rfl rfl ?_
  refine sxo_extract rfl rfl rfl rfl ?_
  refine sxo_assign rfl rfl rfl ?_
  refine sxo_assign rfl rfl rfl ?_
  refine sxo_nil ?_
  refine sxq_next ?_
  refine sxc_seq ?_
  refine sxc_region ?_
  refine sxo_loadB (i := 0) rfl rfl tf26 rfl rfl (by simp) rfl rfl ?_
  refine sxo_call ent19 rfl rfl rfl (fun x16 e16 => C_fib_Read F x8.1 x8.2.1 a9 c10 4 x16 e16) (.consR 1 (Ro (eI .u8) 5 1 (.slice a9 x8.2.1.length c10) x8.2.1) rfl .nil) (fun x16 e16 => ?_)
  intro _
  refine sxo_move rfl rfl rfl ?_
  refine sxo_extract rfl rfl rfl rfl ?_
  refine sxo_extract rfl rfl rfl rfl ?_
  refine sxo_extract rfl rfl rfl rfl ?_
  refine sxo_assign rfl rfl rfl ?_
  refine sxo_assign rfl rfl rfl ?_
  refine sxo_assign rfl rfl rfl ?_
  refine sxo_nil ?_
  refine sxq_next ?_
  refine sxc_seq ?_
  refine sxc_region ?_
  refine sxo_move rfl rfl rfl ?_
  refine sxo_eql rfl rfl rfl rfl ?_
  refine sxo_move rfl rfl rfl ?_
  refine sxo_case 3 ((x1.1 : Int) == 8) [(3, .slice a3 x2.1.length c4), (4, .int .i64 x2.2), (5, .int .u64 x7.1), (6, .int .i64 x7.2), (7, .pointer (some ⟨g11, 0, none⟩)), (8, .int .i64 x8.2.2), (9, .int .u64 x12.1), (10, .int .i64 x12.2.1), (11, .int .i64 x12.2.2), (13, .int .i64 x15.2), (16, .int .i64 x16.2.2), (56, .bool (((x1.1 : Int) == 8) && ((x1.2 : Int) == 0)))] (fun h17 => ?_) (fun h17 => ?_) ?_
  · refine sxo_take (os := _) rfl ?_
    refine sxo_isT (k := 53) rfl h17 ?_
    refine sxo_move rfl rfl rfl ?_
    refine sxo_eql rfl rfl rfl rfl ?_
    refine sxo_pick (b := true) rfl rfl rfl rfl ?_
    refine sxo_again (d := 56) (v := .bool (((x1.1 : Int) == 8) && ((x1.2 : Int) == 0))) rfl (by rw [h17]; simp only [Bool.true_and]) ?_
    refine sxo_nil ?_
    exact sxq_case (lk_cons rfl (lk_cons rfl (lk_cons rfl (lk_cons rfl (lk_cons rfl (lk_cons rfl (lk_cons rfl (lk_cons rfl (lk_cons rfl (lk_cons rfl (lk_cons rfl (lk_cons rfl lk_nil))))))))))))
  · refine sxo_take (os := _) rfl ?_
    refine sxo_isF (k := 53) rfl h17 ?_
    refine sxo_skip rfl rfl rfl ?_
    refine sxo_skip rfl rfl rfl ?_
    refine sxo_pick (b := false) rfl rfl rfl rfl ?_
    refine sxo_again (d := 56) (v := .bool (((x1.1 : Int) == 8) && ((x1.2 : Int) == 0))) rfl (by rw [h17]; simp only [Bool.false_and]) ?_
    refine sxo_nil ?_
    exact sxq_case (lk_cons rfl (lk_cons rfl (lk_cons rfl (lk_cons rfl (lk_cons rfl (lk_cons rfl (lk_cons rfl (lk_cons rfl (lk_cons rfl (lk_cons rfl (lk_cons rfl (lk_cons rfl lk_nil))))))))))))
  refine sxo_take (os := _) rfl ?_
  refine sxo_move rfl rfl rfl ?_
  refine sxo_join 4 (fun ((x22, _) : (Bool × Unit)) => [(4, .int .i64 x2.2), (5, .int .u64 x7.1), (6, .int .i64 x7.2), (7, .pointer (some ⟨g11, 0, none⟩)), (8, .int .i64 x8.2.2), (9, .int .u64 x12.1), (10, .int .i64 x12.2.1), (11, .int .i64 x12.2.2), (13, .int .i64 x15.2), (16, .int .i64 x16.2.2), (61, .bool x22)]) (fun ((x22, _) : (Bool × Unit)) => [⟨g11, 26, [.int .i64 x8.1, .slice a9 x8.2.1.length c10]⟩]) (fun ((x22, _) : (Bool × Unit)) => [Ro (eI .u8) 5 1 (.slice a9 x8.2.1.length c10) x8.2.1]) (fun ((x22, _) : (Bool × Unit)) => []) (fun ((x22, _) : (Bool × Unit)) => M_L_fibBegun_j1 F x2 x7 x8 x12 x15 x16 x22) ?_ ?_
  · refine sxo_take (os := _) rfl ?_
    refine sxo_if (fun h18 => ?_) (fun h18 => ?_)
    · refine sxo_isT (k := 57) rfl h18 ?_
      refine sxo_move rfl rfl rfl ?_
      refine sxo_slit (vs := [.int .i64 0, .int .i64 2, .int .i64 4]) (ys := ([0, 2, 4] : List Int)) (eI_ok .i64) (by decide) rfl Try.underlying23 tf3 rfl rfl rfl rfl rfl (by decide) (fun a40 c41 => ?_)
      refine sxo_call ent29 rfl rfl rfl (fun x42 e42 => C_R_SameInts F x2.1 a3 c4 ([0, 2, 4] : List Int) a40 c41 x42 e42) (.consR 4 (Ro (eI .i64) 3 1 (.slice a3 x2.1.length c4) x2.1) rfl (.consR 0 (Ro (eI .i64) 3 1 (.slice a40 ([0, 2, 4] : List Int).length c41) ([0, 2, 4] : List Int)) rfl .nil)) (fun x42 e42 => ?_)
      intro _
      refine sxo_pick (b := true) rfl rfl rfl rfl ?_
      refine sxo_nil ?_
      exact sxq_meetP (x42, ()) (lk_cons rfl (lk_cons rfl (lk_cons rfl (lk_cons rfl (lk_cons rfl (lk_cons rfl (lk_cons rfl (lk_cons rfl (lk_cons rfl (lk_cons rfl (lk_cons rfl lk_nil))))))))))) (.cons 0 rfl .nil) (.cons 2 rfl .nil) fk_nil
    · refine sxo_isF (k := 57) rfl h18 ?_
      refine sxo_skip rfl rfl rfl ?_
      refine sxo_skip rfl rfl rfl ?_
      refine sxo_skip rfl rfl rfl ?_
      refine sxo_pick (b := false) rfl rfl rfl rfl ?_
      refine sxo_nil ?_
      exact sxq_meetP (false, ()) (lk_cons rfl (lk_cons rfl (lk_cons rfl (lk_cons rfl (lk_cons rfl (lk_cons rfl (lk_cons rfl (lk_cons rfl (lk_cons rfl (lk_cons rfl (lk_cons rfl lk_nil))))))))))) (.cons 0 rfl .nil) (.cons 1 rfl .nil) fk_nil
  · rintro ⟨x22, _⟩
    try dsimp only
    refine sxo_take (os := _) rfl ?_
    refine sxo_move rfl rfl rfl ?_
    refine sxo_case 3 x22 [(5, .int .u64 x7.1), (6, .int .i64 x7.2), (7, .pointer (some ⟨g11, 0, none⟩)), (8, .int .i64 x8.2.2), (9, .int .u64 x12.1), (10, .int .i64 x12.2.1), (11, .int .i64 x12.2.2), (13, .int .i64 x15.2), (16, .int .i64 x16.2.2), (65, .bool (x22 && ((x2.2 : Int) == 0)))] (fun h23 => ?_) (fun h23 => ?_) ?_
    · refine sxo_take (os := _) rfl ?_
      refine sxo_isT (k := 62) rfl h23 ?_
      refine sxo_move rfl rfl rfl ?_
      refine sxo_eql rfl rfl rfl rfl ?_
      refine sxo_pick (b := true) rfl rfl rfl rfl ?_
      refine sxo_again (d := 65) (v := .bool (x22 && ((x2.2 : Int) == 0))) rfl (by rw [h23]; simp only [Bool.true_and]) ?_
      refine sxo_nil ?_
      exact sxq_case (lk_cons rfl (lk_cons rfl (lk_cons rfl (lk_cons rfl (lk_cons rfl (lk_cons rfl (lk_cons rfl (lk_cons rfl (lk_cons rfl (lk_cons rfl lk_nil))))))))))
    · refine sxo_take (os := _) rfl ?_
      refine sxo_isF (k := 62) rfl h23 ?_
      refine sxo_skip rfl rfl rfl ?_
      refine sxo_skip rfl rfl rfl ?_
      refine sxo_pick (b := false) rfl rfl rfl rfl ?_
      refine sxo_again (d := 65) (v := .bool (x22 && ((x2.2 : Int) == 0))) rfl (by rw [h23]; simp only [Bool.false_and]) ?_
      refine sxo_nil ?_
      exact sxq_case (lk_cons rfl (lk_cons rfl (lk_cons rfl (lk_cons rfl (lk_cons rfl (lk_cons rfl (lk_cons rfl (lk_cons rfl (lk_cons rfl (lk_cons rfl lk_nil))))))))))
    refine sxo_take (os := _) rfl ?_
    refine sxo_move rfl rfl rfl ?_
    refine sxo_case 3 (x22 && ((x2.2 : Int) == 0)) [(6, .int .i64 x7.2), (7, .pointer (some ⟨g11, 0, none⟩)), (8, .int .i64 x8.2.2), (9, .int .u64 x12.1), (10, .int .i64 x12.2.1), (11, .int .i64 x12.2.2), (13, .int .i64 x15.2), (16, .int .i64 x16.2.2), (69, .bool ((x22 && ((x2.2 : Int) == 0)) && ((x7.1 : Int) == 12)))] (fun h24 => ?_) (fun h24 => ?_) ?_
    · refine sxo_take (os := _) rfl ?_
      refine sxo_isT (k := 66) rfl h24 ?_
      refine sxo_move rfl rfl rfl ?_
      refine sxo_eql rfl rfl rfl rfl ?_
      refine sxo_pick (b := true) rfl rfl rfl rfl ?_
      refine sxo_again (d := 69) (v := .bool ((x22 && ((x2.2 : Int) == 0)) && ((x7.1 : Int) == 12))) rfl (by rw [h24]; simp only [Bool.true_and]) ?_
      refine sxo_nil ?_
      exact sxq_case (lk_cons rfl (lk_cons rfl (lk_cons rfl (lk_cons rfl (lk_cons rfl (lk_cons rfl (lk_cons rfl (lk_cons rfl (lk_cons rfl lk_nil)))))))))
    · refine sxo_take (os := _) rfl ?_
      refine sxo_isF (k := 66) rfl h24 ?_
      refine sxo_skip rfl rfl rfl ?_
      refine sxo_skip rfl rfl rfl ?_
      refine sxo_pick (b := false) rfl rfl rfl rfl ?_
      refine sxo_again (d := 69) (v := .bool ((x22 && ((x2.2 : Int) == 0)) && ((x7.1 : Int) == 12))) rfl (by rw [h24]; simp only [Bool.false_and]) ?_
      refine sxo_nil ?_
      exact sxq_case (lk_cons rfl (lk_cons rfl (lk_cons rfl (lk_cons rfl (lk_cons rfl (lk_cons rfl (lk_cons rfl (lk_cons rfl (lk_cons rfl lk_nil)))))))))
    refine sxo_take (os := _) rfl ?_
    refine sxo_move rfl rfl rfl ?_
    refine sxo_case 3 ((x22 && ((x2.2 : Int) == 0)) && ((x7.1 : Int) == 12)) [(7, .pointer (some ⟨g11, 0, none⟩)), (8, .int .i64 x8.2.2), (9, .int .u64 x12.1), (10, .int .i64 x12.2.1), (11, .int .i64 x12.2.2), (13, .int .i64 x15.2), (16, .int .i64 x16.2.2), (73, .bool (((x22 && ((x2.2 : Int) == 0)) && ((x7.1 : Int) == 12)) && ((x7.2 : Int) == 0)))] (fun h25 => ?_) (fun h25 => ?_) ?_
    · refine sxo_take (os := _) rfl ?_
      refine sxo_isT (k := 70) rfl h25 ?_
      refine sxo_move rfl rfl rfl ?_
      refine sxo_eql rfl rfl rfl rfl ?_
      refine sxo_pick (b := true) rfl rfl rfl rfl ?_
      refine sxo_again (d := 73) (v := .bool (((x22 && ((x2.2 : Int) == 0)) && ((x7.1 : Int) == 12)) && ((x7.2 : Int) == 0))) rfl (by rw [h25]; simp only [Bool.true_and]) ?_
      refine sxo_nil ?_
      exact sxq_case (lk_cons rfl (lk_cons rfl (lk_cons rfl (lk_cons rfl (lk_cons rfl (lk_cons rfl (lk_cons rfl (lk_cons rfl lk_nil))))))))
    · refine sxo_take (os := _) rfl ?_
      refine sxo_isF (k := 70) rfl h25 ?_
      refine sxo_skip rfl rfl rfl ?_
      refine sxo_skip rfl rfl rfl ?_
      refine sxo_pick (b := false) rfl rfl rfl rfl ?_
      refine sxo_again (d := 73) (v := .bool (((x22 && ((x2.2 : Int) == 0)) && ((x7.1 : Int) == 12)) && ((x7.2 : Int) == 0))) rfl (by rw [h25]; simp only [Bool.false_and]) ?_
      refine sxo_nil ?_
      exact sxq_case (lk_cons rfl (lk_cons rfl (lk_cons rfl (lk_cons rfl (lk_cons rfl (lk_cons rfl (lk_cons rfl (lk_cons rfl lk_nil))))))))
    refine sxo_take (os := _) rfl ?_
    refine sxo_move rfl rfl rfl ?_
    refine sxo_join 5 (fun ((x30, _) : (Bool × Unit)) => [(8, .int .i64 x8.2.2), (9, .int .u64 x12.1), (10, .int .i64 x12.2.1), (11, .int .i64 x12.2.2), (13, .int .i64 x15.2), (16, .int .i64 x16.2.2), (79, .bool x30)]) (fun ((x30, _) : (Bool × Unit)) => []) (fun ((x30, _) : (Bool × Unit)) => []) (fun ((x30, _) : (Bool × Unit)) => []) (fun ((x30, _) : (Bool × Unit)) => M_L_fibBegun_j2 F x8 x12 x15 x16 x30) ?_ ?_
    · refine sxo_take (os := _) rfl ?_
      refine sxo_if (fun h26 => ?_) (fun h26 => ?_)
      · refine sxo_isT (k := 74) rfl h26 ?_
        refine sxo_loadB (i := 0) rfl rfl tf26 rfl rfl (by simp) rfl rfl ?_
        refine sxo_slit (vs := [.int .u8 172]) (ys := ([172] : List Int)) (eI_ok .u8) (by decide) rfl Try.underlying24 tf5 rfl rfl rfl rfl rfl (by decide) (fun a37 c38 => ?_)
        refine sxo_build (cells := [.int .i64 6, .slice a37 ([172] : List Int).length c38]) rfl st26 rfl (by kernel_rfl) rfl ?_
        refine sxo_call ent30 rfl rfl rfl (fun x39 e39 => C_R_SameBits F x8.1 x8.2.1 a9 c10 6 ([172] : List Int) a37 c38 x39 e39) (.consR 1 (Ro (eI .u8) 5 1 (.slice a9 x8.2.1.length c10) x8.2.1) rfl (.consR 0 (Ro (eI .u8) 5 1 (.slice a37 ([172] : List Int).length c38) ([172] : List Int)) rfl .nil)) (fun x39 e39 => ?_)
        intro _
        refine sxo_pick (b := true) rfl rfl rfl rfl ?_
        refine sxo_nil ?_
        exact sxq_meetP (x39, ()) (lk_cons rfl (lk_cons rfl (lk_cons rfl (lk_cons rfl (lk_cons rfl (lk_cons rfl (lk_cons rfl lk_nil))))))) .nil .nil fk_nil
      · refine sxo_isF (k := 74) rfl h26 ?_
        refine sxo_skip rfl rfl rfl ?_
        refine sxo_skip rfl rfl rfl ?_
        refine sxo_skip rfl rfl rfl ?_
        refine sxo_skip rfl rfl rfl ?_
        refine sxo_pick (b := false) rfl rfl rfl rfl ?_
        refine sxo_nil ?_
        exact sxq_meetP (false, ()) (lk_cons rfl (lk_cons rfl (lk_cons rfl (lk_cons rfl (lk_cons rfl (lk_cons rfl (lk_cons rfl lk_nil))))))) .nil .nil fk_nil
    · rintro ⟨x30, _⟩
      try dsimp only
      refine sxo_take (os := _) rfl ?_
      refine sxo_move rfl rfl rfl ?_
      refine sxo_case 3 x30 [(9, .int .u64 x12.1), (10, .int .i64 x12.2.1), (11, .int .i64 x12.2.2), (13, .int .i64 x15.2), (16, .int .i64 x16.2.2), (83, .bool (x30 && ((x8.2.2 : Int) == 0)))] (fun h31 => ?_) (fun h31 => ?_) ?_
      · refine sxo_take (os := _) rfl ?_
        refine sxo_isT (k := 80) rfl h31 ?_
        refine sxo_move rfl rfl rfl ?_
        refine sxo_eql rfl rfl rfl rfl ?_
        refine sxo_pick (b := true) rfl rfl rfl rfl ?_
        refine sxo_again (d := 83) (v := .bool (x30 && ((x8.2.2 : Int) == 0))) rfl (by rw [h31]; simp only [Bool.true_and]) ?_
        refine sxo_nil ?_
        exact sxq_case (lk_cons rfl (lk_cons rfl (lk_cons rfl (lk_cons rfl (lk_cons rfl (lk_cons rfl lk_nil))))))
      · refine sxo_take (os := _) rfl ?_
        refine sxo_isF (k := 80) rfl h31 ?_
        refine sxo_skip rfl rfl rfl ?_
        refine sxo_skip rfl rfl rfl ?_
        refine sxo_pick (b := false) rfl rfl rfl rfl ?_
        refine sxo_again (d := 83) (v := .bool (x30 && ((x8.2.2 : Int) == 0))) rfl (by rw [h31]; simp only [Bool.false_and]) ?_
        refine sxo_nil ?_
        exact sxq_case (lk_cons rfl (lk_cons rfl (lk_cons rfl (lk_cons rfl (lk_cons rfl (lk_cons rfl lk_nil))))))
      refine sxo_take (os := _) rfl ?_
      refine sxo_move rfl rfl rfl ?_
      refine sxo_case 3 (x30 && ((x8.2.2 : Int) == 0)) [(10, .int .i64 x12.2.1), (11, .int .i64 x12.2.2), (13, .int .i64 x15.2), (16, .int .i64 x16.2.2), (87, .bool ((x30 && ((x8.2.2 : Int) == 0)) && ((x12.1 : Int) == 11)))] (fun h32 => ?_) (fun h32 => ?_) ?_
      · refine sxo_take (os := _) rfl ?_
        refine sxo_isT (k := 84) rfl h32 ?_
        refine sxo_move rfl rfl rfl ?_
        refine sxo_eql rfl rfl rfl rfl ?_
        refine sxo_pick (b := true) rfl rfl rfl rfl ?_
        refine sxo_again (d := 87) (v := .bool ((x30 && ((x8.2.2 : Int) == 0)) && ((x12.1 : Int) == 11))) rfl (by rw [h32]; simp only [Bool.true_and]) ?_
        refine sxo_nil ?_
        exact sxq_case (lk_cons rfl (lk_cons rfl (lk_cons rfl (lk_cons rfl (lk_cons rfl lk_nil)))))
      · refine sxo_take (os := _) rfl ?_
        refine sxo_isF (k := 84) rfl h32 ?_
        refine sxo_skip rfl rfl rfl ?_
        refine sxo_skip rfl rfl rfl ?_
        refine sxo_pick (b := false) rfl rfl rfl rfl ?_
        refine sxo_again (d := 87) (v := .bool ((x30 && ((x8.2.2 : Int) == 0)) && ((x12.1 : Int) == 11))) rfl (by rw [h32]; simp only [Bool.false_and]) ?_
        refine sxo_nil ?_
        exact sxq_case (lk_cons rfl (lk_cons rfl (lk_cons rfl (lk_cons rfl (lk_cons rfl lk_nil)))))
      refine sxo_take (os := _) rfl ?_
      refine sxo_move rfl rfl rfl ?_
      refine sxo_case 3 ((x30 && ((x8.2.2 : Int) == 0)) && ((x12.1 : Int) == 11)) [(11, .int .i64 x12.2.2), (13, .int .i64 x15.2), (16, .int .i64 x16.2.2), (91, .bool (((x30 && ((x8.2.2 : Int) == 0)) && ((x12.1 : Int) == 11)) && ((x12.2.1 : Int) == 6)))] (fun h33 => ?_) (fun h33 => ?_) ?_
      · refine sxo_take (os := _) rfl ?_
        refine sxo_isT (k := 88) rfl h33 ?_
        refine sxo_move rfl rfl rfl ?_
        refine sxo_eql rfl rfl rfl rfl ?_
        refine sxo_pick (b := true) rfl rfl rfl rfl ?_
        refine sxo_again (d := 91) (v := .bool (((x30 && ((x8.2.2 : Int) == 0)) && ((x12.1 : Int) == 11)) && ((x12.2.1 : Int) == 6))) rfl (by rw [h33]; simp only [Bool.true_and]) ?_
        refine sxo_nil ?_
        exact sxq_case (lk_cons rfl (lk_cons rfl (lk_cons rfl (lk_cons rfl lk_nil))))
      · refine sxo_take (os := _) rfl ?_
        refine sxo_isF (k := 88) rfl h33 ?_
        refine sxo_skip rfl rfl rfl ?_
        refine sxo_skip rfl rfl rfl ?_
        refine sxo_pick (b := false) rfl rfl rfl rfl ?_
        refine sxo_again (d := 91) (v := .bool (((x30 && ((x8.2.2 : Int) == 0)) && ((x12.1 : Int) == 11)) && ((x12.2.1 : Int) == 6))) rfl (by rw [h33]; simp only [Bool.false_and]) ?_
        refine sxo_nil ?_
        exact sxq_case (lk_cons rfl (lk_cons rfl (lk_cons rfl (lk_cons rfl lk_nil))))
      refine sxo_take (os := _) rfl ?_
      refine sxo_move rfl rfl rfl ?_
      refine sxo_case 3 (((x30 && ((x8.2.2 : Int) == 0)) && ((x12.1 : Int) == 11)) && ((x12.2.1 : Int) == 6)) [(13, .int .i64 x15.2), (16, .int .i64 x16.2.2), (95, .bool ((((x30 && ((x8.2.2 : Int) == 0)) && ((x12.1 : Int) == 11)) && ((x12.2.1 : Int) == 6)) && ((x12.2.2 : Int) == 0)))] (fun h34 => ?_) (fun h34 => ?_) ?_
      · refine sxo_take (os := _) rfl ?_
        refine sxo_isT (k := 92) rfl h34 ?_
        refine sxo_move rfl rfl rfl ?_
        refine sxo_eql rfl rfl rfl rfl ?_
        refine sxo_pick (b := true) rfl rfl rfl rfl ?_
        refine sxo_again (d := 95) (v := .bool ((((x30 && ((x8.2.2 : Int) == 0)) && ((x12.1 : Int) == 11)) && ((x12.2.1 : Int) == 6)) && ((x12.2.2 : Int) == 0))) rfl (by rw [h34]; simp only [Bool.true_and]) ?_
        refine sxo_nil ?_
        exact sxq_case (lk_cons rfl (lk_cons rfl (lk_cons rfl lk_nil)))
      · refine sxo_take (os := _) rfl ?_
        refine sxo_isF (k := 92) rfl h34 ?_
        refine sxo_skip rfl rfl rfl ?_
        refine sxo_skip rfl rfl rfl ?_
        refine sxo_pick (b := false) rfl rfl rfl rfl ?_
        refine sxo_again (d := 95) (v := .bool ((((x30 && ((x8.2.2 : Int) == 0)) && ((x12.1 : Int) == 11)) && ((x12.2.1 : Int) == 6)) && ((x12.2.2 : Int) == 0))) rfl (by rw [h34]; simp only [Bool.false_and]) ?_
        refine sxo_nil ?_
        exact sxq_case (lk_cons rfl (lk_cons rfl (lk_cons rfl lk_nil)))
      refine sxo_take (os := _) rfl ?_
      refine sxo_move rfl rfl rfl ?_
      refine sxo_case 3 ((((x30 && ((x8.2.2 : Int) == 0)) && ((x12.1 : Int) == 11)) && ((x12.2.1 : Int) == 6)) && ((x12.2.2 : Int) == 0)) [(16, .int .i64 x16.2.2), (99, .bool (((((x30 && ((x8.2.2 : Int) == 0)) && ((x12.1 : Int) == 11)) && ((x12.2.1 : Int) == 6)) && ((x12.2.2 : Int) == 0)) && ((x15.2 : Int) == 4)))] (fun h35 => ?_) (fun h35 => ?_) ?_
      · refine sxo_take (os := _) rfl ?_
        refine sxo_isT (k := 96) rfl h35 ?_
        refine sxo_move rfl rfl rfl ?_
        refine sxo_eql rfl rfl rfl rfl ?_
        refine sxo_pick (b := true) rfl rfl rfl rfl ?_
        refine sxo_again (d := 99) (v := .bool (((((x30 && ((x8.2.2 : Int) == 0)) && ((x12.1 : Int) == 11)) && ((x12.2.1 : Int) == 6)) && ((x12.2.2 : Int) == 0)) && ((x15.2 : Int) == 4))) rfl (by rw [h35]; simp only [Bool.true_and]) ?_
        refine sxo_nil ?_
        exact sxq_case (lk_cons rfl (lk_cons rfl lk_nil))
      · refine sxo_take (os := _) rfl ?_
        refine sxo_isF (k := 96) rfl h35 ?_
        refine sxo_skip rfl rfl rfl ?_
        refine sxo_skip rfl rfl rfl ?_
        refine sxo_pick (b := false) rfl rfl rfl rfl ?_
        refine sxo_again (d := 99) (v := .bool (((((x30 && ((x8.2.2 : Int) == 0)) && ((x12.1 : Int) == 11)) && ((x12.2.1 : Int) == 6)) && ((x12.2.2 : Int) == 0)) && ((x15.2 : Int) == 4))) rfl (by rw [h35]; simp only [Bool.false_and]) ?_
        refine sxo_nil ?_
        exact sxq_case (lk_cons rfl (lk_cons rfl lk_nil))
      refine sxo_take (os := _) rfl ?_
      refine sxo_move rfl rfl rfl ?_
      refine sxo_case 3 (((((x30 && ((x8.2.2 : Int) == 0)) && ((x12.1 : Int) == 11)) && ((x12.2.1 : Int) == 6)) && ((x12.2.2 : Int) == 0)) && ((x15.2 : Int) == 4)) [(103, .bool ((((((x30 && ((x8.2.2 : Int) == 0)) && ((x12.1 : Int) == 11)) && ((x12.2.1 : Int) == 6)) && ((x12.2.2 : Int) == 0)) && ((x15.2 : Int) == 4)) && ((x16.2.2 : Int) == 0)))] (fun h36 => ?_) (fun h36 => ?_) ?_
      · refine sxo_take (os := _) rfl ?_
        refine sxo_isT (k := 100) rfl h36 ?_
        refine sxo_move rfl rfl rfl ?_
        refine sxo_eql rfl rfl rfl rfl ?_
        refine sxo_pick (b := true) rfl rfl rfl rfl ?_
        refine sxo_again (d := 103) (v := .bool ((((((x30 && ((x8.2.2 : Int) == 0)) && ((x12.1 : Int) == 11)) && ((x12.2.1 : Int) == 6)) && ((x12.2.2 : Int) == 0)) && ((x15.2 : Int) == 4)) && ((x16.2.2 : Int) == 0))) rfl (by rw [h36]; simp only [Bool.true_and]) ?_
        refine sxo_nil ?_
        exact sxq_case (lk_cons rfl lk_nil)
      · refine sxo_take (os := _) rfl ?_
        refine sxo_isF (k := 100) rfl h36 ?_
        refine sxo_skip rfl rfl rfl ?_
        refine sxo_skip rfl rfl rfl ?_
        refine sxo_pick (b := false) rfl rfl rfl rfl ?_
        refine sxo_again (d := 103) (v := .bool ((((((x30 && ((x8.2.2 : Int) == 0)) && ((x12.1 : Int) == 11)) && ((x12.2.1 : Int) == 6)) && ((x12.2.2 : Int) == 0)) && ((x15.2 : Int) == 4)) && ((x16.2.2 : Int) == 0))) rfl (by rw [h36]; simp only [Bool.false_and]) ?_
        refine sxo_nil ?_
        exact sxq_case (lk_cons rfl lk_nil)
      refine sxo_take (os := _) rfl ?_
      refine sxo_assign rfl rfl rfl ?_
      refine sxo_nil ?_
      refine sxq_next ?_
      refine sxc_ret ?_
      exact sxq_doneP () (.inl rfl) (res1 rfl rfl) (fun h => by subst h; rfl) (fun h => by subst h; exact .nil)
end Go.Proofs.Ytecangnmnkejfaa
