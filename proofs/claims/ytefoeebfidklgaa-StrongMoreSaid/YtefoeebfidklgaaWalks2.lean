/- Each Go function of this seat computes what its model says, part 2. -/
import Derived.Test.YtefoeebfidklgaaWalks
namespace Go.Proofs.Ytefoeebfidklgaa
open Go SX
theorem C_R_SameLists (F : Nat) (x1 : List (List Int)) (a2 : Option Addr) (c3 : (Nat × List (Option Addr × Nat))) (x4 : List (List Int)) (a5 : Option Addr) (c6 : (Nat × List (Option Addr × Nat))) (r : Bool) (hm : M_R_SameLists F x1 x4 = some r) :
    Pure Try.prog 43 [.slice a2 x1.length c3.1, .slice a5 x4.length c6.1] [SlN eN25 iN25 1 (.slice a2 x1.length c3.1) x1 c3.2, SlN eN25 iN25 1 (.slice a5 x4.length c6.1) x4 c6.2] Unit (fun _ => .bool r) (fun _ => []) (fun _ => []) := by
  refine pure_of Try.func43 rfl Try.ntmps43 rfl hm (fun w => ?_)
  refine sxc_env (l' := [(0, .slice a2 x1.length c3.1), (1, .slice a5 x4.length c6.1)]) rfl ?_
  refine sxc_seq ?_
  refine sxc_region ?_
  refine sxo_assign rfl rfl rfl ?_
  refine sxo_nil ?_
  refine sxq_next ?_
  refine sxc_seq ?_
  refine sxc_seq ?_
  refine sxc_region ?_
  refine sxo_move rfl rfl rfl ?_
  refine sxo_len rfl Try.underlying22 rfl rfl ?_
  refine sxo_move rfl rfl rfl ?_
  refine sxo_len rfl Try.underlying22 rfl rfl ?_
  refine sxo_neq rfl rfl rfl rfl ?_
  refine sxo_nil ?_
  refine sxq_next ?_
  refine sxc_if rfl (fun h300 => ?_) (fun h300 => ?_)
  · refine sxc_seq ?_
    refine sxc_region ?_
    refine sxo_assign rfl rfl rfl ?_
    refine sxo_nil ?_
    refine sxq_next ?_
    refine sxc_ret ?_
    refine sxq_thenR ?_
    exact sxq_doneP () (res1 rfl rfl)
  · refine sxc_skip ?_
    refine sxq_next ?_
    refine sxc_join (fun ((_, _) : (Unit × Unit)) => []) (fun ((_, _) : (Unit × Unit)) => []) (fun ((_, _) : (Unit × Unit)) => []) (fun ((_, _) : (Unit × Unit)) => []) (fun ((_, _) : (Unit × Unit)) => M_R_SameLists_j2 F) ?_ ?_
    · refine sxc_seq ?_
      refine sxc_region ?_
      refine sxo_assign rfl rfl rfl ?_
      refine sxo_nil ?_
      refine sxq_next ?_
      refine sxc_block ?_
      refine sxc_loopP (fun ((x202, _) : (Int × Unit)) => [(0, .slice a2 x1.length c3.1), (1, .slice a5 x4.length c6.1), (5, .int .i64 x202)]) (fun ((x202, _) : (Int × Unit)) => []) (fun ((x202, _) : (Int × Unit)) => []) (fun ((x202, _) : (Int × Unit)) => [SlN eN25 iN25 1 (.slice a2 x1.length c3.1) x1 c3.2, SlN eN25 iN25 1 (.slice a5 x4.length c6.1) x4 c6.2]) (fun k (s : (Int × Unit)) => M_R_SameLists_l3 F x1 x4 k s.1) (0, ()) F ?_ (hF := (fk_cons 0 rfl (fk_cons 1 rfl fk_nil)))
      intro k251
      rintro ⟨x202, _⟩
      try dsimp only
      refine sxc_meq (m' := M_R_SameLists_b3 F x1 x4 (M_R_SameLists_l3 F x1 x4 k251) x202) rfl ?_
      refine sxc_seq ?_
      refine sxc_seq ?_
      refine sxc_region ?_
      refine sxo_move rfl rfl rfl ?_
      refine sxo_move rfl rfl rfl ?_
      refine sxo_len rfl Try.underlying22 rfl rfl ?_
      refine sxo_lss rfl rfl rfl rfl ?_
      refine sxo_nil ?_
      refine sxq_next ?_
      refine sxc_if rfl (fun h299 => ?_) (fun h299 => ?_)
      · refine sxc_skip ?_
        refine sxq_next ?_
        refine sxc_seq ?_
        refine sxc_block ?_
        refine sxc_seq ?_
        refine sxc_idxN (j := 0) eN25_ok (by decide) rfl (fun x287 e287 g291 b288 o289 h290 => ?_)
        replace h290 : a2 = some ⟨b288, o289, none⟩ := h290
        refine sxc_idxN (j := 3) eN25_ok (by decide) rfl (fun x292 e292 g296 b293 o294 h295 => ?_)
        replace h295 : a5 = some ⟨b293, o294, none⟩ := h295
        refine sxb_draw mixed [] [] [CellsAt b293 (o294 + x202.toNat * 1) (eN25 (x292, g296)), Sl (eI .i64) 1 (.slice g296.1 x292.length g296.2) x292, CellsAt b288 (o289 + x202.toNat * 1) (eN25 (x287, g291)), Sl (eI .i64) 1 (.slice g291.1 x287.length g291.2) x287, SlN eN25 iN25 1 (.slice a2 x1.length c3.1) x1 c3.2, SlN eN25 iN25 1 (.slice a5 x4.length c6.1) x4 c6.2] .nil (gk_F 0 rfl (gk_F 1 rfl (gk_F 2 rfl (gk_F 3 rfl (gk_F 4 rfl (gk_F 5 rfl gk_nil)))))) 10 rfl ?_
        refine sxb_takeP 0 (.slice a2 x1.length c3.1) rfl rfl rfl (yv_pv rfl) ?_
        refine sxb_takeP 1 (.int .i64 x202) rfl rfl rfl (yv_pv rfl) ?_
        refine sxb_again (d := 17) (v := .slice (some ⟨b288, o289, none⟩) x1.length c3.1) rfl (by rw [h290] <;> rfl) ?_
        refine sxb_takeP 2 (.pointer (some ⟨b288, (o289 + x202.toNat * 1), none⟩)) rfl rfl rfl (yv_idx Try.underlying22 tf25 rfl rfl (idx_get e287).1 (idx_lt e287)) ?_
        refine sxb_again (d := 17) (v := .slice a2 x1.length c3.1) rfl (by rw [h290] <;> rfl) ?_
        refine sxb_take 3 (.slice g291.1 x287.length g291.2) [] rfl rfl rfl (yv_loadF (j := 2) rfl tf25 rfl rfl (fun _ => rfl) rfl) ?_
        refine sxb_takeP 4 (.slice a5 x4.length c6.1) rfl rfl rfl (yv_pv rfl) ?_
        refine sxb_takeP 5 (.int .i64 x202) rfl rfl rfl (yv_pv rfl) ?_
        refine sxb_again (d := 21) (v := .slice (some ⟨b293, o294, none⟩) x4.length c6.1) rfl (by rw [h295] <;> rfl) ?_
        refine sxb_takeP 6 (.pointer (some ⟨b293, (o294 + x202.toNat * 1), none⟩)) rfl rfl rfl (yv_idx Try.underlying22 tf25 rfl rfl (idx_get e292).1 (idx_lt e292)) ?_
        refine sxb_again (d := 21) (v := .slice a5 x4.length c6.1) rfl (by rw [h295] <;> rfl) ?_
        refine sxb_take 7 (.slice g296.1 x292.length g296.2) [] rfl rfl rfl (yv_loadF (j := 0) rfl tf25 rfl rfl (fun _ => rfl) rfl) ?_
        refine sxb_step 8 rfl (by kernel_rfl) rfl ?_
        refine sxo_call ent19 rfl rfl rfl (fun x297 e297 => C_R_SameInts F x287 g291.1 g291.2 x292 g296.1 g296.2 x297 e297) (.consF 3 rfl (.consF 1 rfl .nil)) (fun x297 e297 => ?_)
        intro _
        refine sxo_nil ?_
        refine sxq_anyB .nil (gk_F 0 rfl (gk_F 1 rfl (gk_F 2 rfl (gk_F 3 rfl (gk_F 4 rfl (gk_F 5 rfl gk_nil)))))) ?_
        refine sxb_takeP 9 (.bool (!x297)) rfl rfl rfl (yv_pv rfl) ?_
        refine sxb_done (by kernel_rfl) ?_
        refine sxq_np ?_ (by intro c h; cases h)
        refine sxq_next ?_
        refine sxc_if rfl (fun h298 => ?_) (fun h298 => ?_)
        · refine sxc_seq ?_
          refine sxc_region ?_
          refine sxo_assign rfl rfl rfl ?_
          refine sxo_nil ?_
          refine sxq_next ?_
          refine sxc_ret ?_
          refine sxq_blkR ?_
          refine sxq_thenR ?_
          refine sxq_thenR ?_
          refine sxq_blkR ?_
          refine sxq_thenR ?_
          exact sxq_doneP () (res1 rfl rfl)
        · refine sxc_skip ?_
          refine sxq_blkN ?_
          refine sxq_next ?_
          refine sxc_region ?_
          refine sxo_move rfl rfl rfl ?_
          refine sxo_add rfl rfl rfl rfl ?_
          refine sxo_assign rfl rfl rfl ?_
          refine sxo_nil ?_
          exact sxq_againP (iadd .i64 x202 1, ()) (hF := (fk_cons 4 rfl (fk_cons 5 rfl fk_nil)))
      · refine sxc_exit ?_
        refine sxq_thenX ?_
        refine sxq_thenX ?_
        refine sxq_blkX ?_
        exact sxq_meetP ((), ())
    · rintro ⟨_, _⟩
      try dsimp only
      refine sxc_seq ?_
      refine sxc_region ?_
      refine sxo_assign rfl rfl rfl ?_
      refine sxo_nil ?_
      refine sxq_next ?_
      refine sxc_ret ?_
      exact sxq_doneP () (res1 rfl rfl)

set_option maxHeartbeats 4000000 in
theorem C_L_strongBegun (F : Nat)  (r : Bool) (hm : M_L_strongBegun F  = some r) :
    Pure Try.prog 18 [] [] Unit (fun _ => .bool r) (fun _ => []) (fun _ => []) := by
  refine pure_of Try.func18 rfl Try.ntmps18 rfl hm (fun w => ?_)
  refine sxc_env (l' := []) rfl ?_
  refine sxc_seq ?_
  refine sxc_region ?_
  refine sxo_assign rfl rfl rfl ?_
  refine sxo_nil ?_
  refine sxq_next ?_
  refine sxc_seq ?_
  refine sxc_region ?_
  refine sxo_call ent42 rfl rfl rfl (fun x1 e1 => C_L_someGraph F  x1 e1) .nil (fun x1 e1 => ?_)
  rintro ⟨a2, c3⟩
  refine sxo_call ent11 rfl rfl rfl (fun x4 e4 => C_strong_Parts F x1 a2 c3 x4 e4) (.consG 0 rfl (nest_sl rN25_in) .nil) (fun x4 e4 => ?_)
  rintro ⟨a5, c6⟩
  refine sxo_move rfl rfl rfl ?_
  refine sxo_extract rfl rfl rfl rfl ?_
  refine sxo_extract rfl rfl rfl rfl ?_
  refine sxo_assign rfl rfl rfl ?_
  refine sxo_assign rfl rfl rfl ?_
  refine sxo_nil ?_
  refine sxq_next ?_
  refine sxc_seq ?_
  refine sxc_region ?_
  refine sxo_slit (vs := [.int .i64 0]) (ys := ([0] : List Int)) (eI_ok .i64) (by decide) rfl Try.underlying25 tf3 rfl rfl rfl rfl rfl (by decide) (fun a7 c8 => ?_)
  refine sxo_slit (vs := [.int .i64 0, .int .i64 1]) (ys := ([0, 1] : List Int)) (eI_ok .i64) (by decide) rfl Try.underlying25 tf3 rfl rfl rfl rfl rfl (by decide) (fun a9 c10 => ?_)
  refine sxo_nilrow' Int (eI .i64) 3 1 ?_
  refine sxo_freeze 0 rfl ?_
  refine sxo_freeze 1 rfl ?_
  refine sxo_freeze 0 rfl ?_
  refine sxo_slit (vs := [.slice none 0 0, .slice a7 ([0] : List Int).length c8, .slice a9 ([0, 1] : List Int).length c10]) (ys := ([(([] : List Int), (none, 0)), (([0] : List Int), (a7, c8)), (([0, 1] : List Int), (a9, c10))] : List (List Int × (Option Addr × Nat)))) eN25_ok (by decide) rfl Try.underlying22 tf25 rfl rfl rfl rfl rfl (by decide) (fun a11 c12 => ?_)
  refine sxo_nestF (inn := iN25) ([([] : List Int), ([0] : List Int), ([0, 1] : List Int)] : List (List Int)) ([(none, 0), (a7, c8), (a9, c10)] : List (Option Addr × Nat)) 0 rfl rfl (fk_cons 2 rfl (fk_cons 1 rfl (fk_cons 0 rfl fk_nil))) ?_
  refine sxo_build (cells := [.slice a11 ([([] : List Int), ([0] : List Int), ([0, 1] : List Int)] : List (List Int)).length c12]) rfl st24 rfl (by kernel_rfl) rfl ?_
  refine sxo_call ent12 rfl rfl rfl (fun x13 e13 => C_strong_Order F ([([] : List Int), ([0] : List Int), ([0, 1] : List Int)] : List (List Int)) a11 (c12, ([(none, 0), (a7, c8), (a9, c10)] : List (Option Addr × Nat))) x13 e13) (.consF 0 rfl .nil) (fun x13 e13 => ?_)
  rintro ⟨a14, c15⟩
  refine sxo_move rfl rfl rfl ?_
  refine sxo_extract rfl rfl rfl rfl ?_
  refine sxo_extract rfl rfl rfl rfl ?_
  refine sxo_assign rfl rfl rfl ?_
  refine sxo_assign rfl rfl rfl ?_
  refine sxo_nil ?_
  refine sxq_next ?_
  refine sxc_seq ?_
  refine sxc_region ?_
  refine sxo_call ent42 rfl rfl rfl (fun x16 e16 => C_L_someGraph F  x16 e16) .nil (fun x16 e16 => ?_)
  rintro ⟨a17, c18⟩
  refine sxo_callM ent13 rfl rfl rfl (fun x19 e19 => C_strong_Shrink F x16 a17 c18 x19 e19) .nil .nil (.consG 0 rfl (nest_sl rN25_in) .nil) (fun x19 e19 => ?_)
  rintro ⟨⟨a20, c21⟩, ⟨a22, c23⟩⟩
  refine sxo_move rfl rfl rfl ?_
  refine sxo_extract rfl rfl rfl rfl ?_
  refine sxo_extract rfl rfl rfl rfl ?_
  refine sxo_extract rfl rfl rfl rfl ?_
  refine sxo_alloc rfl tf24 rfl (fun g24 => ?_)
  refine sxo_storeB (i := 0) rfl rfl rfl tf24 rfl rfl rfl rfl rfl ?_
  refine sxo_assign rfl rfl rfl ?_
  refine sxo_assign rfl rfl rfl ?_
  refine sxo_nil ?_
  refine sxq_next ?_
  refine sxc_seq ?_
  refine sxc_region ?_
  refine sxo_call ent42 rfl rfl rfl (fun x25 e25 => C_L_someGraph F  x25 e25) .nil (fun x25 e25 => ?_)
  rintro ⟨a26, c27⟩
  refine sxo_call ent12 rfl rfl rfl (fun x28 e28 => C_strong_Order F x25 a26 c27 x28 e28) (.consG 0 rfl (nest_sl rN25_in) .nil) (fun x28 e28 => ?_)
  rintro ⟨a29, c30⟩
  refine sxo_move rfl rfl rfl ?_
  refine sxo_extract rfl rfl rfl rfl ?_
  refine sxo_extract rfl rfl rfl rfl ?_
  refine sxo_assign rfl rfl rfl ?_
  refine sxo_assign rfl rfl rfl ?_
  refine sxo_nil ?_
  refine sxq_next ?_
  refine sxc_seq ?_
  refine sxc_region ?_
  refine sxo_move rfl rfl rfl ?_
  refine sxo_slit (vs := [.int .i64 0, .int .i64 0, .int .i64 0, .int .i64 3, .int .i64 4, .int .i64 0]) (ys := ([0, 0, 0, 3, 4, 0] : List Int)) (eI_ok .i64) (by decide) rfl Try.underlying25 tf3 rfl rfl rfl rfl rfl (by decide) (fun a31 c32 => ?_)
  refine sxo_call ent19 rfl rfl rfl (fun x33 e33 => C_R_SameInts F x4.1 a5 c6 ([0, 0, 0, 3, 4, 0] : List Int) a31 c32 x33 e33) (.consR 7 (Ro (eI .i64) 3 1 (.slice a5 x4.1.length c6) x4.1) rfl (.consR 0 (Ro (eI .i64) 3 1 (.slice a31 ([0, 0, 0, 3, 4, 0] : List Int).length c32) ([0, 0, 0, 3, 4, 0] : List Int)) rfl .nil)) (fun x33 e33 => ?_)
  intro _
  refine sxo_move rfl rfl rfl ?_
  refine sxo_case 3 x33 [(3, .slice a14 x13.1.length c15), (4, .int .i64 x13.2), (5, .pointer (some ⟨g24, 0, none⟩)), (6, .slice a22 x19.2.1.length c23), (7, .int .i64 x19.2.2), (9, .int .i64 x28.2), (40, .bool (x33 && ((x4.2 : Int) == 0)))] (fun h34 => ?_) (fun h34 => ?_) ?_
  · refine sxo_take (os := _) rfl ?_
    refine sxo_isT (k := 37) rfl h34 ?_
    refine sxo_move rfl rfl rfl ?_
    refine sxo_eql rfl rfl rfl rfl ?_
    refine sxo_pick (b := true) rfl rfl rfl rfl ?_
    refine sxo_again (d := 40) (v := .bool (x33 && ((x4.2 : Int) == 0))) rfl (by rw [h34]; simp only [Bool.true_and]) ?_
    refine sxo_nil ?_
    exact sxq_case (lk_cons rfl (lk_cons rfl (lk_cons rfl (lk_cons rfl (lk_cons rfl (lk_cons rfl (lk_cons rfl lk_nil)))))))
  · refine sxo_take (os := _) rfl ?_
    refine sxo_isF (k := 37) rfl h34 ?_
    refine sxo_skip rfl rfl rfl ?_
    refine sxo_skip rfl rfl rfl ?_
    refine sxo_pick (b := false) rfl rfl rfl rfl ?_
    refine sxo_again (d := 40) (v := .bool (x33 && ((x4.2 : Int) == 0))) rfl (by rw [h34]; simp only [Bool.false_and]) ?_
    refine sxo_nil ?_
    exact sxq_case (lk_cons rfl (lk_cons rfl (lk_cons rfl (lk_cons rfl (lk_cons rfl (lk_cons rfl (lk_cons rfl lk_nil)))))))
  refine sxo_take (os := _) rfl ?_
  refine sxo_move rfl rfl rfl ?_
  refine sxo_join 4 (fun ((x39, _) : (Bool × Unit)) => [(4, .int .i64 x13.2), (5, .pointer (some ⟨g24, 0, none⟩)), (6, .slice a22 x19.2.1.length c23), (7, .int .i64 x19.2.2), (9, .int .i64 x28.2), (45, .bool x39)]) (fun ((x39, _) : (Bool × Unit)) => [⟨g24, 24, [.slice a20 x19.1.length c21.1]⟩]) (fun ((x39, _) : (Bool × Unit)) => [Ro (eI .i64) 3 1 (.slice a22 x19.2.1.length c23) x19.2.1, RoN eN25 rN25 25 1 (.slice a20 x19.1.length c21.1) x19.1 c21.2 []]) (fun ((x39, _) : (Bool × Unit)) => []) (fun ((x39, _) : (Bool × Unit)) => M_L_strongBegun_j1 F x13 x19 x28 x39) ?_ ?_
  · refine sxo_take (os := _) rfl ?_
    refine sxo_if (fun h35 => ?_) (fun h35 => ?_)
    · refine sxo_isT (k := 41) rfl h35 ?_
      refine sxo_move rfl rfl rfl ?_
      refine sxo_slit (vs := [.int .i64 2, .int .i64 1, .int .i64 0]) (ys := ([2, 1, 0] : List Int)) (eI_ok .i64) (by decide) rfl Try.underlying25 tf3 rfl rfl rfl rfl rfl (by decide) (fun a63 c64 => ?_)
      refine sxo_call ent19 rfl rfl rfl (fun x65 e65 => C_R_SameInts F x13.1 a14 c15 ([2, 1, 0] : List Int) a63 c64 x65 e65) (.consR 7 (Ro (eI .i64) 3 1 (.slice a14 x13.1.length c15) x13.1) rfl (.consR 0 (Ro (eI .i64) 3 1 (.slice a63 ([2, 1, 0] : List Int).length c64) ([2, 1, 0] : List Int)) rfl .nil)) (fun x65 e65 => ?_)
      intro _
      refine sxo_pick (b := true) rfl rfl rfl rfl ?_
      refine sxo_nil ?_
      exact sxq_meetP (x65, ()) (hB := (.cons 0 rfl .nil)) (hR := (.cons 5 rfl (.cons 4 rfl .nil)))
    · refine sxo_isF (k := 41) rfl h35 ?_
      refine sxo_skip rfl rfl rfl ?_
      refine sxo_skip rfl rfl rfl ?_
      refine sxo_skip rfl rfl rfl ?_
      refine sxo_pick (b := false) rfl rfl rfl rfl ?_
      refine sxo_nil ?_
      exact sxq_meetP (false, ()) (hB := (.cons 0 rfl .nil)) (hR := (.cons 4 rfl (.cons 3 rfl .nil)))
  · rintro ⟨x39, _⟩
    try dsimp only
    refine sxo_take (os := _) rfl ?_
    refine sxo_move rfl rfl rfl ?_
    refine sxo_case 3 x39 [(5, .pointer (some ⟨g24, 0, none⟩)), (6, .slice a22 x19.2.1.length c23), (7, .int .i64 x19.2.2), (9, .int .i64 x28.2), (49, .bool (x39 && ((x13.2 : Int) == 0)))] (fun h40 => ?_) (fun h40 => ?_) ?_
    · refine sxo_take (os := _) rfl ?_
      refine sxo_isT (k := 46) rfl h40 ?_
      refine sxo_move rfl rfl rfl ?_
      refine sxo_eql rfl rfl rfl rfl ?_
      refine sxo_pick (b := true) rfl rfl rfl rfl ?_
      refine sxo_again (d := 49) (v := .bool (x39 && ((x13.2 : Int) == 0))) rfl (by rw [h40]; simp only [Bool.true_and]) ?_
      refine sxo_nil ?_
      exact sxq_case (lk_cons rfl (lk_cons rfl (lk_cons rfl (lk_cons rfl (lk_cons rfl lk_nil)))))
    · refine sxo_take (os := _) rfl ?_
      refine sxo_isF (k := 46) rfl h40 ?_
      refine sxo_skip rfl rfl rfl ?_
      refine sxo_skip rfl rfl rfl ?_
      refine sxo_pick (b := false) rfl rfl rfl rfl ?_
      refine sxo_again (d := 49) (v := .bool (x39 && ((x13.2 : Int) == 0))) rfl (by rw [h40]; simp only [Bool.false_and]) ?_
      refine sxo_nil ?_
      exact sxq_case (lk_cons rfl (lk_cons rfl (lk_cons rfl (lk_cons rfl (lk_cons rfl lk_nil)))))
    refine sxo_take (os := _) rfl ?_
    refine sxo_move rfl rfl rfl ?_
    refine sxo_join 6 (fun ((x47, _) : (Bool × Unit)) => [(6, .slice a22 x19.2.1.length c23), (7, .int .i64 x19.2.2), (9, .int .i64 x28.2), (56, .bool x47)]) (fun ((x47, _) : (Bool × Unit)) => []) (fun ((x47, _) : (Bool × Unit)) => [Ro (eI .i64) 3 1 (.slice a22 x19.2.1.length c23) x19.2.1]) (fun ((x47, _) : (Bool × Unit)) => []) (fun ((x47, _) : (Bool × Unit)) => M_L_strongBegun_j2 F x19 x28 x47) ?_ ?_
    · refine sxo_take (os := _) rfl ?_
      refine sxo_if (fun h41 => ?_) (fun h41 => ?_)
      · refine sxo_isT (k := 50) rfl h41 ?_
        refine sxo_fieldAddr rfl rfl ff24_0 rfl ?_
        refine sxo_loadB (i := 0) rfl rfl tf22 rfl rfl (fun _ => rfl) rfl rfl ?_
        refine sxo_slit (vs := [.int .i64 1]) (ys := ([1] : List Int)) (eI_ok .i64) (by decide) rfl Try.underlying25 tf3 rfl rfl rfl rfl rfl (by decide) (fun a58 c59 => ?_)
        refine sxo_freeze 0 rfl ?_
        refine sxo_nilrow' Int (eI .i64) 3 1 ?_
        refine sxo_freeze 0 rfl ?_
        refine sxo_nilrow' Int (eI .i64) 3 1 ?_
        refine sxo_slit (vs := [.slice a58 ([1] : List Int).length c59, .slice none 0 0, .slice none 0 0]) (ys := ([(([1] : List Int), (a58, c59)), (([] : List Int), (none, 0)), (([] : List Int), (none, 0))] : List (List Int × (Option Addr × Nat)))) eN25_ok (by decide) rfl Try.underlying22 tf25 rfl rfl rfl rfl rfl (by decide) (fun a60 c61 => ?_)
        refine sxo_nestF (inn := iN25) ([([1] : List Int), ([] : List Int), ([] : List Int)] : List (List Int)) ([(a58, c59), (none, 0), (none, 0)] : List (Option Addr × Nat)) 0 rfl rfl (fk_cons 1 rfl (fk_cons 0 rfl (fk_cons 0 rfl fk_nil))) ?_
        refine sxo_call ent43 rfl rfl rfl (fun x62 e62 => C_R_SameLists F x19.1 a20 c21 ([([1] : List Int), ([] : List Int), ([] : List Int)] : List (List Int)) a60 (c61, ([(a58, c59), (none, 0), (none, 0)] : List (Option Addr × Nat))) x62 e62) (.consG 2 rfl (nest_sl rN25_in) (.consF 0 rfl .nil)) (fun x62 e62 => ?_)
        intro _
        refine sxo_pick (b := true) rfl rfl rfl rfl ?_
        refine sxo_nil ?_
        exact sxq_meetP (x62, ()) (hR := (.cons 1 rfl .nil))
      · refine sxo_isF (k := 50) rfl h41 ?_
        refine sxo_skip rfl rfl rfl ?_
        refine sxo_skip rfl rfl rfl ?_
        refine sxo_skip rfl rfl rfl ?_
        refine sxo_skip rfl rfl rfl ?_
        refine sxo_skip rfl rfl rfl ?_
        refine sxo_pick (b := false) rfl rfl rfl rfl ?_
        refine sxo_nil ?_
        exact sxq_meetP (false, ()) (hR := (.cons 0 rfl .nil))
    · rintro ⟨x47, _⟩
      try dsimp only
      refine sxo_take (os := _) rfl ?_
      refine sxo_move rfl rfl rfl ?_
      refine sxo_join 4 (fun ((x52, _) : (Bool × Unit)) => [(7, .int .i64 x19.2.2), (9, .int .i64 x28.2), (61, .bool x52)]) (fun ((x52, _) : (Bool × Unit)) => []) (fun ((x52, _) : (Bool × Unit)) => []) (fun ((x52, _) : (Bool × Unit)) => []) (fun ((x52, _) : (Bool × Unit)) => M_L_strongBegun_j3 F x19 x28 x52) ?_ ?_
      · refine sxo_take (os := _) rfl ?_
        refine sxo_if (fun h48 => ?_) (fun h48 => ?_)
        · refine sxo_isT (k := 57) rfl h48 ?_
          refine sxo_move rfl rfl rfl ?_
          refine sxo_slit (vs := [.int .i64 0, .int .i64 0, .int .i64 0, .int .i64 1, .int .i64 2, .int .i64 0]) (ys := ([0, 0, 0, 1, 2, 0] : List Int)) (eI_ok .i64) (by decide) rfl Try.underlying25 tf3 rfl rfl rfl rfl rfl (by decide) (fun a55 c56 => ?_)
          refine sxo_call ent19 rfl rfl rfl (fun x57 e57 => C_R_SameInts F x19.2.1 a22 c23 ([0, 0, 0, 1, 2, 0] : List Int) a55 c56 x57 e57) (.consR 1 (Ro (eI .i64) 3 1 (.slice a22 x19.2.1.length c23) x19.2.1) rfl (.consR 0 (Ro (eI .i64) 3 1 (.slice a55 ([0, 0, 0, 1, 2, 0] : List Int).length c56) ([0, 0, 0, 1, 2, 0] : List Int)) rfl .nil)) (fun x57 e57 => ?_)
          intro _
          refine sxo_pick (b := true) rfl rfl rfl rfl ?_
          refine sxo_nil ?_
          exact sxq_meetP (x57, ())
        · refine sxo_isF (k := 57) rfl h48 ?_
          refine sxo_skip rfl rfl rfl ?_
          refine sxo_skip rfl rfl rfl ?_
          refine sxo_skip rfl rfl rfl ?_
          refine sxo_pick (b := false) rfl rfl rfl rfl ?_
          refine sxo_nil ?_
          exact sxq_meetP (false, ())
      · rintro ⟨x52, _⟩
        try dsimp only
        refine sxo_take (os := _) rfl ?_
        refine sxo_move rfl rfl rfl ?_
        refine sxo_case 3 x52 [(9, .int .i64 x28.2), (65, .bool (x52 && ((x19.2.2 : Int) == 0)))] (fun h53 => ?_) (fun h53 => ?_) ?_
        · refine sxo_take (os := _) rfl ?_
          refine sxo_isT (k := 62) rfl h53 ?_
          refine sxo_move rfl rfl rfl ?_
          refine sxo_eql rfl rfl rfl rfl ?_
          refine sxo_pick (b := true) rfl rfl rfl rfl ?_
          refine sxo_again (d := 65) (v := .bool (x52 && ((x19.2.2 : Int) == 0))) rfl (by rw [h53]; simp only [Bool.true_and]) ?_
          refine sxo_nil ?_
          exact sxq_case (lk_cons rfl (lk_cons rfl lk_nil))
        · refine sxo_take (os := _) rfl ?_
          refine sxo_isF (k := 62) rfl h53 ?_
          refine sxo_skip rfl rfl rfl ?_
          refine sxo_skip rfl rfl rfl ?_
          refine sxo_pick (b := false) rfl rfl rfl rfl ?_
          refine sxo_again (d := 65) (v := .bool (x52 && ((x19.2.2 : Int) == 0))) rfl (by rw [h53]; simp only [Bool.false_and]) ?_
          refine sxo_nil ?_
          exact sxq_case (lk_cons rfl (lk_cons rfl lk_nil))
        refine sxo_take (os := _) rfl ?_
        refine sxo_move rfl rfl rfl ?_
        refine sxo_case 3 (x52 && ((x19.2.2 : Int) == 0)) [(69, .bool ((x52 && ((x19.2.2 : Int) == 0)) && ((x28.2 : Int) == 4)))] (fun h54 => ?_) (fun h54 => ?_) ?_
        · refine sxo_take (os := _) rfl ?_
          refine sxo_isT (k := 66) rfl h54 ?_
          refine sxo_move rfl rfl rfl ?_
          refine sxo_eql rfl rfl rfl rfl ?_
          refine sxo_pick (b := true) rfl rfl rfl rfl ?_
          refine sxo_again (d := 69) (v := .bool ((x52 && ((x19.2.2 : Int) == 0)) && ((x28.2 : Int) == 4))) rfl (by rw [h54]; simp only [Bool.true_and]) ?_
          refine sxo_nil ?_
          exact sxq_case (lk_cons rfl lk_nil)
        · refine sxo_take (os := _) rfl ?_
          refine sxo_isF (k := 66) rfl h54 ?_
          refine sxo_skip rfl rfl rfl ?_
          refine sxo_skip rfl rfl rfl ?_
          refine sxo_pick (b := false) rfl rfl rfl rfl ?_
          refine sxo_again (d := 69) (v := .bool ((x52 && ((x19.2.2 : Int) == 0)) && ((x28.2 : Int) == 4))) rfl (by rw [h54]; simp only [Bool.false_and]) ?_
          refine sxo_nil ?_
          exact sxq_case (lk_cons rfl lk_nil)
        refine sxo_take (os := _) rfl ?_
        refine sxo_assign rfl rfl rfl ?_
        refine sxo_nil ?_
        refine sxq_next ?_
        refine sxc_ret ?_
        exact sxq_doneP () (res1 rfl rfl)

theorem C_graph_turned (F : Nat) (x1 : List (List Int)) (a2 : Option Addr) (c3 : (Nat × List (Option Addr × Nat))) (r : List (Int × Int)) (hm : M_graph_turned F x1 = some r) :
    PureM Try.prog 47 [.agg #[.slice a2 x1.length c3.1]] [] [] [SlN eN25 iN25 1 (.slice a2 x1.length c3.1) x1 c3.2] (Option Addr × Nat) (fun g => .slice g.1 r.length g.2) (fun _ => []) (fun g => [Ro eS48 48 2 (.slice g.1 r.length g.2) r]) := by
  refine pureX_of Try.func47 rfl Try.ntmps47 rfl hm (fun w => ?_)
  refine sxc_env (l' := [(0, .agg #[.slice a2 x1.length c3.1])]) rfl ?_
  refine sxc_seq ?_
  refine sxc_region ?_
  refine sxo_box rfl rfl rfl (fun g4 => ?_)
  refine sxo_assign rfl rfl rfl ?_
  refine sxo_nil ?_
  refine sxq_next ?_
  refine sxc_seq ?_
  refine sxc_region ?_
  refine sxo_alloc rfl tf51 rfl (fun g5 => ?_)
  refine sxo_nil ?_
  refine sxq_next ?_
  refine sxc_seq ?_
  refine sxc_seq ?_
  refine sxc_region ?_
  refine sxo_loadB (i := 1) rfl rfl tf24 rfl rfl (by simp) rfl rfl ?_
  refine sxo_callM ent39 rfl rfl rfl (fun x35 e35 => C_graph_All F x1 a2 c3 x35 e35) .nil .nil (.consF 0 rfl .nil) (fun x35 e35 => ?_)
  rintro g36
  refine sxo_nil ?_
  refine sxq_next ?_
  refine sxc_block ?_
  refine sxc_nilrow (Int × Int) eS48 48 2 ?_
  refine sxc_range (encs := (fun (p : (Int × Int)) => [.agg #[.int .i64 p.1, .int .i64 p.2]])) (y := (fun (x47 : List (Int × Int)) ((x56, x57) : (Int × Int)) => M_graph_turned_r2 F x47 x56 x57)) (lb := [.pointer (some ⟨g36, 0, none⟩)]) (fun (x47 : List (Int × Int)) ((a45, c46) : (Option Addr × Nat)) => [⟨g5, 51, [.slice a45 x47.length c46]⟩, ⟨g4, 24, [.slice a2 x1.length c3.1]⟩]) (fun (x47 : List (Int × Int)) ((a45, c46) : (Option Addr × Nat)) => [Ro eS48 48 2 (.slice a45 x47.length c46) x47]) (fun (_ : Empty) (_ : Unit) => []) (fun (_ : Empty) (_ : Unit) => []) (fun _ => .skip) ([] : List (Int × Int)) (none, 0) rfl ent65 (fun _ => rfl) rfl (.cons 0 rfl .nil) (.cons 0 rfl (.cons 0 rfl .nil)) (.cons 0 rfl .nil) (.consF 0 rfl .nil) (fun z hz _ _ _ hY => C_graph_All_1 F hY ([] : List (Int × Int)) (none, 0) g36 x1 a2 c3 z hz) ?_ ?_ ?_
  · rintro rc1 L1 D1 x47 ⟨a45, c46⟩ ⟨x56, x57⟩ z w M _
    try dsimp only
    refine sxc_less [(0, .agg #[.slice a2 x1.length c3.1]), (1, .pointer (some ⟨g4, 0, none⟩)), (2, .slice none 0 0), (3, .pointer (some ⟨g5, 0, none⟩)), (5, .agg #[.slice a2 x1.length c3.1]), (6, .func (.func 65) #[] #[.pointer (some ⟨g36, 0, none⟩)]), (7, .agg #[.int .i64 x56, .int .i64 x57])] (lk_cons rfl (lk_cons rfl (lk_cons rfl (lk_cons rfl (lk_cons rfl (lk_cons rfl (lk_cons rfl lk_nil))))))) ?_
    refine sxc_region ?_
    refine sxo_alloc rfl tf48 rfl (fun g58 => ?_)
    refine sxo_storeB (i := 0) rfl rfl rfl tf48 rfl rfl rfl rfl rfl ?_
    refine sxo_nil ?_
    refine sxq_begin (i := 3) rfl ?_
    refine sxc_block ?_
    refine sxc_region ?_
    refine sxo_loadB (i := 1) rfl rfl tf51 rfl rfl (fun _ => rfl) rfl rfl ?_
    refine sxo_fieldAddr rfl rfl ff48_1 rfl ?_
    refine sxo_loadB (i := 0) rfl rfl tf3 rfl rfl (fun _ => rfl) rfl rfl ?_
    refine sxo_fieldAddr rfl rfl ff48_0 rfl ?_
    refine sxo_loadB (i := 0) rfl rfl tf3 rfl rfl (fun _ => rfl) rfl rfl ?_
    refine sxo_build (cells := [.int .i64 x57, .int .i64 x56]) rfl st48 rfl (by kernel_rfl) rfl ?_
    refine sxo_slit (vs := [.agg #[.int .i64 x57, .int .i64 x56]]) (ys := ([(x57, x56)] : List (Int × Int))) eS48_ok (by decide) rfl Try.underlying51 tf48 rfl rfl rfl rfl rfl (by decide) (fun a59 c60 => ?_)
    refine sxo_app 1 eS48_ok rfl Try.underlying51 tf48 rfl rfl rfl rfl rfl (.inl ⟨0, _, rfl⟩) rfl rfl (fun x61 e61 a62 c63 => ?_)
    refine sxo_storeB (i := 1) rfl rfl rfl tf51 rfl rfl rfl rfl rfl ?_
    refine sxo_nil ?_
    refine sxq_blkN ?_
    exact sxq_round (rc := rc1) rfl (.cons 3 rfl .nil) rfl (a62, c63) (.cons 2 rfl (.cons 2 rfl (.cons 0 rfl (.cons 1 rfl .nil)))) (.cons 0 rfl .nil)
  · rintro x47 _ ⟨a45, c46⟩ D1
    try dsimp only
    refine sxq_blkN ?_
    refine sxq_next ?_
    refine sxc_seq ?_
    refine sxc_region ?_
    refine sxo_loadB (i := 2) rfl rfl tf51 rfl rfl (fun _ => rfl) rfl rfl ?_
    refine sxo_assign rfl rfl rfl ?_
    refine sxo_nil ?_
    refine sxq_next ?_
    refine sxc_ret ?_
    exact sxq_doneX [D1] (a45, c46) (.inl rfl) rfl (.cons 0 rfl .nil) (res1 rfl rfl) (fun h => by subst h; rfl) (fun h => by subst h; exact .nil) (fun h => by subst h; exact (.cons 0 rfl .nil))
  · intro t; exact t.elim

theorem C_graph_Turn (F : Nat) (x1 : List (List Int)) (a2 : Option Addr) (c3 : (Nat × List (Option Addr × Nat))) (r : (List (List Int) × Int)) (hm : M_graph_Turn F x1 = some r) :
    Pure Try.prog 24 [.agg #[.slice a2 x1.length c3.1]] [SlN eN25 iN25 1 (.slice a2 x1.length c3.1) x1 c3.2] (Option Addr × (Nat × List (Option Addr × Nat))) (fun g => .tuple #[.agg #[.slice g.1 r.1.length g.2.1], .int .i64 r.2]) (fun g => [RoN eN25 rN25 25 1 (.slice g.1 r.1.length g.2.1) r.1 g.2.2 []]) (fun _ => []) := by
  refine pure_of Try.func24 rfl Try.ntmps24 rfl hm (fun w => ?_)
  refine sxc_env (l' := [(0, .agg #[.slice a2 x1.length c3.1])]) rfl ?_
  refine sxc_seq ?_
  refine sxc_region ?_
  refine sxo_box rfl rfl rfl (fun g4 => ?_)
  refine sxo_alloc rfl tf24 rfl (fun g5 => ?_)
  refine sxo_assign rfl rfl rfl ?_
  refine sxo_nil ?_
  refine sxq_next ?_
  refine sxc_seq ?_
  refine sxc_seq ?_
  refine sxc_region ?_
  refine sxo_loadB (i := 1) rfl rfl tf24 rfl rfl (by simp) rfl rfl ?_
  refine sxo_call ent31 rfl rfl rfl (fun x8 e8 => C_graph_Check F x1 a2 c3 x8 e8) (.consF 0 rfl .nil) (fun x8 e8 => ?_)
  intro _
  refine sxo_assign rfl rfl rfl ?_
  refine sxo_nil ?_
  refine sxq_next ?_
  refine sxc_seq ?_
  refine sxc_region ?_
  refine sxo_move rfl rfl rfl ?_
  refine sxo_neq rfl rfl rfl rfl ?_
  refine sxo_nil ?_
  refine sxq_next ?_
  refine sxc_if rfl (fun h31 => ?_) (fun h31 => ?_)
  · refine sxc_seq ?_
    refine sxc_region ?_
    refine sxo_build (cells := [.slice none 0 0]) rfl st24 rfl (by kernel_rfl) rfl ?_
    refine sxo_move rfl rfl rfl ?_
    refine sxo_storeB (i := 0) rfl rfl rfl tf24 rfl rfl rfl rfl rfl ?_
    refine sxo_assign rfl rfl rfl ?_
    refine sxo_nil ?_
    refine sxq_next ?_
    refine sxc_ret ?_
    refine sxq_thenR ?_
    refine sxq_nilN (List Int) (Option Addr × Nat) eN25 rN25 25 1 ?_
    exact sxq_doneP (none, (0, ([] : List (Option Addr × Nat)))) (resL (rs := [.cell 2 24, .tmp 3]) rfl (.cell (i := 0) rfl tf24 rfl rfl (by simp) rfl (.tmp rfl ResOk.nil)) rfl) (fun h => by subst h; exact (.cons 0 rfl .nil))
  · refine sxc_skip ?_
    refine sxq_next ?_
    refine sxc_seq ?_
    refine sxb_draw mixed [] [⟨g4, 24, [.slice a2 x1.length c3.1]⟩] [SlN eN25 iN25 1 (.slice a2 x1.length c3.1) x1 c3.2] (.cons 1 rfl .nil) (gk_F 0 rfl gk_nil) 10 rfl ?_
    refine sxb_takeP 0 (.pointer (some ⟨g4, 0, none⟩)) rfl rfl rfl (yv_fieldAddr rfl ff24_0) ?_
    refine sxb_takeB 1 (.slice a2 x1.length c3.1) rfl rfl rfl (yv_loadB (i := 0) rfl tf22 rfl rfl (fun _ => rfl) rfl) ?_
    refine sxb_takeP 2 (.int .i64 (x1.length : Int)) rfl rfl rfl (yv_len Try.underlying22 rfl) ?_
    refine sxb_takeB 3 (.agg #[.slice a2 x1.length c3.1]) rfl rfl rfl (yv_loadB (i := 0) rfl tf24 rfl rfl (by simp) rfl) ?_
    refine sxb_step 4 rfl (by kernel_rfl) rfl ?_
    refine sxo_callM ent47 rfl rfl rfl (fun x20 e20 => C_graph_turned F x1 a2 c3 x20 e20) .nil .nil (.consF 0 rfl .nil) (fun x20 e20 => ?_)
    rintro ⟨a21, c22⟩
    refine sxo_nil ?_
    refine sxq_anyB (.cons 1 rfl .nil) (gk_F 0 rfl gk_nil) ?_
    refine sxb_step 5 rfl (by kernel_rfl) rfl ?_
    refine sxo_callM ent46 rfl rfl rfl (fun x23 e23 => C_slices_Values_api_Arc_api_Arc F x20 a21 c22 x23 e23) .nil .nil (.consR 0 (Ro eS48 48 2 (.slice a21 x20.length c22) x20) rfl .nil) (fun x23 e23 => ?_)
    rintro g24
    refine sxo_nil ?_
    refine sxq_anyB (.cons 2 rfl .nil) (gk_F 0 rfl gk_nil) ?_
    refine sxb_step 6 rfl (by kernel_rfl) rfl ?_
    refine sxo_callM ent45 rfl rfl rfl (fun x25 e25 => C_slices_SortedFunc_api_Arc_slices_Values_api_Arc_api_Arc_1_graph_order F g24 x20 a21 c22 x25 e25) (.cons 0 rfl .nil) .nil (.consR 0 (Ro eS48 48 2 (.slice a21 x20.length c22) x20) rfl .nil) (fun x25 e25 => ?_)
    rintro ⟨a26, c27⟩
    refine sxo_nil ?_
    refine sxq_anyB (.cons 2 rfl .nil) (gk_F 0 rfl gk_nil) ?_
    refine sxb_step 7 rfl (by kernel_rfl) rfl ?_
    refine sxo_call ent44 rfl rfl rfl (fun x28 e28 => C_graph_Built F (x1.length : Int) x25 a26 c27 x28 e28) (.consR 0 (Ro eS48 48 2 (.slice a26 x25.length c27) x25) rfl .nil) (fun x28 e28 => ?_)
    rintro ⟨a29, c30⟩
    refine sxo_nil ?_
    refine sxq_anyB (.cons 2 rfl .nil) (gk_F 0 rfl gk_nil) ?_
    refine sxb_step 8 rfl (by kernel_rfl) rfl ?_
    refine sxo_storeB (i := 1) rfl rfl rfl tf24 rfl rfl rfl rfl rfl ?_
    refine sxo_nil ?_
    refine sxq_anyB (.cons 2 rfl .nil) (gk_F 0 rfl gk_nil) ?_
    refine sxb_takeP 9 (.int .i64 0) rfl rfl rfl (yv_pv rfl) ?_
    refine sxb_done (by kernel_rfl) ?_
    refine sxq_np ?_ (by intro c h; cases h)
    refine sxq_next ?_
    refine sxc_ret ?_
    exact sxq_doneP (a29, c30) (resL (rs := [.cell 2 24, .tmp 3]) rfl (.cell (i := 1) rfl tf24 rfl rfl (by simp) rfl (.tmp rfl ResOk.nil)) rfl) (fun h => by subst h; exact (.cons 0 rfl .nil))

theorem C_slices_AppendSeq_api_Arc_api_Arc_graph_All_1 (F : Nat) (x1 : List (Int × Int)) (a2 : Option Addr) (c3 : Nat) (g4 : Nat) (x5 : List (List Int)) (a6 : Option Addr) (c7 : (Nat × List (Option Addr × Nat))) (r : List (Int × Int)) (hm : M_slices_AppendSeq_api_Arc_api_Arc_graph_All_1 F x1 x5 = some r) :
    PureM Try.prog 75 [.slice a2 x1.length c3, .func (.func 65) #[] #[.pointer (some ⟨g4, 0, none⟩)]] [⟨g4, 24, [.slice a6 x5.length c7.1]⟩] [Ro eS48 48 2 (.slice a2 x1.length c3) x1] [SlN eN25 iN25 1 (.slice a6 x5.length c7.1) x5 c7.2] (Option Addr × Nat) (fun g => .slice g.1 r.length g.2) (fun _ => [⟨g4, 24, [.slice a6 x5.length c7.1]⟩]) (fun g => [Ro eS48 48 2 (.slice g.1 r.length g.2) r]) := by
  refine pureX_of Try.func75 rfl Try.ntmps75 rfl hm (fun w => ?_)
  refine sxc_env (l' := [(0, .slice a2 x1.length c3), (1, .func (.func 65) #[] #[.pointer (some ⟨g4, 0, none⟩)])]) rfl ?_
  refine sxc_seq ?_
  refine sxc_region ?_
  refine sxo_box rfl rfl rfl (fun g8 => ?_)
  refine sxo_assign rfl rfl rfl ?_
  refine sxo_nil ?_
  refine sxq_next ?_
  refine sxc_seq ?_
  refine sxc_seq ?_
  refine sxc_region ?_
  refine sxo_move rfl rfl rfl ?_
  refine sxo_nil ?_
  refine sxq_next ?_
  refine sxc_block ?_
  refine sxc_range (encs := (fun (p : (Int × Int)) => [.agg #[.int .i64 p.1, .int .i64 p.2]])) (y := (fun (x46 : List (Int × Int)) ((x55, x56) : (Int × Int)) => M_slices_AppendSeq_api_Arc_api_Arc_graph_All_1_r2 F x46 x55 x56)) (lb := [.pointer (some ⟨g4, 0, none⟩)]) (fun (x46 : List (Int × Int)) ((a44, c45) : (Option Addr × Nat)) => [⟨g8, 51, [.slice a44 x46.length c45]⟩]) (fun (x46 : List (Int × Int)) ((a44, c45) : (Option Addr × Nat)) => [Ro eS48 48 2 (.slice a44 x46.length c45) x46]) (fun (_ : Empty) (_ : Unit) => []) (fun (_ : Empty) (_ : Unit) => []) (fun _ => .skip) x1 (a2, c3) rfl ent65 (fun _ => rfl) rfl (.cons 1 rfl .nil) (.cons 0 rfl .nil) (.cons 0 rfl .nil) (.consF 0 rfl .nil) (fun z hz _ _ _ hY => C_graph_All_1 F hY x1 (a2, c3) g4 x5 a6 c7 z hz) ?_ ?_ ?_
  · rintro rc1 L1 D1 x46 ⟨a44, c45⟩ ⟨x55, x56⟩ z w M _
    try dsimp only
    refine sxc_less [(0, .slice a2 x1.length c3), (1, .func (.func 65) #[] #[.pointer (some ⟨g4, 0, none⟩)]), (2, .pointer (some ⟨g8, 0, none⟩)), (4, .slice none 0 0), (6, .func (.func 65) #[] #[.pointer (some ⟨g4, 0, none⟩)]), (7, .agg #[.int .i64 x55, .int .i64 x56])] (lk_cons rfl (lk_cons rfl (lk_cons rfl (lk_cons rfl (lk_cons rfl (lk_cons rfl lk_nil)))))) ?_
    refine sxc_region ?_
    refine sxo_alloc rfl tf48 rfl (fun g57 => ?_)
    refine sxo_storeB (i := 0) rfl rfl rfl tf48 rfl rfl rfl rfl rfl ?_
    refine sxo_nil ?_
    refine sxq_begin (i := 2) rfl ?_
    refine sxc_block ?_
    refine sxc_region ?_
    refine sxo_loadB (i := 1) rfl rfl tf51 rfl rfl (fun _ => rfl) rfl rfl ?_
    refine sxo_loadB (i := 0) rfl rfl tf48 rfl rfl (by simp) rfl rfl ?_
    refine sxo_slit (vs := [.agg #[.int .i64 x55, .int .i64 x56]]) (ys := ([(x55, x56)] : List (Int × Int))) eS48_ok (by decide) rfl Try.underlying51 tf48 rfl rfl rfl rfl rfl (by decide) (fun a58 c59 => ?_)
    refine sxo_app 1 eS48_ok rfl Try.underlying51 tf48 rfl rfl rfl rfl rfl (.inl ⟨0, _, rfl⟩) rfl rfl (fun x60 e60 a61 c62 => ?_)
    refine sxo_storeB (i := 1) rfl rfl rfl tf51 rfl rfl rfl rfl rfl ?_
    refine sxo_nil ?_
    refine sxq_blkN ?_
    exact sxq_round (rc := rc1) rfl (.cons 2 rfl .nil) rfl (a61, c62) (.cons 2 rfl (.cons 0 rfl (.cons 1 rfl .nil))) (.cons 0 rfl .nil)
  · rintro x46 _ ⟨a44, c45⟩ D1
    try dsimp only
    refine sxq_blkN ?_
    refine sxq_next ?_
    refine sxc_seq ?_
    refine sxc_region ?_
    refine sxo_loadB (i := 2) rfl rfl tf51 rfl rfl (fun _ => rfl) rfl rfl ?_
    refine sxo_assign rfl rfl rfl ?_
    refine sxo_nil ?_
    refine sxq_next ?_
    refine sxc_ret ?_
    exact sxq_doneX [D1] (a44, c45) (.inl rfl) rfl (.cons 0 rfl .nil) (res1 rfl rfl) (fun h => by subst h; rfl) (fun h => by subst h; exact (.cons 0 rfl .nil)) (fun h => by subst h; exact (.cons 0 rfl .nil))
  · intro t; exact t.elim

theorem C_slices_Collect_api_Arc_graph_All_1 (F : Nat) (g1 : Nat) (x2 : List (List Int)) (a3 : Option Addr) (c4 : (Nat × List (Option Addr × Nat))) (r : List (Int × Int)) (hm : M_slices_Collect_api_Arc_graph_All_1 F x2 = some r) :
    PureM Try.prog 55 [.func (.func 65) #[] #[.pointer (some ⟨g1, 0, none⟩)]] [⟨g1, 24, [.slice a3 x2.length c4.1]⟩] [] [SlN eN25 iN25 1 (.slice a3 x2.length c4.1) x2 c4.2] (Option Addr × Nat) (fun g => .slice g.1 r.length g.2) (fun _ => [⟨g1, 24, [.slice a3 x2.length c4.1]⟩]) (fun g => [Ro eS48 48 2 (.slice g.1 r.length g.2) r]) := by
  refine pureM_of Try.func55 rfl Try.ntmps55 rfl hm (fun w => ?_)
  refine sxc_env (l' := [(0, .func (.func 65) #[] #[.pointer (some ⟨g1, 0, none⟩)])]) rfl ?_
  refine sxc_seq ?_
  refine sxc_region ?_
  refine sxo_assign rfl rfl rfl ?_
  refine sxo_nil ?_
  refine sxq_next ?_
  refine sxc_seq ?_
  refine sxc_region ?_
  refine sxo_move rfl rfl rfl ?_
  refine sxo_nilrow' (Int × Int) eS48 48 2 ?_
  refine sxo_callM ent75 rfl rfl rfl (fun x5 e5 => C_slices_AppendSeq_api_Arc_api_Arc_graph_All_1 F ([] : List (Int × Int)) none 0 g1 x2 a3 c4 x5 e5) (.cons 0 rfl .nil) (.cons 0 rfl .nil) (.consF 0 rfl .nil) (fun x5 e5 => ?_)
  rintro ⟨a6, c7⟩
  refine sxo_assign rfl rfl rfl ?_
  refine sxo_nil ?_
  refine sxq_next ?_
  refine sxc_ret ?_
  exact sxq_doneM (a6, c7) (res1 rfl rfl) (hB := fun h => by subst h; exact (.cons 0 rfl .nil)) (hR := fun h => by subst h; exact (.cons 0 rfl .nil))

theorem C_graph_Arcs (F : Nat) (x1 : List (List Int)) (a2 : Option Addr) (c3 : (Nat × List (Option Addr × Nat))) (r : (List (Int × Int) × Int)) (hm : M_graph_Arcs F x1 = some r) :
    Pure Try.prog 28 [.agg #[.slice a2 x1.length c3.1]] [SlN eN25 iN25 1 (.slice a2 x1.length c3.1) x1 c3.2] (Option Addr × Nat) (fun g => .tuple #[.slice g.1 r.1.length g.2, .int .i64 r.2]) (fun g => [Ro eS48 48 2 (.slice g.1 r.1.length g.2) r.1]) (fun _ => []) := by
  refine pure_of Try.func28 rfl Try.ntmps28 rfl hm (fun w => ?_)
  refine sxc_env (l' := [(0, .agg #[.slice a2 x1.length c3.1])]) rfl ?_
  refine sxc_seq ?_
  refine sxc_region ?_
  refine sxo_box rfl rfl rfl (fun g4 => ?_)
  refine sxo_assign rfl rfl rfl ?_
  refine sxo_assign rfl rfl rfl ?_
  refine sxo_nil ?_
  refine sxq_next ?_
  refine sxc_seq ?_
  refine sxc_seq ?_
  refine sxc_region ?_
  refine sxo_loadB (i := 0) rfl rfl tf24 rfl rfl (by simp) rfl rfl ?_
  refine sxo_call ent31 rfl rfl rfl (fun x7 e7 => C_graph_Check F x1 a2 c3 x7 e7) (.consF 0 rfl .nil) (fun x7 e7 => ?_)
  intro _
  refine sxo_assign rfl rfl rfl ?_
  refine sxo_nil ?_
  refine sxq_next ?_
  refine sxc_seq ?_
  refine sxc_region ?_
  refine sxo_move rfl rfl rfl ?_
  refine sxo_neq rfl rfl rfl rfl ?_
  refine sxo_nil ?_
  refine sxq_next ?_
  refine sxc_if rfl (fun h13 => ?_) (fun h13 => ?_)
  · refine sxc_seq ?_
    refine sxc_region ?_
    refine sxo_move rfl rfl rfl ?_
    refine sxo_assign rfl rfl rfl ?_
    refine sxo_assign rfl rfl rfl ?_
    refine sxo_nil ?_
    refine sxq_next ?_
    refine sxc_ret ?_
    refine sxq_thenR ?_
    refine sxq_nilrow (Int × Int) eS48 48 2 ?_
    exact sxq_doneP (none, 0) (res2 rfl rfl rfl) (fun h => by subst h; exact (.cons 0 rfl .nil))
  · refine sxc_skip ?_
    refine sxq_next ?_
    refine sxc_seq ?_
    refine sxc_region ?_
    refine sxo_loadB (i := 0) rfl rfl tf24 rfl rfl (by simp) rfl rfl ?_
    refine sxo_callM ent39 rfl rfl rfl (fun x8 e8 => C_graph_All F x1 a2 c3 x8 e8) .nil .nil (.consF 0 rfl .nil) (fun x8 e8 => ?_)
    rintro g9
    refine sxo_callM ent55 rfl rfl rfl (fun x10 e10 => C_slices_Collect_api_Arc_graph_All_1 F g9 x1 a2 c3 x10 e10) (.cons 0 rfl .nil) .nil (.consF 0 rfl .nil) (fun x10 e10 => ?_)
    rintro ⟨a11, c12⟩
    refine sxo_assign rfl rfl rfl ?_
    refine sxo_assign rfl rfl rfl ?_
    refine sxo_nil ?_
    refine sxq_next ?_
    refine sxc_ret ?_
    exact sxq_doneP (a11, c12) (res2 rfl rfl rfl) (fun h => by subst h; exact (.cons 0 rfl .nil))

set_option maxHeartbeats 4000000 in
theorem C_slices_Compact_api_Arc_api_Arc (F : Nat) (x1 : List (Int × Int)) (a2 : Option Addr) (c3 : Nat) (r : List (Int × Int)) (hm : M_slices_Compact_api_Arc_api_Arc F x1 = some r) :
    PureM Try.prog 70 [.slice a2 x1.length c3] [] [Ro eS48 48 2 (.slice a2 x1.length c3) x1] [] (Option Addr × Nat) (fun g => .slice g.1 r.length g.2) (fun _ => []) (fun g => [Ro eS48 48 2 (.slice g.1 r.length g.2) r]) := by
  refine pureM_of Try.func70 rfl Try.ntmps70 rfl hm (fun w => ?_)
  refine sxc_env (l' := [(0, .slice a2 x1.length c3)]) rfl ?_
  refine sxc_seq ?_
  refine sxc_region ?_
  refine sxo_assign rfl rfl rfl ?_
  refine sxo_nil ?_
  refine sxq_next ?_
  refine sxc_seq ?_
  refine sxc_seq ?_
  refine sxc_region ?_
  refine sxo_move rfl rfl rfl ?_
  refine sxo_len rfl Try.underlying51 rfl rfl ?_
  refine sxo_lss rfl rfl rfl rfl ?_
  refine sxo_nil ?_
  refine sxq_next ?_
  refine sxc_if rfl (fun h2961 => ?_) (fun h2961 => ?_)
  · refine sxc_seq ?_
    refine sxc_region ?_
    refine sxo_move rfl rfl rfl ?_
    refine sxo_assign rfl rfl rfl ?_
    refine sxo_nil ?_
    refine sxq_next ?_
    refine sxc_ret ?_
    refine sxq_thenR ?_
    exact sxq_doneM (a2, c3) (res1 rfl rfl) (hR := fun h => by subst h; exact (.cons 0 rfl .nil))
  · refine sxc_skip ?_
    refine sxq_next ?_
    refine sxc_join (fun ((_, _) : (Unit × Unit)) => [(0, .slice a2 x1.length c3)]) (fun ((_, _) : (Unit × Unit)) => []) (fun ((_, _) : (Unit × Unit)) => [Ro eS48 48 2 (.slice a2 x1.length c3) x1]) (fun ((_, _) : (Unit × Unit)) => []) (fun ((_, _) : (Unit × Unit)) => M_slices_Compact_api_Arc_api_Arc_j59 F x1) ?_ ?_
    · refine sxc_seq ?_
      refine sxc_region ?_
      refine sxo_assign rfl rfl rfl ?_
      refine sxo_nil ?_
      refine sxq_next ?_
      refine sxc_block ?_
      refine sxc_loopP (fun ((x1975, _) : (Int × Unit)) => [(0, .slice a2 x1.length c3), (3, .int .i64 x1975)]) (fun ((x1975, _) : (Int × Unit)) => []) (fun ((x1975, _) : (Int × Unit)) => [Ro eS48 48 2 (.slice a2 x1.length c3) x1]) (fun ((x1975, _) : (Int × Unit)) => []) (fun k (s : (Int × Unit)) => M_slices_Compact_api_Arc_api_Arc_l98 F x1 k s.1) (1, ()) F ?_ (hR := (.cons 0 rfl .nil))
      intro k2468
      rintro ⟨x1975, _⟩
      try dsimp only
      refine sxc_meq (m' := M_slices_Compact_api_Arc_api_Arc_b98 F x1 (M_slices_Compact_api_Arc_api_Arc_l98 F x1 k2468) x1975) rfl ?_
      refine sxc_seq ?_
      refine sxc_seq ?_
      refine sxc_region ?_
      refine sxo_move rfl rfl rfl ?_
      refine sxo_move rfl rfl rfl ?_
      refine sxo_len rfl Try.underlying51 rfl rfl ?_
      refine sxo_lss rfl rfl rfl rfl ?_
      refine sxo_nil ?_
      refine sxq_next ?_
      refine sxc_if rfl (fun h2960 => ?_) (fun h2960 => ?_)
      · refine sxc_skip ?_
        refine sxq_next ?_
        refine sxc_join (fun ((_, _) : (Unit × Unit)) => [(0, .slice a2 x1.length c3), (3, .int .i64 x1975)]) (fun ((_, _) : (Unit × Unit)) => []) (fun ((_, _) : (Unit × Unit)) => [Ro eS48 48 2 (.slice a2 x1.length c3) x1]) (fun ((_, _) : (Unit × Unit)) => []) (fun ((_, _) : (Unit × Unit)) => M_slices_Compact_api_Arc_api_Arc_j108 F (M_slices_Compact_api_Arc_api_Arc_l98 F x1 k2468) x1975) ?_ ?_
        · refine sxc_block ?_
          refine sxc_seq ?_
          refine sxc_idxO (j := 0) rfl (fun x2723 e2723 g2724 h2725 => ?_)
          replace h2725 : a2 = some ⟨g2724, 0, none⟩ := h2725
          have h2726 := own_of (k := x1.length) (c := c3) h2725
          refine sxc_idxO (j := 0) rfl (fun x2727 e2727 g2728 h2729 => ?_)
          replace h2729 : a2 = some ⟨g2728, 0, none⟩ := h2729
          have h2730 := own_of (k := x1.length) (c := c3) h2729
          refine sxb_draw mixed [] [] [CellsAt g2724 (x1975.toNat * 2) (eS48 x2723), CellsAt g2728 ((isub .i64 x1975 1).toNat * 2) (eS48 x2727)] .nil (gk_R 0 rfl (at_row eS48_ok e2723 h2725) (gk_R 0 rfl (at_row eS48_ok e2727 h2729) gk_nil)) 10 rfl ?_
          refine sxb_takeP 0 (.slice a2 x1.length c3) rfl rfl rfl (yv_pv rfl) ?_
          refine sxb_takeP 1 (.int .i64 x1975) rfl rfl rfl (yv_pv rfl) ?_
          refine sxb_again (d := 16) (v := .slice (some ⟨g2724, 0, none⟩) x1.length c3) rfl (by rw [h2725] <;> rfl) ?_
          refine sxb_takeP 2 (.pointer (some ⟨g2724, x1975.toNat * 2, none⟩)) rfl rfl rfl (yv_idxO Try.underlying51 tf48 rfl rfl (idx_get e2723).1 (idx_lt e2723)) ?_
          refine sxb_again (d := 16) (v := .slice a2 x1.length c3) rfl (by rw [h2725] <;> rfl) ?_
          refine sxb_take 3 (.agg #[.int .i64 x2723.1, .int .i64 x2723.2]) [] rfl rfl rfl (yv_loadF (j := 0) rfl tf48 rfl rfl (by simp) rfl) ?_
          refine sxb_takeP 4 (.slice a2 x1.length c3) rfl rfl rfl (yv_pv rfl) ?_
          refine sxb_takeP 5 (.int .i64 x1975) rfl rfl rfl (yv_pv rfl) ?_
          refine sxb_takeP 6 (.int .i64 (isub .i64 x1975 1)) rfl rfl rfl (yv_pv rfl) ?_
          refine sxb_again (d := 20) (v := .slice (some ⟨g2728, 0, none⟩) x1.length c3) rfl (by rw [h2729] <;> rfl) ?_
          refine sxb_takeP 7 (.pointer (some ⟨g2728, (isub .i64 x1975 1).toNat * 2, none⟩)) rfl rfl rfl (yv_idxO Try.underlying51 tf48 rfl rfl (idx_get e2727).1 (idx_lt e2727)) ?_
          refine sxb_again (d := 20) (v := .slice a2 x1.length c3) rfl (by rw [h2729] <;> rfl) ?_
          refine sxb_take 8 (.agg #[.int .i64 x2727.1, .int .i64 x2727.2]) [] rfl rfl rfl (yv_loadF (j := 1) rfl tf48 rfl rfl (by simp) rfl) ?_
          refine sxb_takeP 9 (.bool (((x2723.1 : Int) == x2727.1) && ((x2723.2 : Int) == x2727.2))) rfl rfl rfl (yv_eql2 rfl rfl se48) ?_
          refine sxb_done (by kernel_rfl) ?_
          refine sxq_np ?_ (by intro c h; cases h)
          refine sxq_next ?_
          refine sxc_if rfl (fun h2959 => ?_) (fun h2959 => ?_)
          · refine sxc_seq ?_
            refine sxc_region ?_
            refine sxo_move rfl rfl rfl ?_
            refine sxo_move rfl rfl rfl ?_
            refine sxo_cutW (j := 0) rfl Try.underlying51 tf48 rfl rfl rfl rfl (fun h2731 g2732 h2733 => ?_)
            refine sxo_assign rfl rfl rfl ?_
            refine sxo_nil ?_
            refine sxq_next ?_
            refine sxc_join (fun (((x2842, x2843), _) : ((List (Int × Int) × Int) × Unit)) => [(0, .slice a2 x2842.length c3), (3, .int .i64 x2843)]) (fun (((x2842, x2843), _) : ((List (Int × Int) × Int) × Unit)) => []) (fun (((x2842, x2843), _) : ((List (Int × Int) × Int) × Unit)) => [Ro eS48 48 2 (.slice a2 x2842.length c3) x2842]) (fun (((x2842, x2843), _) : ((List (Int × Int) × Int) × Unit)) => []) (fun (((x2842, x2843), _) : ((List (Int × Int) × Int) × Unit)) => M_slices_Compact_api_Arc_api_Arc_j113 F x2842 x2843) ?_ ?_
            · refine sxc_seq ?_
              refine sxc_region ?_
              refine sxo_assign rfl rfl rfl ?_
              refine sxo_nil ?_
              refine sxq_next ?_
              refine sxc_block ?_
              refine sxc_loopP (fun (((x2879, x2880, x2881), _) : ((List (Int × Int) × Int × Int) × Unit)) => [(0, .slice a2 x2879.length c3), (3, .int .i64 x2880), (4, .slice (some ⟨g2732, x1975.toNat * 2, none⟩) (x1.length - x1975.toNat) (c3 - x1975.toNat)), (5, .int .i64 x2881)]) (fun (((x2879, x2880, x2881), _) : ((List (Int × Int) × Int × Int) × Unit)) => []) (fun (((x2879, x2880, x2881), _) : ((List (Int × Int) × Int × Int) × Unit)) => [Ro eS48 48 2 (.slice a2 x2879.length c3) x2879]) (fun (((x2879, x2880, x2881), _) : ((List (Int × Int) × Int × Int) × Unit)) => []) (fun k (s : ((List (Int × Int) × Int × Int) × Unit)) => M_slices_Compact_api_Arc_api_Arc_l116 F x1 x1975 k s.1) ((x1, x1975, 1), ()) F ?_ (hR := (.cons 0 rfl .nil))
              intro k2920
              rintro ⟨⟨x2879, x2880, x2881⟩, _⟩
              try dsimp only
              refine sxc_meq (m' := M_slices_Compact_api_Arc_api_Arc_b116 F x1 x1975 (M_slices_Compact_api_Arc_api_Arc_l116 F x1 x1975 k2920) x2879 x2880 x2881) rfl ?_
              refine sxc_seq ?_
              refine sxc_seq ?_
              refine sxc_region ?_
              refine sxo_move rfl rfl rfl ?_
              refine sxo_move rfl rfl rfl ?_
              refine sxo_len rfl Try.underlying51 rfl rfl ?_
              refine sxo_lss rfl rfl rfl rfl ?_
              refine sxo_nil ?_
              refine sxq_next ?_
              refine sxc_if rfl (fun h2958 => ?_) (fun h2958 => ?_)
              · refine sxc_skip ?_
                refine sxq_next ?_
                refine sxc_join (fun (((x2939, x2940), _) : ((List (Int × Int) × Int) × Unit)) => [(0, .slice a2 x2939.length c3), (3, .int .i64 x2940), (4, .slice (some ⟨g2732, x1975.toNat * 2, none⟩) (x1.length - x1975.toNat) (c3 - x1975.toNat)), (5, .int .i64 x2881)]) (fun (((x2939, x2940), _) : ((List (Int × Int) × Int) × Unit)) => []) (fun (((x2939, x2940), _) : ((List (Int × Int) × Int) × Unit)) => [Ro eS48 48 2 (.slice a2 x2939.length c3) x2939]) (fun (((x2939, x2940), _) : ((List (Int × Int) × Int) × Unit)) => []) (fun (((x2939, x2940), _) : ((List (Int × Int) × Int) × Unit)) => M_slices_Compact_api_Arc_api_Arc_j117 F (M_slices_Compact_api_Arc_api_Arc_l116 F x1 x1975 k2920) x2881 x2939 x2940) ?_ ?_
                · refine sxc_block ?_
                  refine sxc_seq ?_
                  refine sxc_chk (fun h2945 => ?_)
                  replace h2945 := of_decide_eq_true h2945
                  refine sxc_bind (fun x2946 e2946 => ?_)
                  refine sxc_chk (fun h2947 => ?_)
                  replace h2947 := of_decide_eq_true h2947
                  refine sxc_bind (fun x2948 e2948 => ?_)
                  refine sxb_draw mixed [] [] [CellsAt g2732 (x1975.toNat * 2 + x2881.toNat * 2) (eS48 x2946), CellsAt g2732 (x1975.toNat * 2 + (isub .i64 x2881 1).toNat * 2) (eS48 x2948)] .nil (gk_R 0 rfl (at_rowW eS48_ok e2946 h2733) (gk_R 0 rfl (at_rowW eS48_ok e2948 h2733) gk_nil)) 10 rfl ?_
                  refine sxb_takeP 0 (.slice (some ⟨g2732, x1975.toNat * 2, none⟩) (x1.length - x1975.toNat) (c3 - x1975.toNat)) rfl rfl rfl (yv_pv rfl) ?_
                  refine sxb_takeP 1 (.int .i64 x2881) rfl rfl rfl (yv_pv rfl) ?_
                  refine sxb_takeP 2 (.pointer (some ⟨g2732, x1975.toNat * 2 + x2881.toNat * 2, none⟩)) rfl rfl rfl (yv_idx Try.underlying51 tf48 rfl rfl (win_lt h2945 e2946).1 (win_lt h2945 e2946).2) ?_
                  refine sxb_take 3 (.agg #[.int .i64 x2946.1, .int .i64 x2946.2]) [] rfl rfl rfl (yv_loadF (j := 0) rfl tf48 rfl rfl (by simp) rfl) ?_
                  refine sxb_takeP 4 (.slice (some ⟨g2732, x1975.toNat * 2, none⟩) (x1.length - x1975.toNat) (c3 - x1975.toNat)) rfl rfl rfl (yv_pv rfl) ?_
                  refine sxb_takeP 5 (.int .i64 x2881) rfl rfl rfl (yv_pv rfl) ?_
                  refine sxb_takeP 6 (.int .i64 (isub .i64 x2881 1)) rfl rfl rfl (yv_pv rfl) ?_
                  refine sxb_takeP 7 (.pointer (some ⟨g2732, x1975.toNat * 2 + (isub .i64 x2881 1).toNat * 2, none⟩)) rfl rfl rfl (yv_idx Try.underlying51 tf48 rfl rfl (win_lt h2947 e2948).1 (win_lt h2947 e2948).2) ?_
                  refine sxb_take 8 (.agg #[.int .i64 x2948.1, .int .i64 x2948.2]) [] rfl rfl rfl (yv_loadF (j := 1) rfl tf48 rfl rfl (by simp) rfl) ?_
                  refine sxb_takeP 9 (.bool (!(((x2946.1 : Int) == x2948.1) && ((x2946.2 : Int) == x2948.2)))) rfl rfl rfl (yv_neq2 rfl rfl se48) ?_
                  refine sxb_done (by kernel_rfl) ?_
                  refine sxq_np ?_ (by intro c h; cases h)
                  refine sxq_next ?_
                  refine sxc_if rfl (fun h2957 => ?_) (fun h2957 => ?_)
                  · refine sxc_seq ?_
                    refine sxc_region ?_
                    refine sxo_move rfl rfl rfl ?_
                    refine sxo_move rfl rfl rfl ?_
                    refine sxo_move rfl rfl rfl ?_
                    refine sxo_move rfl rfl rfl ?_
                    refine sxo_chk (fun h2949 => ?_)
                    replace h2949 := of_decide_eq_true h2949
                    refine sxo_indexW (xs := x2879) h2949 rfl Try.underlying51 tf48 rfl rfl rfl (fun x2950 e2950 => ?_)
                    refine sxo_loadW (j := 0) eS48_ok rfl rfl tf48 rfl h2733 e2950 (by simp) rfl rfl ?_
                    refine sxo_indexR (j := 0) rfl Try.underlying51 tf48 rfl rfl rfl rfl (fun x2951 e2951 g2952 h2953 => ?_)
                    refine sxo_storeL (j := 0) (y' := (x2950.1, x2950.2)) eS48_ok rfl rfl rfl tf48 rfl h2953 (idx_get e2951).2.1 rfl (fun x2954 e2954 h2955 => ?_)
                    have h2956 : x2954.length = x2879.length := by rw [← e2954, List.length_set]
                    refine sxo_again (d := 0) (v := .slice a2 x2954.length c3) rfl h2955 ?_
                    refine sxo_again (d := 45) (v := .slice a2 x2954.length c3) rfl h2955 ?_
                    refine sxo_nil ?_
                    refine sxq_next ?_
                    refine sxc_region ?_
                    refine sxo_move rfl rfl rfl ?_
                    refine sxo_add rfl rfl rfl rfl ?_
                    refine sxo_assign rfl rfl rfl ?_
                    refine sxo_nil ?_
                    refine sxq_blkN ?_
                    exact sxq_meetP ((x2954, iadd .i64 x2880 1), ()) (hR := (.cons 0 rfl .nil))
                  · refine sxc_skip ?_
                    refine sxq_blkN ?_
                    exact sxq_meetP ((x2879, x2880), ()) (hR := (.cons 0 rfl .nil))
                · rintro ⟨⟨x2939, x2940⟩, _⟩
                  try dsimp only
                  refine sxc_region ?_
                  refine sxo_move rfl rfl rfl ?_
                  refine sxo_add rfl rfl rfl rfl ?_
                  refine sxo_assign rfl rfl rfl ?_
                  refine sxo_nil ?_
                  exact sxq_againP ((x2939, x2940, iadd .i64 x2881 1), ()) (hR := (.cons 0 rfl .nil))
              · refine sxc_exit ?_
                refine sxq_thenX ?_
                refine sxq_thenX ?_
                refine sxq_blkX ?_
                exact sxq_meetP ((x2879, x2880), ()) (hR := (.cons 0 rfl .nil))
            · rintro ⟨⟨x2842, x2843⟩, _⟩
              try dsimp only
              refine sxc_seq ?_
              refine sxc_region ?_
              refine sxo_move rfl rfl rfl ?_
              refine sxo_move rfl rfl rfl ?_
              refine sxo_cutW (j := 0) rfl Try.underlying51 tf48 rfl rfl rfl rfl (fun h2844 g2845 h2846 => ?_)
              refine sxo_clearW (j := 0) (zy := ((0 : Int), (0 : Int))) eS48_ok (by decide) rfl (by have := h2844; omega) rfl Try.underlying51 tf48 rfl rfl rfl h2846 (fun x2847 e2847 h2848 => ?_)
              have h2849 : x2847.length = x2842.length := by have := congrArg List.length e2847; simp only [List.length_append, List.length_take, List.length_replicate] at this; have := h2844; omega
              refine sxo_again (d := 0) (v := .slice a2 x2847.length c3) rfl (by rw [h2848] <;> rfl) ?_
              refine sxo_again (d := 54) (v := .slice a2 x2847.length c3) rfl (by rw [h2848] <;> rfl) ?_
              refine sxo_nil ?_
              refine sxq_next ?_
              refine sxc_seq ?_
              refine sxc_region ?_
              refine sxo_move rfl rfl rfl ?_
              refine sxo_move rfl rfl rfl ?_
              refine sxo_cutR (i := 0) eS48_ok rfl Try.underlying51 tf48 rfl rfl rfl rfl (fun x2850 e2850 => ?_)
              refine sxo_assign rfl rfl rfl ?_
              refine sxo_nil ?_
              refine sxq_next ?_
              refine sxc_ret ?_
              refine sxq_blkR ?_
              refine sxq_thenR ?_
              refine sxq_thenR ?_
              refine sxq_blkR ?_
              refine sxq_thenR ?_
              exact sxq_doneM (a2, c3) (res1 rfl rfl) (hR := fun h => by subst h; exact (.cons 0 rfl .nil))
          · refine sxc_skip ?_
            refine sxq_blkN ?_
            exact sxq_meetP ((), ()) (hR := (.cons 0 rfl .nil))
        · rintro ⟨_, _⟩
          try dsimp only
          refine sxc_region ?_
          refine sxo_move rfl rfl rfl ?_
          refine sxo_add rfl rfl rfl rfl ?_
          refine sxo_assign rfl rfl rfl ?_
          refine sxo_nil ?_
          exact sxq_againP (iadd .i64 x1975 1, ()) (hR := (.cons 0 rfl .nil))
      · refine sxc_exit ?_
        refine sxq_thenX ?_
        refine sxq_thenX ?_
        refine sxq_blkX ?_
        exact sxq_meetP ((), ()) (hR := (.cons 0 rfl .nil))
    · rintro ⟨_, _⟩
      try dsimp only
      refine sxc_seq ?_
      refine sxc_region ?_
      refine sxo_move rfl rfl rfl ?_
      refine sxo_assign rfl rfl rfl ?_
      refine sxo_nil ?_
      refine sxq_next ?_
      refine sxc_ret ?_
      exact sxq_doneM (a2, c3) (res1 rfl rfl) (hR := fun h => by subst h; exact (.cons 0 rfl .nil))

theorem C_graph_Both (F : Nat) (x1 : List (List Int)) (a2 : Option Addr) (c3 : (Nat × List (Option Addr × Nat))) (r : (List (List Int) × Int)) (hm : M_graph_Both F x1 = some r) :
    Pure Try.prog 49 [.agg #[.slice a2 x1.length c3.1]] [SlN eN25 iN25 1 (.slice a2 x1.length c3.1) x1 c3.2] (Option Addr × (Nat × List (Option Addr × Nat))) (fun g => .tuple #[.agg #[.slice g.1 r.1.length g.2.1], .int .i64 r.2]) (fun g => [RoN eN25 rN25 25 1 (.slice g.1 r.1.length g.2.1) r.1 g.2.2 []]) (fun _ => []) := by
  refine pure_of Try.func49 rfl Try.ntmps49 rfl hm (fun w => ?_)
  refine sxc_env (l' := [(0, .agg #[.slice a2 x1.length c3.1])]) rfl ?_
  refine sxc_seq ?_
  refine sxc_region ?_
  refine sxo_box rfl rfl rfl (fun g4 => ?_)
  refine sxo_alloc rfl tf24 rfl (fun g5 => ?_)
  refine sxo_assign rfl rfl rfl ?_
  refine sxo_nil ?_
  refine sxq_next ?_
  refine sxc_seq ?_
  refine sxc_seq ?_
  refine sxc_region ?_
  refine sxo_loadB (i := 1) rfl rfl tf24 rfl rfl (by simp) rfl rfl ?_
  refine sxo_call ent31 rfl rfl rfl (fun x8 e8 => C_graph_Check F x1 a2 c3 x8 e8) (.consF 0 rfl .nil) (fun x8 e8 => ?_)
  intro _
  refine sxo_assign rfl rfl rfl ?_
  refine sxo_nil ?_
  refine sxq_next ?_
  refine sxc_seq ?_
  refine sxc_region ?_
  refine sxo_move rfl rfl rfl ?_
  refine sxo_neq rfl rfl rfl rfl ?_
  refine sxo_nil ?_
  refine sxq_next ?_
  refine sxc_if rfl (fun h41 => ?_) (fun h41 => ?_)
  · refine sxc_seq ?_
    refine sxc_region ?_
    refine sxo_build (cells := [.slice none 0 0]) rfl st24 rfl (by kernel_rfl) rfl ?_
    refine sxo_move rfl rfl rfl ?_
    refine sxo_storeB (i := 0) rfl rfl rfl tf24 rfl rfl rfl rfl rfl ?_
    refine sxo_assign rfl rfl rfl ?_
    refine sxo_nil ?_
    refine sxq_next ?_
    refine sxc_ret ?_
    refine sxq_thenR ?_
    refine sxq_nilN (List Int) (Option Addr × Nat) eN25 rN25 25 1 ?_
    exact sxq_doneP (none, (0, ([] : List (Option Addr × Nat)))) (resL (rs := [.cell 2 24, .tmp 3]) rfl (.cell (i := 0) rfl tf24 rfl rfl (by simp) rfl (.tmp rfl ResOk.nil)) rfl) (fun h => by subst h; exact (.cons 0 rfl .nil))
  · refine sxc_skip ?_
    refine sxq_next ?_
    refine sxc_seq ?_
    refine sxb_draw mixed [] [⟨g5, 24, [.slice none 0 0]⟩, ⟨g4, 24, [.slice a2 x1.length c3.1]⟩] [SlN eN25 iN25 1 (.slice a2 x1.length c3.1) x1 c3.2] (.cons 0 rfl (.cons 0 rfl .nil)) (gk_F 0 rfl gk_nil) 7 rfl ?_
    refine sxb_takeB 0 (.agg #[.slice a2 x1.length c3.1]) rfl rfl rfl (yv_loadB (i := 1) rfl tf24 rfl rfl (by simp) rfl) ?_
    refine sxb_takeB 3 (.agg #[.slice a2 x1.length c3.1]) rfl rfl rfl (yv_loadB (i := 1) rfl tf24 rfl rfl (by simp) rfl) ?_
    refine sxb_step 1 rfl (by kernel_rfl) rfl ?_
    refine sxo_callM ent39 rfl rfl rfl (fun x20 e20 => C_graph_All F x1 a2 c3 x20 e20) .nil .nil (.consF 0 rfl .nil) (fun x20 e20 => ?_)
    rintro g21
    refine sxo_nil ?_
    refine sxq_anyB (.cons 1 rfl (.cons 1 rfl .nil)) (gk_F 0 rfl gk_nil) ?_
    refine sxb_step 2 rfl (by kernel_rfl) rfl ?_
    refine sxo_callM ent55 rfl rfl rfl (fun x22 e22 => C_slices_Collect_api_Arc_graph_All_1 F g21 x1 a2 c3 x22 e22) (.cons 0 rfl .nil) .nil (.consF 0 rfl .nil) (fun x22 e22 => ?_)
    rintro ⟨a23, c24⟩
    refine sxo_nil ?_
    refine sxq_anyB (.cons 1 rfl (.cons 1 rfl .nil)) (gk_F 0 rfl gk_nil) ?_
    refine sxb_step 4 rfl (by kernel_rfl) rfl ?_
    refine sxo_callM ent47 rfl rfl rfl (fun x25 e25 => C_graph_turned F x1 a2 c3 x25 e25) .nil .nil (.consF 0 rfl .nil) (fun x25 e25 => ?_)
    rintro ⟨a26, c27⟩
    refine sxo_nil ?_
    refine sxq_anyB (.cons 1 rfl (.cons 1 rfl .nil)) (gk_F 0 rfl gk_nil) ?_
    refine sxb_step 5 rfl (by kernel_rfl) rfl ?_
    refine sxo_app 1 eS48_ok rfl Try.underlying51 tf48 rfl rfl rfl rfl rfl (.inl ⟨0, _, rfl⟩) rfl rfl (fun x28 e28 a29 c30 => ?_)
    refine sxo_nil ?_
    refine sxq_anyB (.cons 1 rfl (.cons 1 rfl .nil)) (gk_F 0 rfl gk_nil) ?_
    refine sxb_takeP 6 (.slice a29 x28.length c30) rfl rfl rfl (yv_pv rfl) ?_
    refine sxb_done (by kernel_rfl) ?_
    refine sxq_np ?_ (by intro c h; cases h)
    refine sxq_next ?_
    refine sxc_seq ?_
    refine sxc_region ?_
    refine sxo_move rfl rfl rfl ?_
    refine sxo_callM ent66 rfl rfl rfl (fun x31 e31 => C_slices_SortFunc_api_Arc_api_Arc_graph_order F x28 a29 c30 x31 e31) .nil (.cons 0 rfl .nil) .nil (fun x31 e31 => ?_)
    intro _
    refine sxo_chk (fun h32 => ?_)
    replace h32 := of_decide_eq_true h32
    refine sxo_again (d := 5) (v := .slice a29 x31.length c30) rfl (by rw [h32] <;> rfl) ?_
    refine sxo_again (d := 17) (v := .slice a29 x31.length c30) rfl (by rw [h32] <;> rfl) ?_
    refine sxo_again (d := 18) (v := .slice a29 x31.length c30) rfl (by rw [h32] <;> rfl) ?_
    refine sxo_nil ?_
    refine sxq_next ?_
    refine sxc_seq ?_
    refine sxc_region ?_
    refine sxo_move rfl rfl rfl ?_
    refine sxo_callM ent70 rfl rfl rfl (fun x33 e33 => C_slices_Compact_api_Arc_api_Arc F x31 a29 c30 x33 e33) .nil (.cons 0 rfl .nil) .nil (fun x33 e33 => ?_)
    rintro ⟨a34, c35⟩
    refine sxo_assign rfl rfl rfl ?_
    refine sxo_nil ?_
    refine sxq_next ?_
    refine sxc_seq ?_
    refine sxc_seq ?_
    refine sxc_region ?_
    refine sxo_move rfl rfl rfl ?_
    refine sxo_len rfl Try.underlying51 rfl rfl ?_
    refine sxo_gtr rfl rfl rfl rfl ?_
    refine sxo_nil ?_
    refine sxq_next ?_
    refine sxc_if rfl (fun h40 => ?_) (fun h40 => ?_)
    · refine sxc_seq ?_
      refine sxc_region ?_
      refine sxo_build (cells := [.slice none 0 0]) rfl st24 rfl (by kernel_rfl) rfl ?_
      refine sxo_storeB (i := 1) rfl rfl rfl tf24 rfl rfl rfl rfl rfl ?_
      refine sxo_assign rfl rfl rfl ?_
      refine sxo_nil ?_
      refine sxq_next ?_
      refine sxc_ret ?_
      refine sxq_thenR ?_
      refine sxq_nilN (List Int) (Option Addr × Nat) eN25 rN25 25 1 ?_
      exact sxq_doneP (none, (0, ([] : List (Option Addr × Nat)))) (resL (rs := [.cell 2 24, .tmp 3]) rfl (.cell (i := 1) rfl tf24 rfl rfl (by simp) rfl (.tmp rfl ResOk.nil)) rfl) (fun h => by subst h; exact (.cons 0 rfl .nil))
    · refine sxc_skip ?_
      refine sxq_next ?_
      refine sxc_seq ?_
      refine sxc_region ?_
      refine sxo_fieldAddr rfl rfl ff24_0 rfl ?_
      refine sxo_loadB (i := 2) rfl rfl tf22 rfl rfl (fun _ => rfl) rfl rfl ?_
      refine sxo_len rfl Try.underlying22 rfl rfl ?_
      refine sxo_move rfl rfl rfl ?_
      refine sxo_call ent44 rfl rfl rfl (fun x37 e37 => C_graph_Built F (x1.length : Int) x33 a34 c35 x37 e37) (.consR 0 (Ro eS48 48 2 (.slice a34 x33.length c35) x33) rfl .nil) (fun x37 e37 => ?_)
      rintro ⟨a38, c39⟩
      refine sxo_storeB (i := 1) rfl rfl rfl tf24 rfl rfl rfl rfl rfl ?_
      refine sxo_assign rfl rfl rfl ?_
      refine sxo_nil ?_
      refine sxq_next ?_
      refine sxc_ret ?_
      exact sxq_doneP (a38, c39) (resL (rs := [.cell 2 24, .tmp 3]) rfl (.cell (i := 1) rfl tf24 rfl rfl (by simp) rfl (.tmp rfl ResOk.nil)) rfl) (fun h => by subst h; exact (.cons 0 rfl .nil))

theorem C_R_SameArcs (F : Nat) (x1 : List (Int × Int)) (a2 : Option Addr) (c3 : Nat) (x4 : List (Int × Int)) (a5 : Option Addr) (c6 : Nat) (r : Bool) (hm : M_R_SameArcs F x1 x4 = some r) :
    Pure Try.prog 50 [.slice a2 x1.length c3, .slice a5 x4.length c6] [Sl eS48 2 (.slice a2 x1.length c3) x1, Sl eS48 2 (.slice a5 x4.length c6) x4] Unit (fun _ => .bool r) (fun _ => []) (fun _ => []) := by
  refine pure_of Try.func50 rfl Try.ntmps50 rfl hm (fun w => ?_)
  refine sxc_env (l' := [(0, .slice a2 x1.length c3), (1, .slice a5 x4.length c6)]) rfl ?_
  refine sxc_seq ?_
  refine sxc_region ?_
  refine sxo_assign rfl rfl rfl ?_
  refine sxo_nil ?_
  refine sxq_next ?_
  refine sxc_seq ?_
  refine sxc_seq ?_
  refine sxc_region ?_
  refine sxo_move rfl rfl rfl ?_
  refine sxo_len rfl Try.underlying51 rfl rfl ?_
  refine sxo_move rfl rfl rfl ?_
  refine sxo_len rfl Try.underlying51 rfl rfl ?_
  refine sxo_neq rfl rfl rfl rfl ?_
  refine sxo_nil ?_
  refine sxq_next ?_
  refine sxc_if rfl (fun h228 => ?_) (fun h228 => ?_)
  · refine sxc_seq ?_
    refine sxc_region ?_
    refine sxo_assign rfl rfl rfl ?_
    refine sxo_nil ?_
    refine sxq_next ?_
    refine sxc_ret ?_
    refine sxq_thenR ?_
    exact sxq_doneP () (res1 rfl rfl)
  · refine sxc_skip ?_
    refine sxq_next ?_
    refine sxc_join (fun ((_, _) : (Unit × Unit)) => []) (fun ((_, _) : (Unit × Unit)) => []) (fun ((_, _) : (Unit × Unit)) => []) (fun ((_, _) : (Unit × Unit)) => []) (fun ((_, _) : (Unit × Unit)) => M_R_SameArcs_j2 F) ?_ ?_
    · refine sxc_seq ?_
      refine sxc_region ?_
      refine sxo_assign rfl rfl rfl ?_
      refine sxo_nil ?_
      refine sxq_next ?_
      refine sxc_block ?_
      refine sxc_loopP (fun ((x154, _) : (Int × Unit)) => [(0, .slice a2 x1.length c3), (1, .slice a5 x4.length c6), (5, .int .i64 x154)]) (fun ((x154, _) : (Int × Unit)) => []) (fun ((x154, _) : (Int × Unit)) => []) (fun ((x154, _) : (Int × Unit)) => [Sl eS48 2 (.slice a2 x1.length c3) x1, Sl eS48 2 (.slice a5 x4.length c6) x4]) (fun k (s : (Int × Unit)) => M_R_SameArcs_l3 F x1 x4 k s.1) (0, ()) F ?_ (hF := (fk_cons 0 rfl (fk_cons 1 rfl fk_nil)))
      intro k191
      rintro ⟨x154, _⟩
      try dsimp only
      refine sxc_meq (m' := M_R_SameArcs_b3 F x1 x4 (M_R_SameArcs_l3 F x1 x4 k191) x154) rfl ?_
      refine sxc_seq ?_
      refine sxc_seq ?_
      refine sxc_region ?_
      refine sxo_move rfl rfl rfl ?_
      refine sxo_move rfl rfl rfl ?_
      refine sxo_len rfl Try.underlying51 rfl rfl ?_
      refine sxo_lss rfl rfl rfl rfl ?_
      refine sxo_nil ?_
      refine sxq_next ?_
      refine sxc_if rfl (fun h227 => ?_) (fun h227 => ?_)
      · refine sxc_skip ?_
        refine sxq_next ?_
        refine sxc_seq ?_
        refine sxc_block ?_
        refine sxc_seq ?_
        refine sxc_idxF (j := 0) eS48_ok (by decide) rfl (fun x218 e218 b219 o220 h221 => ?_)
        replace h221 : a2 = some ⟨b219, o220, none⟩ := h221
        refine sxc_idxF (j := 2) eS48_ok (by decide) rfl (fun x222 e222 b223 o224 h225 => ?_)
        replace h225 : a5 = some ⟨b223, o224, none⟩ := h225
        refine sxb_draw mixed [] [] [CellsAt b223 (o224 + x154.toNat * 2) (eS48 x222), CellsAt b219 (o220 + x154.toNat * 2) (eS48 x218), Sl eS48 2 (.slice a2 x1.length c3) x1, Sl eS48 2 (.slice a5 x4.length c6) x4] .nil (gk_F 0 rfl (gk_F 1 rfl (gk_F 2 rfl (gk_F 3 rfl gk_nil)))) 9 rfl ?_
        refine sxb_takeP 0 (.slice a2 x1.length c3) rfl rfl rfl (yv_pv rfl) ?_
        refine sxb_takeP 1 (.int .i64 x154) rfl rfl rfl (yv_pv rfl) ?_
        refine sxb_again (d := 17) (v := .slice (some ⟨b219, o220, none⟩) x1.length c3) rfl (by rw [h221] <;> rfl) ?_
        refine sxb_takeP 2 (.pointer (some ⟨b219, (o220 + x154.toNat * 2), none⟩)) rfl rfl rfl (yv_idx Try.underlying51 tf48 rfl rfl (idx_get e218).1 (idx_lt e218)) ?_
        refine sxb_again (d := 17) (v := .slice a2 x1.length c3) rfl (by rw [h221] <;> rfl) ?_
        refine sxb_take 3 (.agg #[.int .i64 x218.1, .int .i64 x218.2]) [] rfl rfl rfl (yv_loadF (j := 1) rfl tf48 rfl rfl (by simp) rfl) ?_
        refine sxb_takeP 4 (.slice a5 x4.length c6) rfl rfl rfl (yv_pv rfl) ?_
        refine sxb_takeP 5 (.int .i64 x154) rfl rfl rfl (yv_pv rfl) ?_
        refine sxb_again (d := 21) (v := .slice (some ⟨b223, o224, none⟩) x4.length c6) rfl (by rw [h225] <;> rfl) ?_
        refine sxb_takeP 6 (.pointer (some ⟨b223, (o224 + x154.toNat * 2), none⟩)) rfl rfl rfl (yv_idx Try.underlying51 tf48 rfl rfl (idx_get e222).1 (idx_lt e222)) ?_
        refine sxb_again (d := 21) (v := .slice a5 x4.length c6) rfl (by rw [h225] <;> rfl) ?_
        refine sxb_take 7 (.agg #[.int .i64 x222.1, .int .i64 x222.2]) [] rfl rfl rfl (yv_loadF (j := 0) rfl tf48 rfl rfl (by simp) rfl) ?_
        refine sxb_takeP 8 (.bool (!(((x218.1 : Int) == x222.1) && ((x218.2 : Int) == x222.2)))) rfl rfl rfl (yv_neq2 rfl rfl se48) ?_
        refine sxb_done (by kernel_rfl) ?_
        refine sxq_np ?_ (by intro c h; cases h)
        refine sxq_next ?_
        refine sxc_if rfl (fun h226 => ?_) (fun h226 => ?_)
        · refine sxc_seq ?_
          refine sxc_region ?_
          refine sxo_assign rfl rfl rfl ?_
          refine sxo_nil ?_
          refine sxq_next ?_
          refine sxc_ret ?_
          refine sxq_blkR ?_
          refine sxq_thenR ?_
          refine sxq_thenR ?_
          refine sxq_blkR ?_
          refine sxq_thenR ?_
          exact sxq_doneP () (res1 rfl rfl)
        · refine sxc_skip ?_
          refine sxq_blkN ?_
          refine sxq_next ?_
          refine sxc_region ?_
          refine sxo_move rfl rfl rfl ?_
          refine sxo_add rfl rfl rfl rfl ?_
          refine sxo_assign rfl rfl rfl ?_
          refine sxo_nil ?_
          exact sxq_againP (iadd .i64 x154 1, ()) (hF := (fk_cons 2 rfl (fk_cons 3 rfl fk_nil)))
      · refine sxc_exit ?_
        refine sxq_thenX ?_
        refine sxq_thenX ?_
        refine sxq_blkX ?_
        exact sxq_meetP ((), ())
    · rintro ⟨_, _⟩
      try dsimp only
      refine sxc_seq ?_
      refine sxc_region ?_
      refine sxo_assign rfl rfl rfl ?_
      refine sxo_nil ?_
      refine sxq_next ?_
      refine sxc_ret ?_
      exact sxq_doneP () (res1 rfl rfl)

set_option maxHeartbeats 4000000 in
theorem C_L_graphBegun (F : Nat)  (r : Bool) (hm : M_L_graphBegun F  = some r) :
    Pure Try.prog 25 [] [] Unit (fun _ => .bool r) (fun _ => []) (fun _ => []) := by
  refine pure_of Try.func25 rfl Try.ntmps25 rfl hm (fun w => ?_)
  refine sxc_env (l' := []) rfl ?_
  refine sxc_seq ?_
  refine sxc_region ?_
  refine sxo_assign rfl rfl rfl ?_
  refine sxo_nil ?_
  refine sxq_next ?_
  refine sxc_seq ?_
  refine sxc_region ?_
  refine sxo_build (cells := [.int .i64 2, .int .i64 0]) rfl st48 rfl (by kernel_rfl) rfl ?_
  refine sxo_build (cells := [.int .i64 0, .int .i64 1]) rfl st48 rfl (by kernel_rfl) rfl ?_
  refine sxo_build (cells := [.int .i64 0, .int .i64 0]) rfl st48 rfl (by kernel_rfl) rfl ?_
  refine sxo_slit (vs := [.agg #[.int .i64 2, .int .i64 0], .agg #[.int .i64 0, .int .i64 1], .agg #[.int .i64 0, .int .i64 0]]) (ys := ([(2, 0), (0, 1), (0, 0)] : List (Int × Int))) eS48_ok (by decide) rfl Try.underlying51 tf48 rfl rfl rfl rfl rfl (by decide) (fun a1 c2 => ?_)
  refine sxo_call ent30 rfl rfl rfl (fun x3 e3 => C_graph_Of F 3 ([(2, 0), (0, 1), (0, 0)] : List (Int × Int)) a1 c2 x3 e3) (.consR 0 (Ro eS48 48 2 (.slice a1 ([(2, 0), (0, 1), (0, 0)] : List (Int × Int)).length c2) ([(2, 0), (0, 1), (0, 0)] : List (Int × Int))) rfl .nil) (fun x3 e3 => ?_)
  rintro ⟨a4, c5⟩
  refine sxo_move rfl rfl rfl ?_
  refine sxo_extract rfl rfl rfl rfl ?_
  refine sxo_extract rfl rfl rfl rfl ?_
  refine sxo_alloc rfl tf24 rfl (fun g6 => ?_)
  refine sxo_storeB (i := 0) rfl rfl rfl tf24 rfl rfl rfl rfl rfl ?_
  refine sxo_assign rfl rfl rfl ?_
  refine sxo_nil ?_
  refine sxq_next ?_
  refine sxc_seq ?_
  refine sxc_region ?_
  refine sxo_loadB (i := 0) rfl rfl tf24 rfl rfl (by simp) rfl rfl ?_
  refine sxo_call ent28 rfl rfl rfl (fun x7 e7 => C_graph_Arcs F x3.1 a4 c5 x7 e7) (.consG 0 rfl (nest_sl rN25_in) .nil) (fun x7 e7 => ?_)
  rintro ⟨a8, c9⟩
  refine sxo_move rfl rfl rfl ?_
  refine sxo_extract rfl rfl rfl rfl ?_
  refine sxo_extract rfl rfl rfl rfl ?_
  refine sxo_assign rfl rfl rfl ?_
  refine sxo_assign rfl rfl rfl ?_
  refine sxo_nil ?_
  refine sxq_next ?_
  refine sxc_seq ?_
  refine sxc_region ?_
  refine sxo_loadB (i := 0) rfl rfl tf24 rfl rfl (by simp) rfl rfl ?_
  refine sxo_call ent24 rfl rfl rfl (fun x10 e10 => C_graph_Turn F x3.1 a4 c5 x10 e10) (.consG 1 rfl (nest_sl rN25_in) .nil) (fun x10 e10 => ?_)
  rintro ⟨a11, c12⟩
  refine sxo_move rfl rfl rfl ?_
  refine sxo_extract rfl rfl rfl rfl ?_
  refine sxo_extract rfl rfl rfl rfl ?_
  refine sxo_alloc rfl tf24 rfl (fun g13 => ?_)
  refine sxo_storeB (i := 0) rfl rfl rfl tf24 rfl rfl rfl rfl rfl ?_
  refine sxo_assign rfl rfl rfl ?_
  refine sxo_nil ?_
  refine sxq_next ?_
  refine sxc_seq ?_
  refine sxc_region ?_
  refine sxo_loadB (i := 1) rfl rfl tf24 rfl rfl (by simp) rfl rfl ?_
  refine sxo_call ent49 rfl rfl rfl (fun x14 e14 => C_graph_Both F x3.1 a4 c5 x14 e14) (.consG 2 rfl (nest_sl rN25_in) .nil) (fun x14 e14 => ?_)
  rintro ⟨a15, c16⟩
  refine sxo_move rfl rfl rfl ?_
  refine sxo_extract rfl rfl rfl rfl ?_
  refine sxo_extract rfl rfl rfl rfl ?_
  refine sxo_alloc rfl tf24 rfl (fun g17 => ?_)
  refine sxo_storeB (i := 0) rfl rfl rfl tf24 rfl rfl rfl rfl rfl ?_
  refine sxo_assign rfl rfl rfl ?_
  refine sxo_nil ?_
  refine sxq_next ?_
  refine sxc_seq ?_
  refine sxc_region ?_
  refine sxo_loadB (i := 2) rfl rfl tf24 rfl rfl (by simp) rfl rfl ?_
  refine sxo_callM ent33 rfl rfl rfl (fun x18 e18 => C_graph_Degrees F x3.1 a4 c5 x18 e18) .nil .nil (.consG 3 rfl (nest_sl rN25_in) .nil) (fun x18 e18 => ?_)
  rintro ⟨⟨a19, c20⟩, ⟨a21, c22⟩⟩
  refine sxo_move rfl rfl rfl ?_
  refine sxo_extract rfl rfl rfl rfl ?_
  refine sxo_extract rfl rfl rfl rfl ?_
  refine sxo_extract rfl rfl rfl rfl ?_
  refine sxo_assign rfl rfl rfl ?_
  refine sxo_assign rfl rfl rfl ?_
  refine sxo_assign rfl rfl rfl ?_
  refine sxo_nil ?_
  refine sxq_next ?_
  refine sxc_seq ?_
  refine sxc_region ?_
  refine sxo_build (cells := [.int .i64 0, .int .i64 0]) rfl st48 rfl (by kernel_rfl) rfl ?_
  refine sxo_build (cells := [.int .i64 0, .int .i64 0]) rfl st48 rfl (by kernel_rfl) rfl ?_
  refine sxo_slit (vs := [.agg #[.int .i64 0, .int .i64 0], .agg #[.int .i64 0, .int .i64 0]]) (ys := ([(0, 0), (0, 0)] : List (Int × Int))) eS48_ok (by decide) rfl Try.underlying51 tf48 rfl rfl rfl rfl rfl (by decide) (fun a23 c24 => ?_)
  refine sxo_call ent30 rfl rfl rfl (fun x25 e25 => C_graph_Of F 1 ([(0, 0), (0, 0)] : List (Int × Int)) a23 c24 x25 e25) (.consR 0 (Ro eS48 48 2 (.slice a23 ([(0, 0), (0, 0)] : List (Int × Int)).length c24) ([(0, 0), (0, 0)] : List (Int × Int))) rfl .nil) (fun x25 e25 => ?_)
  rintro ⟨a26, c27⟩
  refine sxo_move rfl rfl rfl ?_
  refine sxo_extract rfl rfl rfl rfl ?_
  refine sxo_extract rfl rfl rfl rfl ?_
  refine sxo_alloc rfl tf24 rfl (fun g28 => ?_)
  refine sxo_storeB (i := 0) rfl rfl rfl tf24 rfl rfl rfl rfl rfl ?_
  refine sxo_assign rfl rfl rfl ?_
  refine sxo_nil ?_
  refine sxq_next ?_
  refine sxc_seq ?_
  refine sxc_region ?_
  refine sxo_fieldAddr rfl rfl ff24_0 rfl ?_
  refine sxo_loadB (i := 3) rfl rfl tf22 rfl rfl (fun _ => rfl) rfl rfl ?_
  refine sxo_slit (vs := [.int .i64 0, .int .i64 1]) (ys := ([0, 1] : List Int)) (eI_ok .i64) (by decide) rfl Try.underlying25 tf3 rfl rfl rfl rfl rfl (by decide) (fun a29 c30 => ?_)
  refine sxo_slit (vs := [.int .i64 0]) (ys := ([0] : List Int)) (eI_ok .i64) (by decide) rfl Try.underlying25 tf3 rfl rfl rfl rfl rfl (by decide) (fun a31 c32 => ?_)
  refine sxo_freeze 1 rfl ?_
  refine sxo_nilrow' Int (eI .i64) 3 1 ?_
  refine sxo_freeze 0 rfl ?_
  refine sxo_freeze 0 rfl ?_
  refine sxo_slit (vs := [.slice a29 ([0, 1] : List Int).length c30, .slice none 0 0, .slice a31 ([0] : List Int).length c32]) (ys := ([(([0, 1] : List Int), (a29, c30)), (([] : List Int), (none, 0)), (([0] : List Int), (a31, c32))] : List (List Int × (Option Addr × Nat)))) eN25_ok (by decide) rfl Try.underlying22 tf25 rfl rfl rfl rfl rfl (by decide) (fun a33 c34 => ?_)
  refine sxo_nestF (inn := iN25) ([([0, 1] : List Int), ([] : List Int), ([0] : List Int)] : List (List Int)) ([(a29, c30), (none, 0), (a31, c32)] : List (Option Addr × Nat)) 0 rfl rfl (fk_cons 2 rfl (fk_cons 1 rfl (fk_cons 0 rfl fk_nil))) ?_
  refine sxo_call ent43 rfl rfl rfl (fun x35 e35 => C_R_SameLists F x3.1 a4 c5 ([([0, 1] : List Int), ([] : List Int), ([0] : List Int)] : List (List Int)) a33 (c34, ([(a29, c30), (none, 0), (a31, c32)] : List (Option Addr × Nat))) x35 e35) (.consG 7 rfl (nest_sl rN25_in) (.consF 0 rfl .nil)) (fun x35 e35 => ?_)
  intro _
  refine sxo_move rfl rfl rfl ?_
  refine sxo_case 3 x35 [(3, .slice a8 x7.1.length c9), (4, .int .i64 x7.2), (5, .pointer (some ⟨g13, 0, none⟩)), (6, .int .i64 x10.2), (7, .pointer (some ⟨g17, 0, none⟩)), (8, .int .i64 x14.2), (9, .slice a19 x18.1.length c20), (10, .slice a21 x18.2.1.length c22), (11, .int .i64 x18.2.2), (13, .int .i64 x25.2), (59, .bool (x35 && ((x3.2 : Int) == 0)))] (fun h36 => ?_) (fun h36 => ?_) ?_
  · refine sxo_take (os := _) rfl ?_
    refine sxo_isT (k := 56) rfl h36 ?_
    refine sxo_move rfl rfl rfl ?_
    refine sxo_eql rfl rfl rfl rfl ?_
    refine sxo_pick (b := true) rfl rfl rfl rfl ?_
    refine sxo_again (d := 59) (v := .bool (x35 && ((x3.2 : Int) == 0))) rfl (by rw [h36]; simp only [Bool.true_and]) ?_
    refine sxo_nil ?_
    exact sxq_case (lk_cons rfl (lk_cons rfl (lk_cons rfl (lk_cons rfl (lk_cons rfl (lk_cons rfl (lk_cons rfl (lk_cons rfl (lk_cons rfl (lk_cons rfl (lk_cons rfl lk_nil)))))))))))
  · refine sxo_take (os := _) rfl ?_
    refine sxo_isF (k := 56) rfl h36 ?_
    refine sxo_skip rfl rfl rfl ?_
    refine sxo_skip rfl rfl rfl ?_
    refine sxo_pick (b := false) rfl rfl rfl rfl ?_
    refine sxo_again (d := 59) (v := .bool (x35 && ((x3.2 : Int) == 0))) rfl (by rw [h36]; simp only [Bool.false_and]) ?_
    refine sxo_nil ?_
    exact sxq_case (lk_cons rfl (lk_cons rfl (lk_cons rfl (lk_cons rfl (lk_cons rfl (lk_cons rfl (lk_cons rfl (lk_cons rfl (lk_cons rfl (lk_cons rfl (lk_cons rfl lk_nil)))))))))))
  refine sxo_take (os := _) rfl ?_
  refine sxo_move rfl rfl rfl ?_
  refine sxo_join 7 (fun ((x41, _) : (Bool × Unit)) => [(4, .int .i64 x7.2), (5, .pointer (some ⟨g13, 0, none⟩)), (6, .int .i64 x10.2), (7, .pointer (some ⟨g17, 0, none⟩)), (8, .int .i64 x14.2), (9, .slice a19 x18.1.length c20), (10, .slice a21 x18.2.1.length c22), (11, .int .i64 x18.2.2), (13, .int .i64 x25.2), (67, .bool x41)]) (fun ((x41, _) : (Bool × Unit)) => [⟨g17, 24, [.slice a15 x14.1.length c16.1]⟩, ⟨g13, 24, [.slice a11 x10.1.length c12.1]⟩]) (fun ((x41, _) : (Bool × Unit)) => [Ro (eI .i64) 3 1 (.slice a19 x18.1.length c20) x18.1, Ro (eI .i64) 3 1 (.slice a21 x18.2.1.length c22) x18.2.1, RoN eN25 rN25 25 1 (.slice a15 x14.1.length c16.1) x14.1 c16.2 [], RoN eN25 rN25 25 1 (.slice a11 x10.1.length c12.1) x10.1 c12.2 []]) (fun ((x41, _) : (Bool × Unit)) => []) (fun ((x41, _) : (Bool × Unit)) => M_L_graphBegun_j1 F x7 x10 x14 x18 x25 x41) ?_ ?_
  · refine sxo_take (os := _) rfl ?_
    refine sxo_if (fun h37 => ?_) (fun h37 => ?_)
    · refine sxo_isT (k := 60) rfl h37 ?_
      refine sxo_move rfl rfl rfl ?_
      refine sxo_build (cells := [.int .i64 0, .int .i64 0]) rfl st48 rfl (by kernel_rfl) rfl ?_
      refine sxo_build (cells := [.int .i64 0, .int .i64 1]) rfl st48 rfl (by kernel_rfl) rfl ?_
      refine sxo_build (cells := [.int .i64 2, .int .i64 0]) rfl st48 rfl (by kernel_rfl) rfl ?_
      refine sxo_slit (vs := [.agg #[.int .i64 0, .int .i64 0], .agg #[.int .i64 0, .int .i64 1], .agg #[.int .i64 2, .int .i64 0]]) (ys := ([(0, 0), (0, 1), (2, 0)] : List (Int × Int))) eS48_ok (by decide) rfl Try.underlying51 tf48 rfl rfl rfl rfl rfl (by decide) (fun a111 c112 => ?_)
      refine sxo_call ent50 rfl rfl rfl (fun x113 e113 => C_R_SameArcs F x7.1 a8 c9 ([(0, 0), (0, 1), (2, 0)] : List (Int × Int)) a111 c112 x113 e113) (.consR 7 (Ro eS48 48 2 (.slice a8 x7.1.length c9) x7.1) rfl (.consR 0 (Ro eS48 48 2 (.slice a111 ([(0, 0), (0, 1), (2, 0)] : List (Int × Int)).length c112) ([(0, 0), (0, 1), (2, 0)] : List (Int × Int))) rfl .nil)) (fun x113 e113 => ?_)
      intro _
      refine sxo_pick (b := true) rfl rfl rfl rfl ?_
      refine sxo_nil ?_
      exact sxq_meetP (x113, ()) (hB := (.cons 1 rfl (.cons 1 rfl .nil))) (hR := (.cons 3 rfl (.cons 3 rfl (.cons 3 rfl (.cons 3 rfl .nil)))))
    · refine sxo_isF (k := 60) rfl h37 ?_
      refine sxo_skip rfl rfl rfl ?_
      refine sxo_skip rfl rfl rfl ?_
      refine sxo_skip rfl rfl rfl ?_
      refine sxo_skip rfl rfl rfl ?_
      refine sxo_skip rfl rfl rfl ?_
      refine sxo_skip rfl rfl rfl ?_
      refine sxo_pick (b := false) rfl rfl rfl rfl ?_
      refine sxo_nil ?_
      exact sxq_meetP (false, ()) (hB := (.cons 1 rfl (.cons 1 rfl .nil))) (hR := (.cons 2 rfl (.cons 2 rfl (.cons 2 rfl (.cons 2 rfl .nil)))))
  · rintro ⟨x41, _⟩
    try dsimp only
    refine sxo_take (os := _) rfl ?_
    refine sxo_move rfl rfl rfl ?_
    refine sxo_case 3 x41 [(5, .pointer (some ⟨g13, 0, none⟩)), (6, .int .i64 x10.2), (7, .pointer (some ⟨g17, 0, none⟩)), (8, .int .i64 x14.2), (9, .slice a19 x18.1.length c20), (10, .slice a21 x18.2.1.length c22), (11, .int .i64 x18.2.2), (13, .int .i64 x25.2), (71, .bool (x41 && ((x7.2 : Int) == 0)))] (fun h42 => ?_) (fun h42 => ?_) ?_
    · refine sxo_take (os := _) rfl ?_
      refine sxo_isT (k := 68) rfl h42 ?_
      refine sxo_move rfl rfl rfl ?_
      refine sxo_eql rfl rfl rfl rfl ?_
      refine sxo_pick (b := true) rfl rfl rfl rfl ?_
      refine sxo_again (d := 71) (v := .bool (x41 && ((x7.2 : Int) == 0))) rfl (by rw [h42]; simp only [Bool.true_and]) ?_
      refine sxo_nil ?_
      exact sxq_case (lk_cons rfl (lk_cons rfl (lk_cons rfl (lk_cons rfl (lk_cons rfl (lk_cons rfl (lk_cons rfl (lk_cons rfl (lk_cons rfl lk_nil)))))))))
    · refine sxo_take (os := _) rfl ?_
      refine sxo_isF (k := 68) rfl h42 ?_
      refine sxo_skip rfl rfl rfl ?_
      refine sxo_skip rfl rfl rfl ?_
      refine sxo_pick (b := false) rfl rfl rfl rfl ?_
      refine sxo_again (d := 71) (v := .bool (x41 && ((x7.2 : Int) == 0))) rfl (by rw [h42]; simp only [Bool.false_and]) ?_
      refine sxo_nil ?_
      exact sxq_case (lk_cons rfl (lk_cons rfl (lk_cons rfl (lk_cons rfl (lk_cons rfl (lk_cons rfl (lk_cons rfl (lk_cons rfl (lk_cons rfl lk_nil)))))))))
    refine sxo_take (os := _) rfl ?_
    refine sxo_move rfl rfl rfl ?_
    refine sxo_join 7 (fun ((x51, _) : (Bool × Unit)) => [(6, .int .i64 x10.2), (7, .pointer (some ⟨g17, 0, none⟩)), (8, .int .i64 x14.2), (9, .slice a19 x18.1.length c20), (10, .slice a21 x18.2.1.length c22), (11, .int .i64 x18.2.2), (13, .int .i64 x25.2), (79, .bool x51)]) (fun ((x51, _) : (Bool × Unit)) => [⟨g17, 24, [.slice a15 x14.1.length c16.1]⟩]) (fun ((x51, _) : (Bool × Unit)) => [Ro (eI .i64) 3 1 (.slice a19 x18.1.length c20) x18.1, Ro (eI .i64) 3 1 (.slice a21 x18.2.1.length c22) x18.2.1, RoN eN25 rN25 25 1 (.slice a15 x14.1.length c16.1) x14.1 c16.2 []]) (fun ((x51, _) : (Bool × Unit)) => []) (fun ((x51, _) : (Bool × Unit)) => M_L_graphBegun_j2 F x10 x14 x18 x25 x51) ?_ ?_
    · refine sxo_take (os := _) rfl ?_
      refine sxo_if (fun h43 => ?_) (fun h43 => ?_)
      · refine sxo_isT (k := 72) rfl h43 ?_
        refine sxo_fieldAddr rfl rfl ff24_0 rfl ?_
        refine sxo_loadB (i := 1) rfl rfl tf22 rfl rfl (fun _ => rfl) rfl rfl ?_
        refine sxo_slit (vs := [.int .i64 0, .int .i64 2]) (ys := ([0, 2] : List Int)) (eI_ok .i64) (by decide) rfl Try.underlying25 tf3 rfl rfl rfl rfl rfl (by decide) (fun a104 c105 => ?_)
        refine sxo_slit (vs := [.int .i64 0]) (ys := ([0] : List Int)) (eI_ok .i64) (by decide) rfl Try.underlying25 tf3 rfl rfl rfl rfl rfl (by decide) (fun a106 c107 => ?_)
        refine sxo_freeze 1 rfl ?_
        refine sxo_freeze 0 rfl ?_
        refine sxo_nilrow' Int (eI .i64) 3 1 ?_
        refine sxo_freeze 0 rfl ?_
        refine sxo_slit (vs := [.slice a104 ([0, 2] : List Int).length c105, .slice a106 ([0] : List Int).length c107, .slice none 0 0]) (ys := ([(([0, 2] : List Int), (a104, c105)), (([0] : List Int), (a106, c107)), (([] : List Int), (none, 0))] : List (List Int × (Option Addr × Nat)))) eN25_ok (by decide) rfl Try.underlying22 tf25 rfl rfl rfl rfl rfl (by decide) (fun a108 c109 => ?_)
        refine sxo_nestF (inn := iN25) ([([0, 2] : List Int), ([0] : List Int), ([] : List Int)] : List (List Int)) ([(a104, c105), (a106, c107), (none, 0)] : List (Option Addr × Nat)) 0 rfl rfl (fk_cons 2 rfl (fk_cons 1 rfl (fk_cons 0 rfl fk_nil))) ?_
        refine sxo_call ent43 rfl rfl rfl (fun x110 e110 => C_R_SameLists F x10.1 a11 c12 ([([0, 2] : List Int), ([0] : List Int), ([] : List Int)] : List (List Int)) a108 (c109, ([(a104, c105), (a106, c107), (none, 0)] : List (Option Addr × Nat))) x110 e110) (.consG 3 rfl (nest_sl rN25_in) (.consF 0 rfl .nil)) (fun x110 e110 => ?_)
        intro _
        refine sxo_pick (b := true) rfl rfl rfl rfl ?_
        refine sxo_nil ?_
        exact sxq_meetP (x110, ()) (hB := (.cons 0 rfl .nil)) (hR := (.cons 0 rfl (.cons 0 rfl (.cons 0 rfl .nil))))
      · refine sxo_isF (k := 72) rfl h43 ?_
        refine sxo_skip rfl rfl rfl ?_
        refine sxo_skip rfl rfl rfl ?_
        refine sxo_skip rfl rfl rfl ?_
        refine sxo_skip rfl rfl rfl ?_
        refine sxo_skip rfl rfl rfl ?_
        refine sxo_skip rfl rfl rfl ?_
        refine sxo_pick (b := false) rfl rfl rfl rfl ?_
        refine sxo_nil ?_
        exact sxq_meetP (false, ()) (hB := (.cons 0 rfl .nil)) (hR := (.cons 0 rfl (.cons 0 rfl (.cons 0 rfl .nil))))
    · rintro ⟨x51, _⟩
      try dsimp only
      refine sxo_take (os := _) rfl ?_
      refine sxo_move rfl rfl rfl ?_
      refine sxo_case 3 x51 [(7, .pointer (some ⟨g17, 0, none⟩)), (8, .int .i64 x14.2), (9, .slice a19 x18.1.length c20), (10, .slice a21 x18.2.1.length c22), (11, .int .i64 x18.2.2), (13, .int .i64 x25.2), (83, .bool (x51 && ((x10.2 : Int) == 0)))] (fun h52 => ?_) (fun h52 => ?_) ?_
      · refine sxo_take (os := _) rfl ?_
        refine sxo_isT (k := 80) rfl h52 ?_
        refine sxo_move rfl rfl rfl ?_
        refine sxo_eql rfl rfl rfl rfl ?_
        refine sxo_pick (b := true) rfl rfl rfl rfl ?_
        refine sxo_again (d := 83) (v := .bool (x51 && ((x10.2 : Int) == 0))) rfl (by rw [h52]; simp only [Bool.true_and]) ?_
        refine sxo_nil ?_
        exact sxq_case (lk_cons rfl (lk_cons rfl (lk_cons rfl (lk_cons rfl (lk_cons rfl (lk_cons rfl (lk_cons rfl lk_nil)))))))
      · refine sxo_take (os := _) rfl ?_
        refine sxo_isF (k := 80) rfl h52 ?_
        refine sxo_skip rfl rfl rfl ?_
        refine sxo_skip rfl rfl rfl ?_
        refine sxo_pick (b := false) rfl rfl rfl rfl ?_
        refine sxo_again (d := 83) (v := .bool (x51 && ((x10.2 : Int) == 0))) rfl (by rw [h52]; simp only [Bool.false_and]) ?_
        refine sxo_nil ?_
        exact sxq_case (lk_cons rfl (lk_cons rfl (lk_cons rfl (lk_cons rfl (lk_cons rfl (lk_cons rfl (lk_cons rfl lk_nil)))))))
      refine sxo_take (os := _) rfl ?_
      refine sxo_move rfl rfl rfl ?_
      refine sxo_join 8 (fun ((x63, _) : (Bool × Unit)) => [(8, .int .i64 x14.2), (9, .slice a19 x18.1.length c20), (10, .slice a21 x18.2.1.length c22), (11, .int .i64 x18.2.2), (13, .int .i64 x25.2), (92, .bool x63)]) (fun ((x63, _) : (Bool × Unit)) => []) (fun ((x63, _) : (Bool × Unit)) => [Ro (eI .i64) 3 1 (.slice a19 x18.1.length c20) x18.1, Ro (eI .i64) 3 1 (.slice a21 x18.2.1.length c22) x18.2.1]) (fun ((x63, _) : (Bool × Unit)) => []) (fun ((x63, _) : (Bool × Unit)) => M_L_graphBegun_j3 F x14 x18 x25 x63) ?_ ?_
      · refine sxo_take (os := _) rfl ?_
        refine sxo_if (fun h53 => ?_) (fun h53 => ?_)
        · refine sxo_isT (k := 84) rfl h53 ?_
          refine sxo_fieldAddr rfl rfl ff24_0 rfl ?_
          refine sxo_loadB (i := 0) rfl rfl tf22 rfl rfl (fun _ => rfl) rfl rfl ?_
          refine sxo_slit (vs := [.int .i64 0, .int .i64 1, .int .i64 2]) (ys := ([0, 1, 2] : List Int)) (eI_ok .i64) (by decide) rfl Try.underlying25 tf3 rfl rfl rfl rfl rfl (by decide) (fun a95 c96 => ?_)
          refine sxo_slit (vs := [.int .i64 0]) (ys := ([0] : List Int)) (eI_ok .i64) (by decide) rfl Try.underlying25 tf3 rfl rfl rfl rfl rfl (by decide) (fun a97 c98 => ?_)
          refine sxo_slit (vs := [.int .i64 0]) (ys := ([0] : List Int)) (eI_ok .i64) (by decide) rfl Try.underlying25 tf3 rfl rfl rfl rfl rfl (by decide) (fun a99 c100 => ?_)
          refine sxo_freeze 2 rfl ?_
          refine sxo_freeze 1 rfl ?_
          refine sxo_freeze 0 rfl ?_
          refine sxo_slit (vs := [.slice a95 ([0, 1, 2] : List Int).length c96, .slice a97 ([0] : List Int).length c98, .slice a99 ([0] : List Int).length c100]) (ys := ([(([0, 1, 2] : List Int), (a95, c96)), (([0] : List Int), (a97, c98)), (([0] : List Int), (a99, c100))] : List (List Int × (Option Addr × Nat)))) eN25_ok (by decide) rfl Try.underlying22 tf25 rfl rfl rfl rfl rfl (by decide) (fun a101 c102 => ?_)
          refine sxo_nestF (inn := iN25) ([([0, 1, 2] : List Int), ([0] : List Int), ([0] : List Int)] : List (List Int)) ([(a95, c96), (a97, c98), (a99, c100)] : List (Option Addr × Nat)) 0 rfl rfl (fk_cons 2 rfl (fk_cons 1 rfl (fk_cons 0 rfl fk_nil))) ?_
          refine sxo_call ent43 rfl rfl rfl (fun x103 e103 => C_R_SameLists F x14.1 a15 c16 ([([0, 1, 2] : List Int), ([0] : List Int), ([0] : List Int)] : List (List Int)) a101 (c102, ([(a95, c96), (a97, c98), (a99, c100)] : List (Option Addr × Nat))) x103 e103) (.consG 2 rfl (nest_sl rN25_in) (.consF 0 rfl .nil)) (fun x103 e103 => ?_)
          intro _
          refine sxo_pick (b := true) rfl rfl rfl rfl ?_
          refine sxo_nil ?_
          exact sxq_meetP (x103, ()) (hR := (.cons 0 rfl (.cons 0 rfl .nil)))
        · refine sxo_isF (k := 84) rfl h53 ?_
          refine sxo_skip rfl rfl rfl ?_
          refine sxo_skip rfl rfl rfl ?_
          refine sxo_skip rfl rfl rfl ?_
          refine sxo_skip rfl rfl rfl ?_
          refine sxo_skip rfl rfl rfl ?_
          refine sxo_skip rfl rfl rfl ?_
          refine sxo_skip rfl rfl rfl ?_
          refine sxo_pick (b := false) rfl rfl rfl rfl ?_
          refine sxo_nil ?_
          exact sxq_meetP (false, ()) (hR := (.cons 0 rfl (.cons 0 rfl .nil)))
      · rintro ⟨x63, _⟩
        try dsimp only
        refine sxo_take (os := _) rfl ?_
        refine sxo_move rfl rfl rfl ?_
        refine sxo_case 3 x63 [(9, .slice a19 x18.1.length c20), (10, .slice a21 x18.2.1.length c22), (11, .int .i64 x18.2.2), (13, .int .i64 x25.2), (96, .bool (x63 && ((x14.2 : Int) == 0)))] (fun h64 => ?_) (fun h64 => ?_) ?_
        · refine sxo_take (os := _) rfl ?_
          refine sxo_isT (k := 93) rfl h64 ?_
          refine sxo_move rfl rfl rfl ?_
          refine sxo_eql rfl rfl rfl rfl ?_
          refine sxo_pick (b := true) rfl rfl rfl rfl ?_
          refine sxo_again (d := 96) (v := .bool (x63 && ((x14.2 : Int) == 0))) rfl (by rw [h64]; simp only [Bool.true_and]) ?_
          refine sxo_nil ?_
          exact sxq_case (lk_cons rfl (lk_cons rfl (lk_cons rfl (lk_cons rfl (lk_cons rfl lk_nil)))))
        · refine sxo_take (os := _) rfl ?_
          refine sxo_isF (k := 93) rfl h64 ?_
          refine sxo_skip rfl rfl rfl ?_
          refine sxo_skip rfl rfl rfl ?_
          refine sxo_pick (b := false) rfl rfl rfl rfl ?_
          refine sxo_again (d := 96) (v := .bool (x63 && ((x14.2 : Int) == 0))) rfl (by rw [h64]; simp only [Bool.false_and]) ?_
          refine sxo_nil ?_
          exact sxq_case (lk_cons rfl (lk_cons rfl (lk_cons rfl (lk_cons rfl (lk_cons rfl lk_nil)))))
        refine sxo_take (os := _) rfl ?_
        refine sxo_move rfl rfl rfl ?_
        refine sxo_join 4 (fun ((x69, _) : (Bool × Unit)) => [(10, .slice a21 x18.2.1.length c22), (11, .int .i64 x18.2.2), (13, .int .i64 x25.2), (101, .bool x69)]) (fun ((x69, _) : (Bool × Unit)) => []) (fun ((x69, _) : (Bool × Unit)) => [Ro (eI .i64) 3 1 (.slice a21 x18.2.1.length c22) x18.2.1]) (fun ((x69, _) : (Bool × Unit)) => []) (fun ((x69, _) : (Bool × Unit)) => M_L_graphBegun_j4 F x18 x25 x69) ?_ ?_
        · refine sxo_take (os := _) rfl ?_
          refine sxo_if (fun h65 => ?_) (fun h65 => ?_)
          · refine sxo_isT (k := 97) rfl h65 ?_
            refine sxo_move rfl rfl rfl ?_
            refine sxo_slit (vs := [.int .i64 2, .int .i64 0, .int .i64 1]) (ys := ([2, 0, 1] : List Int)) (eI_ok .i64) (by decide) rfl Try.underlying25 tf3 rfl rfl rfl rfl rfl (by decide) (fun a92 c93 => ?_)
            refine sxo_call ent19 rfl rfl rfl (fun x94 e94 => C_R_SameInts F x18.1 a19 c20 ([2, 0, 1] : List Int) a92 c93 x94 e94) (.consR 1 (Ro (eI .i64) 3 1 (.slice a19 x18.1.length c20) x18.1) rfl (.consR 0 (Ro (eI .i64) 3 1 (.slice a92 ([2, 0, 1] : List Int).length c93) ([2, 0, 1] : List Int)) rfl .nil)) (fun x94 e94 => ?_)
            intro _
            refine sxo_pick (b := true) rfl rfl rfl rfl ?_
            refine sxo_nil ?_
            exact sxq_meetP (x94, ()) (hR := (.cons 2 rfl .nil))
          · refine sxo_isF (k := 97) rfl h65 ?_
            refine sxo_skip rfl rfl rfl ?_
            refine sxo_skip rfl rfl rfl ?_
            refine sxo_skip rfl rfl rfl ?_
            refine sxo_pick (b := false) rfl rfl rfl rfl ?_
            refine sxo_nil ?_
            exact sxq_meetP (false, ()) (hR := (.cons 1 rfl .nil))
        · rintro ⟨x69, _⟩
          try dsimp only
          refine sxo_take (os := _) rfl ?_
          refine sxo_move rfl rfl rfl ?_
          refine sxo_join 4 (fun ((x74, _) : (Bool × Unit)) => [(11, .int .i64 x18.2.2), (13, .int .i64 x25.2), (106, .bool x74)]) (fun ((x74, _) : (Bool × Unit)) => []) (fun ((x74, _) : (Bool × Unit)) => []) (fun ((x74, _) : (Bool × Unit)) => []) (fun ((x74, _) : (Bool × Unit)) => M_L_graphBegun_j5 F x18 x25 x74) ?_ ?_
          · refine sxo_take (os := _) rfl ?_
            refine sxo_if (fun h70 => ?_) (fun h70 => ?_)
            · refine sxo_isT (k := 102) rfl h70 ?_
              refine sxo_move rfl rfl rfl ?_
              refine sxo_slit (vs := [.int .i64 2, .int .i64 1, .int .i64 0]) (ys := ([2, 1, 0] : List Int)) (eI_ok .i64) (by decide) rfl Try.underlying25 tf3 rfl rfl rfl rfl rfl (by decide) (fun a89 c90 => ?_)
              refine sxo_call ent19 rfl rfl rfl (fun x91 e91 => C_R_SameInts F x18.2.1 a21 c22 ([2, 1, 0] : List Int) a89 c90 x91 e91) (.consR 1 (Ro (eI .i64) 3 1 (.slice a21 x18.2.1.length c22) x18.2.1) rfl (.consR 0 (Ro (eI .i64) 3 1 (.slice a89 ([2, 1, 0] : List Int).length c90) ([2, 1, 0] : List Int)) rfl .nil)) (fun x91 e91 => ?_)
              intro _
              refine sxo_pick (b := true) rfl rfl rfl rfl ?_
              refine sxo_nil ?_
              exact sxq_meetP (x91, ())
            · refine sxo_isF (k := 102) rfl h70 ?_
              refine sxo_skip rfl rfl rfl ?_
              refine sxo_skip rfl rfl rfl ?_
              refine sxo_skip rfl rfl rfl ?_
              refine sxo_pick (b := false) rfl rfl rfl rfl ?_
              refine sxo_nil ?_
              exact sxq_meetP (false, ())
          · rintro ⟨x74, _⟩
            try dsimp only
            refine sxo_take (os := _) rfl ?_
            refine sxo_move rfl rfl rfl ?_
            refine sxo_case 3 x74 [(13, .int .i64 x25.2), (110, .bool (x74 && ((x18.2.2 : Int) == 0)))] (fun h75 => ?_) (fun h75 => ?_) ?_
            · refine sxo_take (os := _) rfl ?_
              refine sxo_isT (k := 107) rfl h75 ?_
              refine sxo_move rfl rfl rfl ?_
              refine sxo_eql rfl rfl rfl rfl ?_
              refine sxo_pick (b := true) rfl rfl rfl rfl ?_
              refine sxo_again (d := 110) (v := .bool (x74 && ((x18.2.2 : Int) == 0))) rfl (by rw [h75]; simp only [Bool.true_and]) ?_
              refine sxo_nil ?_
              exact sxq_case (lk_cons rfl (lk_cons rfl lk_nil))
            · refine sxo_take (os := _) rfl ?_
              refine sxo_isF (k := 107) rfl h75 ?_
              refine sxo_skip rfl rfl rfl ?_
              refine sxo_skip rfl rfl rfl ?_
              refine sxo_pick (b := false) rfl rfl rfl rfl ?_
              refine sxo_again (d := 110) (v := .bool (x74 && ((x18.2.2 : Int) == 0))) rfl (by rw [h75]; simp only [Bool.false_and]) ?_
              refine sxo_nil ?_
              exact sxq_case (lk_cons rfl (lk_cons rfl lk_nil))
            refine sxo_take (os := _) rfl ?_
            refine sxo_move rfl rfl rfl ?_
            refine sxo_case 3 (x74 && ((x18.2.2 : Int) == 0)) [(114, .bool ((x74 && ((x18.2.2 : Int) == 0)) && ((x25.2 : Int) == 6)))] (fun h76 => ?_) (fun h76 => ?_) ?_
            · refine sxo_take (os := _) rfl ?_
              refine sxo_isT (k := 111) rfl h76 ?_
              refine sxo_move rfl rfl rfl ?_
              refine sxo_eql rfl rfl rfl rfl ?_
              refine sxo_pick (b := true) rfl rfl rfl rfl ?_
              refine sxo_again (d := 114) (v := .bool ((x74 && ((x18.2.2 : Int) == 0)) && ((x25.2 : Int) == 6))) rfl (by rw [h76]; simp only [Bool.true_and]) ?_
              refine sxo_nil ?_
              exact sxq_case (lk_cons rfl lk_nil)
            · refine sxo_take (os := _) rfl ?_
              refine sxo_isF (k := 111) rfl h76 ?_
              refine sxo_skip rfl rfl rfl ?_
              refine sxo_skip rfl rfl rfl ?_
              refine sxo_pick (b := false) rfl rfl rfl rfl ?_
              refine sxo_again (d := 114) (v := .bool ((x74 && ((x18.2.2 : Int) == 0)) && ((x25.2 : Int) == 6))) rfl (by rw [h76]; simp only [Bool.false_and]) ?_
              refine sxo_nil ?_
              exact sxq_case (lk_cons rfl lk_nil)
            refine sxo_take (os := _) rfl ?_
            refine sxo_move rfl rfl rfl ?_
            refine sxo_join 6 (fun ((x83, _) : (Bool × Unit)) => [(121, .bool x83)]) (fun ((x83, _) : (Bool × Unit)) => []) (fun ((x83, _) : (Bool × Unit)) => []) (fun ((x83, _) : (Bool × Unit)) => []) (fun ((x83, _) : (Bool × Unit)) => M_L_graphBegun_j6 F x83) ?_ ?_
            · refine sxo_take (os := _) rfl ?_
              refine sxo_if (fun h77 => ?_) (fun h77 => ?_)
              · refine sxo_isT (k := 115) rfl h77 ?_
                refine sxo_slit (vs := [.int .i64 1]) (ys := ([1] : List Int)) (eI_ok .i64) (by decide) rfl Try.underlying25 tf3 rfl rfl rfl rfl rfl (by decide) (fun a84 c85 => ?_)
                refine sxo_freeze 0 rfl ?_
                refine sxo_slit (vs := [.slice a84 ([1] : List Int).length c85]) (ys := ([(([1] : List Int), (a84, c85))] : List (List Int × (Option Addr × Nat)))) eN25_ok (by decide) rfl Try.underlying22 tf25 rfl rfl rfl rfl rfl (by decide) (fun a86 c87 => ?_)
                refine sxo_nestF (inn := iN25) ([([1] : List Int)] : List (List Int)) ([(a84, c85)] : List (Option Addr × Nat)) 0 rfl rfl (fk_cons 0 rfl fk_nil) ?_
                refine sxo_build (cells := [.slice a86 ([([1] : List Int)] : List (List Int)).length c87]) rfl st24 rfl (by kernel_rfl) rfl ?_
                refine sxo_call ent31 rfl rfl rfl (fun x88 e88 => C_graph_Check F ([([1] : List Int)] : List (List Int)) a86 (c87, ([(a84, c85)] : List (Option Addr × Nat))) x88 e88) (.consF 0 rfl .nil) (fun x88 e88 => ?_)
                intro _
                refine sxo_eql rfl rfl rfl rfl ?_
                refine sxo_pick (b := true) rfl rfl rfl rfl ?_
                refine sxo_nil ?_
                exact sxq_meetP (((x88 : Int) == 3), ())
              · refine sxo_isF (k := 115) rfl h77 ?_
                refine sxo_skip rfl rfl rfl ?_
                refine sxo_skip rfl rfl rfl ?_
                refine sxo_skip rfl rfl rfl ?_
                refine sxo_skip rfl rfl rfl ?_
                refine sxo_skip rfl rfl rfl ?_
                refine sxo_pick (b := false) rfl rfl rfl rfl ?_
                refine sxo_nil ?_
                exact sxq_meetP (false, ())
            · rintro ⟨x83, _⟩
              try dsimp only
              refine sxo_take (os := _) rfl ?_
              refine sxo_assign rfl rfl rfl ?_
              refine sxo_nil ?_
              refine sxq_next ?_
              refine sxc_ret ?_
              exact sxq_doneP () (res1 rfl rfl)

theorem C_walk_check_1 (F : Nat) (x1 : Int) (g2 : Nat) (x3 : List (List Int)) (a4 : Option Addr) (c5 : (Nat × List (Option Addr × Nat))) (r : Bool) (hm : M_walk_check_1 F x1 x3 = some r) :
    PureM Try.prog 72 [.int .i64 x1, .pointer (some ⟨g2, 0, none⟩)] [⟨g2, 24, [.slice a4 x3.length c5.1]⟩] [] [SlN eN25 iN25 1 (.slice a4 x3.length c5.1) x3 c5.2] Unit (fun _ => .bool r) (fun _ => [⟨g2, 24, [.slice a4 x3.length c5.1]⟩]) (fun _ => []) := by
  refine pureM_of Try.func72 rfl Try.ntmps72 rfl hm (fun w => ?_)
  refine sxc_env (l' := [(0, .int .i64 x1), (1, .pointer (some ⟨g2, 0, none⟩))]) rfl ?_
  refine sxc_seq ?_
  refine sxc_region ?_
  refine sxo_assign rfl rfl rfl ?_
  refine sxo_nil ?_
  refine sxq_next ?_
  refine sxc_seq ?_
  refine sxc_region ?_
  refine sxo_move rfl rfl rfl ?_
  refine sxo_lss rfl rfl rfl rfl ?_
  refine sxo_move rfl rfl rfl ?_
  refine sxo_case 6 (decide (x1 < 0)) [(12, .bool ((decide (x1 < 0)) || (decide ((x3.length : Int) ≤ x1))))] (fun h6 => ?_) (fun h6 => ?_) ?_
  · refine sxo_take (os := _) rfl ?_
    refine sxo_isT (k := 6) rfl h6 ?_
    refine sxo_skip rfl rfl rfl ?_
    refine sxo_skip rfl rfl rfl ?_
    refine sxo_skip rfl rfl rfl ?_
    refine sxo_skip rfl rfl rfl ?_
    refine sxo_skip rfl rfl rfl ?_
    refine sxo_pick (b := true) rfl rfl rfl rfl ?_
    refine sxo_again (d := 12) (v := .bool ((decide (x1 < 0)) || (decide ((x3.length : Int) ≤ x1)))) rfl (by rw [h6]; simp only [Bool.true_or]) ?_
    refine sxo_nil ?_
    exact sxq_case (lk_cons rfl lk_nil)
  · refine sxo_take (os := _) rfl ?_
    refine sxo_isF (k := 6) rfl h6 ?_
    refine sxo_move rfl rfl rfl ?_
    refine sxo_fieldAddr rfl rfl ff24_0 rfl ?_
    refine sxo_loadB (i := 0) rfl rfl tf22 rfl rfl (fun _ => rfl) rfl rfl ?_
    refine sxo_len rfl Try.underlying22 rfl rfl ?_
    refine sxo_geq rfl rfl rfl rfl ?_
    refine sxo_pick (b := false) rfl rfl rfl rfl ?_
    refine sxo_again (d := 12) (v := .bool ((decide (x1 < 0)) || (decide ((x3.length : Int) ≤ x1)))) rfl (by rw [h6]; simp only [Bool.false_or]) ?_
    refine sxo_nil ?_
    exact sxq_case (lk_cons rfl lk_nil)
  refine sxo_take (os := _) rfl ?_
  refine sxo_assign rfl rfl rfl ?_
  refine sxo_nil ?_
  refine sxq_next ?_
  refine sxc_ret ?_
  exact sxq_doneM () (res1 rfl rfl) (hB := fun h => by subst h; exact (.cons 0 rfl .nil))

theorem C_slices_IndexFunc_int_int_walk_check_1 (F : Nat) (x1 : List Int) (a2 : Option Addr) (c3 : Nat) (g4 : Nat) (x5 : List (List Int)) (a6 : Option Addr) (c7 : (Nat × List (Option Addr × Nat))) (r : Int) (hm : M_slices_IndexFunc_int_int_walk_check_1 F x1 x5 = some r) :
    PureM Try.prog 56 [.slice a2 x1.length c3, .func (.func 72) #[] #[.pointer (some ⟨g4, 0, none⟩)]] [⟨g4, 24, [.slice a6 x5.length c7.1]⟩] [] [Sl (eI .i64) 1 (.slice a2 x1.length c3) x1, SlN eN25 iN25 1 (.slice a6 x5.length c7.1) x5 c7.2] Unit (fun _ => .int .i64 r) (fun _ => [⟨g4, 24, [.slice a6 x5.length c7.1]⟩]) (fun _ => []) := by
  refine pureM_of Try.func56 rfl Try.ntmps56 rfl hm (fun w => ?_)
  refine sxc_env (l' := [(0, .slice a2 x1.length c3), (1, .func (.func 72) #[] #[.pointer (some ⟨g4, 0, none⟩)])]) rfl ?_
  refine sxc_seq ?_
  refine sxc_region ?_
  refine sxo_assign rfl rfl rfl ?_
  refine sxo_nil ?_
  refine sxq_next ?_
  refine sxc_join (fun ((_, _) : (Unit × Unit)) => []) (fun ((_, _) : (Unit × Unit)) => [⟨g4, 24, [.slice a6 x5.length c7.1]⟩]) (fun ((_, _) : (Unit × Unit)) => []) (fun ((_, _) : (Unit × Unit)) => [SlN eN25 iN25 1 (.slice a6 x5.length c7.1) x5 c7.2]) (fun ((_, _) : (Unit × Unit)) => M_slices_IndexFunc_int_int_walk_check_1_j2 F) ?_ ?_
  · refine sxc_seq ?_
    refine sxc_region ?_
    refine sxo_move rfl rfl rfl ?_
    refine sxo_len rfl Try.underlying25 rfl rfl ?_
    refine sxo_move rfl rfl rfl ?_
    refine sxo_nil ?_
    refine sxq_next ?_
    refine sxc_block ?_
    refine sxc_loopP (fun ((x58, _) : (Int × Unit)) => [(0, .slice a2 x1.length c3), (1, .func (.func 72) #[] #[.pointer (some ⟨g4, 0, none⟩)]), (7, .int .i64 (x1.length : Int)), (8, .int .i64 x58)]) (fun ((x58, _) : (Int × Unit)) => [⟨g4, 24, [.slice a6 x5.length c7.1]⟩]) (fun ((x58, _) : (Int × Unit)) => []) (fun ((x58, _) : (Int × Unit)) => [Sl (eI .i64) 1 (.slice a2 x1.length c3) x1, SlN eN25 iN25 1 (.slice a6 x5.length c7.1) x5 c7.2]) (fun k (s : (Int × Unit)) => M_slices_IndexFunc_int_int_walk_check_1_l3 F x1 x5 k s.1) (0, ()) F ?_ (hB := (.cons 0 rfl .nil)) (hF := (fk_cons 0 rfl (fk_cons 1 rfl fk_nil)))
    intro k71
    rintro ⟨x58, _⟩
    try dsimp only
    refine sxc_meq (m' := M_slices_IndexFunc_int_int_walk_check_1_b3 F x1 x5 (M_slices_IndexFunc_int_int_walk_check_1_l3 F x1 x5 k71) x58) rfl ?_
    refine sxc_seq ?_
    refine sxc_region ?_
    refine sxo_lss rfl rfl rfl rfl ?_
    refine sxo_nil ?_
    refine sxq_next ?_
    refine sxc_seq ?_
    refine sxc_if rfl (fun h83 => ?_) (fun h83 => ?_)
    · refine sxc_skip ?_
      refine sxq_next ?_
      refine sxc_seq ?_
      refine sxc_block ?_
      refine sxc_seq ?_
      refine sxc_region ?_
      refine sxo_move rfl rfl rfl ?_
      refine sxo_assign rfl rfl rfl ?_
      refine sxo_nil ?_
      refine sxq_next ?_
      refine sxc_seq ?_
      refine sxc_region ?_
      refine sxo_move rfl rfl rfl ?_
      refine sxo_move rfl rfl rfl ?_
      refine sxo_move rfl rfl rfl ?_
      refine sxo_indexF (j := 0) (eI_ok .i64) (by decide) rfl Try.underlying25 tf3 rfl rfl rfl rfl (fun x78 e78 b79 o80 => ?_)
      refine sxo_loadF (j := 0) rfl rfl tf3 rfl rfl (fun _ => rfl) rfl rfl ?_
      refine sxo_callMV ent72 rfl rfl rfl rfl (fun x81 e81 => C_walk_check_1 F x78 g4 x5 a6 c7 x81 e81) (.cons 0 rfl .nil) .nil (.consF 2 rfl .nil) (fun x81 e81 => ?_)
      intro _
      refine sxo_nil ?_
      refine sxq_next ?_
      refine sxc_if rfl (fun h82 => ?_) (fun h82 => ?_)
      · refine sxc_seq ?_
        refine sxc_region ?_
        refine sxo_move rfl rfl rfl ?_
        refine sxo_assign rfl rfl rfl ?_
        refine sxo_nil ?_
        refine sxq_next ?_
        refine sxc_ret ?_
        refine sxq_blkR ?_
        refine sxq_thenR ?_
        refine sxq_thenR ?_
        refine sxq_blkR ?_
        refine sxq_thenR ?_
        exact sxq_doneM () (res1 rfl rfl) (hB := fun h => by subst h; exact (.cons 0 rfl .nil))
      · refine sxc_skip ?_
        refine sxq_blkN ?_
        refine sxq_next ?_
        refine sxc_region ?_
        refine sxo_add rfl rfl rfl rfl ?_
        refine sxo_move rfl rfl rfl ?_
        refine sxo_nil ?_
        exact sxq_againP (iadd .i64 x58 1, ()) (hB := (.cons 0 rfl .nil)) (hF := (fk_cons 1 rfl (fk_cons 2 rfl fk_nil)))
    · refine sxc_exit ?_
      refine sxq_thenX ?_
      refine sxq_thenX ?_
      refine sxq_blkX ?_
      exact sxq_meetP ((), ()) (hB := (.cons 0 rfl .nil)) (hF := (fk_cons 1 rfl fk_nil))
  · rintro ⟨_, _⟩
    try dsimp only
    refine sxc_seq ?_
    refine sxc_region ?_
    refine sxo_assign rfl rfl rfl ?_
    refine sxo_nil ?_
    refine sxq_next ?_
    refine sxc_ret ?_
    exact sxq_doneM () (res1 rfl rfl) (hB := fun h => by subst h; exact (.cons 0 rfl .nil))

theorem C_slices_ContainsFunc_int_int_walk_check_1 (F : Nat) (x1 : List Int) (a2 : Option Addr) (c3 : Nat) (g4 : Nat) (x5 : List (List Int)) (a6 : Option Addr) (c7 : (Nat × List (Option Addr × Nat))) (r : Bool) (hm : M_slices_ContainsFunc_int_int_walk_check_1 F x1 x5 = some r) :
    PureM Try.prog 71 [.slice a2 x1.length c3, .func (.func 72) #[] #[.pointer (some ⟨g4, 0, none⟩)]] [⟨g4, 24, [.slice a6 x5.length c7.1]⟩] [] [Sl (eI .i64) 1 (.slice a2 x1.length c3) x1, SlN eN25 iN25 1 (.slice a6 x5.length c7.1) x5 c7.2] Unit (fun _ => .bool r) (fun _ => [⟨g4, 24, [.slice a6 x5.length c7.1]⟩]) (fun _ => []) := by
  refine pureM_of Try.func71 rfl Try.ntmps71 rfl hm (fun w => ?_)
  refine sxc_env (l' := [(0, .slice a2 x1.length c3), (1, .func (.func 72) #[] #[.pointer (some ⟨g4, 0, none⟩)])]) rfl ?_
  refine sxc_seq ?_
  refine sxc_region ?_
  refine sxo_assign rfl rfl rfl ?_
  refine sxo_nil ?_
  refine sxq_next ?_
  refine sxc_seq ?_
  refine sxc_region ?_
  refine sxo_move rfl rfl rfl ?_
  refine sxo_move rfl rfl rfl ?_
  refine sxo_callM ent56 rfl rfl rfl (fun x8 e8 => C_slices_IndexFunc_int_int_walk_check_1 F x1 a2 c3 g4 x5 a6 c7 x8 e8) (.cons 0 rfl .nil) .nil (.consF 0 rfl (.consF 1 rfl .nil)) (fun x8 e8 => ?_)
  intro _
  refine sxo_geq rfl rfl rfl rfl ?_
  refine sxo_assign rfl rfl rfl ?_
  refine sxo_nil ?_
  refine sxq_next ?_
  refine sxc_ret ?_
  exact sxq_doneM () (res1 rfl rfl) (hB := fun h => by subst h; exact (.cons 0 rfl .nil))

theorem C_walk_check (F : Nat) (x1 : List (List Int)) (a2 : Option Addr) (c3 : (Nat × List (Option Addr × Nat))) (x4 : List Int) (a5 : Option Addr) (c6 : Nat) (r : Int) (hm : M_walk_check F x1 x4 = some r) :
    Pure Try.prog 51 [.agg #[.slice a2 x1.length c3.1], .slice a5 x4.length c6] [SlN eN25 iN25 1 (.slice a2 x1.length c3.1) x1 c3.2, Sl (eI .i64) 1 (.slice a5 x4.length c6) x4] Unit (fun _ => .int .i64 r) (fun _ => []) (fun _ => []) := by
  refine pure_of Try.func51 rfl Try.ntmps51 rfl hm (fun w => ?_)
  refine sxc_env (l' := [(0, .agg #[.slice a2 x1.length c3.1]), (1, .slice a5 x4.length c6)]) rfl ?_
  refine sxc_seq ?_
  refine sxc_region ?_
  refine sxo_box rfl rfl rfl (fun g7 => ?_)
  refine sxo_assign rfl rfl rfl ?_
  refine sxo_nil ?_
  refine sxq_next ?_
  refine sxc_seq ?_
  refine sxc_seq ?_
  refine sxc_region ?_
  refine sxo_loadB (i := 0) rfl rfl tf24 rfl rfl (by simp) rfl rfl ?_
  refine sxo_call ent31 rfl rfl rfl (fun x10 e10 => C_graph_Check F x1 a2 c3 x10 e10) (.consF 0 rfl .nil) (fun x10 e10 => ?_)
  intro _
  refine sxo_assign rfl rfl rfl ?_
  refine sxo_nil ?_
  refine sxq_next ?_
  refine sxc_seq ?_
  refine sxc_region ?_
  refine sxo_move rfl rfl rfl ?_
  refine sxo_neq rfl rfl rfl rfl ?_
  refine sxo_nil ?_
  refine sxq_next ?_
  refine sxc_if rfl (fun h15 => ?_) (fun h15 => ?_)
  · refine sxc_seq ?_
    refine sxc_region ?_
    refine sxo_move rfl rfl rfl ?_
    refine sxo_assign rfl rfl rfl ?_
    refine sxo_nil ?_
    refine sxq_next ?_
    refine sxc_ret ?_
    refine sxq_thenR ?_
    exact sxq_doneP () (res1 rfl rfl)
  · refine sxc_skip ?_
    refine sxq_next ?_
    refine sxc_seq ?_
    refine sxc_seq ?_
    refine sxc_region ?_
    refine sxo_move rfl rfl rfl ?_
    refine sxo_makeFunc rfl rfl rfl ?_
    refine sxo_callM ent71 rfl rfl rfl (fun x13 e13 => C_slices_ContainsFunc_int_int_walk_check_1 F x4 a5 c6 g7 x1 a2 c3 x13 e13) (.cons 0 rfl .nil) .nil (.consF 1 rfl (.consF 0 rfl .nil)) (fun x13 e13 => ?_)
    intro _
    refine sxo_nil ?_
    refine sxq_next ?_
    refine sxc_if rfl (fun h14 => ?_) (fun h14 => ?_)
    · refine sxc_seq ?_
      refine sxc_region ?_
      refine sxo_assign rfl rfl rfl ?_
      refine sxo_nil ?_
      refine sxq_next ?_
      refine sxc_ret ?_
      refine sxq_thenR ?_
      exact sxq_doneP () (res1 rfl rfl)
    · refine sxc_skip ?_
      refine sxq_next ?_
      refine sxc_seq ?_
      refine sxc_region ?_
      refine sxo_assign rfl rfl rfl ?_
      refine sxo_nil ?_
      refine sxq_next ?_
      refine sxc_ret ?_
      exact sxq_doneP () (res1 rfl rfl)

theorem C_walk_far (F : Nat) (x1 : List (List Int)) (a2 : Option Addr) (c3 : (Nat × List (Option Addr × Nat))) (x4 : Int) (r : List Int) (hm : M_walk_far F x1 x4 = some r) :
    Pure Try.prog 52 [.agg #[.slice a2 x1.length c3.1], .int .i64 x4] [SlN eN25 iN25 1 (.slice a2 x1.length c3.1) x1 c3.2] (Option Addr × Nat) (fun g => .slice g.1 r.length g.2) (fun g => [Ro (eI .i64) 3 1 (.slice g.1 r.length g.2) r]) (fun _ => []) := by
  refine pure_of Try.func52 rfl Try.ntmps52 rfl hm (fun w => ?_)
  refine sxc_env (l' := [(0, .agg #[.slice a2 x1.length c3.1]), (1, .int .i64 x4)]) rfl ?_
  refine sxc_seq ?_
  refine sxc_region ?_
  refine sxo_box rfl rfl rfl (fun g5 => ?_)
  refine sxo_assign rfl rfl rfl ?_
  refine sxo_nil ?_
  refine sxq_next ?_
  refine sxc_seq ?_
  refine sxc_region ?_
  refine sxo_slit (vs := [.int .i64 (-1)]) (ys := ([-1] : List Int)) (eI_ok .i64) (by decide) rfl Try.underlying25 tf3 rfl rfl rfl rfl rfl (by decide) (fun a6 c7 => ?_)
  refine sxo_fieldAddr rfl rfl ff24_0 rfl ?_
  refine sxo_loadB (i := 0) rfl rfl tf22 rfl rfl (fun _ => rfl) rfl rfl ?_
  refine sxo_len rfl Try.underlying22 rfl rfl ?_
  refine sxo_call ent58 rfl rfl rfl (fun x8 e8 => C_slices_Repeat_int_int F ([-1] : List Int) a6 c7 (x1.length : Int) x8 e8) (.consR 0 (Ro (eI .i64) 3 1 (.slice a6 ([-1] : List Int).length c7) ([-1] : List Int)) rfl .nil) (fun x8 e8 => ?_)
  rintro ⟨a9, c10⟩
  refine sxo_assign rfl rfl rfl ?_
  refine sxo_nil ?_
  refine sxq_next ?_
  refine sxc_seq ?_
  refine sxc_region ?_
  refine sxo_move rfl rfl rfl ?_
  refine sxo_move rfl rfl rfl ?_
  refine sxo_indexR (j := 0) rfl Try.underlying25 tf3 rfl rfl rfl rfl (fun x11 e11 g12 h13 => ?_)
  refine sxo_storeL (j := 0) (y' := 0) (eI_ok .i64) rfl rfl rfl tf3 rfl h13 (idx_get e11).2.1 rfl (fun x14 e14 h15 => ?_)
  have h16 : x14.length = x8.length := by rw [← e14, List.length_set]
  refine sxo_again (d := 5) (v := .slice a9 x14.length c10) rfl h15 ?_
  refine sxo_again (d := 14) (v := .slice a9 x14.length c10) rfl h15 ?_
  refine sxo_again (d := 15) (v := .slice a9 x14.length c10) rfl h15 ?_
  refine sxo_nil ?_
  refine sxq_next ?_
  refine sxc_join (fun ((x1033, _) : (List Int × Unit)) => [(5, .slice a9 x1033.length c10)]) (fun ((x1033, _) : (List Int × Unit)) => []) (fun ((x1033, _) : (List Int × Unit)) => [Ro (eI .i64) 3 1 (.slice a9 x1033.length c10) x1033]) (fun ((x1033, _) : (List Int × Unit)) => []) (fun ((x1033, _) : (List Int × Unit)) => M_walk_far_j29 F x1033) ?_ ?_
  · refine sxc_seq ?_
    refine sxc_region ?_
    refine sxo_move rfl rfl rfl ?_
    refine sxo_slit (vs := [.int .i64 x4]) (ys := ([x4] : List Int)) (eI_ok .i64) (by decide) rfl Try.underlying25 tf3 rfl rfl rfl rfl rfl (by decide) (fun a1034 c1035 => ?_)
    refine sxo_assign rfl rfl rfl ?_
    refine sxo_nil ?_
    refine sxq_next ?_
    refine sxc_block ?_
    refine sxc_loopP (fun (((x1358, x1362), (a1359, c1360, g1361)) : ((List Int × List Int) × (Option Addr × Nat × List Int))) => [(2, .pointer (some ⟨g5, 0, none⟩)), (5, .slice a9 x1358.length c10), (6, (qv a1359 g1361.length x1362.length c1360 1))]) (fun (((x1358, x1362), (a1359, c1360, g1361)) : ((List Int × List Int) × (Option Addr × Nat × List Int))) => [⟨g5, 24, [.slice a2 x1.length c3.1]⟩]) (fun (((x1358, x1362), (a1359, c1360, g1361)) : ((List Int × List Int) × (Option Addr × Nat × List Int))) => [Ro (eI .i64) 3 1 (.slice a9 x1358.length c10) x1358, Ro (eI .i64) 3 1 (.slice a1359 (g1361 ++ x1362).length c1360) (g1361 ++ x1362)]) (fun (((x1358, x1362), (a1359, c1360, g1361)) : ((List Int × List Int) × (Option Addr × Nat × List Int))) => [SlN eN25 iN25 1 (.slice a2 x1.length c3.1) x1 c3.2]) (fun k (s : ((List Int × List Int) × (Option Addr × Nat × List Int))) => M_walk_far_l48 F x1 k s.1) ((x14, ([x4] : List Int)), (a1034, c1035, ([] : List Int))) F ?_ (hB := (.cons 0 rfl .nil)) (hR := (.cons 1 rfl (.cons 0 rfl .nil))) (hF := (fk_cons 0 rfl fk_nil))
    intro k1706
    rintro ⟨⟨x1358, x1362⟩, ⟨a1359, c1360, g1361⟩⟩
    try dsimp only
    refine sxc_meq (m' := M_walk_far_b48 F x1 (M_walk_far_l48 F x1 k1706) x1358 x1362) rfl ?_
    refine sxc_seq ?_
    refine sxc_seq ?_
    refine sxc_region ?_
    refine sxo_move rfl rfl rfl ?_
    refine sxo_lenQ rfl Try.underlying25 rfl rfl ?_
    refine sxo_gtr rfl rfl rfl rfl ?_
    refine sxo_nil ?_
    refine sxq_next ?_
    refine sxc_if rfl (fun h2049 => ?_) (fun h2049 => ?_)
    · refine sxc_skip ?_
      refine sxq_next ?_
      refine sxc_join (fun (((x1875, x1879), (a1876, c1877, g1878)) : ((List Int × List Int) × (Option Addr × Nat × List Int))) => [(2, .pointer (some ⟨g5, 0, none⟩)), (5, .slice a9 x1875.length c10), (6, (qv a1876 g1878.length x1879.length c1877 1))]) (fun (((x1875, x1879), (a1876, c1877, g1878)) : ((List Int × List Int) × (Option Addr × Nat × List Int))) => [⟨g5, 24, [.slice a2 x1.length c3.1]⟩]) (fun (((x1875, x1879), (a1876, c1877, g1878)) : ((List Int × List Int) × (Option Addr × Nat × List Int))) => [Ro (eI .i64) 3 1 (.slice a9 x1875.length c10) x1875, Ro (eI .i64) 3 1 (.slice a1876 (g1878 ++ x1879).length c1877) (g1878 ++ x1879)]) (fun (((x1875, x1879), (a1876, c1877, g1878)) : ((List Int × List Int) × (Option Addr × Nat × List Int))) => [SlN eN25 iN25 1 (.slice a2 x1.length c3.1) x1 c3.2]) (fun (((x1875, x1879), _) : ((List Int × List Int) × (Option Addr × Nat × List Int))) => M_walk_far_j53 F (M_walk_far_l48 F x1 k1706) x1875 x1879) ?_ ?_
      · refine sxc_block ?_
        refine sxc_seq ?_
        refine sxc_region ?_
        refine sxo_move rfl rfl rfl ?_
        refine sxo_indexQ (hs := g1361) (xs := x1362) (j := 1) rfl Try.underlying25 tf3 rfl rfl rfl rfl (fun x1882 e1882 g1883 h1884 => ?_)
        refine sxo_loadR (j := 1) (y := x1882) (eI_ok .i64) rfl rfl tf3 rfl h1884 (que_get e1882) (fun _ => rfl) rfl rfl ?_
        refine sxo_assign rfl rfl rfl ?_
        refine sxo_nil ?_
        refine sxq_next ?_
        refine sxc_seq ?_
        refine sxc_region ?_
        refine sxo_fieldAddr rfl rfl ff24_0 rfl ?_
        refine sxo_loadB (i := 0) rfl rfl tf22 rfl rfl (fun _ => rfl) rfl rfl ?_
        refine sxo_move rfl rfl rfl ?_
        refine sxo_indexN (j := 0) eN25_ok (by decide) rfl Try.underlying22 tf25 rfl rfl rfl rfl (fun x1885 e1885 g1888 b1886 o1887 => ?_)
        refine sxo_loadF (j := 0) rfl rfl tf25 rfl rfl (fun _ => rfl) rfl rfl ?_
        refine sxo_len rfl Try.underlying25 rfl rfl ?_
        refine sxo_move rfl rfl rfl ?_
        refine sxo_nil ?_
        refine sxq_next ?_
        refine sxc_block ?_
        refine sxc_loopP (fun (((x1940, x1944, x1945), (a1941, c1942, g1943)) : ((List Int × List Int × Int) × (Option Addr × Nat × List Int))) => [(2, .pointer (some ⟨g5, 0, none⟩)), (5, .slice a9 x1940.length c10), (6, (qv a1941 g1943.length x1944.length c1942 1)), (7, .int .i64 x1882), (32, .slice g1888.1 x1885.length g1888.2), (33, .int .i64 (x1885.length : Int)), (34, .int .i64 x1945)]) (fun (((x1940, x1944, x1945), (a1941, c1942, g1943)) : ((List Int × List Int × Int) × (Option Addr × Nat × List Int))) => [⟨g5, 24, [.slice a2 x1.length c3.1]⟩]) (fun (((x1940, x1944, x1945), (a1941, c1942, g1943)) : ((List Int × List Int × Int) × (Option Addr × Nat × List Int))) => [Ro (eI .i64) 3 1 (.slice a9 x1940.length c10) x1940, Ro (eI .i64) 3 1 (.slice a1941 (g1943 ++ x1944).length c1942) (g1943 ++ x1944)]) (fun (((x1940, x1944, x1945), (a1941, c1942, g1943)) : ((List Int × List Int × Int) × (Option Addr × Nat × List Int))) => [Sl (eI .i64) 1 (.slice g1888.1 x1885.length g1888.2) x1885, SlN eN25 iN25 1 (.slice a2 x1.length c3.1) x1 c3.2]) (fun k (s : ((List Int × List Int × Int) × (Option Addr × Nat × List Int))) => M_walk_far_l56 F (M_walk_far_l48 F x1 k1706) x1882 x1885 k s.1) ((x1358, x1362, 0), (a1359, c1360, g1361)) F ?_ (hB := (.cons 0 rfl .nil)) (hR := (.cons 0 rfl (.cons 0 rfl .nil))) (hF := (fk_cons 1 rfl (fk_cons 2 rfl fk_nil)))
        intro k1997
        rintro ⟨⟨x1940, x1944, x1945⟩, ⟨a1941, c1942, g1943⟩⟩
        try dsimp only
        refine sxc_meq (m' := M_walk_far_b56 F (M_walk_far_l48 F x1 k1706) x1882 x1885 (M_walk_far_l56 F (M_walk_far_l48 F x1 k1706) x1882 x1885 k1997) x1940 x1944 x1945) rfl ?_
        refine sxc_seq ?_
        refine sxc_region ?_
        refine sxo_lss rfl rfl rfl rfl ?_
        refine sxo_nil ?_
        refine sxq_next ?_
        refine sxc_seq ?_
        refine sxc_if rfl (fun h2048 => ?_) (fun h2048 => ?_)
        · refine sxc_skip ?_
          refine sxq_next ?_
          refine sxc_join (fun (((x2021, x2025), (a2022, c2023, g2024)) : ((List Int × List Int) × (Option Addr × Nat × List Int))) => [(2, .pointer (some ⟨g5, 0, none⟩)), (5, .slice a9 x2021.length c10), (6, (qv a2022 g2024.length x2025.length c2023 1)), (7, .int .i64 x1882), (32, .slice g1888.1 x1885.length g1888.2), (33, .int .i64 (x1885.length : Int)), (34, .int .i64 x1945)]) (fun (((x2021, x2025), (a2022, c2023, g2024)) : ((List Int × List Int) × (Option Addr × Nat × List Int))) => [⟨g5, 24, [.slice a2 x1.length c3.1]⟩]) (fun (((x2021, x2025), (a2022, c2023, g2024)) : ((List Int × List Int) × (Option Addr × Nat × List Int))) => [Ro (eI .i64) 3 1 (.slice a9 x2021.length c10) x2021, Ro (eI .i64) 3 1 (.slice a2022 (g2024 ++ x2025).length c2023) (g2024 ++ x2025)]) (fun (((x2021, x2025), (a2022, c2023, g2024)) : ((List Int × List Int) × (Option Addr × Nat × List Int))) => [Sl (eI .i64) 1 (.slice g1888.1 x1885.length g1888.2) x1885, SlN eN25 iN25 1 (.slice a2 x1.length c3.1) x1 c3.2]) (fun (((x2021, x2025), _) : ((List Int × List Int) × (Option Addr × Nat × List Int))) => M_walk_far_j57 F (M_walk_far_l56 F (M_walk_far_l48 F x1 k1706) x1882 x1885 k1997) x1945 x2021 x2025) ?_ ?_
          · refine sxc_block ?_
            refine sxc_seq ?_
            refine sxc_region ?_
            refine sxo_indexF (j := 0) (eI_ok .i64) (by decide) rfl Try.underlying25 tf3 rfl rfl rfl rfl (fun x2026 e2026 b2027 o2028 => ?_)
            refine sxo_loadF (j := 0) rfl rfl tf3 rfl rfl (fun _ => rfl) rfl rfl ?_
            refine sxo_assign rfl rfl rfl ?_
            refine sxo_nil ?_
            refine sxq_next ?_
            refine sxc_seq ?_
            refine sxc_region ?_
            refine sxo_move rfl rfl rfl ?_
            refine sxo_move rfl rfl rfl ?_
            refine sxo_indexR (j := 0) rfl Try.underlying25 tf3 rfl rfl rfl rfl (fun x2029 e2029 g2030 h2031 => ?_)
            refine sxo_loadR (j := 0) (y := x2029) (eI_ok .i64) rfl rfl tf3 rfl h2031 (idx_get e2029).2.2 (fun _ => rfl) rfl rfl ?_
            refine sxo_lss rfl rfl rfl rfl ?_
            refine sxo_nil ?_
            refine sxq_next ?_
            refine sxc_if rfl (fun h2047 => ?_) (fun h2047 => ?_)
            · refine sxc_seq ?_
              refine sxc_region ?_
              refine sxo_move rfl rfl rfl ?_
              refine sxo_move rfl rfl rfl ?_
              refine sxo_move rfl rfl rfl ?_
              refine sxo_move rfl rfl rfl ?_
              refine sxo_indexR (j := 0) rfl Try.underlying25 tf3 rfl rfl rfl rfl (fun x2032 e2032 g2033 h2034 => ?_)
              refine sxo_loadR (j := 0) (y := x2032) (eI_ok .i64) rfl rfl tf3 rfl h2034 (idx_get e2032).2.2 (fun _ => rfl) rfl rfl ?_
              refine sxo_add rfl rfl rfl rfl ?_
              refine sxo_indexR (j := 0) rfl Try.underlying25 tf3 rfl rfl rfl rfl (fun x2035 e2035 g2036 h2037 => ?_)
              refine sxo_storeL (j := 0) (y' := iadd .i64 x2032 1) (eI_ok .i64) rfl rfl rfl tf3 rfl h2037 (idx_get e2035).2.1 rfl (fun x2038 e2038 h2039 => ?_)
              have h2040 : x2038.length = x1940.length := by rw [← e2038, List.length_set]
              refine sxo_again (d := 5) (v := .slice a9 x2038.length c10) rfl h2039 ?_
              refine sxo_again (d := 38) (v := .slice a9 x2038.length c10) rfl h2039 ?_
              refine sxo_again (d := 43) (v := .slice a9 x2038.length c10) rfl h2039 ?_
              refine sxo_again (d := 45) (v := .slice a9 x2038.length c10) rfl h2039 ?_
              refine sxo_nil ?_
              refine sxq_next ?_
              refine sxc_region ?_
              refine sxo_move rfl rfl rfl ?_
              refine sxo_move rfl rfl rfl ?_
              refine sxo_slit (vs := [.int .i64 x2026]) (ys := ([x2026] : List Int)) (eI_ok .i64) (by decide) rfl Try.underlying25 tf3 rfl rfl rfl rfl rfl (by decide) (fun a2041 c2042 => ?_)
              refine sxo_appQ (hs := g1943) (xs := x1944) 2 (eI_ok .i64) rfl Try.underlying25 tf3 rfl rfl rfl rfl rfl (.inl ⟨0, _, rfl⟩) rfl rfl (fun x2043 e2043 a2044 c2045 g2046 => ?_)
              refine sxo_assign rfl rfl rfl ?_
              refine sxo_nil ?_
              refine sxq_blkN ?_
              exact sxq_meetP ((x2038, x2043), (a2044, c2045, g2046)) (hB := (.cons 0 rfl .nil)) (hR := (.cons 2 rfl (.cons 0 rfl .nil))) (hF := (fk_cons 1 rfl (fk_cons 2 rfl fk_nil)))
            · refine sxc_skip ?_
              refine sxq_blkN ?_
              exact sxq_meetP ((x1940, x1944), (a1941, c1942, g1943)) (hB := (.cons 0 rfl .nil)) (hR := (.cons 0 rfl (.cons 0 rfl .nil))) (hF := (fk_cons 1 rfl (fk_cons 2 rfl fk_nil)))
          · rintro ⟨⟨x2021, x2025⟩, ⟨a2022, c2023, g2024⟩⟩
            try dsimp only
            refine sxc_region ?_
            refine sxo_add rfl rfl rfl rfl ?_
            refine sxo_move rfl rfl rfl ?_
            refine sxo_nil ?_
            exact sxq_againP ((x2021, x2025, iadd .i64 x1945 1), (a2022, c2023, g2024)) (hB := (.cons 0 rfl .nil)) (hR := (.cons 0 rfl (.cons 0 rfl .nil))) (hF := (fk_cons 0 rfl (fk_cons 1 rfl fk_nil)))
        · refine sxc_exit ?_
          refine sxq_thenX ?_
          refine sxq_thenX ?_
          refine sxq_blkX ?_
          refine sxq_blkN ?_
          exact sxq_meetP ((x1940, x1944), (a1941, c1942, g1943)) (hB := (.cons 0 rfl .nil)) (hR := (.cons 0 rfl (.cons 0 rfl .nil))) (hF := (fk_cons 1 rfl fk_nil))
      · rintro ⟨⟨x1875, x1879⟩, ⟨a1876, c1877, g1878⟩⟩
        try dsimp only
        refine sxc_region ?_
        refine sxo_move rfl rfl rfl ?_
        refine sxo_cutQ (hs := g1878) (xs := x1879) (j := 1) rfl Try.underlying25 tf3 rfl rfl rfl rfl (fun x1880 e1880 g1881 => ?_)
        refine sxo_assign rfl rfl rfl ?_
        refine sxo_nil ?_
        exact sxq_againP ((x1875, x1880), (a1876, c1877, g1881)) (hB := (.cons 0 rfl .nil)) (hR := (.cons 1 rfl (.cons 0 rfl .nil))) (hF := (fk_cons 0 rfl fk_nil))
    · refine sxc_exit ?_
      refine sxq_thenX ?_
      refine sxq_thenX ?_
      refine sxq_blkX ?_
      exact sxq_meetP (x1358, ()) (hR := (.cons 0 rfl .nil))
  · rintro ⟨x1033, _⟩
    try dsimp only
    refine sxc_seq ?_
    refine sxc_region ?_
    refine sxo_move rfl rfl rfl ?_
    refine sxo_assign rfl rfl rfl ?_
    refine sxo_nil ?_
    refine sxq_next ?_
    refine sxc_ret ?_
    exact sxq_doneP (a9, c10) (res1 rfl rfl) (fun h => by subst h; exact (.cons 0 rfl .nil))

theorem C_walk_Far (F : Nat) (x1 : List (List Int)) (a2 : Option Addr) (c3 : (Nat × List (Option Addr × Nat))) (x4 : Int) (r : (List Int × Int)) (hm : M_walk_Far F x1 x4 = some r) :
    Pure Try.prog 26 [.agg #[.slice a2 x1.length c3.1], .int .i64 x4] [SlN eN25 iN25 1 (.slice a2 x1.length c3.1) x1 c3.2] (Option Addr × Nat) (fun g => .tuple #[.slice g.1 r.1.length g.2, .int .i64 r.2]) (fun g => [Ro (eI .i64) 3 1 (.slice g.1 r.1.length g.2) r.1]) (fun _ => []) := by
  refine pure_of Try.func26 rfl Try.ntmps26 rfl hm (fun w => ?_)
  refine sxc_env (l' := [(0, .agg #[.slice a2 x1.length c3.1]), (1, .int .i64 x4)]) rfl ?_
  refine sxc_seq ?_
  refine sxc_region ?_
  refine sxo_box rfl rfl rfl (fun g5 => ?_)
  refine sxo_assign rfl rfl rfl ?_
  refine sxo_assign rfl rfl rfl ?_
  refine sxo_nil ?_
  refine sxq_next ?_
  refine sxc_seq ?_
  refine sxc_seq ?_
  refine sxc_region ?_
  refine sxo_loadB (i := 0) rfl rfl tf24 rfl rfl (by simp) rfl rfl ?_
  refine sxo_move rfl rfl rfl ?_
  refine sxo_slit (vs := [.int .i64 x4]) (ys := ([x4] : List Int)) (eI_ok .i64) (by decide) rfl Try.underlying25 tf3 rfl rfl rfl rfl rfl (by decide) (fun a10 c11 => ?_)
  refine sxo_call ent51 rfl rfl rfl (fun x12 e12 => C_walk_check F x1 a2 c3 ([x4] : List Int) a10 c11 x12 e12) (.consF 0 rfl (.consR 0 (Ro (eI .i64) 3 1 (.slice a10 ([x4] : List Int).length c11) ([x4] : List Int)) rfl .nil)) (fun x12 e12 => ?_)
  intro _
  refine sxo_assign rfl rfl rfl ?_
  refine sxo_nil ?_
  refine sxq_next ?_
  refine sxc_seq ?_
  refine sxc_region ?_
  refine sxo_move rfl rfl rfl ?_
  refine sxo_neq rfl rfl rfl rfl ?_
  refine sxo_nil ?_
  refine sxq_next ?_
  refine sxc_if rfl (fun h16 => ?_) (fun h16 => ?_)
  · refine sxc_seq ?_
    refine sxc_region ?_
    refine sxo_move rfl rfl rfl ?_
    refine sxo_assign rfl rfl rfl ?_
    refine sxo_assign rfl rfl rfl ?_
    refine sxo_nil ?_
    refine sxq_next ?_
    refine sxc_ret ?_
    refine sxq_thenR ?_
    refine sxq_nilrow Int (eI .i64) 3 1 ?_
    exact sxq_doneP (none, 0) (res2 rfl rfl rfl) (fun h => by subst h; exact (.cons 0 rfl .nil))
  · refine sxc_skip ?_
    refine sxq_next ?_
    refine sxc_seq ?_
    refine sxc_region ?_
    refine sxo_loadB (i := 0) rfl rfl tf24 rfl rfl (by simp) rfl rfl ?_
    refine sxo_move rfl rfl rfl ?_
    refine sxo_call ent52 rfl rfl rfl (fun x13 e13 => C_walk_far F x1 a2 c3 x4 x13 e13) (.consF 0 rfl .nil) (fun x13 e13 => ?_)
    rintro ⟨a14, c15⟩
    refine sxo_assign rfl rfl rfl ?_
    refine sxo_assign rfl rfl rfl ?_
    refine sxo_nil ?_
    refine sxq_next ?_
    refine sxc_ret ?_
    exact sxq_doneP (a14, c15) (res2 rfl rfl rfl) (fun h => by subst h; exact (.cons 0 rfl .nil))

theorem C_walk_Way_1 (F : Nat) (x1 : Int) (g2 : Nat) (x3 : List Int) (a4 : Option Addr) (c5 : Nat) (g6 : Nat) (x7 : Int) (r : Bool) (hm : M_walk_Way_1 F x1 x3 x7 = some r) :
    PureM Try.prog 57 [.int .i64 x1, .pointer (some ⟨g2, 0, none⟩), .pointer (some ⟨g6, 0, none⟩)] [⟨g2, 25, [.slice a4 x3.length c5]⟩, ⟨g6, 3, [.int .i64 x7]⟩] [] [Sl (eI .i64) 1 (.slice a4 x3.length c5) x3] Unit (fun _ => .bool r) (fun _ => [⟨g2, 25, [.slice a4 x3.length c5]⟩, ⟨g6, 3, [.int .i64 x7]⟩]) (fun _ => []) := by
  refine pureM_of Try.func57 rfl Try.ntmps57 rfl hm (fun w => ?_)
  refine sxc_env (l' := [(0, .int .i64 x1), (1, .pointer (some ⟨g2, 0, none⟩)), (2, .pointer (some ⟨g6, 0, none⟩))]) rfl ?_
  refine sxc_seq ?_
  refine sxc_region ?_
  refine sxo_assign rfl rfl rfl ?_
  refine sxo_nil ?_
  refine sxq_next ?_
  refine sxc_seq ?_
  refine sxc_idxF (j := 0) (eI_ok .i64) (by decide) rfl (fun x16 e16 b17 o18 h19 => ?_)
  replace h19 : a4 = some ⟨b17, o18, none⟩ := h19
  refine sxc_idxF (j := 1) (eI_ok .i64) (by decide) rfl (fun x20 e20 b21 o22 h23 => ?_)
  replace h23 : a4 = some ⟨b21, o22, none⟩ := h23
  refine sxb_draw mixed [] [⟨g2, 25, [.slice a4 x3.length c5]⟩, ⟨g6, 3, [.int .i64 x7]⟩] [CellsAt b21 (o22 + x7.toNat * 1) ((eI .i64) x20), CellsAt b17 (o18 + x1.toNat * 1) ((eI .i64) x16), Sl (eI .i64) 1 (.slice a4 x3.length c5) x3] (.cons 0 rfl (.cons 0 rfl .nil)) (gk_F 0 rfl (gk_F 1 rfl (gk_F 2 rfl gk_nil))) 11 rfl ?_
  refine sxb_takeB 0 (.slice a4 x3.length c5) rfl rfl rfl (yv_loadB (i := 0) rfl tf25 rfl rfl (fun _ => rfl) rfl) ?_
  refine sxb_takeP 1 (.int .i64 x1) rfl rfl rfl (yv_pv rfl) ?_
  refine sxb_again (d := 5) (v := .slice (some ⟨b17, o18, none⟩) x3.length c5) rfl (by rw [h19] <;> rfl) ?_
  refine sxb_takeP 2 (.pointer (some ⟨b17, (o18 + x1.toNat * 1), none⟩)) rfl rfl rfl (yv_idx Try.underlying25 tf3 rfl rfl (idx_get e16).1 (idx_lt e16)) ?_
  refine sxb_again (d := 5) (v := .slice a4 x3.length c5) rfl (by rw [h19] <;> rfl) ?_
  refine sxb_take 3 (.int .i64 x16) [] rfl rfl rfl (yv_loadF (j := 1) rfl tf3 rfl rfl (fun _ => rfl) rfl) ?_
  refine sxb_takeB 4 (.slice a4 x3.length c5) rfl rfl rfl (yv_loadB (i := 0) rfl tf25 rfl rfl (fun _ => rfl) rfl) ?_
  refine sxb_takeB 5 (.int .i64 x7) rfl rfl rfl (yv_loadB (i := 1) rfl tf3 rfl rfl (fun _ => rfl) rfl) ?_
  refine sxb_again (d := 9) (v := .slice (some ⟨b21, o22, none⟩) x3.length c5) rfl (by rw [h23] <;> rfl) ?_
  refine sxb_takeP 6 (.pointer (some ⟨b21, (o22 + x7.toNat * 1), none⟩)) rfl rfl rfl (yv_idx Try.underlying25 tf3 rfl rfl (idx_get e20).1 (idx_lt e20)) ?_
  refine sxb_again (d := 9) (v := .slice a4 x3.length c5) rfl (by rw [h23] <;> rfl) ?_
  refine sxb_take 7 (.int .i64 x20) [] rfl rfl rfl (yv_loadF (j := 0) rfl tf3 rfl rfl (fun _ => rfl) rfl) ?_
  refine sxb_takeP 8 (.int .i64 (isub .i64 x20 1)) rfl rfl rfl (yv_pv rfl) ?_
  refine sxb_takeP 9 (.bool ((x16 : Int) == (isub .i64 x20 1))) rfl rfl rfl (yv_pv rfl) ?_
  refine sxb_takeP 10 (.bool ((x16 : Int) == (isub .i64 x20 1))) rfl rfl rfl (yv_pv rfl) ?_
  refine sxb_done (by kernel_rfl) ?_
  refine sxq_np ?_ (by intro c h; cases h)
  refine sxq_next ?_
  refine sxc_ret ?_
  exact sxq_doneM () (res1 rfl rfl) (hB := fun h => by subst h; exact (.cons 0 rfl (.cons 0 rfl .nil)))

theorem C_slices_IndexFunc_int_int_walk_Way_1 (F : Nat) (x1 : List Int) (a2 : Option Addr) (c3 : Nat) (g4 : Nat) (x5 : List Int) (a6 : Option Addr) (c7 : Nat) (g8 : Nat) (x9 : Int) (r : Int) (hm : M_slices_IndexFunc_int_int_walk_Way_1 F x1 x5 x9 = some r) :
    PureM Try.prog 56 [.slice a2 x1.length c3, .func (.func 57) #[] #[.pointer (some ⟨g4, 0, none⟩), .pointer (some ⟨g8, 0, none⟩)]] [⟨g4, 25, [.slice a6 x5.length c7]⟩, ⟨g8, 3, [.int .i64 x9]⟩] [] [Sl (eI .i64) 1 (.slice a2 x1.length c3) x1, Sl (eI .i64) 1 (.slice a6 x5.length c7) x5] Unit (fun _ => .int .i64 r) (fun _ => [⟨g4, 25, [.slice a6 x5.length c7]⟩, ⟨g8, 3, [.int .i64 x9]⟩]) (fun _ => []) := by
  refine pureM_of Try.func56 rfl Try.ntmps56 rfl hm (fun w => ?_)
  refine sxc_env (l' := [(0, .slice a2 x1.length c3), (1, .func (.func 57) #[] #[.pointer (some ⟨g4, 0, none⟩), .pointer (some ⟨g8, 0, none⟩)])]) rfl ?_
  refine sxc_seq ?_
  refine sxc_region ?_
  refine sxo_assign rfl rfl rfl ?_
  refine sxo_nil ?_
  refine sxq_next ?_
  refine sxc_join (fun ((_, _) : (Unit × Unit)) => []) (fun ((_, _) : (Unit × Unit)) => [⟨g4, 25, [.slice a6 x5.length c7]⟩, ⟨g8, 3, [.int .i64 x9]⟩]) (fun ((_, _) : (Unit × Unit)) => []) (fun ((_, _) : (Unit × Unit)) => [Sl (eI .i64) 1 (.slice a6 x5.length c7) x5]) (fun ((_, _) : (Unit × Unit)) => M_slices_IndexFunc_int_int_walk_Way_1_j2 F) ?_ ?_
  · refine sxc_seq ?_
    refine sxc_region ?_
    refine sxo_move rfl rfl rfl ?_
    refine sxo_len rfl Try.underlying25 rfl rfl ?_
    refine sxo_move rfl rfl rfl ?_
    refine sxo_nil ?_
    refine sxq_next ?_
    refine sxc_block ?_
    refine sxc_loopP (fun ((x60, _) : (Int × Unit)) => [(0, .slice a2 x1.length c3), (1, .func (.func 57) #[] #[.pointer (some ⟨g4, 0, none⟩), .pointer (some ⟨g8, 0, none⟩)]), (7, .int .i64 (x1.length : Int)), (8, .int .i64 x60)]) (fun ((x60, _) : (Int × Unit)) => [⟨g4, 25, [.slice a6 x5.length c7]⟩, ⟨g8, 3, [.int .i64 x9]⟩]) (fun ((x60, _) : (Int × Unit)) => []) (fun ((x60, _) : (Int × Unit)) => [Sl (eI .i64) 1 (.slice a2 x1.length c3) x1, Sl (eI .i64) 1 (.slice a6 x5.length c7) x5]) (fun k (s : (Int × Unit)) => M_slices_IndexFunc_int_int_walk_Way_1_l3 F x1 x5 x9 k s.1) (0, ()) F ?_ (hB := (.cons 0 rfl (.cons 0 rfl .nil))) (hF := (fk_cons 0 rfl (fk_cons 1 rfl fk_nil)))
    intro k73
    rintro ⟨x60, _⟩
    try dsimp only
    refine sxc_meq (m' := M_slices_IndexFunc_int_int_walk_Way_1_b3 F x1 x5 x9 (M_slices_IndexFunc_int_int_walk_Way_1_l3 F x1 x5 x9 k73) x60) rfl ?_
    refine sxc_seq ?_
    refine sxc_region ?_
    refine sxo_lss rfl rfl rfl rfl ?_
    refine sxo_nil ?_
    refine sxq_next ?_
    refine sxc_seq ?_
    refine sxc_if rfl (fun h85 => ?_) (fun h85 => ?_)
    · refine sxc_skip ?_
      refine sxq_next ?_
      refine sxc_seq ?_
      refine sxc_block ?_
      refine sxc_seq ?_
      refine sxc_region ?_
      refine sxo_move rfl rfl rfl ?_
      refine sxo_assign rfl rfl rfl ?_
      refine sxo_nil ?_
      refine sxq_next ?_
      refine sxc_seq ?_
      refine sxc_region ?_
      refine sxo_move rfl rfl rfl ?_
      refine sxo_move rfl rfl rfl ?_
      refine sxo_move rfl rfl rfl ?_
      refine sxo_indexF (j := 0) (eI_ok .i64) (by decide) rfl Try.underlying25 tf3 rfl rfl rfl rfl (fun x80 e80 b81 o82 => ?_)
      refine sxo_loadF (j := 0) rfl rfl tf3 rfl rfl (fun _ => rfl) rfl rfl ?_
      refine sxo_callMV ent57 rfl rfl rfl rfl (fun x83 e83 => C_walk_Way_1 F x80 g4 x5 a6 c7 g8 x9 x83 e83) (.cons 0 rfl (.cons 0 rfl .nil)) .nil (.consF 2 rfl .nil) (fun x83 e83 => ?_)
      intro _
      refine sxo_nil ?_
      refine sxq_next ?_
      refine sxc_if rfl (fun h84 => ?_) (fun h84 => ?_)
      · refine sxc_seq ?_
        refine sxc_region ?_
        refine sxo_move rfl rfl rfl ?_
        refine sxo_assign rfl rfl rfl ?_
        refine sxo_nil ?_
        refine sxq_next ?_
        refine sxc_ret ?_
        refine sxq_blkR ?_
        refine sxq_thenR ?_
        refine sxq_thenR ?_
        refine sxq_blkR ?_
        refine sxq_thenR ?_
        exact sxq_doneM () (res1 rfl rfl) (hB := fun h => by subst h; exact (.cons 0 rfl (.cons 0 rfl .nil)))
      · refine sxc_skip ?_
        refine sxq_blkN ?_
        refine sxq_next ?_
        refine sxc_region ?_
        refine sxo_add rfl rfl rfl rfl ?_
        refine sxo_move rfl rfl rfl ?_
        refine sxo_nil ?_
        exact sxq_againP (iadd .i64 x60 1, ()) (hB := (.cons 0 rfl (.cons 0 rfl .nil))) (hF := (fk_cons 1 rfl (fk_cons 2 rfl fk_nil)))
    · refine sxc_exit ?_
      refine sxq_thenX ?_
      refine sxq_thenX ?_
      refine sxq_blkX ?_
      exact sxq_meetP ((), ()) (hB := (.cons 0 rfl (.cons 0 rfl .nil))) (hF := (fk_cons 1 rfl fk_nil))
  · rintro ⟨_, _⟩
    try dsimp only
    refine sxc_seq ?_
    refine sxc_region ?_
    refine sxo_assign rfl rfl rfl ?_
    refine sxo_nil ?_
    refine sxq_next ?_
    refine sxc_ret ?_
    exact sxq_doneM () (res1 rfl rfl) (hB := fun h => by subst h; exact (.cons 0 rfl (.cons 0 rfl .nil)))

theorem C_walk_Way (F : Nat) (x1 : List (List Int)) (a2 : Option Addr) (c3 : (Nat × List (Option Addr × Nat))) (x4 : Int) (x5 : Int) (r : (List Int × Int)) (hm : M_walk_Way F x1 x4 x5 = some r) :
    Pure Try.prog 29 [.agg #[.slice a2 x1.length c3.1], .int .i64 x4, .int .i64 x5] [SlN eN25 iN25 1 (.slice a2 x1.length c3.1) x1 c3.2] (Option Addr × Nat) (fun g => .tuple #[.slice g.1 r.1.length g.2, .int .i64 r.2]) (fun g => [Ro (eI .i64) 3 1 (.slice g.1 r.1.length g.2) r.1]) (fun _ => []) := by
  refine pure_of Try.func29 rfl Try.ntmps29 rfl hm (fun w => ?_)
  refine sxc_env (l' := [(0, .agg #[.slice a2 x1.length c3.1]), (1, .int .i64 x4), (2, .int .i64 x5)]) rfl ?_
  refine sxc_seq ?_
  refine sxc_region ?_
  refine sxo_box rfl rfl rfl (fun g6 => ?_)
  refine sxo_assign rfl rfl rfl ?_
  refine sxo_assign rfl rfl rfl ?_
  refine sxo_nil ?_
  refine sxq_next ?_
  refine sxc_seq ?_
  refine sxc_seq ?_
  refine sxc_region ?_
  refine sxo_loadB (i := 0) rfl rfl tf24 rfl rfl (by simp) rfl rfl ?_
  refine sxo_move rfl rfl rfl ?_
  refine sxo_move rfl rfl rfl ?_
  refine sxo_slit (vs := [.int .i64 x4, .int .i64 x5]) (ys := ([x4, x5] : List Int)) (eI_ok .i64) (by decide) rfl Try.underlying25 tf3 rfl rfl rfl rfl rfl (by decide) (fun a11 c12 => ?_)
  refine sxo_call ent51 rfl rfl rfl (fun x13 e13 => C_walk_check F x1 a2 c3 ([x4, x5] : List Int) a11 c12 x13 e13) (.consF 0 rfl (.consR 0 (Ro (eI .i64) 3 1 (.slice a11 ([x4, x5] : List Int).length c12) ([x4, x5] : List Int)) rfl .nil)) (fun x13 e13 => ?_)
  intro _
  refine sxo_assign rfl rfl rfl ?_
  refine sxo_nil ?_
  refine sxq_next ?_
  refine sxc_seq ?_
  refine sxc_region ?_
  refine sxo_move rfl rfl rfl ?_
  refine sxo_neq rfl rfl rfl rfl ?_
  refine sxo_nil ?_
  refine sxq_next ?_
  refine sxc_if rfl (fun h247 => ?_) (fun h247 => ?_)
  · refine sxc_seq ?_
    refine sxc_region ?_
    refine sxo_move rfl rfl rfl ?_
    refine sxo_assign rfl rfl rfl ?_
    refine sxo_assign rfl rfl rfl ?_
    refine sxo_nil ?_
    refine sxq_next ?_
    refine sxc_ret ?_
    refine sxq_thenR ?_
    refine sxq_nilrow Int (eI .i64) 3 1 ?_
    exact sxq_doneP (none, 0) (res2 rfl rfl rfl) (fun h => by subst h; exact (.cons 0 rfl .nil))
  · refine sxc_skip ?_
    refine sxq_next ?_
    refine sxc_seq ?_
    refine sxc_region ?_
    refine sxo_loadB (i := 0) rfl rfl tf24 rfl rfl (by simp) rfl rfl ?_
    refine sxo_call ent24 rfl rfl rfl (fun x14 e14 => C_graph_Turn F x1 a2 c3 x14 e14) (.consF 0 rfl .nil) (fun x14 e14 => ?_)
    rintro ⟨a15, c16⟩
    refine sxo_move rfl rfl rfl ?_
    refine sxo_extract rfl rfl rfl rfl ?_
    refine sxo_extract rfl rfl rfl rfl ?_
    refine sxo_alloc rfl tf24 rfl (fun g17 => ?_)
    refine sxo_storeB (i := 0) rfl rfl rfl tf24 rfl rfl rfl rfl rfl ?_
    refine sxo_assign rfl rfl rfl ?_
    refine sxo_nil ?_
    refine sxq_next ?_
    refine sxc_seq ?_
    refine sxc_region ?_
    refine sxo_loadB (i := 0) rfl rfl tf24 rfl rfl (by simp) rfl rfl ?_
    refine sxo_move rfl rfl rfl ?_
    refine sxo_call ent52 rfl rfl rfl (fun x18 e18 => C_walk_far F x14.1 a15 c16 x5 x18 e18) (.consG 0 rfl (nest_sl rN25_in) .nil) (fun x18 e18 => ?_)
    rintro ⟨a19, c20⟩
    refine sxo_alloc rfl tf25 rfl (fun g21 => ?_)
    refine sxo_storeB (i := 0) rfl rfl rfl tf25 rfl rfl rfl rfl rfl ?_
    refine sxo_nil ?_
    refine sxq_next ?_
    refine sxc_seq ?_
    refine sxc_seq ?_
    refine sxc_region ?_
    refine sxo_loadB (i := 0) rfl rfl tf25 rfl rfl (fun _ => rfl) rfl rfl ?_
    refine sxo_move rfl rfl rfl ?_
    refine sxo_indexR (j := 0) rfl Try.underlying25 tf3 rfl rfl rfl rfl (fun x26 e26 g27 h28 => ?_)
    refine sxo_loadR (j := 0) (y := x26) (eI_ok .i64) rfl rfl tf3 rfl h28 (idx_get e26).2.2 (fun _ => rfl) rfl rfl ?_
    refine sxo_lss rfl rfl rfl rfl ?_
    refine sxo_nil ?_
    refine sxq_next ?_
    refine sxc_if rfl (fun h246 => ?_) (fun h246 => ?_)
    · refine sxc_seq ?_
      refine sxc_region ?_
      refine sxo_assign rfl rfl rfl ?_
      refine sxo_assign rfl rfl rfl ?_
      refine sxo_nil ?_
      refine sxq_next ?_
      refine sxc_ret ?_
      refine sxq_thenR ?_
      refine sxq_nilrow Int (eI .i64) 3 1 ?_
      exact sxq_doneP (none, 0) (res2 rfl rfl rfl) (fun h => by subst h; exact (.cons 0 rfl .nil))
    · refine sxc_skip ?_
      refine sxq_next ?_
      refine sxc_seq ?_
      refine sxc_region ?_
      refine sxo_move rfl rfl rfl ?_
      refine sxo_slit (vs := [.int .i64 x4]) (ys := ([x4] : List Int)) (eI_ok .i64) (by decide) rfl Try.underlying25 tf3 rfl rfl rfl rfl rfl (by decide) (fun a29 c30 => ?_)
      refine sxo_assign rfl rfl rfl ?_
      refine sxo_nil ?_
      refine sxq_next ?_
      refine sxc_join (fun ((x139, (a137, c138)) : (List Int × (Option Addr × Nat))) => [(12, .slice a137 x139.length c138)]) (fun ((x139, (a137, c138)) : (List Int × (Option Addr × Nat))) => []) (fun ((x139, (a137, c138)) : (List Int × (Option Addr × Nat))) => [Ro (eI .i64) 3 1 (.slice a137 x139.length c138) x139]) (fun ((x139, (a137, c138)) : (List Int × (Option Addr × Nat))) => []) (fun ((x139, _) : (List Int × (Option Addr × Nat))) => M_walk_Way_j2 F x139) ?_ ?_
      · refine sxc_seq ?_
        refine sxc_region ?_
        refine sxo_move rfl rfl rfl ?_
        refine sxo_alloc rfl tf3 rfl (fun g140 => ?_)
        refine sxo_storeB (i := 0) rfl rfl rfl tf3 rfl rfl rfl rfl rfl ?_
        refine sxo_nil ?_
        refine sxq_next ?_
        refine sxc_block ?_
        refine sxc_loopP (fun (((x176, x178), (a174, c175, g177)) : ((List Int × Int) × (Option Addr × Nat × Nat))) => [(2, .int .i64 x5), (3, .pointer (some ⟨g6, 0, none⟩)), (11, .pointer (some ⟨g21, 0, none⟩)), (12, .slice a174 x176.length c175), (13, .pointer (some ⟨g177, 0, none⟩))]) (fun (((x176, x178), (a174, c175, g177)) : ((List Int × Int) × (Option Addr × Nat × Nat))) => [⟨g21, 25, [.slice a19 x18.length c20]⟩, ⟨g6, 24, [.slice a2 x1.length c3.1]⟩, ⟨g177, 3, [.int .i64 x178]⟩]) (fun (((x176, x178), (a174, c175, g177)) : ((List Int × Int) × (Option Addr × Nat × Nat))) => [Ro (eI .i64) 3 1 (.slice a174 x176.length c175) x176, Ro (eI .i64) 3 1 (.slice a19 x18.length c20) x18]) (fun (((x176, x178), (a174, c175, g177)) : ((List Int × Int) × (Option Addr × Nat × Nat))) => [SlN eN25 iN25 1 (.slice a2 x1.length c3.1) x1 c3.2]) (fun k (s : ((List Int × Int) × (Option Addr × Nat × Nat))) => M_walk_Way_l3 F x1 x5 x18 k s.1) ((([x4] : List Int), x4), (a29, c30, g140)) F ?_ (hB := (.cons 1 rfl (.cons 2 rfl (.cons 0 rfl .nil)))) (hR := (.cons 0 rfl (.cons 0 rfl .nil))) (hF := (fk_cons 0 rfl fk_nil))
        intro k212
        rintro ⟨⟨x176, x178⟩, ⟨a174, c175, g177⟩⟩
        try dsimp only
        refine sxc_meq (m' := M_walk_Way_b3 F x1 x5 x18 (M_walk_Way_l3 F x1 x5 x18 k212) x176 x178) rfl ?_
        refine sxc_seq ?_
        refine sxc_seq ?_
        refine sxc_region ?_
        refine sxo_loadB (i := 2) rfl rfl tf3 rfl rfl (fun _ => rfl) rfl rfl ?_
        refine sxo_move rfl rfl rfl ?_
        refine sxo_neq rfl rfl rfl rfl ?_
        refine sxo_nil ?_
        refine sxq_next ?_
        refine sxc_if rfl (fun h245 => ?_) (fun h245 => ?_)
        · refine sxc_skip ?_
          refine sxq_next ?_
          refine sxc_seq ?_
          refine sxc_block ?_
          refine sxc_seq ?_
          refine sxc_region ?_
          refine sxo_fieldAddr rfl rfl ff24_0 rfl ?_
          refine sxo_loadB (i := 1) rfl rfl tf22 rfl rfl (fun _ => rfl) rfl rfl ?_
          refine sxo_loadB (i := 2) rfl rfl tf3 rfl rfl (fun _ => rfl) rfl rfl ?_
          refine sxo_indexN (j := 0) eN25_ok (by decide) rfl Try.underlying22 tf25 rfl rfl rfl rfl (fun x226 e226 g229 b227 o228 => ?_)
          refine sxo_loadF (j := 0) rfl rfl tf25 rfl rfl (fun _ => rfl) rfl rfl ?_
          refine sxo_makeFunc rfl rfl rfl ?_
          refine sxo_callM ent56 rfl rfl rfl (fun x230 e230 => C_slices_IndexFunc_int_int_walk_Way_1 F x226 g229.1 g229.2 g21 x18 a19 c20 g177 x178 x230 e230) (.cons 0 rfl (.cons 1 rfl .nil)) .nil (.consF 1 rfl (.consR 1 (Ro (eI .i64) 3 1 (.slice a19 x18.length c20) x18) rfl .nil)) (fun x230 e230 => ?_)
          intro _
          refine sxo_assign rfl rfl rfl ?_
          refine sxo_nil ?_
          refine sxq_next ?_
          refine sxc_region ?_
          refine sxo_fieldAddr rfl rfl ff24_0 rfl ?_
          refine sxo_loadB (i := 2) rfl rfl tf22 rfl rfl (fun _ => rfl) rfl rfl ?_
          refine sxo_loadB (i := 1) rfl rfl tf3 rfl rfl (fun _ => rfl) rfl rfl ?_
          refine sxo_indexN (j := 2) eN25_ok (by decide) rfl Try.underlying22 tf25 rfl rfl rfl rfl (fun x231 e231 g234 b232 o233 => ?_)
          refine sxo_loadF (j := 0) rfl rfl tf25 rfl rfl (fun _ => rfl) rfl rfl ?_
          refine sxo_move rfl rfl rfl ?_
          refine sxo_indexF (j := 1) (eI_ok .i64) (by decide) rfl Try.underlying25 tf3 rfl rfl rfl rfl (fun x235 e235 b236 o237 => ?_)
          refine sxo_loadF (j := 0) rfl rfl tf3 rfl rfl (fun _ => rfl) rfl rfl ?_
          refine sxo_storeB (i := 1) rfl rfl rfl tf3 rfl rfl rfl rfl rfl ?_
          refine sxo_nil ?_
          refine sxq_blkN ?_
          refine sxq_next ?_
          refine sxc_seq ?_
          refine sxc_seq ?_
          refine sxc_region ?_
          refine sxo_loadB (i := 1) rfl rfl tf3 rfl rfl (fun _ => rfl) rfl rfl ?_
          refine sxo_nil ?_
          refine sxq_next ?_
          refine sxc_region ?_
          refine sxo_alloc rfl tf3 rfl (fun g239 => ?_)
          refine sxo_storeB (i := 0) rfl rfl rfl tf3 rfl rfl rfl rfl rfl ?_
          refine sxo_nil ?_
          refine sxq_next ?_
          refine sxc_region ?_
          refine sxo_move rfl rfl rfl ?_
          refine sxo_loadB (i := 0) rfl rfl tf3 rfl rfl (fun _ => rfl) rfl rfl ?_
          refine sxo_slit (vs := [.int .i64 x235]) (ys := ([x235] : List Int)) (eI_ok .i64) (by decide) rfl Try.underlying25 tf3 rfl rfl rfl rfl rfl (by decide) (fun a240 c241 => ?_)
          refine sxo_app 1 (eI_ok .i64) rfl Try.underlying25 tf3 rfl rfl rfl rfl rfl (.inl ⟨0, _, rfl⟩) rfl rfl (fun x242 e242 a243 c244 => ?_)
          refine sxo_assign rfl rfl rfl ?_
          refine sxo_nil ?_
          exact sxq_againP ((x242, x235), (a243, c244, g239)) (hB := (.cons 1 rfl (.cons 2 rfl (.cons 0 rfl .nil)))) (hR := (.cons 0 rfl (.cons 1 rfl .nil))) (hF := (fk_cons 5 rfl fk_nil))
        · refine sxc_exit ?_
          refine sxq_thenX ?_
          refine sxq_thenX ?_
          refine sxq_blkX ?_
          exact sxq_meetP (x176, (a174, c175)) (hR := (.cons 0 rfl .nil))
      · rintro ⟨x139, ⟨a137, c138⟩⟩
        try dsimp only
        refine sxc_seq ?_
        refine sxc_region ?_
        refine sxo_move rfl rfl rfl ?_
        refine sxo_assign rfl rfl rfl ?_
        refine sxo_assign rfl rfl rfl ?_
        refine sxo_nil ?_
        refine sxq_next ?_
        refine sxc_ret ?_
        exact sxq_doneP (a137, c138) (res2 rfl rfl rfl) (fun h => by subst h; exact (.cons 0 rfl .nil))

theorem C_walk_Parts_1 (F : Nat) (x1 : Int) (g2 : Nat) (x3 : List Int) (a4 : Option Addr) (c5 : Nat) (r : Int) (hm : M_walk_Parts_1 F x1 x3 = some r) :
    PureM Try.prog 73 [.int .i64 x1, .pointer (some ⟨g2, 0, none⟩)] [⟨g2, 25, [.slice a4 x3.length c5]⟩] [] [Sl (eI .i64) 1 (.slice a4 x3.length c5) x3] Unit (fun _ => .int .i64 r) (fun _ => [⟨g2, 25, [.slice a4 x3.length c5]⟩]) (fun _ => []) := by
  refine pureM_of Try.func73 rfl Try.ntmps73 rfl hm (fun w => ?_)
  refine sxc_env (l' := [(0, .int .i64 x1), (1, .pointer (some ⟨g2, 0, none⟩))]) rfl ?_
  refine sxc_seq ?_
  refine sxc_region ?_
  refine sxo_assign rfl rfl rfl ?_
  refine sxo_nil ?_
  refine sxq_next ?_
  refine sxc_join (fun ((x41, _) : (Int × Unit)) => [(0, .int .i64 x41)]) (fun ((x41, _) : (Int × Unit)) => [⟨g2, 25, [.slice a4 x3.length c5]⟩]) (fun ((x41, _) : (Int × Unit)) => []) (fun ((x41, _) : (Int × Unit)) => [Sl (eI .i64) 1 (.slice a4 x3.length c5) x3]) (fun ((x41, _) : (Int × Unit)) => M_walk_Parts_1_j2 F x41) ?_ ?_
  · refine sxc_block ?_
    refine sxc_loopP (fun ((x53, _) : (Int × Unit)) => [(0, .int .i64 x53), (1, .pointer (some ⟨g2, 0, none⟩))]) (fun ((x53, _) : (Int × Unit)) => [⟨g2, 25, [.slice a4 x3.length c5]⟩]) (fun ((x53, _) : (Int × Unit)) => []) (fun ((x53, _) : (Int × Unit)) => [Sl (eI .i64) 1 (.slice a4 x3.length c5) x3]) (fun k (s : (Int × Unit)) => M_walk_Parts_1_l3 F x3 k s.1) (x1, ()) F ?_ (hB := (.cons 0 rfl .nil)) (hF := (fk_cons 0 rfl fk_nil))
    intro k65
    rintro ⟨x53, _⟩
    try dsimp only
    refine sxc_meq (m' := M_walk_Parts_1_b3 F x3 (M_walk_Parts_1_l3 F x3 k65) x53) rfl ?_
    refine sxc_seq ?_
    refine sxc_seq ?_
    refine sxc_region ?_
    refine sxo_loadB (i := 0) rfl rfl tf25 rfl rfl (fun _ => rfl) rfl rfl ?_
    refine sxo_move rfl rfl rfl ?_
    refine sxo_indexF (j := 0) (eI_ok .i64) (by decide) rfl Try.underlying25 tf3 rfl rfl rfl rfl (fun x70 e70 b71 o72 => ?_)
    refine sxo_loadF (j := 0) rfl rfl tf3 rfl rfl (fun _ => rfl) rfl rfl ?_
    refine sxo_move rfl rfl rfl ?_
    refine sxo_neq rfl rfl rfl rfl ?_
    refine sxo_nil ?_
    refine sxq_next ?_
    refine sxc_if rfl (fun h76 => ?_) (fun h76 => ?_)
    · refine sxc_skip ?_
      refine sxq_next ?_
      refine sxc_block ?_
      refine sxc_region ?_
      refine sxo_loadB (i := 0) rfl rfl tf25 rfl rfl (fun _ => rfl) rfl rfl ?_
      refine sxo_move rfl rfl rfl ?_
      refine sxo_indexF (j := 1) (eI_ok .i64) (by decide) rfl Try.underlying25 tf3 rfl rfl rfl rfl (fun x73 e73 b74 o75 => ?_)
      refine sxo_loadF (j := 0) rfl rfl tf3 rfl rfl (fun _ => rfl) rfl rfl ?_
      refine sxo_assign rfl rfl rfl ?_
      refine sxo_nil ?_
      refine sxq_blkN ?_
      exact sxq_againP (x73, ()) (hB := (.cons 0 rfl .nil)) (hF := (fk_cons 2 rfl fk_nil))
    · refine sxc_exit ?_
      refine sxq_thenX ?_
      refine sxq_thenX ?_
      refine sxq_blkX ?_
      exact sxq_meetP (x53, ()) (hB := (.cons 0 rfl .nil)) (hF := (fk_cons 1 rfl fk_nil))
  · rintro ⟨x41, _⟩
    try dsimp only
    refine sxc_seq ?_
    refine sxc_region ?_
    refine sxo_move rfl rfl rfl ?_
    refine sxo_assign rfl rfl rfl ?_
    refine sxo_nil ?_
    refine sxq_next ?_
    refine sxc_ret ?_
    exact sxq_doneM () (res1 rfl rfl) (hB := fun h => by subst h; exact (.cons 0 rfl .nil))

set_option maxHeartbeats 4000000 in
theorem C_walk_Parts (F : Nat) (x1 : List (List Int)) (a2 : Option Addr) (c3 : (Nat × List (Option Addr × Nat))) (r : (List Int × Int)) (hm : M_walk_Parts F x1 = some r) :
    PureM Try.prog 53 [.agg #[.slice a2 x1.length c3.1]] [] [] [SlN eN25 iN25 1 (.slice a2 x1.length c3.1) x1 c3.2] (Option Addr × Nat) (fun g => .tuple #[.slice g.1 r.1.length g.2, .int .i64 r.2]) (fun _ => []) (fun g => [Ro (eI .i64) 3 1 (.slice g.1 r.1.length g.2) r.1]) := by
  refine pureX_of Try.func53 rfl Try.ntmps53 rfl hm (fun w => ?_)
  refine sxc_env (l' := [(0, .agg #[.slice a2 x1.length c3.1])]) rfl ?_
  refine sxc_seq ?_
  refine sxc_region ?_
  refine sxo_box rfl rfl rfl (fun g4 => ?_)
  refine sxo_assign rfl rfl rfl ?_
  refine sxo_assign rfl rfl rfl ?_
  refine sxo_nil ?_
  refine sxq_next ?_
  refine sxc_seq ?_
  refine sxc_seq ?_
  refine sxc_region ?_
  refine sxo_loadB (i := 0) rfl rfl tf24 rfl rfl (by simp) rfl rfl ?_
  refine sxo_nilrow' Int (eI .i64) 3 1 ?_
  refine sxo_call ent51 rfl rfl rfl (fun x7 e7 => C_walk_check F x1 a2 c3 ([] : List Int) none 0 x7 e7) (.consF 0 rfl (.consR 0 (Ro (eI .i64) 3 1 (.slice none ([] : List Int).length 0) ([] : List Int)) rfl .nil)) (fun x7 e7 => ?_)
  intro _
  refine sxo_assign rfl rfl rfl ?_
  refine sxo_nil ?_
  refine sxq_next ?_
  refine sxc_seq ?_
  refine sxc_region ?_
  refine sxo_move rfl rfl rfl ?_
  refine sxo_neq rfl rfl rfl rfl ?_
  refine sxo_nil ?_
  refine sxq_next ?_
  refine sxc_if rfl (fun h303 => ?_) (fun h303 => ?_)
  · refine sxc_seq ?_
    refine sxc_region ?_
    refine sxo_move rfl rfl rfl ?_
    refine sxo_assign rfl rfl rfl ?_
    refine sxo_assign rfl rfl rfl ?_
    refine sxo_nil ?_
    refine sxq_next ?_
    refine sxc_ret ?_
    refine sxq_thenR ?_
    refine sxq_nilrow Int (eI .i64) 3 1 ?_
    exact sxq_doneX [] (none, 0) (.inl rfl) rfl .nil (res2 rfl rfl rfl) (fun h => by subst h; rfl) (fun h => by subst h; exact .nil) (fun h => by subst h; exact (.cons 0 rfl .nil))
  · refine sxc_skip ?_
    refine sxq_next ?_
    refine sxc_seq ?_
    refine sxc_region ?_
    refine sxo_fieldAddr rfl rfl ff24_0 rfl ?_
    refine sxo_loadB (i := 0) rfl rfl tf22 rfl rfl (fun _ => rfl) rfl rfl ?_
    refine sxo_len rfl Try.underlying22 rfl rfl ?_
    refine sxo_mk (eI_ok .i64) rfl Try.underlying25 tf3 rfl rfl rfl rfl rfl rfl rfl (fun x8 e8 a9 c10 => ?_)
    refine sxo_alloc rfl tf25 rfl (fun g11 => ?_)
    refine sxo_storeB (i := 0) rfl rfl rfl tf25 rfl rfl rfl rfl rfl ?_
    refine sxo_nil ?_
    refine sxq_next ?_
    refine sxc_join (fun ((x57, _) : (List Int × Unit)) => [(1, .pointer (some ⟨g4, 0, none⟩)), (2, .slice none 0 0), (3, .int .i64 0), (5, .pointer (some ⟨g11, 0, none⟩))]) (fun ((x57, _) : (List Int × Unit)) => [⟨g11, 25, [.slice a9 x57.length c10]⟩, ⟨g4, 24, [.slice a2 x1.length c3.1]⟩]) (fun ((x57, _) : (List Int × Unit)) => [Ro (eI .i64) 3 1 (.slice a9 x57.length c10) x57]) (fun ((x57, _) : (List Int × Unit)) => [SlN eN25 iN25 1 (.slice a2 x1.length c3.1) x1 c3.2]) (fun ((x57, _) : (List Int × Unit)) => M_walk_Parts_j2 F x1 x57) ?_ ?_
    · refine sxc_seq ?_
      refine sxc_region ?_
      refine sxo_loadB (i := 0) rfl rfl tf25 rfl rfl (fun _ => rfl) rfl rfl ?_
      refine sxo_len rfl Try.underlying25 rfl rfl ?_
      refine sxo_move rfl rfl rfl ?_
      refine sxo_nil ?_
      refine sxq_next ?_
      refine sxc_block ?_
      refine sxc_loopP (fun (((x272, x273), _) : ((Int × List Int) × Unit)) => [(1, .pointer (some ⟨g4, 0, none⟩)), (2, .slice none 0 0), (3, .int .i64 0), (5, .pointer (some ⟨g11, 0, none⟩)), (22, .int .i64 (x8.length : Int)), (23, .int .i64 x272)]) (fun (((x272, x273), _) : ((Int × List Int) × Unit)) => [⟨g11, 25, [.slice a9 x273.length c10]⟩, ⟨g4, 24, [.slice a2 x1.length c3.1]⟩]) (fun (((x272, x273), _) : ((Int × List Int) × Unit)) => [Ro (eI .i64) 3 1 (.slice a9 x273.length c10) x273]) (fun (((x272, x273), _) : ((Int × List Int) × Unit)) => [SlN eN25 iN25 1 (.slice a2 x1.length c3.1) x1 c3.2]) (fun k (s : ((Int × List Int) × Unit)) => M_walk_Parts_l8 F x1 x8 k s.1) ((0, x8), ()) F ?_ (hB := (.cons 0 rfl (.cons 0 rfl .nil))) (hR := (.cons 0 rfl .nil)) (hF := (fk_cons 0 rfl fk_nil))
      intro k288
      rintro ⟨⟨x272, x273⟩, _⟩
      try dsimp only
      refine sxc_meq (m' := M_walk_Parts_b8 F x1 x8 (M_walk_Parts_l8 F x1 x8 k288) x272 x273) rfl ?_
      refine sxc_seq ?_
      refine sxc_region ?_
      refine sxo_lss rfl rfl rfl rfl ?_
      refine sxo_nil ?_
      refine sxq_next ?_
      refine sxc_seq ?_
      refine sxc_if rfl (fun h302 => ?_) (fun h302 => ?_)
      · refine sxc_skip ?_
        refine sxq_next ?_
        refine sxc_seq ?_
        refine sxc_block ?_
        refine sxc_seq ?_
        refine sxc_region ?_
        refine sxo_move rfl rfl rfl ?_
        refine sxo_assign rfl rfl rfl ?_
        refine sxo_nil ?_
        refine sxq_next ?_
        refine sxc_region ?_
        refine sxo_loadB (i := 0) rfl rfl tf25 rfl rfl (fun _ => rfl) rfl rfl ?_
        refine sxo_move rfl rfl rfl ?_
        refine sxo_move rfl rfl rfl ?_
        refine sxo_indexR (j := 0) rfl Try.underlying25 tf3 rfl rfl rfl rfl (fun x296 e296 g297 h298 => ?_)
        refine sxo_storeL (j := 0) (y' := x272) (eI_ok .i64) rfl rfl rfl tf3 rfl h298 (idx_get e296).2.1 rfl (fun x299 e299 h300 => ?_)
        have h301 : x299.length = x273.length := by rw [← e299, List.length_set]
        refine sxo_again (d := 26) (v := .slice a9 x299.length c10) rfl h300 ?_
        refine sxo_blkAgain (i := 0) (cs' := [.slice a9 x299.length c10]) rfl (by rw [h300] <;> rfl) ?_
        refine sxo_nil ?_
        refine sxq_blkN ?_
        refine sxq_next ?_
        refine sxc_region ?_
        refine sxo_add rfl rfl rfl rfl ?_
        refine sxo_move rfl rfl rfl ?_
        refine sxo_nil ?_
        exact sxq_againP ((iadd .i64 x272 1, x299), ()) (hB := (.cons 0 rfl (.cons 0 rfl .nil))) (hR := (.cons 0 rfl .nil)) (hF := (fk_cons 0 rfl fk_nil))
      · refine sxc_exit ?_
        refine sxq_thenX ?_
        refine sxq_thenX ?_
        refine sxq_blkX ?_
        exact sxq_meetP (x273, ()) (hB := (.cons 0 rfl (.cons 0 rfl .nil))) (hR := (.cons 0 rfl .nil)) (hF := (fk_cons 0 rfl fk_nil))
    · rintro ⟨x57, _⟩
      try dsimp only
      refine sxc_seq ?_
      refine sxc_region ?_
      refine sxo_makeFunc rfl rfl rfl ?_
      refine sxo_alloc rfl tf102 rfl (fun g58 => ?_)
      refine sxo_storeB (i := 0) rfl rfl rfl tf102 rfl rfl rfl rfl rfl ?_
      refine sxo_nil ?_
      refine sxq_next ?_
      refine sxc_seq ?_
      refine sxc_seq ?_
      refine sxc_region ?_
      refine sxo_loadB (i := 2) rfl rfl tf24 rfl rfl (by simp) rfl rfl ?_
      refine sxo_callM ent39 rfl rfl rfl (fun x101 e101 => C_graph_All F x1 a2 c3 x101 e101) .nil .nil (.consF 0 rfl .nil) (fun x101 e101 => ?_)
      rintro g102
      refine sxo_nil ?_
      refine sxq_next ?_
      refine sxc_block ?_
      refine sxc_range (encs := (fun (p : (Int × Int)) => [.agg #[.int .i64 p.1, .int .i64 p.2]])) (y := (fun (x116 : List Int) ((x130, x131) : (Int × Int)) => M_walk_Parts_r4 F x116 x130 x131)) (lb := [.pointer (some ⟨g102, 0, none⟩)]) (fun (x116 : List Int) (_ : Unit) => [⟨g58, 102, [.func (.func 73) #[] #[.pointer (some ⟨g11, 0, none⟩)]]⟩, ⟨g11, 25, [.slice a9 x116.length c10]⟩, ⟨g4, 24, [.slice a2 x1.length c3.1]⟩]) (fun (x116 : List Int) (_ : Unit) => [Ro (eI .i64) 3 1 (.slice a9 x116.length c10) x116]) (fun (_ : Empty) (_ : Unit) => []) (fun (_ : Empty) (_ : Unit) => []) (fun _ => .skip) x57 () rfl ent65 (fun _ => rfl) rfl (.cons 0 rfl .nil) (.cons 0 rfl (.cons 0 rfl (.cons 0 rfl .nil))) (.cons 0 rfl .nil) (.consF 0 rfl .nil) (fun z hz _ _ _ hY => C_graph_All_1 F hY x57 () g102 x1 a2 c3 z hz) ?_ ?_ ?_
      · rintro rc1 L1 D1 x116 _ ⟨x130, x131⟩ z w M _
        try dsimp only
        refine sxc_less [(1, .pointer (some ⟨g4, 0, none⟩)), (2, .slice none 0 0), (3, .int .i64 0), (5, .pointer (some ⟨g11, 0, none⟩)), (7, .pointer (some ⟨g58, 0, none⟩)), (31, .func (.func 73) #[] #[.pointer (some ⟨g11, 0, none⟩)]), (32, .agg #[.slice a2 x1.length c3.1]), (33, .func (.func 65) #[] #[.pointer (some ⟨g102, 0, none⟩)]), (34, .agg #[.int .i64 x130, .int .i64 x131])] (lk_cons rfl (lk_cons rfl (lk_cons rfl (lk_cons rfl (lk_cons rfl (lk_cons rfl (lk_cons rfl (lk_cons rfl (lk_cons rfl lk_nil))))))))) ?_
        refine sxc_region ?_
        refine sxo_alloc rfl tf48 rfl (fun g132 => ?_)
        refine sxo_storeB (i := 0) rfl rfl rfl tf48 rfl rfl rfl rfl rfl ?_
        refine sxo_nil ?_
        refine sxq_begin (i := 4) rfl ?_
        refine sxc_block ?_
        refine sxc_seq ?_
        refine sxb_draw mixed [] [⟨g132, 48, [.int .i64 x130, .int .i64 x131]⟩, ⟨g58, 102, [.func (.func 73) #[] #[.pointer (some ⟨g11, 0, none⟩)]]⟩, ⟨g11, 25, [.slice a9 x116.length c10]⟩, ⟨g4, 24, [.slice a2 x1.length c3.1]⟩, (blkO L1 (.loop (bsy rc1))), (dblk D1)] [SlN eN25 iN25 1 (.slice a2 x1.length c3.1) x1 c3.2] (.cons 0 rfl (.cons 0 rfl (.cons 0 rfl (.cons 0 rfl (.cons 0 rfl (.cons 0 rfl .nil)))))) (gk_F 0 rfl gk_nil) 10 rfl ?_
        refine sxb_takeB 0 (.func (.func 73) #[] #[.pointer (some ⟨g11, 0, none⟩)]) rfl rfl rfl (yv_loadB (i := 1) rfl tf102 rfl rfl (fun _ => rfl) rfl) ?_
        refine sxb_takeP 1 (.pointer (some ⟨g132, 0, none⟩)) rfl rfl rfl (yv_fieldAddr rfl ff48_0) ?_
        refine sxb_takeB 2 (.int .i64 x130) rfl rfl rfl (yv_loadB (i := 0) rfl tf3 rfl rfl (fun _ => rfl) rfl) ?_
        refine sxb_takeB 4 (.func (.func 73) #[] #[.pointer (some ⟨g11, 0, none⟩)]) rfl rfl rfl (yv_loadB (i := 1) rfl tf102 rfl rfl (fun _ => rfl) rfl) ?_
        refine sxb_takeP 5 (.pointer (some ⟨g132, 1, none⟩)) rfl rfl rfl (yv_fieldAddr rfl ff48_1) ?_
        refine sxb_takeB 6 (.int .i64 x131) rfl rfl rfl (yv_loadB (i := 0) rfl tf3 rfl rfl (fun _ => rfl) rfl) ?_
        refine sxb_step 3 rfl (by kernel_rfl) rfl ?_
        refine sxo_callMV ent73 rfl rfl rfl rfl (fun x135 e135 => C_walk_Parts_1 F x130 g11 x116 a9 c10 x135 e135) (.cons 2 rfl .nil) .nil (.consR 0 (Ro (eI .i64) 3 1 (.slice a9 x116.length c10) x116) rfl .nil) (fun x135 e135 => ?_)
        intro _
        refine sxo_nil ?_
        refine sxq_anyB (.cons 1 rfl (.cons 1 rfl (.cons 0 rfl (.cons 0 rfl (.cons 0 rfl (.cons 0 rfl .nil)))))) (gk_F 0 rfl gk_nil) ?_
        refine sxb_step 7 rfl (by kernel_rfl) rfl ?_
        refine sxo_callMV ent73 rfl rfl rfl rfl (fun x136 e136 => C_walk_Parts_1 F x131 g11 x116 a9 c10 x136 e136) (.cons 0 rfl .nil) .nil (.consR 0 (Ro (eI .i64) 3 1 (.slice a9 x116.length c10) x116) rfl .nil) (fun x136 e136 => ?_)
        intro _
        refine sxo_nil ?_
        refine sxq_anyB (.cons 1 rfl (.cons 1 rfl (.cons 0 rfl (.cons 0 rfl (.cons 0 rfl (.cons 0 rfl .nil)))))) (gk_F 0 rfl gk_nil) ?_
        refine sxb_takeP 8 (.int .i64 x135) rfl rfl rfl (yv_pv rfl) ?_
        refine sxb_takeP 9 (.int .i64 x136) rfl rfl rfl (yv_pv rfl) ?_
        refine sxb_done (by kernel_rfl) ?_
        refine sxq_np ?_ (by intro c h; cases h)
        refine sxq_next ?_
        refine sxc_region ?_
        refine sxo_loadB (i := 0) rfl rfl tf25 rfl rfl (fun _ => rfl) rfl rfl ?_
        refine sxo_move rfl rfl rfl ?_
        refine sxo_move rfl rfl rfl ?_
        refine sxo_max rfl rfl rfl rfl ?_
        refine sxo_move rfl rfl rfl ?_
        refine sxo_move rfl rfl rfl ?_
        refine sxo_min rfl rfl rfl rfl ?_
        refine sxo_indexR (j := 0) rfl Try.underlying25 tf3 rfl rfl rfl rfl (fun x137 e137 g138 h139 => ?_)
        refine sxo_storeL (j := 0) (y' := imin x135 x136) (eI_ok .i64) rfl rfl rfl tf3 rfl h139 (idx_get e137).2.1 rfl (fun x140 e140 h141 => ?_)
        have h142 : x140.length = x116.length := by rw [← e140, List.length_set]
        refine sxo_again (d := 43) (v := .slice a9 x140.length c10) rfl h141 ?_
        refine sxo_blkAgain (i := 0) (cs' := [.slice a9 x140.length c10]) rfl (by rw [h141] <;> rfl) ?_
        refine sxo_nil ?_
        refine sxq_blkN ?_
        exact sxq_round (rc := rc1) rfl (.cons 4 rfl .nil) rfl () (.cons 3 rfl (.cons 1 rfl (.cons 2 rfl (.cons 0 rfl (.cons 1 rfl .nil))))) (.cons 0 rfl .nil)
      · rintro x116 _ _ D1
        try dsimp only
        refine sxq_blkN ?_
        refine sxq_next ?_
        refine sxc_join (fun ((x200, _) : (List Int × Unit)) => [(5, .pointer (some ⟨g11, 0, none⟩))]) (fun ((x200, _) : (List Int × Unit)) => [(dblk D1), ⟨g11, 25, [.slice a9 x200.length c10]⟩]) (fun ((x200, _) : (List Int × Unit)) => [Ro (eI .i64) 3 1 (.slice a9 x200.length c10) x200]) (fun ((x200, _) : (List Int × Unit)) => []) (fun ((x200, _) : (List Int × Unit)) => M_walk_Parts_j6 F x200) ?_ ?_
        · refine sxc_seq ?_
          refine sxc_region ?_
          refine sxo_loadB (i := 3) rfl rfl tf25 rfl rfl (fun _ => rfl) rfl rfl ?_
          refine sxo_len rfl Try.underlying25 rfl rfl ?_
          refine sxo_move rfl rfl rfl ?_
          refine sxo_nil ?_
          refine sxq_next ?_
          refine sxc_block ?_
          refine sxc_loopP (fun (((x219, x220), _) : ((Int × List Int) × Unit)) => [(5, .pointer (some ⟨g11, 0, none⟩)), (7, .pointer (some ⟨g58, 0, none⟩)), (52, .int .i64 (x116.length : Int)), (53, .int .i64 x219)]) (fun (((x219, x220), _) : ((Int × List Int) × Unit)) => [(dblk D1), ⟨g58, 102, [.func (.func 73) #[] #[.pointer (some ⟨g11, 0, none⟩)]]⟩, ⟨g11, 25, [.slice a9 x220.length c10]⟩]) (fun (((x219, x220), _) : ((Int × List Int) × Unit)) => [Ro (eI .i64) 3 1 (.slice a9 x220.length c10) x220]) (fun (((x219, x220), _) : ((Int × List Int) × Unit)) => []) (fun k (s : ((Int × List Int) × Unit)) => M_walk_Parts_l7 F x116 k s.1) ((0, x116), ()) F ?_ (hB := (.cons 0 rfl (.cons 1 rfl (.cons 1 rfl .nil)))) (hR := (.cons 0 rfl .nil))
          intro k239
          rintro ⟨⟨x219, x220⟩, _⟩
          try dsimp only
          refine sxc_meq (m' := M_walk_Parts_b7 F x116 (M_walk_Parts_l7 F x116 k239) x219 x220) rfl ?_
          refine sxc_seq ?_
          refine sxc_region ?_
          refine sxo_lss rfl rfl rfl rfl ?_
          refine sxo_nil ?_
          refine sxq_next ?_
          refine sxc_seq ?_
          refine sxc_if rfl (fun h257 => ?_) (fun h257 => ?_)
          · refine sxc_skip ?_
            refine sxq_next ?_
            refine sxc_seq ?_
            refine sxc_block ?_
            refine sxc_seq ?_
            refine sxc_region ?_
            refine sxo_move rfl rfl rfl ?_
            refine sxo_assign rfl rfl rfl ?_
            refine sxo_nil ?_
            refine sxq_next ?_
            refine sxc_idxO (j := 0) rfl (fun x249 e249 g250 h251 => ?_)
            replace h251 : a9 = some ⟨g250, 0, none⟩ := h251
            have h252 := own_of (k := x220.length) (c := c10) h251
            refine sxb_draw mixed [] [(dblk D1), ⟨g58, 102, [.func (.func 73) #[] #[.pointer (some ⟨g11, 0, none⟩)]]⟩, ⟨g11, 25, [.slice a9 x220.length c10]⟩] [] (.cons 0 rfl (.cons 0 rfl (.cons 0 rfl .nil))) gk_nil 7 rfl ?_
            refine sxb_takeB 0 (.slice a9 x220.length c10) rfl rfl rfl (yv_loadB (i := 2) rfl tf25 rfl rfl (fun _ => rfl) rfl) ?_
            refine sxb_takeP 1 (.int .i64 x219) rfl rfl rfl (yv_pv rfl) ?_
            refine sxb_takeB 2 (.func (.func 73) #[] #[.pointer (some ⟨g11, 0, none⟩)]) rfl rfl rfl (yv_loadB (i := 1) rfl tf102 rfl rfl (fun _ => rfl) rfl) ?_
            refine sxb_takeP 3 (.int .i64 x219) rfl rfl rfl (yv_pv rfl) ?_
            refine sxb_step 4 rfl (by kernel_rfl) rfl ?_
            refine sxo_callMV ent73 rfl rfl rfl rfl (fun x253 e253 => C_walk_Parts_1 F x219 g11 x220 a9 c10 x253 e253) (.cons 2 rfl .nil) .nil (.consR 0 (Ro (eI .i64) 3 1 (.slice a9 x220.length c10) x220) rfl .nil) (fun x253 e253 => ?_)
            intro _
            refine sxo_nil ?_
            refine sxq_anyB (.cons 1 rfl (.cons 1 rfl (.cons 0 rfl .nil))) gk_nil ?_
            refine sxb_again (d := 56) (v := .slice (some ⟨g250, 0, none⟩) x220.length c10) rfl (by rw [h251] <;> rfl) ?_
            refine sxb_takeP 5 (.pointer (some ⟨g250, x219.toNat * 1, none⟩)) rfl rfl rfl (yv_idxO Try.underlying25 tf3 rfl rfl (idx_get e249).1 (idx_lt e249)) ?_
            refine sxb_again (d := 56) (v := .slice a9 x220.length c10) rfl (by rw [h251] <;> rfl) ?_
            refine sxb_step 6 rfl (by kernel_rfl) rfl ?_
            refine sxo_storeL (j := 0) (y' := x253) (eI_ok .i64) rfl rfl rfl tf3 rfl (own_of h251) (idx_get e249).2.1 rfl (fun x254 e254 h255 => ?_)
            have h256 : x254.length = x220.length := by rw [← e254, List.length_set]
            refine sxo_again (d := 56) (v := .slice a9 x254.length c10) rfl h255 ?_
            refine sxo_blkAgain (i := 0) (cs' := [.slice a9 x254.length c10]) rfl (by rw [h255] <;> rfl) ?_
            refine sxo_nil ?_
            refine sxq_anyB (.cons 1 rfl (.cons 1 rfl (.cons 0 (by rw [h256]; rfl) .nil))) gk_nil ?_
            refine sxb_done (by kernel_rfl) ?_
            refine sxq_np ?_ (by intro c h; cases h)
            refine sxq_blkN ?_
            refine sxq_next ?_
            refine sxc_region ?_
            refine sxo_add rfl rfl rfl rfl ?_
            refine sxo_move rfl rfl rfl ?_
            refine sxo_nil ?_
            exact sxq_againP ((iadd .i64 x219 1, x254), ()) (hB := (.cons 1 rfl (.cons 1 rfl (.cons 0 rfl .nil)))) (hR := (.cons 0 rfl .nil))
          · refine sxc_exit ?_
            refine sxq_thenX ?_
            refine sxq_thenX ?_
            refine sxq_blkX ?_
            exact sxq_meetP (x220, ()) (hB := (.cons 0 rfl (.cons 1 rfl .nil))) (hR := (.cons 0 rfl .nil))
        · rintro ⟨x200, _⟩
          try dsimp only
          refine sxc_seq ?_
          refine sxc_region ?_
          refine sxo_loadB (i := 1) rfl rfl tf25 rfl rfl (fun _ => rfl) rfl rfl ?_
          refine sxo_assign rfl rfl rfl ?_
          refine sxo_assign rfl rfl rfl ?_
          refine sxo_nil ?_
          refine sxq_next ?_
          refine sxc_ret ?_
          exact sxq_doneX [D1] (a9, c10) (.inl rfl) rfl (.cons 0 rfl .nil) (res2 rfl rfl rfl) (fun h => by subst h; rfl) (fun h => by subst h; exact .nil) (fun h => by subst h; exact (.cons 0 rfl .nil))
      · intro t; exact t.elim

theorem C_slices_Max_int_int (F : Nat) (x1 : List Int) (a2 : Option Addr) (c3 : Nat) (r : Int) (hm : M_slices_Max_int_int F x1 = some r) :
    Pure Try.prog 74 [.slice a2 x1.length c3] [Sl (eI .i64) 1 (.slice a2 x1.length c3) x1] Unit (fun _ => .int .i64 r) (fun _ => []) (fun _ => []) := by
  refine pure_of Try.func74 rfl Try.ntmps74 rfl hm (fun w => ?_)
  refine sxc_env (l' := [(0, .slice a2 x1.length c3)]) rfl ?_
  refine sxc_seq ?_
  refine sxc_region ?_
  refine sxo_assign rfl rfl rfl ?_
  refine sxo_nil ?_
  refine sxq_next ?_
  refine sxc_seq ?_
  refine sxc_seq ?_
  refine sxc_region ?_
  refine sxo_move rfl rfl rfl ?_
  refine sxo_len rfl Try.underlying25 rfl rfl ?_
  refine sxo_lss rfl rfl rfl rfl ?_
  refine sxo_nil ?_
  refine sxq_next ?_
  refine sxc_if rfl (fun h63 => ?_) (fun h63 => ?_)
  · exact sxc_none
  · refine sxc_skip ?_
    refine sxq_next ?_
    refine sxc_seq ?_
    refine sxc_region ?_
    refine sxo_move rfl rfl rfl ?_
    refine sxo_indexF (j := 0) (eI_ok .i64) (by decide) rfl Try.underlying25 tf3 rfl rfl rfl rfl (fun x5 e5 b6 o7 => ?_)
    refine sxo_loadF (j := 0) rfl rfl tf3 rfl rfl (fun _ => rfl) rfl rfl ?_
    refine sxo_assign rfl rfl rfl ?_
    refine sxo_nil ?_
    refine sxq_next ?_
    refine sxc_join (fun ((x35, _) : (Int × Unit)) => [(3, .int .i64 x35)]) (fun ((x35, _) : (Int × Unit)) => []) (fun ((x35, _) : (Int × Unit)) => []) (fun ((x35, _) : (Int × Unit)) => []) (fun ((x35, _) : (Int × Unit)) => M_slices_Max_int_int_j2 F x35) ?_ ?_
    · refine sxc_seq ?_
      refine sxc_region ?_
      refine sxo_assign rfl rfl rfl ?_
      refine sxo_nil ?_
      refine sxq_next ?_
      refine sxc_block ?_
      refine sxc_loopP (fun (((x44, x45), _) : ((Int × Int) × Unit)) => [(0, .slice a2 x1.length c3), (3, .int .i64 x44), (4, .int .i64 x45)]) (fun (((x44, x45), _) : ((Int × Int) × Unit)) => []) (fun (((x44, x45), _) : ((Int × Int) × Unit)) => []) (fun (((x44, x45), _) : ((Int × Int) × Unit)) => [Sl (eI .i64) 1 (.slice a2 x1.length c3) x1]) (fun k (s : ((Int × Int) × Unit)) => M_slices_Max_int_int_l3 F x1 k s.1) ((x5, 1), ()) F ?_ (hF := (fk_cons 1 rfl fk_nil))
      intro k54
      rintro ⟨⟨x44, x45⟩, _⟩
      try dsimp only
      refine sxc_meq (m' := M_slices_Max_int_int_b3 F x1 (M_slices_Max_int_int_l3 F x1 k54) x44 x45) rfl ?_
      refine sxc_seq ?_
      refine sxc_seq ?_
      refine sxc_region ?_
      refine sxo_move rfl rfl rfl ?_
      refine sxo_move rfl rfl rfl ?_
      refine sxo_len rfl Try.underlying25 rfl rfl ?_
      refine sxo_lss rfl rfl rfl rfl ?_
      refine sxo_nil ?_
      refine sxq_next ?_
      refine sxc_if rfl (fun h62 => ?_) (fun h62 => ?_)
      · refine sxc_skip ?_
        refine sxq_next ?_
        refine sxc_seq ?_
        refine sxc_block ?_
        refine sxc_region ?_
        refine sxo_move rfl rfl rfl ?_
        refine sxo_move rfl rfl rfl ?_
        refine sxo_move rfl rfl rfl ?_
        refine sxo_indexF (j := 0) (eI_ok .i64) (by decide) rfl Try.underlying25 tf3 rfl rfl rfl rfl (fun x59 e59 b60 o61 => ?_)
        refine sxo_loadF (j := 0) rfl rfl tf3 rfl rfl (fun _ => rfl) rfl rfl ?_
        refine sxo_max rfl rfl rfl rfl ?_
        refine sxo_assign rfl rfl rfl ?_
        refine sxo_nil ?_
        refine sxq_blkN ?_
        refine sxq_next ?_
        refine sxc_region ?_
        refine sxo_move rfl rfl rfl ?_
        refine sxo_add rfl rfl rfl rfl ?_
        refine sxo_assign rfl rfl rfl ?_
        refine sxo_nil ?_
        exact sxq_againP ((imax x44 x59, iadd .i64 x45 1), ()) (hF := (fk_cons 1 rfl fk_nil))
      · refine sxc_exit ?_
        refine sxq_thenX ?_
        refine sxq_thenX ?_
        refine sxq_blkX ?_
        exact sxq_meetP (x44, ())
    · rintro ⟨x35, _⟩
      try dsimp only
      refine sxc_seq ?_
      refine sxc_region ?_
      refine sxo_move rfl rfl rfl ?_
      refine sxo_assign rfl rfl rfl ?_
      refine sxo_nil ?_
      refine sxq_next ?_
      refine sxc_ret ?_
      exact sxq_doneP () (res1 rfl rfl)

theorem C_walk_Most (F : Nat) (x1 : List (List Int)) (a2 : Option Addr) (c3 : (Nat × List (Option Addr × Nat))) (r : (Int × Int)) (hm : M_walk_Most F x1 = some r) :
    Pure Try.prog 54 [.agg #[.slice a2 x1.length c3.1]] [SlN eN25 iN25 1 (.slice a2 x1.length c3.1) x1 c3.2] Unit (fun _ => .tuple #[.int .i64 r.1, .int .i64 r.2]) (fun _ => []) (fun _ => []) := by
  refine pure_of Try.func54 rfl Try.ntmps54 rfl hm (fun w => ?_)
  refine sxc_env (l' := [(0, .agg #[.slice a2 x1.length c3.1])]) rfl ?_
  refine sxc_seq ?_
  refine sxc_region ?_
  refine sxo_box rfl rfl rfl (fun g4 => ?_)
  refine sxo_assign rfl rfl rfl ?_
  refine sxo_assign rfl rfl rfl ?_
  refine sxo_nil ?_
  refine sxq_next ?_
  refine sxc_seq ?_
  refine sxc_seq ?_
  refine sxc_region ?_
  refine sxo_loadB (i := 0) rfl rfl tf24 rfl rfl (by simp) rfl rfl ?_
  refine sxo_nilrow' Int (eI .i64) 3 1 ?_
  refine sxo_call ent51 rfl rfl rfl (fun x7 e7 => C_walk_check F x1 a2 c3 ([] : List Int) none 0 x7 e7) (.consF 0 rfl (.consR 0 (Ro (eI .i64) 3 1 (.slice none ([] : List Int).length 0) ([] : List Int)) rfl .nil)) (fun x7 e7 => ?_)
  intro _
  refine sxo_assign rfl rfl rfl ?_
  refine sxo_nil ?_
  refine sxq_next ?_
  refine sxc_seq ?_
  refine sxc_region ?_
  refine sxo_move rfl rfl rfl ?_
  refine sxo_neq rfl rfl rfl rfl ?_
  refine sxo_nil ?_
  refine sxq_next ?_
  refine sxc_if rfl (fun h75 => ?_) (fun h75 => ?_)
  · refine sxc_seq ?_
    refine sxc_region ?_
    refine sxo_move rfl rfl rfl ?_
    refine sxo_assign rfl rfl rfl ?_
    refine sxo_assign rfl rfl rfl ?_
    refine sxo_nil ?_
    refine sxq_next ?_
    refine sxc_ret ?_
    refine sxq_thenR ?_
    exact sxq_doneP () (res2 rfl rfl rfl)
  · refine sxc_skip ?_
    refine sxq_next ?_
    refine sxc_join (fun ((x41, _) : (Int × Unit)) => [(2, .int .i64 x41)]) (fun ((x41, _) : (Int × Unit)) => []) (fun ((x41, _) : (Int × Unit)) => []) (fun ((x41, _) : (Int × Unit)) => []) (fun ((x41, _) : (Int × Unit)) => M_walk_Most_j2 F x41) ?_ ?_
    · refine sxc_seq ?_
      refine sxc_region ?_
      refine sxo_fieldAddr rfl rfl ff24_0 rfl ?_
      refine sxo_loadB (i := 0) rfl rfl tf22 rfl rfl (fun _ => rfl) rfl rfl ?_
      refine sxo_len rfl Try.underlying22 rfl rfl ?_
      refine sxo_move rfl rfl rfl ?_
      refine sxo_nil ?_
      refine sxq_next ?_
      refine sxc_block ?_
      refine sxc_loopP (fun (((x52, x53), _) : ((Int × Int) × Unit)) => [(1, .pointer (some ⟨g4, 0, none⟩)), (2, .int .i64 x52), (13, .int .i64 (x1.length : Int)), (14, .int .i64 x53)]) (fun (((x52, x53), _) : ((Int × Int) × Unit)) => [⟨g4, 24, [.slice a2 x1.length c3.1]⟩]) (fun (((x52, x53), _) : ((Int × Int) × Unit)) => []) (fun (((x52, x53), _) : ((Int × Int) × Unit)) => [SlN eN25 iN25 1 (.slice a2 x1.length c3.1) x1 c3.2]) (fun k (s : ((Int × Int) × Unit)) => M_walk_Most_l3 F x1 k s.1) ((0, 0), ()) F ?_ (hB := (.cons 0 rfl .nil)) (hF := (fk_cons 0 rfl fk_nil))
      intro k64
      rintro ⟨⟨x52, x53⟩, _⟩
      try dsimp only
      refine sxc_meq (m' := M_walk_Most_b3 F x1 (M_walk_Most_l3 F x1 k64) x52 x53) rfl ?_
      refine sxc_seq ?_
      refine sxc_region ?_
      refine sxo_lss rfl rfl rfl rfl ?_
      refine sxo_nil ?_
      refine sxq_next ?_
      refine sxc_seq ?_
      refine sxc_if rfl (fun h74 => ?_) (fun h74 => ?_)
      · refine sxc_skip ?_
        refine sxq_next ?_
        refine sxc_seq ?_
        refine sxc_block ?_
        refine sxc_seq ?_
        refine sxc_region ?_
        refine sxo_move rfl rfl rfl ?_
        refine sxo_assign rfl rfl rfl ?_
        refine sxo_nil ?_
        refine sxq_next ?_
        refine sxc_region ?_
        refine sxo_move rfl rfl rfl ?_
        refine sxo_loadB (i := 0) rfl rfl tf24 rfl rfl (by simp) rfl rfl ?_
        refine sxo_move rfl rfl rfl ?_
        refine sxo_call ent52 rfl rfl rfl (fun x70 e70 => C_walk_far F x1 a2 c3 x53 x70 e70) (.consF 0 rfl .nil) (fun x70 e70 => ?_)
        rintro ⟨a71, c72⟩
        refine sxo_call ent74 rfl rfl rfl (fun x73 e73 => C_slices_Max_int_int F x70 a71 c72 x73 e73) (.consR 0 (Ro (eI .i64) 3 1 (.slice a71 x70.length c72) x70) rfl .nil) (fun x73 e73 => ?_)
        intro _
        refine sxo_max rfl rfl rfl rfl ?_
        refine sxo_assign rfl rfl rfl ?_
        refine sxo_nil ?_
        refine sxq_blkN ?_
        refine sxq_next ?_
        refine sxc_region ?_
        refine sxo_add rfl rfl rfl rfl ?_
        refine sxo_move rfl rfl rfl ?_
        refine sxo_nil ?_
        exact sxq_againP ((imax x52 x73, iadd .i64 x53 1), ()) (hB := (.cons 0 rfl .nil)) (hF := (fk_cons 0 rfl fk_nil))
      · refine sxc_exit ?_
        refine sxq_thenX ?_
        refine sxq_thenX ?_
        refine sxq_blkX ?_
        exact sxq_meetP (x52, ())
    · rintro ⟨x41, _⟩
      try dsimp only
      refine sxc_seq ?_
      refine sxc_region ?_
      refine sxo_move rfl rfl rfl ?_
      refine sxo_assign rfl rfl rfl ?_
      refine sxo_assign rfl rfl rfl ?_
      refine sxo_nil ?_
      refine sxq_next ?_
      refine sxc_ret ?_
      exact sxq_doneP () (res2 rfl rfl rfl)

set_option maxHeartbeats 4000000 in
theorem C_L_walkBegun (F : Nat)  (r : Bool) (hm : M_L_walkBegun F  = some r) :
    Pure Try.prog 27 [] [] Unit (fun _ => .bool r) (fun _ => []) (fun _ => []) := by
  refine pure_of Try.func27 rfl Try.ntmps27 rfl hm (fun w => ?_)
  refine sxc_env (l' := []) rfl ?_
  refine sxc_seq ?_
  refine sxc_region ?_
  refine sxo_assign rfl rfl rfl ?_
  refine sxo_nil ?_
  refine sxq_next ?_
  refine sxc_seq ?_
  refine sxc_region ?_
  refine sxo_call ent42 rfl rfl rfl (fun x1 e1 => C_L_someGraph F  x1 e1) .nil (fun x1 e1 => ?_)
  rintro ⟨a2, c3⟩
  refine sxo_call ent26 rfl rfl rfl (fun x4 e4 => C_walk_Far F x1 a2 c3 4 x4 e4) (.consG 0 rfl (nest_sl rN25_in) .nil) (fun x4 e4 => ?_)
  rintro ⟨a5, c6⟩
  refine sxo_move rfl rfl rfl ?_
  refine sxo_extract rfl rfl rfl rfl ?_
  refine sxo_extract rfl rfl rfl rfl ?_
  refine sxo_assign rfl rfl rfl ?_
  refine sxo_assign rfl rfl rfl ?_
  refine sxo_nil ?_
  refine sxq_next ?_
  refine sxc_seq ?_
  refine sxc_region ?_
  refine sxo_call ent42 rfl rfl rfl (fun x7 e7 => C_L_someGraph F  x7 e7) .nil (fun x7 e7 => ?_)
  rintro ⟨a8, c9⟩
  refine sxo_call ent29 rfl rfl rfl (fun x10 e10 => C_walk_Way F x7 a8 c9 2 3 x10 e10) (.consG 0 rfl (nest_sl rN25_in) .nil) (fun x10 e10 => ?_)
  rintro ⟨a11, c12⟩
  refine sxo_move rfl rfl rfl ?_
  refine sxo_extract rfl rfl rfl rfl ?_
  refine sxo_extract rfl rfl rfl rfl ?_
  refine sxo_assign rfl rfl rfl ?_
  refine sxo_assign rfl rfl rfl ?_
  refine sxo_nil ?_
  refine sxq_next ?_
  refine sxc_seq ?_
  refine sxc_region ?_
  refine sxo_call ent42 rfl rfl rfl (fun x13 e13 => C_L_someGraph F  x13 e13) .nil (fun x13 e13 => ?_)
  rintro ⟨a14, c15⟩
  refine sxo_callM ent53 rfl rfl rfl (fun x16 e16 => C_walk_Parts F x13 a14 c15 x16 e16) .nil .nil (.consG 0 rfl (nest_sl rN25_in) .nil) (fun x16 e16 => ?_)
  rintro ⟨a17, c18⟩
  refine sxo_move rfl rfl rfl ?_
  refine sxo_extract rfl rfl rfl rfl ?_
  refine sxo_extract rfl rfl rfl rfl ?_
  refine sxo_assign rfl rfl rfl ?_
  refine sxo_assign rfl rfl rfl ?_
  refine sxo_nil ?_
  refine sxq_next ?_
  refine sxc_seq ?_
  refine sxc_region ?_
  refine sxo_call ent42 rfl rfl rfl (fun x19 e19 => C_L_someGraph F  x19 e19) .nil (fun x19 e19 => ?_)
  rintro ⟨a20, c21⟩
  refine sxo_call ent54 rfl rfl rfl (fun x22 e22 => C_walk_Most F x19 a20 c21 x22 e22) (.consG 0 rfl (nest_sl rN25_in) .nil) (fun x22 e22 => ?_)
  intro _
  refine sxo_move rfl rfl rfl ?_
  refine sxo_extract rfl rfl rfl rfl ?_
  refine sxo_extract rfl rfl rfl rfl ?_
  refine sxo_assign rfl rfl rfl ?_
  refine sxo_assign rfl rfl rfl ?_
  refine sxo_nil ?_
  refine sxq_next ?_
  refine sxc_seq ?_
  refine sxc_region ?_
  refine sxo_call ent42 rfl rfl rfl (fun x23 e23 => C_L_someGraph F  x23 e23) .nil (fun x23 e23 => ?_)
  rintro ⟨a24, c25⟩
  refine sxo_call ent29 rfl rfl rfl (fun x26 e26 => C_walk_Way F x23 a24 c25 3 0 x26 e26) (.consG 0 rfl (nest_sl rN25_in) .nil) (fun x26 e26 => ?_)
  rintro ⟨a27, c28⟩
  refine sxo_move rfl rfl rfl ?_
  refine sxo_extract rfl rfl rfl rfl ?_
  refine sxo_extract rfl rfl rfl rfl ?_
  refine sxo_assign rfl rfl rfl ?_
  refine sxo_assign rfl rfl rfl ?_
  refine sxo_nil ?_
  refine sxq_next ?_
  refine sxc_seq ?_
  refine sxc_region ?_
  refine sxo_move rfl rfl rfl ?_
  refine sxo_slit (vs := [.int .i64 (-1), .int .i64 (-1), .int .i64 (-1), .int .i64 (-1), .int .i64 0, .int .i64 (-1)]) (ys := ([-1, -1, -1, -1, 0, -1] : List Int)) (eI_ok .i64) (by decide) rfl Try.underlying25 tf3 rfl rfl rfl rfl rfl (by decide) (fun a29 c30 => ?_)
  refine sxo_call ent19 rfl rfl rfl (fun x31 e31 => C_R_SameInts F x4.1 a5 c6 ([-1, -1, -1, -1, 0, -1] : List Int) a29 c30 x31 e31) (.consR 8 (Ro (eI .i64) 3 1 (.slice a5 x4.1.length c6) x4.1) rfl (.consR 0 (Ro (eI .i64) 3 1 (.slice a29 ([-1, -1, -1, -1, 0, -1] : List Int).length c30) ([-1, -1, -1, -1, 0, -1] : List Int)) rfl .nil)) (fun x31 e31 => ?_)
  intro _
  refine sxo_move rfl rfl rfl ?_
  refine sxo_case 3 x31 [(3, .slice a11 x10.1.length c12), (4, .int .i64 x10.2), (5, .slice a17 x16.1.length c18), (6, .int .i64 x16.2), (7, .int .i64 x22.1), (8, .int .i64 x22.2), (10, .int .i64 x26.2), (42, .bool (x31 && ((x4.2 : Int) == 0)))] (fun h32 => ?_) (fun h32 => ?_) ?_
  · refine sxo_take (os := _) rfl ?_
    refine sxo_isT (k := 39) rfl h32 ?_
    refine sxo_move rfl rfl rfl ?_
    refine sxo_eql rfl rfl rfl rfl ?_
    refine sxo_pick (b := true) rfl rfl rfl rfl ?_
    refine sxo_again (d := 42) (v := .bool (x31 && ((x4.2 : Int) == 0))) rfl (by rw [h32]; simp only [Bool.true_and]) ?_
    refine sxo_nil ?_
    exact sxq_case (lk_cons rfl (lk_cons rfl (lk_cons rfl (lk_cons rfl (lk_cons rfl (lk_cons rfl (lk_cons rfl (lk_cons rfl lk_nil))))))))
  · refine sxo_take (os := _) rfl ?_
    refine sxo_isF (k := 39) rfl h32 ?_
    refine sxo_skip rfl rfl rfl ?_
    refine sxo_skip rfl rfl rfl ?_
    refine sxo_pick (b := false) rfl rfl rfl rfl ?_
    refine sxo_again (d := 42) (v := .bool (x31 && ((x4.2 : Int) == 0))) rfl (by rw [h32]; simp only [Bool.false_and]) ?_
    refine sxo_nil ?_
    exact sxq_case (lk_cons rfl (lk_cons rfl (lk_cons rfl (lk_cons rfl (lk_cons rfl (lk_cons rfl (lk_cons rfl (lk_cons rfl lk_nil))))))))
  refine sxo_take (os := _) rfl ?_
  refine sxo_move rfl rfl rfl ?_
  refine sxo_join 4 (fun ((x37, _) : (Bool × Unit)) => [(4, .int .i64 x10.2), (5, .slice a17 x16.1.length c18), (6, .int .i64 x16.2), (7, .int .i64 x22.1), (8, .int .i64 x22.2), (10, .int .i64 x26.2), (47, .bool x37)]) (fun ((x37, _) : (Bool × Unit)) => []) (fun ((x37, _) : (Bool × Unit)) => [Ro (eI .i64) 3 1 (.slice a17 x16.1.length c18) x16.1]) (fun ((x37, _) : (Bool × Unit)) => []) (fun ((x37, _) : (Bool × Unit)) => M_L_walkBegun_j1 F x10 x16 x22 x26 x37) ?_ ?_
  · refine sxo_take (os := _) rfl ?_
    refine sxo_if (fun h33 => ?_) (fun h33 => ?_)
    · refine sxo_isT (k := 43) rfl h33 ?_
      refine sxo_move rfl rfl rfl ?_
      refine sxo_slit (vs := [.int .i64 2, .int .i64 3]) (ys := ([2, 3] : List Int)) (eI_ok .i64) (by decide) rfl Try.underlying25 tf3 rfl rfl rfl rfl rfl (by decide) (fun a51 c52 => ?_)
      refine sxo_call ent19 rfl rfl rfl (fun x53 e53 => C_R_SameInts F x10.1 a11 c12 ([2, 3] : List Int) a51 c52 x53 e53) (.consR 7 (Ro (eI .i64) 3 1 (.slice a11 x10.1.length c12) x10.1) rfl (.consR 0 (Ro (eI .i64) 3 1 (.slice a51 ([2, 3] : List Int).length c52) ([2, 3] : List Int)) rfl .nil)) (fun x53 e53 => ?_)
      intro _
      refine sxo_pick (b := true) rfl rfl rfl rfl ?_
      refine sxo_nil ?_
      exact sxq_meetP (x53, ()) (hR := (.cons 5 rfl .nil))
    · refine sxo_isF (k := 43) rfl h33 ?_
      refine sxo_skip rfl rfl rfl ?_
      refine sxo_skip rfl rfl rfl ?_
      refine sxo_skip rfl rfl rfl ?_
      refine sxo_pick (b := false) rfl rfl rfl rfl ?_
      refine sxo_nil ?_
      exact sxq_meetP (false, ()) (hR := (.cons 4 rfl .nil))
  · rintro ⟨x37, _⟩
    try dsimp only
    refine sxo_take (os := _) rfl ?_
    refine sxo_move rfl rfl rfl ?_
    refine sxo_case 3 x37 [(5, .slice a17 x16.1.length c18), (6, .int .i64 x16.2), (7, .int .i64 x22.1), (8, .int .i64 x22.2), (10, .int .i64 x26.2), (51, .bool (x37 && ((x10.2 : Int) == 0)))] (fun h38 => ?_) (fun h38 => ?_) ?_
    · refine sxo_take (os := _) rfl ?_
      refine sxo_isT (k := 48) rfl h38 ?_
      refine sxo_move rfl rfl rfl ?_
      refine sxo_eql rfl rfl rfl rfl ?_
      refine sxo_pick (b := true) rfl rfl rfl rfl ?_
      refine sxo_again (d := 51) (v := .bool (x37 && ((x10.2 : Int) == 0))) rfl (by rw [h38]; simp only [Bool.true_and]) ?_
      refine sxo_nil ?_
      exact sxq_case (lk_cons rfl (lk_cons rfl (lk_cons rfl (lk_cons rfl (lk_cons rfl (lk_cons rfl lk_nil))))))
    · refine sxo_take (os := _) rfl ?_
      refine sxo_isF (k := 48) rfl h38 ?_
      refine sxo_skip rfl rfl rfl ?_
      refine sxo_skip rfl rfl rfl ?_
      refine sxo_pick (b := false) rfl rfl rfl rfl ?_
      refine sxo_again (d := 51) (v := .bool (x37 && ((x10.2 : Int) == 0))) rfl (by rw [h38]; simp only [Bool.false_and]) ?_
      refine sxo_nil ?_
      exact sxq_case (lk_cons rfl (lk_cons rfl (lk_cons rfl (lk_cons rfl (lk_cons rfl (lk_cons rfl lk_nil))))))
    refine sxo_take (os := _) rfl ?_
    refine sxo_move rfl rfl rfl ?_
    refine sxo_join 4 (fun ((x43, _) : (Bool × Unit)) => [(6, .int .i64 x16.2), (7, .int .i64 x22.1), (8, .int .i64 x22.2), (10, .int .i64 x26.2), (56, .bool x43)]) (fun ((x43, _) : (Bool × Unit)) => []) (fun ((x43, _) : (Bool × Unit)) => []) (fun ((x43, _) : (Bool × Unit)) => []) (fun ((x43, _) : (Bool × Unit)) => M_L_walkBegun_j2 F x16 x22 x26 x43) ?_ ?_
    · refine sxo_take (os := _) rfl ?_
      refine sxo_if (fun h39 => ?_) (fun h39 => ?_)
      · refine sxo_isT (k := 52) rfl h39 ?_
        refine sxo_move rfl rfl rfl ?_
        refine sxo_slit (vs := [.int .i64 0, .int .i64 0, .int .i64 0, .int .i64 0, .int .i64 4, .int .i64 0]) (ys := ([0, 0, 0, 0, 4, 0] : List Int)) (eI_ok .i64) (by decide) rfl Try.underlying25 tf3 rfl rfl rfl rfl rfl (by decide) (fun a48 c49 => ?_)
        refine sxo_call ent19 rfl rfl rfl (fun x50 e50 => C_R_SameInts F x16.1 a17 c18 ([0, 0, 0, 0, 4, 0] : List Int) a48 c49 x50 e50) (.consR 1 (Ro (eI .i64) 3 1 (.slice a17 x16.1.length c18) x16.1) rfl (.consR 0 (Ro (eI .i64) 3 1 (.slice a48 ([0, 0, 0, 0, 4, 0] : List Int).length c49) ([0, 0, 0, 0, 4, 0] : List Int)) rfl .nil)) (fun x50 e50 => ?_)
        intro _
        refine sxo_pick (b := true) rfl rfl rfl rfl ?_
        refine sxo_nil ?_
        exact sxq_meetP (x50, ())
      · refine sxo_isF (k := 52) rfl h39 ?_
        refine sxo_skip rfl rfl rfl ?_
        refine sxo_skip rfl rfl rfl ?_
        refine sxo_skip rfl rfl rfl ?_
        refine sxo_pick (b := false) rfl rfl rfl rfl ?_
        refine sxo_nil ?_
        exact sxq_meetP (false, ())
    · rintro ⟨x43, _⟩
      try dsimp only
      refine sxo_take (os := _) rfl ?_
      refine sxo_move rfl rfl rfl ?_
      refine sxo_case 3 x43 [(7, .int .i64 x22.1), (8, .int .i64 x22.2), (10, .int .i64 x26.2), (60, .bool (x43 && ((x16.2 : Int) == 0)))] (fun h44 => ?_) (fun h44 => ?_) ?_
      · refine sxo_take (os := _) rfl ?_
        refine sxo_isT (k := 57) rfl h44 ?_
        refine sxo_move rfl rfl rfl ?_
        refine sxo_eql rfl rfl rfl rfl ?_
        refine sxo_pick (b := true) rfl rfl rfl rfl ?_
        refine sxo_again (d := 60) (v := .bool (x43 && ((x16.2 : Int) == 0))) rfl (by rw [h44]; simp only [Bool.true_and]) ?_
        refine sxo_nil ?_
        exact sxq_case (lk_cons rfl (lk_cons rfl (lk_cons rfl (lk_cons rfl lk_nil))))
      · refine sxo_take (os := _) rfl ?_
        refine sxo_isF (k := 57) rfl h44 ?_
        refine sxo_skip rfl rfl rfl ?_
        refine sxo_skip rfl rfl rfl ?_
        refine sxo_pick (b := false) rfl rfl rfl rfl ?_
        refine sxo_again (d := 60) (v := .bool (x43 && ((x16.2 : Int) == 0))) rfl (by rw [h44]; simp only [Bool.false_and]) ?_
        refine sxo_nil ?_
        exact sxq_case (lk_cons rfl (lk_cons rfl (lk_cons rfl (lk_cons rfl lk_nil))))
      refine sxo_take (os := _) rfl ?_
      refine sxo_move rfl rfl rfl ?_
      refine sxo_case 3 (x43 && ((x16.2 : Int) == 0)) [(8, .int .i64 x22.2), (10, .int .i64 x26.2), (64, .bool ((x43 && ((x16.2 : Int) == 0)) && ((x22.1 : Int) == 2)))] (fun h45 => ?_) (fun h45 => ?_) ?_
      · refine sxo_take (os := _) rfl ?_
        refine sxo_isT (k := 61) rfl h45 ?_
        refine sxo_move rfl rfl rfl ?_
        refine sxo_eql rfl rfl rfl rfl ?_
        refine sxo_pick (b := true) rfl rfl rfl rfl ?_
        refine sxo_again (d := 64) (v := .bool ((x43 && ((x16.2 : Int) == 0)) && ((x22.1 : Int) == 2))) rfl (by rw [h45]; simp only [Bool.true_and]) ?_
        refine sxo_nil ?_
        exact sxq_case (lk_cons rfl (lk_cons rfl (lk_cons rfl lk_nil)))
      · refine sxo_take (os := _) rfl ?_
        refine sxo_isF (k := 61) rfl h45 ?_
        refine sxo_skip rfl rfl rfl ?_
        refine sxo_skip rfl rfl rfl ?_
        refine sxo_pick (b := false) rfl rfl rfl rfl ?_
        refine sxo_again (d := 64) (v := .bool ((x43 && ((x16.2 : Int) == 0)) && ((x22.1 : Int) == 2))) rfl (by rw [h45]; simp only [Bool.false_and]) ?_
        refine sxo_nil ?_
        exact sxq_case (lk_cons rfl (lk_cons rfl (lk_cons rfl lk_nil)))
      refine sxo_take (os := _) rfl ?_
      refine sxo_move rfl rfl rfl ?_
      refine sxo_case 3 ((x43 && ((x16.2 : Int) == 0)) && ((x22.1 : Int) == 2)) [(10, .int .i64 x26.2), (68, .bool (((x43 && ((x16.2 : Int) == 0)) && ((x22.1 : Int) == 2)) && ((x22.2 : Int) == 0)))] (fun h46 => ?_) (fun h46 => ?_) ?_
      · refine sxo_take (os := _) rfl ?_
        refine sxo_isT (k := 65) rfl h46 ?_
        refine sxo_move rfl rfl rfl ?_
        refine sxo_eql rfl rfl rfl rfl ?_
        refine sxo_pick (b := true) rfl rfl rfl rfl ?_
        refine sxo_again (d := 68) (v := .bool (((x43 && ((x16.2 : Int) == 0)) && ((x22.1 : Int) == 2)) && ((x22.2 : Int) == 0))) rfl (by rw [h46]; simp only [Bool.true_and]) ?_
        refine sxo_nil ?_
        exact sxq_case (lk_cons rfl (lk_cons rfl lk_nil))
      · refine sxo_take (os := _) rfl ?_
        refine sxo_isF (k := 65) rfl h46 ?_
        refine sxo_skip rfl rfl rfl ?_
        refine sxo_skip rfl rfl rfl ?_
        refine sxo_pick (b := false) rfl rfl rfl rfl ?_
        refine sxo_again (d := 68) (v := .bool (((x43 && ((x16.2 : Int) == 0)) && ((x22.1 : Int) == 2)) && ((x22.2 : Int) == 0))) rfl (by rw [h46]; simp only [Bool.false_and]) ?_
        refine sxo_nil ?_
        exact sxq_case (lk_cons rfl (lk_cons rfl lk_nil))
      refine sxo_take (os := _) rfl ?_
      refine sxo_move rfl rfl rfl ?_
      refine sxo_case 3 (((x43 && ((x16.2 : Int) == 0)) && ((x22.1 : Int) == 2)) && ((x22.2 : Int) == 0)) [(72, .bool ((((x43 && ((x16.2 : Int) == 0)) && ((x22.1 : Int) == 2)) && ((x22.2 : Int) == 0)) && ((x26.2 : Int) == 5)))] (fun h47 => ?_) (fun h47 => ?_) ?_
      · refine sxo_take (os := _) rfl ?_
        refine sxo_isT (k := 69) rfl h47 ?_
        refine sxo_move rfl rfl rfl ?_
        refine sxo_eql rfl rfl rfl rfl ?_
        refine sxo_pick (b := true) rfl rfl rfl rfl ?_
        refine sxo_again (d := 72) (v := .bool ((((x43 && ((x16.2 : Int) == 0)) && ((x22.1 : Int) == 2)) && ((x22.2 : Int) == 0)) && ((x26.2 : Int) == 5))) rfl (by rw [h47]; simp only [Bool.true_and]) ?_
        refine sxo_nil ?_
        exact sxq_case (lk_cons rfl lk_nil)
      · refine sxo_take (os := _) rfl ?_
        refine sxo_isF (k := 69) rfl h47 ?_
        refine sxo_skip rfl rfl rfl ?_
        refine sxo_skip rfl rfl rfl ?_
        refine sxo_pick (b := false) rfl rfl rfl rfl ?_
        refine sxo_again (d := 72) (v := .bool ((((x43 && ((x16.2 : Int) == 0)) && ((x22.1 : Int) == 2)) && ((x22.2 : Int) == 0)) && ((x26.2 : Int) == 5))) rfl (by rw [h47]; simp only [Bool.false_and]) ?_
        refine sxo_nil ?_
        exact sxq_case (lk_cons rfl lk_nil)
      refine sxo_take (os := _) rfl ?_
      refine sxo_assign rfl rfl rfl ?_
      refine sxo_nil ?_
      refine sxq_next ?_
      refine sxc_ret ?_
      exact sxq_doneP () (res1 rfl rfl)

set_option maxHeartbeats 4000000 in
theorem C_L_StrongMore (F : Nat) (x1 : List (List Int)) (a2 : Option Addr) (c3 : (Nat × List (Option Addr × Nat))) (x4 : Int) (x5 : Int) (r : Bool) (hm : M_L_StrongMore F x1 x4 x5 = some r) :
    Pure Try.prog 10 [.agg #[.slice a2 x1.length c3.1], .int .i64 x4, .int .i64 x5] [SlN eN25 iN25 1 (.slice a2 x1.length c3.1) x1 c3.2] Unit (fun _ => .bool r) (fun _ => []) (fun _ => []) := by
  refine pure_of Try.func10 rfl Try.ntmps10 rfl hm (fun w => ?_)
  refine sxc_env (l' := [(0, .agg #[.slice a2 x1.length c3.1]), (1, .int .i64 x4), (2, .int .i64 x5)]) rfl ?_
  refine sxc_seq ?_
  refine sxc_region ?_
  refine sxo_box rfl rfl rfl (fun g6 => ?_)
  refine sxo_assign rfl rfl rfl ?_
  refine sxo_nil ?_
  refine sxq_next ?_
  refine sxc_seq ?_
  refine sxc_region ?_
  refine sxo_loadB (i := 0) rfl rfl tf24 rfl rfl (by simp) rfl rfl ?_
  refine sxo_call ent11 rfl rfl rfl (fun x7 e7 => C_strong_Parts F x1 a2 c3 x7 e7) (.consF 0 rfl .nil) (fun x7 e7 => ?_)
  rintro ⟨a8, c9⟩
  refine sxo_move rfl rfl rfl ?_
  refine sxo_extract rfl rfl rfl rfl ?_
  refine sxo_extract rfl rfl rfl rfl ?_
  refine sxo_assign rfl rfl rfl ?_
  refine sxo_assign rfl rfl rfl ?_
  refine sxo_nil ?_
  refine sxq_next ?_
  refine sxc_seq ?_
  refine sxc_region ?_
  refine sxo_loadB (i := 0) rfl rfl tf24 rfl rfl (by simp) rfl rfl ?_
  refine sxo_callM ent13 rfl rfl rfl (fun x10 e10 => C_strong_Shrink F x1 a2 c3 x10 e10) .nil .nil (.consF 0 rfl .nil) (fun x10 e10 => ?_)
  rintro ⟨⟨a11, c12⟩, ⟨a13, c14⟩⟩
  refine sxo_move rfl rfl rfl ?_
  refine sxo_extract rfl rfl rfl rfl ?_
  refine sxo_extract rfl rfl rfl rfl ?_
  refine sxo_extract rfl rfl rfl rfl ?_
  refine sxo_alloc rfl tf24 rfl (fun g15 => ?_)
  refine sxo_storeB (i := 0) rfl rfl rfl tf24 rfl rfl rfl rfl rfl ?_
  refine sxo_assign rfl rfl rfl ?_
  refine sxo_assign rfl rfl rfl ?_
  refine sxo_nil ?_
  refine sxq_next ?_
  refine sxc_seq ?_
  refine sxc_region ?_
  refine sxo_loadB (i := 1) rfl rfl tf24 rfl rfl (by simp) rfl rfl ?_
  refine sxo_call ent28 rfl rfl rfl (fun x16 e16 => C_graph_Arcs F x1 a2 c3 x16 e16) (.consF 0 rfl .nil) (fun x16 e16 => ?_)
  rintro ⟨a17, c18⟩
  refine sxo_move rfl rfl rfl ?_
  refine sxo_extract rfl rfl rfl rfl ?_
  refine sxo_extract rfl rfl rfl rfl ?_
  refine sxo_assign rfl rfl rfl ?_
  refine sxo_assign rfl rfl rfl ?_
  refine sxo_nil ?_
  refine sxq_next ?_
  refine sxc_seq ?_
  refine sxc_seq ?_
  refine sxc_region ?_
  refine sxo_call ent18 rfl rfl rfl (fun x29 e29 => C_L_strongBegun F  x29 e29) .nil (fun x29 e29 => ?_)
  intro _
  refine sxo_not rfl rfl rfl ?_
  refine sxo_move rfl rfl rfl ?_
  refine sxo_join 3 (fun ((x32, _) : (Bool × Unit)) => [(1, .int .i64 x4), (2, .int .i64 x5), (3, .pointer (some ⟨g6, 0, none⟩)), (7, .slice a8 x7.1.length c9), (8, .int .i64 x7.2), (9, .pointer (some ⟨g15, 0, none⟩)), (11, .int .i64 x10.2.2), (12, .slice a17 x16.1.length c18), (13, .int .i64 x16.2), (46, .bool x32)]) (fun ((x32, _) : (Bool × Unit)) => [⟨g15, 24, [.slice a11 x10.1.length c12.1]⟩, ⟨g6, 24, [.slice a2 x1.length c3.1]⟩]) (fun ((x32, _) : (Bool × Unit)) => [Ro (eI .i64) 3 1 (.slice a8 x7.1.length c9) x7.1, Ro eS48 48 2 (.slice a17 x16.1.length c18) x16.1, RoN eN25 rN25 25 1 (.slice a11 x10.1.length c12.1) x10.1 c12.2 []]) (fun ((x32, _) : (Bool × Unit)) => [SlN eN25 iN25 1 (.slice a2 x1.length c3.1) x1 c3.2]) (fun ((x32, _) : (Bool × Unit)) => M_L_StrongMore_j3 F x1 x4 x5 x7 x10 x16 x32) ?_ ?_
  · refine sxo_take (os := _) rfl ?_
    refine sxo_if (fun h30 => ?_) (fun h30 => ?_)
    · refine sxo_isT (k := 43) rfl h30 ?_
      refine sxo_skip rfl rfl rfl ?_
      refine sxo_skip rfl rfl rfl ?_
      refine sxo_pick (b := true) rfl rfl rfl rfl ?_
      refine sxo_nil ?_
      exact sxq_meetP (true, ()) (hB := (.cons 0 rfl (.cons 0 rfl .nil))) (hR := (.cons 3 rfl (.cons 0 rfl (.cons 0 rfl .nil)))) (hF := (fk_cons 0 rfl fk_nil))
    · refine sxo_isF (k := 43) rfl h30 ?_
      refine sxo_call ent25 rfl rfl rfl (fun x1063 e1063 => C_L_graphBegun F  x1063 e1063) .nil (fun x1063 e1063 => ?_)
      intro _
      refine sxo_not rfl rfl rfl ?_
      refine sxo_pick (b := false) rfl rfl rfl rfl ?_
      refine sxo_nil ?_
      exact sxq_meetP ((!x1063), ()) (hB := (.cons 0 rfl (.cons 0 rfl .nil))) (hR := (.cons 3 rfl (.cons 0 rfl (.cons 0 rfl .nil)))) (hF := (fk_cons 0 rfl fk_nil))
  · rintro ⟨x32, _⟩
    try dsimp only
    refine sxo_take (os := _) rfl ?_
    refine sxo_move rfl rfl rfl ?_
    refine sxo_join 3 (fun ((x35, _) : (Bool × Unit)) => [(1, .int .i64 x4), (2, .int .i64 x5), (3, .pointer (some ⟨g6, 0, none⟩)), (7, .slice a8 x7.1.length c9), (8, .int .i64 x7.2), (9, .pointer (some ⟨g15, 0, none⟩)), (11, .int .i64 x10.2.2), (12, .slice a17 x16.1.length c18), (13, .int .i64 x16.2), (50, .bool x35)]) (fun ((x35, _) : (Bool × Unit)) => [⟨g15, 24, [.slice a11 x10.1.length c12.1]⟩, ⟨g6, 24, [.slice a2 x1.length c3.1]⟩]) (fun ((x35, _) : (Bool × Unit)) => [Ro (eI .i64) 3 1 (.slice a8 x7.1.length c9) x7.1, Ro eS48 48 2 (.slice a17 x16.1.length c18) x16.1, RoN eN25 rN25 25 1 (.slice a11 x10.1.length c12.1) x10.1 c12.2 []]) (fun ((x35, _) : (Bool × Unit)) => [SlN eN25 iN25 1 (.slice a2 x1.length c3.1) x1 c3.2]) (fun ((x35, _) : (Bool × Unit)) => M_L_StrongMore_j4 F x1 x4 x5 x7 x10 x16 x35) ?_ ?_
    · refine sxo_take (os := _) rfl ?_
      refine sxo_if (fun h33 => ?_) (fun h33 => ?_)
      · refine sxo_isT (k := 47) rfl h33 ?_
        refine sxo_skip rfl rfl rfl ?_
        refine sxo_skip rfl rfl rfl ?_
        refine sxo_pick (b := true) rfl rfl rfl rfl ?_
        refine sxo_nil ?_
        exact sxq_meetP (true, ()) (hB := (.cons 0 rfl (.cons 0 rfl .nil))) (hR := (.cons 0 rfl (.cons 0 rfl (.cons 0 rfl .nil)))) (hF := (fk_cons 0 rfl fk_nil))
      · refine sxo_isF (k := 47) rfl h33 ?_
        refine sxo_call ent27 rfl rfl rfl (fun x1062 e1062 => C_L_walkBegun F  x1062 e1062) .nil (fun x1062 e1062 => ?_)
        intro _
        refine sxo_not rfl rfl rfl ?_
        refine sxo_pick (b := false) rfl rfl rfl rfl ?_
        refine sxo_nil ?_
        exact sxq_meetP ((!x1062), ()) (hB := (.cons 0 rfl (.cons 0 rfl .nil))) (hR := (.cons 0 rfl (.cons 0 rfl (.cons 0 rfl .nil)))) (hF := (fk_cons 0 rfl fk_nil))
    · rintro ⟨x35, _⟩
      try dsimp only
      refine sxo_take (os := _) rfl ?_
      refine sxo_nil ?_
      refine sxq_next ?_
      refine sxc_if rfl (fun h1061 => ?_) (fun h1061 => ?_)
      · refine sxc_seq ?_
        refine sxc_region ?_
        refine sxo_assign rfl rfl rfl ?_
        refine sxo_nil ?_
        refine sxq_next ?_
        refine sxc_ret ?_
        refine sxq_thenR ?_
        exact sxq_doneP () (res1 rfl rfl)
      · refine sxc_skip ?_
        refine sxq_next ?_
        refine sxc_seq ?_
        refine sxc_seq ?_
        refine sxc_region ?_
        refine sxo_move rfl rfl rfl ?_
        refine sxo_neq rfl rfl rfl rfl ?_
        refine sxo_move rfl rfl rfl ?_
        refine sxo_case 3 ((x7.2 : Int) != 0) [(1, .int .i64 x4), (2, .int .i64 x5), (3, .pointer (some ⟨g6, 0, none⟩)), (7, .slice a8 x7.1.length c9), (9, .pointer (some ⟨g15, 0, none⟩)), (12, .slice a17 x16.1.length c18), (13, .int .i64 x16.2), (56, .bool (((x7.2 : Int) != 0) || ((x10.2.2 : Int) != 0)))] (fun h39 => ?_) (fun h39 => ?_) ?_
        · refine sxo_take (os := _) rfl ?_
          refine sxo_isT (k := 53) rfl h39 ?_
          refine sxo_skip rfl rfl rfl ?_
          refine sxo_skip rfl rfl rfl ?_
          refine sxo_pick (b := true) rfl rfl rfl rfl ?_
          refine sxo_again (d := 56) (v := .bool (((x7.2 : Int) != 0) || ((x10.2.2 : Int) != 0))) rfl (by rw [h39]; simp only [Bool.true_or]) ?_
          refine sxo_nil ?_
          exact sxq_case (lk_cons rfl (lk_cons rfl (lk_cons rfl (lk_cons rfl (lk_cons rfl (lk_cons rfl (lk_cons rfl (lk_cons rfl lk_nil))))))))
        · refine sxo_take (os := _) rfl ?_
          refine sxo_isF (k := 53) rfl h39 ?_
          refine sxo_move rfl rfl rfl ?_
          refine sxo_neq rfl rfl rfl rfl ?_
          refine sxo_pick (b := false) rfl rfl rfl rfl ?_
          refine sxo_again (d := 56) (v := .bool (((x7.2 : Int) != 0) || ((x10.2.2 : Int) != 0))) rfl (by rw [h39]; simp only [Bool.false_or]) ?_
          refine sxo_nil ?_
          exact sxq_case (lk_cons rfl (lk_cons rfl (lk_cons rfl (lk_cons rfl (lk_cons rfl (lk_cons rfl (lk_cons rfl (lk_cons rfl lk_nil))))))))
        refine sxo_take (os := _) rfl ?_
        refine sxo_move rfl rfl rfl ?_
        refine sxo_case 3 (((x7.2 : Int) != 0) || ((x10.2.2 : Int) != 0)) [(1, .int .i64 x4), (2, .int .i64 x5), (3, .pointer (some ⟨g6, 0, none⟩)), (7, .slice a8 x7.1.length c9), (9, .pointer (some ⟨g15, 0, none⟩)), (12, .slice a17 x16.1.length c18), (60, .bool ((((x7.2 : Int) != 0) || ((x10.2.2 : Int) != 0)) || ((x16.2 : Int) != 0)))] (fun h40 => ?_) (fun h40 => ?_) ?_
        · refine sxo_take (os := _) rfl ?_
          refine sxo_isT (k := 57) rfl h40 ?_
          refine sxo_skip rfl rfl rfl ?_
          refine sxo_skip rfl rfl rfl ?_
          refine sxo_pick (b := true) rfl rfl rfl rfl ?_
          refine sxo_again (d := 60) (v := .bool ((((x7.2 : Int) != 0) || ((x10.2.2 : Int) != 0)) || ((x16.2 : Int) != 0))) rfl (by rw [h40]; simp only [Bool.true_or]) ?_
          refine sxo_nil ?_
          exact sxq_case (lk_cons rfl (lk_cons rfl (lk_cons rfl (lk_cons rfl (lk_cons rfl (lk_cons rfl (lk_cons rfl lk_nil)))))))
        · refine sxo_take (os := _) rfl ?_
          refine sxo_isF (k := 57) rfl h40 ?_
          refine sxo_move rfl rfl rfl ?_
          refine sxo_neq rfl rfl rfl rfl ?_
          refine sxo_pick (b := false) rfl rfl rfl rfl ?_
          refine sxo_again (d := 60) (v := .bool ((((x7.2 : Int) != 0) || ((x10.2.2 : Int) != 0)) || ((x16.2 : Int) != 0))) rfl (by rw [h40]; simp only [Bool.false_or]) ?_
          refine sxo_nil ?_
          exact sxq_case (lk_cons rfl (lk_cons rfl (lk_cons rfl (lk_cons rfl (lk_cons rfl (lk_cons rfl (lk_cons rfl lk_nil)))))))
        refine sxo_take (os := _) rfl ?_
        refine sxo_nil ?_
        refine sxq_next ?_
        refine sxc_if rfl (fun h1060 => ?_) (fun h1060 => ?_)
        · refine sxc_seq ?_
          refine sxc_region ?_
          refine sxo_assign rfl rfl rfl ?_
          refine sxo_nil ?_
          refine sxq_next ?_
          refine sxc_ret ?_
          refine sxq_thenR ?_
          exact sxq_doneP () (res1 rfl rfl)
        · refine sxc_skip ?_
          refine sxq_next ?_
          refine sxc_seq ?_
          refine sxc_region ?_
          refine sxo_loadB (i := 1) rfl rfl tf24 rfl rfl (by simp) rfl rfl ?_
          refine sxo_move rfl rfl rfl ?_
          refine sxo_move rfl rfl rfl ?_
          refine sxo_call ent29 rfl rfl rfl (fun x41 e41 => C_walk_Way F x1 a2 c3 x4 x5 x41 e41) (.consF 0 rfl .nil) (fun x41 e41 => ?_)
          rintro ⟨a42, c43⟩
          refine sxo_move rfl rfl rfl ?_
          refine sxo_extract rfl rfl rfl rfl ?_
          refine sxo_extract rfl rfl rfl rfl ?_
          refine sxo_assign rfl rfl rfl ?_
          refine sxo_assign rfl rfl rfl ?_
          refine sxo_nil ?_
          refine sxq_next ?_
          refine sxc_join (fun (((x220, x223), (g219, a221, c222)) : ((Int × List (List Int)) × (Nat × Option Addr × (Nat × List (Option Addr × Nat))))) => [(1, .int .i64 x4), (7, .slice a8 x7.1.length c9), (9, .pointer (some ⟨g15, 0, none⟩)), (14, .slice a42 x41.1.length c43), (15, .int .i64 x41.2), (16, .pointer (some ⟨g219, 0, none⟩)), (17, .int .i64 x220)]) (fun (((x220, x223), (g219, a221, c222)) : ((Int × List (List Int)) × (Nat × Option Addr × (Nat × List (Option Addr × Nat))))) => [⟨g15, 24, [.slice a11 x10.1.length c12.1]⟩, ⟨g219, 24, [.slice a221 x223.length c222.1]⟩]) (fun (((x220, x223), (g219, a221, c222)) : ((Int × List (List Int)) × (Nat × Option Addr × (Nat × List (Option Addr × Nat))))) => [Ro (eI .i64) 3 1 (.slice a8 x7.1.length c9) x7.1, Ro (eI .i64) 3 1 (.slice a42 x41.1.length c43) x41.1, RoN eN25 rN25 25 1 (.slice a11 x10.1.length c12.1) x10.1 c12.2 [], RoN eN25 rN25 25 1 (.slice a221 x223.length c222.1) x223 c222.2 []]) (fun (((x220, x223), (g219, a221, c222)) : ((Int × List (List Int)) × (Nat × Option Addr × (Nat × List (Option Addr × Nat))))) => []) (fun (((x220, x223), _) : ((Int × List (List Int)) × (Nat × Option Addr × (Nat × List (Option Addr × Nat))))) => M_L_StrongMore_j5 F x4 x7 x10 x41 x220 x223) ?_ ?_
          · refine sxb_draw mixed [] [⟨g15, 24, [.slice a11 x10.1.length c12.1]⟩, ⟨g6, 24, [.slice a2 x1.length c3.1]⟩] [SlN eN25 iN25 1 (.slice a2 x1.length c3.1) x1 c3.2] (.cons 0 rfl (.cons 0 rfl .nil)) (gk_F 0 rfl gk_nil) 18 rfl ?_
            refine sxb_takeP 0 (.pointer (some ⟨g6, 0, none⟩)) rfl rfl rfl (yv_fieldAddr rfl ff24_0) ?_
            refine sxb_takeB 1 (.slice a2 x1.length c3.1) rfl rfl rfl (yv_loadB (i := 1) rfl tf22 rfl rfl (fun _ => rfl) rfl) ?_
            refine sxb_takeP 2 (.int .i64 (x1.length : Int)) rfl rfl rfl (yv_len Try.underlying22 rfl) ?_
            refine sxb_takeP 4 (.slice a17 x16.1.length c18) rfl rfl rfl (yv_pv rfl) ?_
            refine sxb_takeP 6 (.int .i64 x5) rfl rfl rfl (yv_pv rfl) ?_
            refine sxb_takeP 7 (.int .i64 x4) rfl rfl rfl (yv_pv rfl) ?_
            refine sxb_takeP 8 (.agg #[.int .i64 x5, .int .i64 x4]) rfl rfl rfl (yv_build (cells := [.int .i64 x5, .int .i64 x4]) st48 rfl (by kernel_rfl)) ?_
            refine sxb_three 3 9 15 rfl rfl rfl (by kernel_rfl) rfl rfl rfl ?_ ?_ ?_
            · refine sxo_slit (vs := []) (ys := ([] : List (Int × Int))) eS48_ok (by decide) rfl Try.underlying51 tf48 rfl rfl rfl rfl rfl (by decide) (fun a885 c886 => ?_)
              refine sxo_nil ?_
              refine sxq_anyB (.cons 0 rfl (.cons 0 rfl .nil)) (gk_F 0 rfl gk_nil) ?_
              refine sxb_three 5 9 15 rfl rfl rfl (by kernel_rfl) rfl rfl rfl ?_ ?_ ?_
              · refine sxo_app 0 eS48_ok rfl Try.underlying51 tf48 rfl rfl rfl rfl rfl (.inl ⟨3, _, rfl⟩) rfl rfl (fun x887 e887 a888 c889 => ?_)
                refine sxo_nil ?_
                refine sxq_anyB (.cons 0 rfl (.cons 0 rfl .nil)) (gk_F 0 rfl gk_nil) ?_
                refine sxb_two 9 15 rfl rfl (by kernel_rfl) rfl rfl ?_ ?_
                · refine sxo_slit (vs := [.agg #[.int .i64 x5, .int .i64 x4]]) (ys := ([(x5, x4)] : List (Int × Int))) eS48_ok (by decide) rfl Try.underlying51 tf48 rfl rfl rfl rfl rfl (by decide) (fun a890 c891 => ?_)
                  refine sxo_nil ?_
                  refine sxq_anyB (.cons 0 rfl (.cons 0 rfl .nil)) (gk_F 0 rfl gk_nil) ?_
                  refine sxb_two 10 15 rfl rfl (by kernel_rfl) rfl rfl ?_ ?_
                  · refine sxo_app 1 eS48_ok rfl Try.underlying51 tf48 rfl rfl rfl rfl rfl (.inl ⟨0, _, rfl⟩) rfl rfl (fun x892 e892 a893 c894 => ?_)
                    refine sxo_nil ?_
                    refine sxq_anyB (.cons 0 rfl (.cons 0 rfl .nil)) (gk_F 0 rfl gk_nil) ?_
                    refine sxb_two 11 15 rfl rfl (by kernel_rfl) rfl rfl ?_ ?_
                    · refine sxo_call ent30 rfl rfl rfl (fun x895 e895 => C_graph_Of F (x1.length : Int) x892 a893 c894 x895 e895) (.consR 0 (Ro eS48 48 2 (.slice a893 x892.length c894) x892) rfl .nil) (fun x895 e895 => ?_)
                      rintro ⟨a896, c897⟩
                      refine sxo_nil ?_
                      refine sxq_anyB (.cons 0 rfl (.cons 0 rfl .nil)) (gk_F 0 rfl gk_nil) ?_
                      refine sxb_takeP 12 (.tuple #[.agg #[.slice a896 x895.1.length c897.1], .int .i64 x895.2]) rfl rfl rfl (yv_pv rfl) ?_
                      refine sxb_takeP 13 (.agg #[.slice a896 x895.1.length c897.1]) rfl rfl rfl (yv_pv rfl) ?_
                      refine sxb_takeP 14 (.int .i64 x895.2) rfl rfl rfl (yv_pv rfl) ?_
                      refine sxb_step 15 rfl (by kernel_rfl) rfl ?_
                      refine sxo_alloc rfl tf24 rfl (fun g898 => ?_)
                      refine sxo_nil ?_
                      refine sxq_anyB (.cons 1 rfl (.cons 1 rfl .nil)) (gk_F 0 rfl gk_nil) ?_
                      refine sxb_step 16 rfl (by kernel_rfl) rfl ?_
                      refine sxo_storeB (i := 0) rfl rfl rfl tf24 rfl rfl rfl rfl rfl ?_
                      refine sxo_nil ?_
                      refine sxq_anyB (.cons 1 rfl (.cons 1 rfl .nil)) (gk_F 0 rfl gk_nil) ?_
                      refine sxb_takeP 17 (.int .i64 x895.2) rfl rfl rfl (yv_pv rfl) ?_
                      refine sxb_done (by kernel_rfl) ?_
                      refine sxq_np ?_ (by intro c h; cases h)
                      exact sxq_meetP ((x895.2, x895.1), (g898, a896, c897)) (hB := (.cons 1 rfl (.cons 0 rfl .nil))) (hR := (.cons 4 rfl (.cons 3 rfl (.cons 4 rfl (.cons 0 rfl .nil)))))
                    · refine sxo_meq (m' := ((M_graph_Of F (x1.length : Int) x892).bind fun x900 => M_L_StrongMore_j5 F x4 x7 x10 x41 x900.2 x900.1)) (rfl) ?_
                      refine sxo_alloc rfl tf24 rfl (fun g899 => ?_)
                      refine sxo_nil ?_
                      refine sxq_anyB (.cons 1 rfl (.cons 1 rfl .nil)) (gk_F 0 rfl gk_nil) ?_
                      refine sxb_step 11 rfl (by kernel_rfl) rfl ?_
                      refine sxo_call ent30 rfl rfl rfl (fun x900 e900 => C_graph_Of F (x1.length : Int) x892 a893 c894 x900 e900) (.consR 0 (Ro eS48 48 2 (.slice a893 x892.length c894) x892) rfl .nil) (fun x900 e900 => ?_)
                      rintro ⟨a901, c902⟩
                      refine sxo_nil ?_
                      refine sxq_anyB (.cons 1 rfl (.cons 1 rfl .nil)) (gk_F 0 rfl gk_nil) ?_
                      refine sxb_takeP 12 (.tuple #[.agg #[.slice a901 x900.1.length c902.1], .int .i64 x900.2]) rfl rfl rfl (yv_pv rfl) ?_
                      refine sxb_takeP 13 (.agg #[.slice a901 x900.1.length c902.1]) rfl rfl rfl (yv_pv rfl) ?_
                      refine sxb_takeP 14 (.int .i64 x900.2) rfl rfl rfl (yv_pv rfl) ?_
                      refine sxb_step 16 rfl (by kernel_rfl) rfl ?_
                      refine sxo_storeB (i := 0) rfl rfl rfl tf24 rfl rfl rfl rfl rfl ?_
                      refine sxo_nil ?_
                      refine sxq_anyB (.cons 1 rfl (.cons 1 rfl .nil)) (gk_F 0 rfl gk_nil) ?_
                      refine sxb_takeP 17 (.int .i64 x900.2) rfl rfl rfl (yv_pv rfl) ?_
                      refine sxb_done (by kernel_rfl) ?_
                      refine sxq_np ?_ (by intro c h; cases h)
                      exact sxq_meetP ((x900.2, x900.1), (g899, a901, c902)) (hB := (.cons 1 rfl (.cons 0 rfl .nil))) (hR := (.cons 4 rfl (.cons 3 rfl (.cons 4 rfl (.cons 0 rfl .nil)))))
                  · refine sxo_meq (m' := ((app 4398046511104 x887 ([(x5, x4)] : List (Int × Int))).bind fun x904 => ((M_graph_Of F (x1.length : Int) x904).bind fun x907 => M_L_StrongMore_j5 F x4 x7 x10 x41 x907.2 x907.1))) (rfl) ?_
                    refine sxo_alloc rfl tf24 rfl (fun g903 => ?_)
                    refine sxo_nil ?_
                    refine sxq_anyB (.cons 1 rfl (.cons 1 rfl .nil)) (gk_F 0 rfl gk_nil) ?_
                    refine sxb_step 10 rfl (by kernel_rfl) rfl ?_
                    refine sxo_app 1 eS48_ok rfl Try.underlying51 tf48 rfl rfl rfl rfl rfl (.inl ⟨0, _, rfl⟩) rfl rfl (fun x904 e904 a905 c906 => ?_)
                    refine sxo_nil ?_
                    refine sxq_anyB (.cons 1 rfl (.cons 1 rfl .nil)) (gk_F 0 rfl gk_nil) ?_
                    refine sxb_step 11 rfl (by kernel_rfl) rfl ?_
                    refine sxo_call ent30 rfl rfl rfl (fun x907 e907 => C_graph_Of F (x1.length : Int) x904 a905 c906 x907 e907) (.consR 0 (Ro eS48 48 2 (.slice a905 x904.length c906) x904) rfl .nil) (fun x907 e907 => ?_)
                    rintro ⟨a908, c909⟩
                    refine sxo_nil ?_
                    refine sxq_anyB (.cons 1 rfl (.cons 1 rfl .nil)) (gk_F 0 rfl gk_nil) ?_
                    refine sxb_takeP 12 (.tuple #[.agg #[.slice a908 x907.1.length c909.1], .int .i64 x907.2]) rfl rfl rfl (yv_pv rfl) ?_
                    refine sxb_takeP 13 (.agg #[.slice a908 x907.1.length c909.1]) rfl rfl rfl (yv_pv rfl) ?_
                    refine sxb_takeP 14 (.int .i64 x907.2) rfl rfl rfl (yv_pv rfl) ?_
                    refine sxb_step 16 rfl (by kernel_rfl) rfl ?_
                    refine sxo_storeB (i := 0) rfl rfl rfl tf24 rfl rfl rfl rfl rfl ?_
                    refine sxo_nil ?_
                    refine sxq_anyB (.cons 1 rfl (.cons 1 rfl .nil)) (gk_F 0 rfl gk_nil) ?_
                    refine sxb_takeP 17 (.int .i64 x907.2) rfl rfl rfl (yv_pv rfl) ?_
                    refine sxb_done (by kernel_rfl) ?_
                    refine sxq_np ?_ (by intro c h; cases h)
                    exact sxq_meetP ((x907.2, x907.1), (g903, a908, c909)) (hB := (.cons 1 rfl (.cons 0 rfl .nil))) (hR := (.cons 4 rfl (.cons 3 rfl (.cons 4 rfl (.cons 0 rfl .nil)))))
                · refine sxo_meq (m' := ((app 4398046511104 x887 ([(x5, x4)] : List (Int × Int))).bind fun x913 => ((M_graph_Of F (x1.length : Int) x913).bind fun x916 => M_L_StrongMore_j5 F x4 x7 x10 x41 x916.2 x916.1))) (rfl) ?_
                  refine sxo_alloc rfl tf24 rfl (fun g910 => ?_)
                  refine sxo_nil ?_
                  refine sxq_anyB (.cons 1 rfl (.cons 1 rfl .nil)) (gk_F 0 rfl gk_nil) ?_
                  refine sxb_step 9 rfl (by kernel_rfl) rfl ?_
                  refine sxo_slit (vs := [.agg #[.int .i64 x5, .int .i64 x4]]) (ys := ([(x5, x4)] : List (Int × Int))) eS48_ok (by decide) rfl Try.underlying51 tf48 rfl rfl rfl rfl rfl (by decide) (fun a911 c912 => ?_)
                  refine sxo_nil ?_
                  refine sxq_anyB (.cons 1 rfl (.cons 1 rfl .nil)) (gk_F 0 rfl gk_nil) ?_
                  refine sxb_step 10 rfl (by kernel_rfl) rfl ?_
                  refine sxo_app 1 eS48_ok rfl Try.underlying51 tf48 rfl rfl rfl rfl rfl (.inl ⟨0, _, rfl⟩) rfl rfl (fun x913 e913 a914 c915 => ?_)
                  refine sxo_nil ?_
                  refine sxq_anyB (.cons 1 rfl (.cons 1 rfl .nil)) (gk_F 0 rfl gk_nil) ?_
                  refine sxb_step 11 rfl (by kernel_rfl) rfl ?_
                  refine sxo_call ent30 rfl rfl rfl (fun x916 e916 => C_graph_Of F (x1.length : Int) x913 a914 c915 x916 e916) (.consR 0 (Ro eS48 48 2 (.slice a914 x913.length c915) x913) rfl .nil) (fun x916 e916 => ?_)
                  rintro ⟨a917, c918⟩
                  refine sxo_nil ?_
                  refine sxq_anyB (.cons 1 rfl (.cons 1 rfl .nil)) (gk_F 0 rfl gk_nil) ?_
                  refine sxb_takeP 12 (.tuple #[.agg #[.slice a917 x916.1.length c918.1], .int .i64 x916.2]) rfl rfl rfl (yv_pv rfl) ?_
                  refine sxb_takeP 13 (.agg #[.slice a917 x916.1.length c918.1]) rfl rfl rfl (yv_pv rfl) ?_
                  refine sxb_takeP 14 (.int .i64 x916.2) rfl rfl rfl (yv_pv rfl) ?_
                  refine sxb_step 16 rfl (by kernel_rfl) rfl ?_
                  refine sxo_storeB (i := 0) rfl rfl rfl tf24 rfl rfl rfl rfl rfl ?_
                  refine sxo_nil ?_
                  refine sxq_anyB (.cons 1 rfl (.cons 1 rfl .nil)) (gk_F 0 rfl gk_nil) ?_
                  refine sxb_takeP 17 (.int .i64 x916.2) rfl rfl rfl (yv_pv rfl) ?_
                  refine sxb_done (by kernel_rfl) ?_
                  refine sxq_np ?_ (by intro c h; cases h)
                  exact sxq_meetP ((x916.2, x916.1), (g910, a917, c918)) (hB := (.cons 1 rfl (.cons 0 rfl .nil))) (hR := (.cons 4 rfl (.cons 3 rfl (.cons 4 rfl (.cons 0 rfl .nil)))))
              · refine sxo_meq (m' := ((app 4398046511104 ([] : List (Int × Int)) x16.1).bind fun x921 => ((app 4398046511104 x921 ([(x5, x4)] : List (Int × Int))).bind fun x924 => ((M_graph_Of F (x1.length : Int) x924).bind fun x927 => M_L_StrongMore_j5 F x4 x7 x10 x41 x927.2 x927.1)))) (rfl) ?_
                refine sxo_slit (vs := [.agg #[.int .i64 x5, .int .i64 x4]]) (ys := ([(x5, x4)] : List (Int × Int))) eS48_ok (by decide) rfl Try.underlying51 tf48 rfl rfl rfl rfl rfl (by decide) (fun a919 c920 => ?_)
                refine sxo_nil ?_
                refine sxq_anyB (.cons 0 rfl (.cons 0 rfl .nil)) (gk_F 0 rfl gk_nil) ?_
                refine sxb_two 5 15 rfl rfl (by kernel_rfl) rfl rfl ?_ ?_
                · refine sxo_app 1 eS48_ok rfl Try.underlying51 tf48 rfl rfl rfl rfl rfl (.inl ⟨4, _, rfl⟩) rfl rfl (fun x921 e921 a922 c923 => ?_)
                  refine sxo_nil ?_
                  refine sxq_anyB (.cons 0 rfl (.cons 0 rfl .nil)) (gk_F 0 rfl gk_nil) ?_
                  refine sxb_two 10 15 rfl rfl (by kernel_rfl) rfl rfl ?_ ?_
                  · refine sxo_app 0 eS48_ok rfl Try.underlying51 tf48 rfl rfl rfl rfl rfl (.inl ⟨1, _, rfl⟩) rfl rfl (fun x924 e924 a925 c926 => ?_)
                    refine sxo_nil ?_
                    refine sxq_anyB (.cons 0 rfl (.cons 0 rfl .nil)) (gk_F 0 rfl gk_nil) ?_
                    refine sxb_two 11 15 rfl rfl (by kernel_rfl) rfl rfl ?_ ?_
                    · refine sxo_call ent30 rfl rfl rfl (fun x927 e927 => C_graph_Of F (x1.length : Int) x924 a925 c926 x927 e927) (.consR 0 (Ro eS48 48 2 (.slice a925 x924.length c926) x924) rfl .nil) (fun x927 e927 => ?_)
                      rintro ⟨a928, c929⟩
                      refine sxo_nil ?_
                      refine sxq_anyB (.cons 0 rfl (.cons 0 rfl .nil)) (gk_F 0 rfl gk_nil) ?_
                      refine sxb_takeP 12 (.tuple #[.agg #[.slice a928 x927.1.length c929.1], .int .i64 x927.2]) rfl rfl rfl (yv_pv rfl) ?_
                      refine sxb_takeP 13 (.agg #[.slice a928 x927.1.length c929.1]) rfl rfl rfl (yv_pv rfl) ?_
                      refine sxb_takeP 14 (.int .i64 x927.2) rfl rfl rfl (yv_pv rfl) ?_
                      refine sxb_step 15 rfl (by kernel_rfl) rfl ?_
                      refine sxo_alloc rfl tf24 rfl (fun g930 => ?_)
                      refine sxo_nil ?_
                      refine sxq_anyB (.cons 1 rfl (.cons 1 rfl .nil)) (gk_F 0 rfl gk_nil) ?_
                      refine sxb_step 16 rfl (by kernel_rfl) rfl ?_
                      refine sxo_storeB (i := 0) rfl rfl rfl tf24 rfl rfl rfl rfl rfl ?_
                      refine sxo_nil ?_
                      refine sxq_anyB (.cons 1 rfl (.cons 1 rfl .nil)) (gk_F 0 rfl gk_nil) ?_
                      refine sxb_takeP 17 (.int .i64 x927.2) rfl rfl rfl (yv_pv rfl) ?_
                      refine sxb_done (by kernel_rfl) ?_
                      refine sxq_np ?_ (by intro c h; cases h)
                      exact sxq_meetP ((x927.2, x927.1), (g930, a928, c929)) (hB := (.cons 1 rfl (.cons 0 rfl .nil))) (hR := (.cons 4 rfl (.cons 3 rfl (.cons 4 rfl (.cons 0 rfl .nil)))))
                    · refine sxo_meq (m' := ((M_graph_Of F (x1.length : Int) x924).bind fun x932 => M_L_StrongMore_j5 F x4 x7 x10 x41 x932.2 x932.1)) (rfl) ?_
                      refine sxo_alloc rfl tf24 rfl (fun g931 => ?_)
                      refine sxo_nil ?_
                      refine sxq_anyB (.cons 1 rfl (.cons 1 rfl .nil)) (gk_F 0 rfl gk_nil) ?_
                      refine sxb_step 11 rfl (by kernel_rfl) rfl ?_
                      refine sxo_call ent30 rfl rfl rfl (fun x932 e932 => C_graph_Of F (x1.length : Int) x924 a925 c926 x932 e932) (.consR 0 (Ro eS48 48 2 (.slice a925 x924.length c926) x924) rfl .nil) (fun x932 e932 => ?_)
                      rintro ⟨a933, c934⟩
                      refine sxo_nil ?_
                      refine sxq_anyB (.cons 1 rfl (.cons 1 rfl .nil)) (gk_F 0 rfl gk_nil) ?_
                      refine sxb_takeP 12 (.tuple #[.agg #[.slice a933 x932.1.length c934.1], .int .i64 x932.2]) rfl rfl rfl (yv_pv rfl) ?_
                      refine sxb_takeP 13 (.agg #[.slice a933 x932.1.length c934.1]) rfl rfl rfl (yv_pv rfl) ?_
                      refine sxb_takeP 14 (.int .i64 x932.2) rfl rfl rfl (yv_pv rfl) ?_
                      refine sxb_step 16 rfl (by kernel_rfl) rfl ?_
                      refine sxo_storeB (i := 0) rfl rfl rfl tf24 rfl rfl rfl rfl rfl ?_
                      refine sxo_nil ?_
                      refine sxq_anyB (.cons 1 rfl (.cons 1 rfl .nil)) (gk_F 0 rfl gk_nil) ?_
                      refine sxb_takeP 17 (.int .i64 x932.2) rfl rfl rfl (yv_pv rfl) ?_
                      refine sxb_done (by kernel_rfl) ?_
                      refine sxq_np ?_ (by intro c h; cases h)
                      exact sxq_meetP ((x932.2, x932.1), (g931, a933, c934)) (hB := (.cons 1 rfl (.cons 0 rfl .nil))) (hR := (.cons 4 rfl (.cons 3 rfl (.cons 4 rfl (.cons 0 rfl .nil)))))
                  · refine sxo_meq (m' := ((app 4398046511104 x921 ([(x5, x4)] : List (Int × Int))).bind fun x936 => ((M_graph_Of F (x1.length : Int) x936).bind fun x939 => M_L_StrongMore_j5 F x4 x7 x10 x41 x939.2 x939.1))) (rfl) ?_
                    refine sxo_alloc rfl tf24 rfl (fun g935 => ?_)
                    refine sxo_nil ?_
                    refine sxq_anyB (.cons 1 rfl (.cons 1 rfl .nil)) (gk_F 0 rfl gk_nil) ?_
                    refine sxb_step 10 rfl (by kernel_rfl) rfl ?_
                    refine sxo_app 0 eS48_ok rfl Try.underlying51 tf48 rfl rfl rfl rfl rfl (.inl ⟨1, _, rfl⟩) rfl rfl (fun x936 e936 a937 c938 => ?_)
                    refine sxo_nil ?_
                    refine sxq_anyB (.cons 1 rfl (.cons 1 rfl .nil)) (gk_F 0 rfl gk_nil) ?_
                    refine sxb_step 11 rfl (by kernel_rfl) rfl ?_
                    refine sxo_call ent30 rfl rfl rfl (fun x939 e939 => C_graph_Of F (x1.length : Int) x936 a937 c938 x939 e939) (.consR 0 (Ro eS48 48 2 (.slice a937 x936.length c938) x936) rfl .nil) (fun x939 e939 => ?_)
                    rintro ⟨a940, c941⟩
                    refine sxo_nil ?_
                    refine sxq_anyB (.cons 1 rfl (.cons 1 rfl .nil)) (gk_F 0 rfl gk_nil) ?_
                    refine sxb_takeP 12 (.tuple #[.agg #[.slice a940 x939.1.length c941.1], .int .i64 x939.2]) rfl rfl rfl (yv_pv rfl) ?_
                    refine sxb_takeP 13 (.agg #[.slice a940 x939.1.length c941.1]) rfl rfl rfl (yv_pv rfl) ?_
                    refine sxb_takeP 14 (.int .i64 x939.2) rfl rfl rfl (yv_pv rfl) ?_
                    refine sxb_step 16 rfl (by kernel_rfl) rfl ?_
                    refine sxo_storeB (i := 0) rfl rfl rfl tf24 rfl rfl rfl rfl rfl ?_
                    refine sxo_nil ?_
                    refine sxq_anyB (.cons 1 rfl (.cons 1 rfl .nil)) (gk_F 0 rfl gk_nil) ?_
                    refine sxb_takeP 17 (.int .i64 x939.2) rfl rfl rfl (yv_pv rfl) ?_
                    refine sxb_done (by kernel_rfl) ?_
                    refine sxq_np ?_ (by intro c h; cases h)
                    exact sxq_meetP ((x939.2, x939.1), (g935, a940, c941)) (hB := (.cons 1 rfl (.cons 0 rfl .nil))) (hR := (.cons 4 rfl (.cons 3 rfl (.cons 4 rfl (.cons 0 rfl .nil)))))
                · refine sxo_meq (m' := ((app 4398046511104 ([] : List (Int × Int)) x16.1).bind fun x943 => ((app 4398046511104 x943 ([(x5, x4)] : List (Int × Int))).bind fun x946 => ((M_graph_Of F (x1.length : Int) x946).bind fun x949 => M_L_StrongMore_j5 F x4 x7 x10 x41 x949.2 x949.1)))) (rfl) ?_
                  refine sxo_alloc rfl tf24 rfl (fun g942 => ?_)
                  refine sxo_nil ?_
                  refine sxq_anyB (.cons 1 rfl (.cons 1 rfl .nil)) (gk_F 0 rfl gk_nil) ?_
                  refine sxb_step 5 rfl (by kernel_rfl) rfl ?_
                  refine sxo_app 1 eS48_ok rfl Try.underlying51 tf48 rfl rfl rfl rfl rfl (.inl ⟨4, _, rfl⟩) rfl rfl (fun x943 e943 a944 c945 => ?_)
                  refine sxo_nil ?_
                  refine sxq_anyB (.cons 1 rfl (.cons 1 rfl .nil)) (gk_F 0 rfl gk_nil) ?_
                  refine sxb_step 10 rfl (by kernel_rfl) rfl ?_
                  refine sxo_app 0 eS48_ok rfl Try.underlying51 tf48 rfl rfl rfl rfl rfl (.inl ⟨1, _, rfl⟩) rfl rfl (fun x946 e946 a947 c948 => ?_)
                  refine sxo_nil ?_
                  refine sxq_anyB (.cons 1 rfl (.cons 1 rfl .nil)) (gk_F 0 rfl gk_nil) ?_
                  refine sxb_step 11 rfl (by kernel_rfl) rfl ?_
                  refine sxo_call ent30 rfl rfl rfl (fun x949 e949 => C_graph_Of F (x1.length : Int) x946 a947 c948 x949 e949) (.consR 0 (Ro eS48 48 2 (.slice a947 x946.length c948) x946) rfl .nil) (fun x949 e949 => ?_)
                  rintro ⟨a950, c951⟩
                  refine sxo_nil ?_
                  refine sxq_anyB (.cons 1 rfl (.cons 1 rfl .nil)) (gk_F 0 rfl gk_nil) ?_
                  refine sxb_takeP 12 (.tuple #[.agg #[.slice a950 x949.1.length c951.1], .int .i64 x949.2]) rfl rfl rfl (yv_pv rfl) ?_
                  refine sxb_takeP 13 (.agg #[.slice a950 x949.1.length c951.1]) rfl rfl rfl (yv_pv rfl) ?_
                  refine sxb_takeP 14 (.int .i64 x949.2) rfl rfl rfl (yv_pv rfl) ?_
                  refine sxb_step 16 rfl (by kernel_rfl) rfl ?_
                  refine sxo_storeB (i := 0) rfl rfl rfl tf24 rfl rfl rfl rfl rfl ?_
                  refine sxo_nil ?_
                  refine sxq_anyB (.cons 1 rfl (.cons 1 rfl .nil)) (gk_F 0 rfl gk_nil) ?_
                  refine sxb_takeP 17 (.int .i64 x949.2) rfl rfl rfl (yv_pv rfl) ?_
                  refine sxb_done (by kernel_rfl) ?_
                  refine sxq_np ?_ (by intro c h; cases h)
                  exact sxq_meetP ((x949.2, x949.1), (g942, a950, c951)) (hB := (.cons 1 rfl (.cons 0 rfl .nil))) (hR := (.cons 4 rfl (.cons 3 rfl (.cons 4 rfl (.cons 0 rfl .nil)))))
              · refine sxo_meq (m' := ((app 4398046511104 ([] : List (Int × Int)) x16.1).bind fun x953 => ((app 4398046511104 x953 ([(x5, x4)] : List (Int × Int))).bind fun x958 => ((M_graph_Of F (x1.length : Int) x958).bind fun x961 => M_L_StrongMore_j5 F x4 x7 x10 x41 x961.2 x961.1)))) (rfl) ?_
                refine sxo_alloc rfl tf24 rfl (fun g952 => ?_)
                refine sxo_nil ?_
                refine sxq_anyB (.cons 1 rfl (.cons 1 rfl .nil)) (gk_F 0 rfl gk_nil) ?_
                refine sxb_two 5 9 rfl rfl (by kernel_rfl) rfl rfl ?_ ?_
                · refine sxo_app 0 eS48_ok rfl Try.underlying51 tf48 rfl rfl rfl rfl rfl (.inl ⟨3, _, rfl⟩) rfl rfl (fun x953 e953 a954 c955 => ?_)
                  refine sxo_nil ?_
                  refine sxq_anyB (.cons 1 rfl (.cons 1 rfl .nil)) (gk_F 0 rfl gk_nil) ?_
                  refine sxb_step 9 rfl (by kernel_rfl) rfl ?_
                  refine sxo_slit (vs := [.agg #[.int .i64 x5, .int .i64 x4]]) (ys := ([(x5, x4)] : List (Int × Int))) eS48_ok (by decide) rfl Try.underlying51 tf48 rfl rfl rfl rfl rfl (by decide) (fun a956 c957 => ?_)
                  refine sxo_nil ?_
                  refine sxq_anyB (.cons 1 rfl (.cons 1 rfl .nil)) (gk_F 0 rfl gk_nil) ?_
                  refine sxb_step 10 rfl (by kernel_rfl) rfl ?_
                  refine sxo_app 1 eS48_ok rfl Try.underlying51 tf48 rfl rfl rfl rfl rfl (.inl ⟨0, _, rfl⟩) rfl rfl (fun x958 e958 a959 c960 => ?_)
                  refine sxo_nil ?_
                  refine sxq_anyB (.cons 1 rfl (.cons 1 rfl .nil)) (gk_F 0 rfl gk_nil) ?_
                  refine sxb_step 11 rfl (by kernel_rfl) rfl ?_
                  refine sxo_call ent30 rfl rfl rfl (fun x961 e961 => C_graph_Of F (x1.length : Int) x958 a959 c960 x961 e961) (.consR 0 (Ro eS48 48 2 (.slice a959 x958.length c960) x958) rfl .nil) (fun x961 e961 => ?_)
                  rintro ⟨a962, c963⟩
                  refine sxo_nil ?_
                  refine sxq_anyB (.cons 1 rfl (.cons 1 rfl .nil)) (gk_F 0 rfl gk_nil) ?_
                  refine sxb_takeP 12 (.tuple #[.agg #[.slice a962 x961.1.length c963.1], .int .i64 x961.2]) rfl rfl rfl (yv_pv rfl) ?_
                  refine sxb_takeP 13 (.agg #[.slice a962 x961.1.length c963.1]) rfl rfl rfl (yv_pv rfl) ?_
                  refine sxb_takeP 14 (.int .i64 x961.2) rfl rfl rfl (yv_pv rfl) ?_
                  refine sxb_step 16 rfl (by kernel_rfl) rfl ?_
                  refine sxo_storeB (i := 0) rfl rfl rfl tf24 rfl rfl rfl rfl rfl ?_
                  refine sxo_nil ?_
                  refine sxq_anyB (.cons 1 rfl (.cons 1 rfl .nil)) (gk_F 0 rfl gk_nil) ?_
                  refine sxb_takeP 17 (.int .i64 x961.2) rfl rfl rfl (yv_pv rfl) ?_
                  refine sxb_done (by kernel_rfl) ?_
                  refine sxq_np ?_ (by intro c h; cases h)
                  exact sxq_meetP ((x961.2, x961.1), (g952, a962, c963)) (hB := (.cons 1 rfl (.cons 0 rfl .nil))) (hR := (.cons 4 rfl (.cons 3 rfl (.cons 4 rfl (.cons 0 rfl .nil)))))
                · refine sxo_meq (m' := ((app 4398046511104 ([] : List (Int × Int)) x16.1).bind fun x966 => ((app 4398046511104 x966 ([(x5, x4)] : List (Int × Int))).bind fun x969 => ((M_graph_Of F (x1.length : Int) x969).bind fun x972 => M_L_StrongMore_j5 F x4 x7 x10 x41 x972.2 x972.1)))) (rfl) ?_
                  refine sxo_slit (vs := [.agg #[.int .i64 x5, .int .i64 x4]]) (ys := ([(x5, x4)] : List (Int × Int))) eS48_ok (by decide) rfl Try.underlying51 tf48 rfl rfl rfl rfl rfl (by decide) (fun a964 c965 => ?_)
                  refine sxo_nil ?_
                  refine sxq_anyB (.cons 1 rfl (.cons 1 rfl .nil)) (gk_F 0 rfl gk_nil) ?_
                  refine sxb_step 5 rfl (by kernel_rfl) rfl ?_
                  refine sxo_app 1 eS48_ok rfl Try.underlying51 tf48 rfl rfl rfl rfl rfl (.inl ⟨4, _, rfl⟩) rfl rfl (fun x966 e966 a967 c968 => ?_)
                  refine sxo_nil ?_
                  refine sxq_anyB (.cons 1 rfl (.cons 1 rfl .nil)) (gk_F 0 rfl gk_nil) ?_
                  refine sxb_step 10 rfl (by kernel_rfl) rfl ?_
                  refine sxo_app 0 eS48_ok rfl Try.underlying51 tf48 rfl rfl rfl rfl rfl (.inl ⟨1, _, rfl⟩) rfl rfl (fun x969 e969 a970 c971 => ?_)
                  refine sxo_nil ?_
                  refine sxq_anyB (.cons 1 rfl (.cons 1 rfl .nil)) (gk_F 0 rfl gk_nil) ?_
                  refine sxb_step 11 rfl (by kernel_rfl) rfl ?_
                  refine sxo_call ent30 rfl rfl rfl (fun x972 e972 => C_graph_Of F (x1.length : Int) x969 a970 c971 x972 e972) (.consR 0 (Ro eS48 48 2 (.slice a970 x969.length c971) x969) rfl .nil) (fun x972 e972 => ?_)
                  rintro ⟨a973, c974⟩
                  refine sxo_nil ?_
                  refine sxq_anyB (.cons 1 rfl (.cons 1 rfl .nil)) (gk_F 0 rfl gk_nil) ?_
                  refine sxb_takeP 12 (.tuple #[.agg #[.slice a973 x972.1.length c974.1], .int .i64 x972.2]) rfl rfl rfl (yv_pv rfl) ?_
                  refine sxb_takeP 13 (.agg #[.slice a973 x972.1.length c974.1]) rfl rfl rfl (yv_pv rfl) ?_
                  refine sxb_takeP 14 (.int .i64 x972.2) rfl rfl rfl (yv_pv rfl) ?_
                  refine sxb_step 16 rfl (by kernel_rfl) rfl ?_
                  refine sxo_storeB (i := 0) rfl rfl rfl tf24 rfl rfl rfl rfl rfl ?_
                  refine sxo_nil ?_
                  refine sxq_anyB (.cons 1 rfl (.cons 1 rfl .nil)) (gk_F 0 rfl gk_nil) ?_
                  refine sxb_takeP 17 (.int .i64 x972.2) rfl rfl rfl (yv_pv rfl) ?_
                  refine sxb_done (by kernel_rfl) ?_
                  refine sxq_np ?_ (by intro c h; cases h)
                  exact sxq_meetP ((x972.2, x972.1), (g952, a973, c974)) (hB := (.cons 1 rfl (.cons 0 rfl .nil))) (hR := (.cons 4 rfl (.cons 3 rfl (.cons 4 rfl (.cons 0 rfl .nil)))))
            · refine sxo_meq (m' := ((app 4398046511104 ([] : List (Int × Int)) x16.1).bind fun x979 => ((app 4398046511104 x979 ([(x5, x4)] : List (Int × Int))).bind fun x982 => ((M_graph_Of F (x1.length : Int) x982).bind fun x985 => M_L_StrongMore_j5 F x4 x7 x10 x41 x985.2 x985.1)))) (rfl) ?_
              refine sxo_slit (vs := [.agg #[.int .i64 x5, .int .i64 x4]]) (ys := ([(x5, x4)] : List (Int × Int))) eS48_ok (by decide) rfl Try.underlying51 tf48 rfl rfl rfl rfl rfl (by decide) (fun a975 c976 => ?_)
              refine sxo_nil ?_
              refine sxq_anyB (.cons 0 rfl (.cons 0 rfl .nil)) (gk_F 0 rfl gk_nil) ?_
              refine sxb_two 3 15 rfl rfl (by kernel_rfl) rfl rfl ?_ ?_
              · refine sxo_slit (vs := []) (ys := ([] : List (Int × Int))) eS48_ok (by decide) rfl Try.underlying51 tf48 rfl rfl rfl rfl rfl (by decide) (fun a977 c978 => ?_)
                refine sxo_nil ?_
                refine sxq_anyB (.cons 0 rfl (.cons 0 rfl .nil)) (gk_F 0 rfl gk_nil) ?_
                refine sxb_two 5 15 rfl rfl (by kernel_rfl) rfl rfl ?_ ?_
                · refine sxo_app 0 eS48_ok rfl Try.underlying51 tf48 rfl rfl rfl rfl rfl (.inl ⟨4, _, rfl⟩) rfl rfl (fun x979 e979 a980 c981 => ?_)
                  refine sxo_nil ?_
                  refine sxq_anyB (.cons 0 rfl (.cons 0 rfl .nil)) (gk_F 0 rfl gk_nil) ?_
                  refine sxb_two 10 15 rfl rfl (by kernel_rfl) rfl rfl ?_ ?_
                  · refine sxo_app 0 eS48_ok rfl Try.underlying51 tf48 rfl rfl rfl rfl rfl (.inl ⟨1, _, rfl⟩) rfl rfl (fun x982 e982 a983 c984 => ?_)
                    refine sxo_nil ?_
                    refine sxq_anyB (.cons 0 rfl (.cons 0 rfl .nil)) (gk_F 0 rfl gk_nil) ?_
                    refine sxb_two 11 15 rfl rfl (by kernel_rfl) rfl rfl ?_ ?_
                    · refine sxo_call ent30 rfl rfl rfl (fun x985 e985 => C_graph_Of F (x1.length : Int) x982 a983 c984 x985 e985) (.consR 0 (Ro eS48 48 2 (.slice a983 x982.length c984) x982) rfl .nil) (fun x985 e985 => ?_)
                      rintro ⟨a986, c987⟩
                      refine sxo_nil ?_
                      refine sxq_anyB (.cons 0 rfl (.cons 0 rfl .nil)) (gk_F 0 rfl gk_nil) ?_
                      refine sxb_takeP 12 (.tuple #[.agg #[.slice a986 x985.1.length c987.1], .int .i64 x985.2]) rfl rfl rfl (yv_pv rfl) ?_
                      refine sxb_takeP 13 (.agg #[.slice a986 x985.1.length c987.1]) rfl rfl rfl (yv_pv rfl) ?_
                      refine sxb_takeP 14 (.int .i64 x985.2) rfl rfl rfl (yv_pv rfl) ?_
                      refine sxb_step 15 rfl (by kernel_rfl) rfl ?_
                      refine sxo_alloc rfl tf24 rfl (fun g988 => ?_)
                      refine sxo_nil ?_
                      refine sxq_anyB (.cons 1 rfl (.cons 1 rfl .nil)) (gk_F 0 rfl gk_nil) ?_
                      refine sxb_step 16 rfl (by kernel_rfl) rfl ?_
                      refine sxo_storeB (i := 0) rfl rfl rfl tf24 rfl rfl rfl rfl rfl ?_
                      refine sxo_nil ?_
                      refine sxq_anyB (.cons 1 rfl (.cons 1 rfl .nil)) (gk_F 0 rfl gk_nil) ?_
                      refine sxb_takeP 17 (.int .i64 x985.2) rfl rfl rfl (yv_pv rfl) ?_
                      refine sxb_done (by kernel_rfl) ?_
                      refine sxq_np ?_ (by intro c h; cases h)
                      exact sxq_meetP ((x985.2, x985.1), (g988, a986, c987)) (hB := (.cons 1 rfl (.cons 0 rfl .nil))) (hR := (.cons 4 rfl (.cons 3 rfl (.cons 4 rfl (.cons 0 rfl .nil)))))
                    · refine sxo_meq (m' := ((M_graph_Of F (x1.length : Int) x982).bind fun x990 => M_L_StrongMore_j5 F x4 x7 x10 x41 x990.2 x990.1)) (rfl) ?_
                      refine sxo_alloc rfl tf24 rfl (fun g989 => ?_)
                      refine sxo_nil ?_
                      refine sxq_anyB (.cons 1 rfl (.cons 1 rfl .nil)) (gk_F 0 rfl gk_nil) ?_
                      refine sxb_step 11 rfl (by kernel_rfl) rfl ?_
                      refine sxo_call ent30 rfl rfl rfl (fun x990 e990 => C_graph_Of F (x1.length : Int) x982 a983 c984 x990 e990) (.consR 0 (Ro eS48 48 2 (.slice a983 x982.length c984) x982) rfl .nil) (fun x990 e990 => ?_)
                      rintro ⟨a991, c992⟩
                      refine sxo_nil ?_
                      refine sxq_anyB (.cons 1 rfl (.cons 1 rfl .nil)) (gk_F 0 rfl gk_nil) ?_
                      refine sxb_takeP 12 (.tuple #[.agg #[.slice a991 x990.1.length c992.1], .int .i64 x990.2]) rfl rfl rfl (yv_pv rfl) ?_
                      refine sxb_takeP 13 (.agg #[.slice a991 x990.1.length c992.1]) rfl rfl rfl (yv_pv rfl) ?_
                      refine sxb_takeP 14 (.int .i64 x990.2) rfl rfl rfl (yv_pv rfl) ?_
                      refine sxb_step 16 rfl (by kernel_rfl) rfl ?_
                      refine sxo_storeB (i := 0) rfl rfl rfl tf24 rfl rfl rfl rfl rfl ?_
                      refine sxo_nil ?_
                      refine sxq_anyB (.cons 1 rfl (.cons 1 rfl .nil)) (gk_F 0 rfl gk_nil) ?_
                      refine sxb_takeP 17 (.int .i64 x990.2) rfl rfl rfl (yv_pv rfl) ?_
                      refine sxb_done (by kernel_rfl) ?_
                      refine sxq_np ?_ (by intro c h; cases h)
                      exact sxq_meetP ((x990.2, x990.1), (g989, a991, c992)) (hB := (.cons 1 rfl (.cons 0 rfl .nil))) (hR := (.cons 4 rfl (.cons 3 rfl (.cons 4 rfl (.cons 0 rfl .nil)))))
                  · refine sxo_meq (m' := ((app 4398046511104 x979 ([(x5, x4)] : List (Int × Int))).bind fun x994 => ((M_graph_Of F (x1.length : Int) x994).bind fun x997 => M_L_StrongMore_j5 F x4 x7 x10 x41 x997.2 x997.1))) (rfl) ?_
                    refine sxo_alloc rfl tf24 rfl (fun g993 => ?_)
                    refine sxo_nil ?_
                    refine sxq_anyB (.cons 1 rfl (.cons 1 rfl .nil)) (gk_F 0 rfl gk_nil) ?_
                    refine sxb_step 10 rfl (by kernel_rfl) rfl ?_
                    refine sxo_app 0 eS48_ok rfl Try.underlying51 tf48 rfl rfl rfl rfl rfl (.inl ⟨1, _, rfl⟩) rfl rfl (fun x994 e994 a995 c996 => ?_)
                    refine sxo_nil ?_
                    refine sxq_anyB (.cons 1 rfl (.cons 1 rfl .nil)) (gk_F 0 rfl gk_nil) ?_
                    refine sxb_step 11 rfl (by kernel_rfl) rfl ?_
                    refine sxo_call ent30 rfl rfl rfl (fun x997 e997 => C_graph_Of F (x1.length : Int) x994 a995 c996 x997 e997) (.consR 0 (Ro eS48 48 2 (.slice a995 x994.length c996) x994) rfl .nil) (fun x997 e997 => ?_)
                    rintro ⟨a998, c999⟩
                    refine sxo_nil ?_
                    refine sxq_anyB (.cons 1 rfl (.cons 1 rfl .nil)) (gk_F 0 rfl gk_nil) ?_
                    refine sxb_takeP 12 (.tuple #[.agg #[.slice a998 x997.1.length c999.1], .int .i64 x997.2]) rfl rfl rfl (yv_pv rfl) ?_
                    refine sxb_takeP 13 (.agg #[.slice a998 x997.1.length c999.1]) rfl rfl rfl (yv_pv rfl) ?_
                    refine sxb_takeP 14 (.int .i64 x997.2) rfl rfl rfl (yv_pv rfl) ?_
                    refine sxb_step 16 rfl (by kernel_rfl) rfl ?_
                    refine sxo_storeB (i := 0) rfl rfl rfl tf24 rfl rfl rfl rfl rfl ?_
                    refine sxo_nil ?_
                    refine sxq_anyB (.cons 1 rfl (.cons 1 rfl .nil)) (gk_F 0 rfl gk_nil) ?_
                    refine sxb_takeP 17 (.int .i64 x997.2) rfl rfl rfl (yv_pv rfl) ?_
                    refine sxb_done (by kernel_rfl) ?_
                    refine sxq_np ?_ (by intro c h; cases h)
                    exact sxq_meetP ((x997.2, x997.1), (g993, a998, c999)) (hB := (.cons 1 rfl (.cons 0 rfl .nil))) (hR := (.cons 4 rfl (.cons 3 rfl (.cons 4 rfl (.cons 0 rfl .nil)))))
                · refine sxo_meq (m' := ((app 4398046511104 ([] : List (Int × Int)) x16.1).bind fun x1001 => ((app 4398046511104 x1001 ([(x5, x4)] : List (Int × Int))).bind fun x1004 => ((M_graph_Of F (x1.length : Int) x1004).bind fun x1007 => M_L_StrongMore_j5 F x4 x7 x10 x41 x1007.2 x1007.1)))) (rfl) ?_
                  refine sxo_alloc rfl tf24 rfl (fun g1000 => ?_)
                  refine sxo_nil ?_
                  refine sxq_anyB (.cons 1 rfl (.cons 1 rfl .nil)) (gk_F 0 rfl gk_nil) ?_
                  refine sxb_step 5 rfl (by kernel_rfl) rfl ?_
                  refine sxo_app 0 eS48_ok rfl Try.underlying51 tf48 rfl rfl rfl rfl rfl (.inl ⟨4, _, rfl⟩) rfl rfl (fun x1001 e1001 a1002 c1003 => ?_)
                  refine sxo_nil ?_
                  refine sxq_anyB (.cons 1 rfl (.cons 1 rfl .nil)) (gk_F 0 rfl gk_nil) ?_
                  refine sxb_step 10 rfl (by kernel_rfl) rfl ?_
                  refine sxo_app 0 eS48_ok rfl Try.underlying51 tf48 rfl rfl rfl rfl rfl (.inl ⟨1, _, rfl⟩) rfl rfl (fun x1004 e1004 a1005 c1006 => ?_)
                  refine sxo_nil ?_
                  refine sxq_anyB (.cons 1 rfl (.cons 1 rfl .nil)) (gk_F 0 rfl gk_nil) ?_
                  refine sxb_step 11 rfl (by kernel_rfl) rfl ?_
                  refine sxo_call ent30 rfl rfl rfl (fun x1007 e1007 => C_graph_Of F (x1.length : Int) x1004 a1005 c1006 x1007 e1007) (.consR 0 (Ro eS48 48 2 (.slice a1005 x1004.length c1006) x1004) rfl .nil) (fun x1007 e1007 => ?_)
                  rintro ⟨a1008, c1009⟩
                  refine sxo_nil ?_
                  refine sxq_anyB (.cons 1 rfl (.cons 1 rfl .nil)) (gk_F 0 rfl gk_nil) ?_
                  refine sxb_takeP 12 (.tuple #[.agg #[.slice a1008 x1007.1.length c1009.1], .int .i64 x1007.2]) rfl rfl rfl (yv_pv rfl) ?_
                  refine sxb_takeP 13 (.agg #[.slice a1008 x1007.1.length c1009.1]) rfl rfl rfl (yv_pv rfl) ?_
                  refine sxb_takeP 14 (.int .i64 x1007.2) rfl rfl rfl (yv_pv rfl) ?_
                  refine sxb_step 16 rfl (by kernel_rfl) rfl ?_
                  refine sxo_storeB (i := 0) rfl rfl rfl tf24 rfl rfl rfl rfl rfl ?_
                  refine sxo_nil ?_
                  refine sxq_anyB (.cons 1 rfl (.cons 1 rfl .nil)) (gk_F 0 rfl gk_nil) ?_
                  refine sxb_takeP 17 (.int .i64 x1007.2) rfl rfl rfl (yv_pv rfl) ?_
                  refine sxb_done (by kernel_rfl) ?_
                  refine sxq_np ?_ (by intro c h; cases h)
                  exact sxq_meetP ((x1007.2, x1007.1), (g1000, a1008, c1009)) (hB := (.cons 1 rfl (.cons 0 rfl .nil))) (hR := (.cons 4 rfl (.cons 3 rfl (.cons 4 rfl (.cons 0 rfl .nil)))))
              · refine sxo_meq (m' := ((app 4398046511104 ([] : List (Int × Int)) x16.1).bind fun x1013 => ((app 4398046511104 x1013 ([(x5, x4)] : List (Int × Int))).bind fun x1016 => ((M_graph_Of F (x1.length : Int) x1016).bind fun x1019 => M_L_StrongMore_j5 F x4 x7 x10 x41 x1019.2 x1019.1)))) (rfl) ?_
                refine sxo_alloc rfl tf24 rfl (fun g1010 => ?_)
                refine sxo_nil ?_
                refine sxq_anyB (.cons 1 rfl (.cons 1 rfl .nil)) (gk_F 0 rfl gk_nil) ?_
                refine sxb_step 3 rfl (by kernel_rfl) rfl ?_
                refine sxo_slit (vs := []) (ys := ([] : List (Int × Int))) eS48_ok (by decide) rfl Try.underlying51 tf48 rfl rfl rfl rfl rfl (by decide) (fun a1011 c1012 => ?_)
                refine sxo_nil ?_
                refine sxq_anyB (.cons 1 rfl (.cons 1 rfl .nil)) (gk_F 0 rfl gk_nil) ?_
                refine sxb_step 5 rfl (by kernel_rfl) rfl ?_
                refine sxo_app 0 eS48_ok rfl Try.underlying51 tf48 rfl rfl rfl rfl rfl (.inl ⟨4, _, rfl⟩) rfl rfl (fun x1013 e1013 a1014 c1015 => ?_)
                refine sxo_nil ?_
                refine sxq_anyB (.cons 1 rfl (.cons 1 rfl .nil)) (gk_F 0 rfl gk_nil) ?_
                refine sxb_step 10 rfl (by kernel_rfl) rfl ?_
                refine sxo_app 0 eS48_ok rfl Try.underlying51 tf48 rfl rfl rfl rfl rfl (.inl ⟨1, _, rfl⟩) rfl rfl (fun x1016 e1016 a1017 c1018 => ?_)
                refine sxo_nil ?_
                refine sxq_anyB (.cons 1 rfl (.cons 1 rfl .nil)) (gk_F 0 rfl gk_nil) ?_
                refine sxb_step 11 rfl (by kernel_rfl) rfl ?_
                refine sxo_call ent30 rfl rfl rfl (fun x1019 e1019 => C_graph_Of F (x1.length : Int) x1016 a1017 c1018 x1019 e1019) (.consR 0 (Ro eS48 48 2 (.slice a1017 x1016.length c1018) x1016) rfl .nil) (fun x1019 e1019 => ?_)
                rintro ⟨a1020, c1021⟩
                refine sxo_nil ?_
                refine sxq_anyB (.cons 1 rfl (.cons 1 rfl .nil)) (gk_F 0 rfl gk_nil) ?_
                refine sxb_takeP 12 (.tuple #[.agg #[.slice a1020 x1019.1.length c1021.1], .int .i64 x1019.2]) rfl rfl rfl (yv_pv rfl) ?_
                refine sxb_takeP 13 (.agg #[.slice a1020 x1019.1.length c1021.1]) rfl rfl rfl (yv_pv rfl) ?_
                refine sxb_takeP 14 (.int .i64 x1019.2) rfl rfl rfl (yv_pv rfl) ?_
                refine sxb_step 16 rfl (by kernel_rfl) rfl ?_
                refine sxo_storeB (i := 0) rfl rfl rfl tf24 rfl rfl rfl rfl rfl ?_
                refine sxo_nil ?_
                refine sxq_anyB (.cons 1 rfl (.cons 1 rfl .nil)) (gk_F 0 rfl gk_nil) ?_
                refine sxb_takeP 17 (.int .i64 x1019.2) rfl rfl rfl (yv_pv rfl) ?_
                refine sxb_done (by kernel_rfl) ?_
                refine sxq_np ?_ (by intro c h; cases h)
                exact sxq_meetP ((x1019.2, x1019.1), (g1010, a1020, c1021)) (hB := (.cons 1 rfl (.cons 0 rfl .nil))) (hR := (.cons 4 rfl (.cons 3 rfl (.cons 4 rfl (.cons 0 rfl .nil)))))
            · refine sxo_meq (m' := ((app 4398046511104 ([] : List (Int × Int)) x16.1).bind fun x1025 => ((app 4398046511104 x1025 ([(x5, x4)] : List (Int × Int))).bind fun x1030 => ((M_graph_Of F (x1.length : Int) x1030).bind fun x1033 => M_L_StrongMore_j5 F x4 x7 x10 x41 x1033.2 x1033.1)))) (rfl) ?_
              refine sxo_alloc rfl tf24 rfl (fun g1022 => ?_)
              refine sxo_nil ?_
              refine sxq_anyB (.cons 1 rfl (.cons 1 rfl .nil)) (gk_F 0 rfl gk_nil) ?_
              refine sxb_two 3 9 rfl rfl (by kernel_rfl) rfl rfl ?_ ?_
              · refine sxo_slit (vs := []) (ys := ([] : List (Int × Int))) eS48_ok (by decide) rfl Try.underlying51 tf48 rfl rfl rfl rfl rfl (by decide) (fun a1023 c1024 => ?_)
                refine sxo_nil ?_
                refine sxq_anyB (.cons 1 rfl (.cons 1 rfl .nil)) (gk_F 0 rfl gk_nil) ?_
                refine sxb_two 5 9 rfl rfl (by kernel_rfl) rfl rfl ?_ ?_
                · refine sxo_app 0 eS48_ok rfl Try.underlying51 tf48 rfl rfl rfl rfl rfl (.inl ⟨3, _, rfl⟩) rfl rfl (fun x1025 e1025 a1026 c1027 => ?_)
                  refine sxo_nil ?_
                  refine sxq_anyB (.cons 1 rfl (.cons 1 rfl .nil)) (gk_F 0 rfl gk_nil) ?_
                  refine sxb_step 9 rfl (by kernel_rfl) rfl ?_
                  refine sxo_slit (vs := [.agg #[.int .i64 x5, .int .i64 x4]]) (ys := ([(x5, x4)] : List (Int × Int))) eS48_ok (by decide) rfl Try.underlying51 tf48 rfl rfl rfl rfl rfl (by decide) (fun a1028 c1029 => ?_)
                  refine sxo_nil ?_
                  refine sxq_anyB (.cons 1 rfl (.cons 1 rfl .nil)) (gk_F 0 rfl gk_nil) ?_
                  refine sxb_step 10 rfl (by kernel_rfl) rfl ?_
                  refine sxo_app 1 eS48_ok rfl Try.underlying51 tf48 rfl rfl rfl rfl rfl (.inl ⟨0, _, rfl⟩) rfl rfl (fun x1030 e1030 a1031 c1032 => ?_)
                  refine sxo_nil ?_
                  refine sxq_anyB (.cons 1 rfl (.cons 1 rfl .nil)) (gk_F 0 rfl gk_nil) ?_
                  refine sxb_step 11 rfl (by kernel_rfl) rfl ?_
                  refine sxo_call ent30 rfl rfl rfl (fun x1033 e1033 => C_graph_Of F (x1.length : Int) x1030 a1031 c1032 x1033 e1033) (.consR 0 (Ro eS48 48 2 (.slice a1031 x1030.length c1032) x1030) rfl .nil) (fun x1033 e1033 => ?_)
                  rintro ⟨a1034, c1035⟩
                  refine sxo_nil ?_
                  refine sxq_anyB (.cons 1 rfl (.cons 1 rfl .nil)) (gk_F 0 rfl gk_nil) ?_
                  refine sxb_takeP 12 (.tuple #[.agg #[.slice a1034 x1033.1.length c1035.1], .int .i64 x1033.2]) rfl rfl rfl (yv_pv rfl) ?_
                  refine sxb_takeP 13 (.agg #[.slice a1034 x1033.1.length c1035.1]) rfl rfl rfl (yv_pv rfl) ?_
                  refine sxb_takeP 14 (.int .i64 x1033.2) rfl rfl rfl (yv_pv rfl) ?_
                  refine sxb_step 16 rfl (by kernel_rfl) rfl ?_
                  refine sxo_storeB (i := 0) rfl rfl rfl tf24 rfl rfl rfl rfl rfl ?_
                  refine sxo_nil ?_
                  refine sxq_anyB (.cons 1 rfl (.cons 1 rfl .nil)) (gk_F 0 rfl gk_nil) ?_
                  refine sxb_takeP 17 (.int .i64 x1033.2) rfl rfl rfl (yv_pv rfl) ?_
                  refine sxb_done (by kernel_rfl) ?_
                  refine sxq_np ?_ (by intro c h; cases h)
                  exact sxq_meetP ((x1033.2, x1033.1), (g1022, a1034, c1035)) (hB := (.cons 1 rfl (.cons 0 rfl .nil))) (hR := (.cons 4 rfl (.cons 3 rfl (.cons 4 rfl (.cons 0 rfl .nil)))))
                · refine sxo_meq (m' := ((app 4398046511104 ([] : List (Int × Int)) x16.1).bind fun x1038 => ((app 4398046511104 x1038 ([(x5, x4)] : List (Int × Int))).bind fun x1041 => ((M_graph_Of F (x1.length : Int) x1041).bind fun x1044 => M_L_StrongMore_j5 F x4 x7 x10 x41 x1044.2 x1044.1)))) (rfl) ?_
                  refine sxo_slit (vs := [.agg #[.int .i64 x5, .int .i64 x4]]) (ys := ([(x5, x4)] : List (Int × Int))) eS48_ok (by decide) rfl Try.underlying51 tf48 rfl rfl rfl rfl rfl (by decide) (fun a1036 c1037 => ?_)
                  refine sxo_nil ?_
                  refine sxq_anyB (.cons 1 rfl (.cons 1 rfl .nil)) (gk_F 0 rfl gk_nil) ?_
                  refine sxb_step 5 rfl (by kernel_rfl) rfl ?_
                  refine sxo_app 1 eS48_ok rfl Try.underlying51 tf48 rfl rfl rfl rfl rfl (.inl ⟨4, _, rfl⟩) rfl rfl (fun x1038 e1038 a1039 c1040 => ?_)
                  refine sxo_nil ?_
                  refine sxq_anyB (.cons 1 rfl (.cons 1 rfl .nil)) (gk_F 0 rfl gk_nil) ?_
                  refine sxb_step 10 rfl (by kernel_rfl) rfl ?_
                  refine sxo_app 0 eS48_ok rfl Try.underlying51 tf48 rfl rfl rfl rfl rfl (.inl ⟨1, _, rfl⟩) rfl rfl (fun x1041 e1041 a1042 c1043 => ?_)
                  refine sxo_nil ?_
                  refine sxq_anyB (.cons 1 rfl (.cons 1 rfl .nil)) (gk_F 0 rfl gk_nil) ?_
                  refine sxb_step 11 rfl (by kernel_rfl) rfl ?_
                  refine sxo_call ent30 rfl rfl rfl (fun x1044 e1044 => C_graph_Of F (x1.length : Int) x1041 a1042 c1043 x1044 e1044) (.consR 0 (Ro eS48 48 2 (.slice a1042 x1041.length c1043) x1041) rfl .nil) (fun x1044 e1044 => ?_)
                  rintro ⟨a1045, c1046⟩
                  refine sxo_nil ?_
                  refine sxq_anyB (.cons 1 rfl (.cons 1 rfl .nil)) (gk_F 0 rfl gk_nil) ?_
                  refine sxb_takeP 12 (.tuple #[.agg #[.slice a1045 x1044.1.length c1046.1], .int .i64 x1044.2]) rfl rfl rfl (yv_pv rfl) ?_
                  refine sxb_takeP 13 (.agg #[.slice a1045 x1044.1.length c1046.1]) rfl rfl rfl (yv_pv rfl) ?_
                  refine sxb_takeP 14 (.int .i64 x1044.2) rfl rfl rfl (yv_pv rfl) ?_
                  refine sxb_step 16 rfl (by kernel_rfl) rfl ?_
                  refine sxo_storeB (i := 0) rfl rfl rfl tf24 rfl rfl rfl rfl rfl ?_
                  refine sxo_nil ?_
                  refine sxq_anyB (.cons 1 rfl (.cons 1 rfl .nil)) (gk_F 0 rfl gk_nil) ?_
                  refine sxb_takeP 17 (.int .i64 x1044.2) rfl rfl rfl (yv_pv rfl) ?_
                  refine sxb_done (by kernel_rfl) ?_
                  refine sxq_np ?_ (by intro c h; cases h)
                  exact sxq_meetP ((x1044.2, x1044.1), (g1022, a1045, c1046)) (hB := (.cons 1 rfl (.cons 0 rfl .nil))) (hR := (.cons 4 rfl (.cons 3 rfl (.cons 4 rfl (.cons 0 rfl .nil)))))
              · refine sxo_meq (m' := ((app 4398046511104 ([] : List (Int × Int)) x16.1).bind fun x1051 => ((app 4398046511104 x1051 ([(x5, x4)] : List (Int × Int))).bind fun x1054 => ((M_graph_Of F (x1.length : Int) x1054).bind fun x1057 => M_L_StrongMore_j5 F x4 x7 x10 x41 x1057.2 x1057.1)))) (rfl) ?_
                refine sxo_slit (vs := [.agg #[.int .i64 x5, .int .i64 x4]]) (ys := ([(x5, x4)] : List (Int × Int))) eS48_ok (by decide) rfl Try.underlying51 tf48 rfl rfl rfl rfl rfl (by decide) (fun a1047 c1048 => ?_)
                refine sxo_nil ?_
                refine sxq_anyB (.cons 1 rfl (.cons 1 rfl .nil)) (gk_F 0 rfl gk_nil) ?_
                refine sxb_step 3 rfl (by kernel_rfl) rfl ?_
                refine sxo_slit (vs := []) (ys := ([] : List (Int × Int))) eS48_ok (by decide) rfl Try.underlying51 tf48 rfl rfl rfl rfl rfl (by decide) (fun a1049 c1050 => ?_)
                refine sxo_nil ?_
                refine sxq_anyB (.cons 1 rfl (.cons 1 rfl .nil)) (gk_F 0 rfl gk_nil) ?_
                refine sxb_step 5 rfl (by kernel_rfl) rfl ?_
                refine sxo_app 0 eS48_ok rfl Try.underlying51 tf48 rfl rfl rfl rfl rfl (.inl ⟨4, _, rfl⟩) rfl rfl (fun x1051 e1051 a1052 c1053 => ?_)
                refine sxo_nil ?_
                refine sxq_anyB (.cons 1 rfl (.cons 1 rfl .nil)) (gk_F 0 rfl gk_nil) ?_
                refine sxb_step 10 rfl (by kernel_rfl) rfl ?_
                refine sxo_app 0 eS48_ok rfl Try.underlying51 tf48 rfl rfl rfl rfl rfl (.inl ⟨1, _, rfl⟩) rfl rfl (fun x1054 e1054 a1055 c1056 => ?_)
                refine sxo_nil ?_
                refine sxq_anyB (.cons 1 rfl (.cons 1 rfl .nil)) (gk_F 0 rfl gk_nil) ?_
                refine sxb_step 11 rfl (by kernel_rfl) rfl ?_
                refine sxo_call ent30 rfl rfl rfl (fun x1057 e1057 => C_graph_Of F (x1.length : Int) x1054 a1055 c1056 x1057 e1057) (.consR 0 (Ro eS48 48 2 (.slice a1055 x1054.length c1056) x1054) rfl .nil) (fun x1057 e1057 => ?_)
                rintro ⟨a1058, c1059⟩
                refine sxo_nil ?_
                refine sxq_anyB (.cons 1 rfl (.cons 1 rfl .nil)) (gk_F 0 rfl gk_nil) ?_
                refine sxb_takeP 12 (.tuple #[.agg #[.slice a1058 x1057.1.length c1059.1], .int .i64 x1057.2]) rfl rfl rfl (yv_pv rfl) ?_
                refine sxb_takeP 13 (.agg #[.slice a1058 x1057.1.length c1059.1]) rfl rfl rfl (yv_pv rfl) ?_
                refine sxb_takeP 14 (.int .i64 x1057.2) rfl rfl rfl (yv_pv rfl) ?_
                refine sxb_step 16 rfl (by kernel_rfl) rfl ?_
                refine sxo_storeB (i := 0) rfl rfl rfl tf24 rfl rfl rfl rfl rfl ?_
                refine sxo_nil ?_
                refine sxq_anyB (.cons 1 rfl (.cons 1 rfl .nil)) (gk_F 0 rfl gk_nil) ?_
                refine sxb_takeP 17 (.int .i64 x1057.2) rfl rfl rfl (yv_pv rfl) ?_
                refine sxb_done (by kernel_rfl) ?_
                refine sxq_np ?_ (by intro c h; cases h)
                exact sxq_meetP ((x1057.2, x1057.1), (g1022, a1058, c1059)) (hB := (.cons 1 rfl (.cons 0 rfl .nil))) (hR := (.cons 4 rfl (.cons 3 rfl (.cons 4 rfl (.cons 0 rfl .nil)))))
          · rintro ⟨⟨x220, x223⟩, ⟨g219, a221, c222⟩⟩
            try dsimp only
            refine sxc_seq ?_
            refine sxc_seq ?_
            refine sxc_region ?_
            refine sxo_move rfl rfl rfl ?_
            refine sxo_neq rfl rfl rfl rfl ?_
            refine sxo_nil ?_
            refine sxq_next ?_
            refine sxc_if rfl (fun h884 => ?_) (fun h884 => ?_)
            · refine sxc_seq ?_
              refine sxc_region ?_
              refine sxo_assign rfl rfl rfl ?_
              refine sxo_nil ?_
              refine sxq_next ?_
              refine sxc_ret ?_
              refine sxq_thenR ?_
              exact sxq_doneP () (res1 rfl rfl)
            · refine sxc_skip ?_
              refine sxq_next ?_
              refine sxc_seq ?_
              refine sxc_region ?_
              refine sxo_loadB (i := 1) rfl rfl tf24 rfl rfl (by simp) rfl rfl ?_
              refine sxo_call ent11 rfl rfl rfl (fun x225 e225 => C_strong_Parts F x223 a221 c222 x225 e225) (.consG 3 rfl (nest_sl rN25_in) .nil) (fun x225 e225 => ?_)
              rintro ⟨a226, c227⟩
              refine sxo_move rfl rfl rfl ?_
              refine sxo_extract rfl rfl rfl rfl ?_
              refine sxo_extract rfl rfl rfl rfl ?_
              refine sxo_assign rfl rfl rfl ?_
              refine sxo_assign rfl rfl rfl ?_
              refine sxo_nil ?_
              refine sxq_next ?_
              refine sxc_seq ?_
              refine sxc_region ?_
              refine sxo_loadB (i := 1) rfl rfl tf24 rfl rfl (by simp) rfl rfl ?_
              refine sxo_callM ent13 rfl rfl rfl (fun x228 e228 => C_strong_Shrink F x223 a221 c222 x228 e228) .nil .nil (.consG 4 rfl (nest_sl rN25_in) .nil) (fun x228 e228 => ?_)
              rintro ⟨⟨a229, c230⟩, ⟨a231, c232⟩⟩
              refine sxo_move rfl rfl rfl ?_
              refine sxo_extract rfl rfl rfl rfl ?_
              refine sxo_extract rfl rfl rfl rfl ?_
              refine sxo_extract rfl rfl rfl rfl ?_
              refine sxo_alloc rfl tf24 rfl (fun g233 => ?_)
              refine sxo_storeB (i := 0) rfl rfl rfl tf24 rfl rfl rfl rfl rfl ?_
              refine sxo_assign rfl rfl rfl ?_
              refine sxo_assign rfl rfl rfl ?_
              refine sxo_nil ?_
              refine sxq_next ?_
              refine sxc_seq ?_
              refine sxc_seq ?_
              refine sxc_region ?_
              refine sxo_move rfl rfl rfl ?_
              refine sxo_neq rfl rfl rfl rfl ?_
              refine sxo_move rfl rfl rfl ?_
              refine sxo_case 3 ((x225.2 : Int) != 0) [(1, .int .i64 x4), (7, .slice a8 x7.1.length c9), (9, .pointer (some ⟨g15, 0, none⟩)), (14, .slice a42 x41.1.length c43), (15, .int .i64 x41.2), (18, .slice a226 x225.1.length c227), (20, .pointer (some ⟨g233, 0, none⟩)), (101, .bool (((x225.2 : Int) != 0) || ((x228.2.2 : Int) != 0)))] (fun h237 => ?_) (fun h237 => ?_) ?_
              · refine sxo_take (os := _) rfl ?_
                refine sxo_isT (k := 98) rfl h237 ?_
                refine sxo_skip rfl rfl rfl ?_
                refine sxo_skip rfl rfl rfl ?_
                refine sxo_pick (b := true) rfl rfl rfl rfl ?_
                refine sxo_again (d := 101) (v := .bool (((x225.2 : Int) != 0) || ((x228.2.2 : Int) != 0))) rfl (by rw [h237]; simp only [Bool.true_or]) ?_
                refine sxo_nil ?_
                exact sxq_case (lk_cons rfl (lk_cons rfl (lk_cons rfl (lk_cons rfl (lk_cons rfl (lk_cons rfl (lk_cons rfl (lk_cons rfl lk_nil))))))))
              · refine sxo_take (os := _) rfl ?_
                refine sxo_isF (k := 98) rfl h237 ?_
                refine sxo_move rfl rfl rfl ?_
                refine sxo_neq rfl rfl rfl rfl ?_
                refine sxo_pick (b := false) rfl rfl rfl rfl ?_
                refine sxo_again (d := 101) (v := .bool (((x225.2 : Int) != 0) || ((x228.2.2 : Int) != 0))) rfl (by rw [h237]; simp only [Bool.false_or]) ?_
                refine sxo_nil ?_
                exact sxq_case (lk_cons rfl (lk_cons rfl (lk_cons rfl (lk_cons rfl (lk_cons rfl (lk_cons rfl (lk_cons rfl (lk_cons rfl lk_nil))))))))
              refine sxo_take (os := _) rfl ?_
              refine sxo_move rfl rfl rfl ?_
              refine sxo_case 8 (((x225.2 : Int) != 0) || ((x228.2.2 : Int) != 0)) [(1, .int .i64 x4), (7, .slice a8 x7.1.length c9), (14, .slice a42 x41.1.length c43), (15, .int .i64 x41.2), (18, .slice a226 x225.1.length c227), (110, .bool ((((x225.2 : Int) != 0) || ((x228.2.2 : Int) != 0)) || (decide ((x10.1.length : Int) < (x228.1.length : Int)))))] (fun h238 => ?_) (fun h238 => ?_) ?_
              · refine sxo_take (os := _) rfl ?_
                refine sxo_isT (k := 102) rfl h238 ?_
                refine sxo_skip rfl rfl rfl ?_
                refine sxo_skip rfl rfl rfl ?_
                refine sxo_skip rfl rfl rfl ?_
                refine sxo_skip rfl rfl rfl ?_
                refine sxo_skip rfl rfl rfl ?_
                refine sxo_skip rfl rfl rfl ?_
                refine sxo_skip rfl rfl rfl ?_
                refine sxo_pick (b := true) rfl rfl rfl rfl ?_
                refine sxo_again (d := 110) (v := .bool ((((x225.2 : Int) != 0) || ((x228.2.2 : Int) != 0)) || (decide ((x10.1.length : Int) < (x228.1.length : Int))))) rfl (by rw [h238]; simp only [Bool.true_or]) ?_
                refine sxo_nil ?_
                exact sxq_case (lk_cons rfl (lk_cons rfl (lk_cons rfl (lk_cons rfl (lk_cons rfl (lk_cons rfl lk_nil))))))
              · refine sxo_take (os := _) rfl ?_
                refine sxo_isF (k := 102) rfl h238 ?_
                refine sxo_fieldAddr rfl rfl ff24_0 rfl ?_
                refine sxo_loadB (i := 0) rfl rfl tf22 rfl rfl (fun _ => rfl) rfl rfl ?_
                refine sxo_len rfl Try.underlying22 rfl rfl ?_
                refine sxo_fieldAddr rfl rfl ff24_0 rfl ?_
                refine sxo_loadB (i := 1) rfl rfl tf22 rfl rfl (fun _ => rfl) rfl rfl ?_
                refine sxo_len rfl Try.underlying22 rfl rfl ?_
                refine sxo_gtr rfl rfl rfl rfl ?_
                refine sxo_pick (b := false) rfl rfl rfl rfl ?_
                refine sxo_again (d := 110) (v := .bool ((((x225.2 : Int) != 0) || ((x228.2.2 : Int) != 0)) || (decide ((x10.1.length : Int) < (x228.1.length : Int))))) rfl (by rw [h238]; simp only [Bool.false_or]) ?_
                refine sxo_nil ?_
                exact sxq_case (lk_cons rfl (lk_cons rfl (lk_cons rfl (lk_cons rfl (lk_cons rfl (lk_cons rfl lk_nil))))))
              refine sxo_take (os := _) rfl ?_
              refine sxo_nil ?_
              refine sxq_next ?_
              refine sxc_if rfl (fun h883 => ?_) (fun h883 => ?_)
              · refine sxc_seq ?_
                refine sxc_region ?_
                refine sxo_assign rfl rfl rfl ?_
                refine sxo_nil ?_
                refine sxq_next ?_
                refine sxc_ret ?_
                refine sxq_thenR ?_
                exact sxq_doneP () (res1 rfl rfl)
              · refine sxc_skip ?_
                refine sxq_next ?_
                refine sxc_join (fun ((_, _) : (Unit × Unit)) => [(1, .int .i64 x4), (14, .slice a42 x41.1.length c43), (15, .int .i64 x41.2), (18, .slice a226 x225.1.length c227)]) (fun ((_, _) : (Unit × Unit)) => []) (fun ((_, _) : (Unit × Unit)) => [Ro (eI .i64) 3 1 (.slice a42 x41.1.length c43) x41.1, Ro (eI .i64) 3 1 (.slice a226 x225.1.length c227) x225.1]) (fun ((_, _) : (Unit × Unit)) => []) (fun ((_, _) : (Unit × Unit)) => M_L_StrongMore_j7 F x4 x41 x225) ?_ ?_
                · refine sxc_seq ?_
                  refine sxc_region ?_
                  refine sxo_assign rfl rfl rfl ?_
                  refine sxo_nil ?_
                  refine sxq_next ?_
                  refine sxc_block ?_
                  refine sxc_loopP (fun ((x777, _) : (Int × Unit)) => [(1, .int .i64 x4), (7, .slice a8 x7.1.length c9), (14, .slice a42 x41.1.length c43), (15, .int .i64 x41.2), (18, .slice a226 x225.1.length c227), (23, .int .i64 x777)]) (fun ((x777, _) : (Int × Unit)) => []) (fun ((x777, _) : (Int × Unit)) => [Ro (eI .i64) 3 1 (.slice a8 x7.1.length c9) x7.1, Ro (eI .i64) 3 1 (.slice a42 x41.1.length c43) x41.1, Ro (eI .i64) 3 1 (.slice a226 x225.1.length c227) x225.1]) (fun ((x777, _) : (Int × Unit)) => []) (fun k (s : (Int × Unit)) => M_L_StrongMore_l11 F x4 x7 x41 x225 k s.1) (0, ()) F ?_ (hR := (.cons 3 rfl (.cons 3 rfl (.cons 2 rfl .nil))))
                  intro k830
                  rintro ⟨x777, _⟩
                  try dsimp only
                  refine sxc_meq (m' := M_L_StrongMore_b11 F x4 x7 x41 x225 (M_L_StrongMore_l11 F x4 x7 x41 x225 k830) x777) rfl ?_
                  refine sxc_seq ?_
                  refine sxc_seq ?_
                  refine sxc_region ?_
                  refine sxo_move rfl rfl rfl ?_
                  refine sxo_move rfl rfl rfl ?_
                  refine sxo_len rfl Try.underlying25 rfl rfl ?_
                  refine sxo_lss rfl rfl rfl rfl ?_
                  refine sxo_nil ?_
                  refine sxq_next ?_
                  refine sxc_if rfl (fun h882 => ?_) (fun h882 => ?_)
                  · refine sxc_skip ?_
                    refine sxq_next ?_
                    refine sxc_seq ?_
                    refine sxc_block ?_
                    refine sxc_seq ?_
                    refine sxc_idxO (j := 2) rfl (fun x869 e869 g870 h871 => ?_)
                    replace h871 : a226 = some ⟨g870, 0, none⟩ := h871
                    have h872 := own_of (k := x225.1.length) (c := c227) h871
                    refine sxc_idxO (j := 0) rfl (fun x873 e873 g874 h875 => ?_)
                    replace h875 : a8 = some ⟨g874, 0, none⟩ := h875
                    have h876 := own_of (k := x7.1.length) (c := c9) h875
                    refine sxc_idxO (j := 2) rfl (fun x877 e877 g878 h879 => ?_)
                    replace h879 : a226 = some ⟨g878, 0, none⟩ := h879
                    have h880 := own_of (k := x225.1.length) (c := c227) h879
                    refine sxb_draw mixed [] [] [CellsAt g870 (x777.toNat * 1) ((eI .i64) x869), CellsAt g874 (x777.toNat * 1) ((eI .i64) x873), CellsAt g878 (x873.toNat * 1) ((eI .i64) x877)] .nil (gk_R 2 rfl (at_row (eI_ok .i64) e869 h871) (gk_R 0 rfl (at_row (eI_ok .i64) e873 h875) (gk_R 2 rfl (at_row (eI_ok .i64) e877 h879) gk_nil))) 12 rfl ?_
                    refine sxb_takeP 0 (.slice a226 x225.1.length c227) rfl rfl rfl (yv_pv rfl) ?_
                    refine sxb_takeP 1 (.int .i64 x777) rfl rfl rfl (yv_pv rfl) ?_
                    refine sxb_again (d := 117) (v := .slice (some ⟨g870, 0, none⟩) x225.1.length c227) rfl (by rw [h871] <;> rfl) ?_
                    refine sxb_takeP 2 (.pointer (some ⟨g870, x777.toNat * 1, none⟩)) rfl rfl rfl (yv_idxO Try.underlying25 tf3 rfl rfl (idx_get e869).1 (idx_lt e869)) ?_
                    refine sxb_again (d := 117) (v := .slice a226 x225.1.length c227) rfl (by rw [h871] <;> rfl) ?_
                    refine sxb_take 3 (.int .i64 x869) [] rfl rfl rfl (yv_loadF (j := 0) rfl tf3 rfl rfl (fun _ => rfl) rfl) ?_
                    refine sxb_takeP 4 (.slice a226 x225.1.length c227) rfl rfl rfl (yv_pv rfl) ?_
                    refine sxb_takeP 5 (.slice a8 x7.1.length c9) rfl rfl rfl (yv_pv rfl) ?_
                    refine sxb_takeP 6 (.int .i64 x777) rfl rfl rfl (yv_pv rfl) ?_
                    refine sxb_again (d := 122) (v := .slice (some ⟨g874, 0, none⟩) x7.1.length c9) rfl (by rw [h875] <;> rfl) ?_
                    refine sxb_takeP 7 (.pointer (some ⟨g874, x777.toNat * 1, none⟩)) rfl rfl rfl (yv_idxO Try.underlying25 tf3 rfl rfl (idx_get e873).1 (idx_lt e873)) ?_
                    refine sxb_again (d := 122) (v := .slice a8 x7.1.length c9) rfl (by rw [h875] <;> rfl) ?_
                    refine sxb_take 8 (.int .i64 x873) [] rfl rfl rfl (yv_loadF (j := 1) rfl tf3 rfl rfl (fun _ => rfl) rfl) ?_
                    refine sxb_again (d := 121) (v := .slice (some ⟨g878, 0, none⟩) x225.1.length c227) rfl (by rw [h879] <;> rfl) ?_
                    refine sxb_takeP 9 (.pointer (some ⟨g878, x873.toNat * 1, none⟩)) rfl rfl rfl (yv_idxO Try.underlying25 tf3 rfl rfl (idx_get e877).1 (idx_lt e877)) ?_
                    refine sxb_again (d := 121) (v := .slice a226 x225.1.length c227) rfl (by rw [h879] <;> rfl) ?_
                    refine sxb_take 10 (.int .i64 x877) [] rfl rfl rfl (yv_loadF (j := 2) rfl tf3 rfl rfl (fun _ => rfl) rfl) ?_
                    refine sxb_takeP 11 (.bool ((x869 : Int) != x877)) rfl rfl rfl (yv_pv rfl) ?_
                    refine sxb_done (by kernel_rfl) ?_
                    refine sxq_np ?_ (by intro c h; cases h)
                    refine sxq_next ?_
                    refine sxc_if rfl (fun h881 => ?_) (fun h881 => ?_)
                    · refine sxc_seq ?_
                      refine sxc_region ?_
                      refine sxo_assign rfl rfl rfl ?_
                      refine sxo_nil ?_
                      refine sxq_next ?_
                      refine sxc_ret ?_
                      refine sxq_blkR ?_
                      refine sxq_thenR ?_
                      refine sxq_thenR ?_
                      refine sxq_blkR ?_
                      refine sxq_thenR ?_
                      exact sxq_doneP () (res1 rfl rfl)
                    · refine sxc_skip ?_
                      refine sxq_blkN ?_
                      refine sxq_next ?_
                      refine sxc_region ?_
                      refine sxo_move rfl rfl rfl ?_
                      refine sxo_add rfl rfl rfl rfl ?_
                      refine sxo_assign rfl rfl rfl ?_
                      refine sxo_nil ?_
                      exact sxq_againP (iadd .i64 x777 1, ()) (hR := (.cons 0 rfl (.cons 0 rfl (.cons 0 rfl .nil))))
                  · refine sxc_exit ?_
                    refine sxq_thenX ?_
                    refine sxq_thenX ?_
                    refine sxq_blkX ?_
                    exact sxq_meetP ((), ()) (hR := (.cons 1 rfl (.cons 1 rfl .nil)))
                · rintro ⟨_, _⟩
                  try dsimp only
                  refine sxc_join (fun ((_, _) : (Unit × Unit)) => []) (fun ((_, _) : (Unit × Unit)) => []) (fun ((_, _) : (Unit × Unit)) => []) (fun ((_, _) : (Unit × Unit)) => []) (fun ((_, _) : (Unit × Unit)) => M_L_StrongMore_j9 F) ?_ ?_
                  · refine sxc_seq ?_
                    refine sxc_region ?_
                    refine sxo_assign rfl rfl rfl ?_
                    refine sxo_nil ?_
                    refine sxq_next ?_
                    refine sxc_block ?_
                    refine sxc_loopP (fun ((x615, _) : (Int × Unit)) => [(1, .int .i64 x4), (14, .slice a42 x41.1.length c43), (15, .int .i64 x41.2), (18, .slice a226 x225.1.length c227), (24, .int .i64 x615)]) (fun ((x615, _) : (Int × Unit)) => []) (fun ((x615, _) : (Int × Unit)) => [Ro (eI .i64) 3 1 (.slice a42 x41.1.length c43) x41.1, Ro (eI .i64) 3 1 (.slice a226 x225.1.length c227) x225.1]) (fun ((x615, _) : (Int × Unit)) => []) (fun k (s : (Int × Unit)) => M_L_StrongMore_l10 F x4 x41 x225 k s.1) (0, ()) F ?_ (hR := (.cons 0 rfl (.cons 0 rfl .nil)))
                    intro k670
                    rintro ⟨x615, _⟩
                    try dsimp only
                    refine sxc_meq (m' := M_L_StrongMore_b10 F x4 x41 x225 (M_L_StrongMore_l10 F x4 x41 x225 k670) x615) rfl ?_
                    refine sxc_seq ?_
                    refine sxc_seq ?_
                    refine sxc_region ?_
                    refine sxo_move rfl rfl rfl ?_
                    refine sxo_move rfl rfl rfl ?_
                    refine sxo_len rfl Try.underlying25 rfl rfl ?_
                    refine sxo_lss rfl rfl rfl rfl ?_
                    refine sxo_move rfl rfl rfl ?_
                    refine sxo_case 3 (decide (x615 < (x41.1.length : Int))) [(1, .int .i64 x4), (14, .slice a42 x41.1.length c43), (15, .int .i64 x41.2), (18, .slice a226 x225.1.length c227), (24, .int .i64 x615), (136, .bool ((decide (x615 < (x41.1.length : Int))) && ((x41.2 : Int) == 0)))] (fun h673 => ?_) (fun h673 => ?_) ?_
                    · refine sxo_take (os := _) rfl ?_
                      refine sxo_isT (k := 133) rfl h673 ?_
                      refine sxo_move rfl rfl rfl ?_
                      refine sxo_eql rfl rfl rfl rfl ?_
                      refine sxo_pick (b := true) rfl rfl rfl rfl ?_
                      refine sxo_again (d := 136) (v := .bool ((decide (x615 < (x41.1.length : Int))) && ((x41.2 : Int) == 0))) rfl (by rw [h673]; simp only [Bool.true_and]) ?_
                      refine sxo_nil ?_
                      exact sxq_case (lk_cons rfl (lk_cons rfl (lk_cons rfl (lk_cons rfl (lk_cons rfl (lk_cons rfl lk_nil))))))
                    · refine sxo_take (os := _) rfl ?_
                      refine sxo_isF (k := 133) rfl h673 ?_
                      refine sxo_skip rfl rfl rfl ?_
                      refine sxo_skip rfl rfl rfl ?_
                      refine sxo_pick (b := false) rfl rfl rfl rfl ?_
                      refine sxo_again (d := 136) (v := .bool ((decide (x615 < (x41.1.length : Int))) && ((x41.2 : Int) == 0))) rfl (by rw [h673]; simp only [Bool.false_and]) ?_
                      refine sxo_nil ?_
                      exact sxq_case (lk_cons rfl (lk_cons rfl (lk_cons rfl (lk_cons rfl (lk_cons rfl (lk_cons rfl lk_nil))))))
                    refine sxo_take (os := _) rfl ?_
                    refine sxo_nil ?_
                    refine sxq_next ?_
                    refine sxc_if rfl (fun h724 => ?_) (fun h724 => ?_)
                    · refine sxc_skip ?_
                      refine sxq_next ?_
                      refine sxc_seq ?_
                      refine sxc_block ?_
                      refine sxc_seq ?_
                      refine sxc_idxO (j := 0) rfl (fun x711 e711 g712 h713 => ?_)
                      replace h713 : a42 = some ⟨g712, 0, none⟩ := h713
                      have h714 := own_of (k := x41.1.length) (c := c43) h713
                      refine sxc_idxO (j := 1) rfl (fun x715 e715 g716 h717 => ?_)
                      replace h717 : a226 = some ⟨g716, 0, none⟩ := h717
                      have h718 := own_of (k := x225.1.length) (c := c227) h717
                      refine sxc_idxO (j := 1) rfl (fun x719 e719 g720 h721 => ?_)
                      replace h721 : a226 = some ⟨g720, 0, none⟩ := h721
                      have h722 := own_of (k := x225.1.length) (c := c227) h721
                      refine sxb_draw mixed [] [] [CellsAt g712 (x615.toNat * 1) ((eI .i64) x711), CellsAt g716 (x711.toNat * 1) ((eI .i64) x715), CellsAt g720 (x4.toNat * 1) ((eI .i64) x719)] .nil (gk_R 0 rfl (at_row (eI_ok .i64) e711 h713) (gk_R 1 rfl (at_row (eI_ok .i64) e715 h717) (gk_R 1 rfl (at_row (eI_ok .i64) e719 h721) gk_nil))) 12 rfl ?_
                      refine sxb_takeP 0 (.slice a226 x225.1.length c227) rfl rfl rfl (yv_pv rfl) ?_
                      refine sxb_takeP 1 (.slice a42 x41.1.length c43) rfl rfl rfl (yv_pv rfl) ?_
                      refine sxb_takeP 2 (.int .i64 x615) rfl rfl rfl (yv_pv rfl) ?_
                      refine sxb_again (d := 140) (v := .slice (some ⟨g712, 0, none⟩) x41.1.length c43) rfl (by rw [h713] <;> rfl) ?_
                      refine sxb_takeP 3 (.pointer (some ⟨g712, x615.toNat * 1, none⟩)) rfl rfl rfl (yv_idxO Try.underlying25 tf3 rfl rfl (idx_get e711).1 (idx_lt e711)) ?_
                      refine sxb_again (d := 140) (v := .slice a42 x41.1.length c43) rfl (by rw [h713] <;> rfl) ?_
                      refine sxb_take 4 (.int .i64 x711) [] rfl rfl rfl (yv_loadF (j := 0) rfl tf3 rfl rfl (fun _ => rfl) rfl) ?_
                      refine sxb_again (d := 139) (v := .slice (some ⟨g716, 0, none⟩) x225.1.length c227) rfl (by rw [h717] <;> rfl) ?_
                      refine sxb_takeP 5 (.pointer (some ⟨g716, x711.toNat * 1, none⟩)) rfl rfl rfl (yv_idxO Try.underlying25 tf3 rfl rfl (idx_get e715).1 (idx_lt e715)) ?_
                      refine sxb_again (d := 139) (v := .slice a226 x225.1.length c227) rfl (by rw [h717] <;> rfl) ?_
                      refine sxb_take 6 (.int .i64 x715) [] rfl rfl rfl (yv_loadF (j := 1) rfl tf3 rfl rfl (fun _ => rfl) rfl) ?_
                      refine sxb_takeP 7 (.slice a226 x225.1.length c227) rfl rfl rfl (yv_pv rfl) ?_
                      refine sxb_takeP 8 (.int .i64 x4) rfl rfl rfl (yv_pv rfl) ?_
                      refine sxb_again (d := 146) (v := .slice (some ⟨g720, 0, none⟩) x225.1.length c227) rfl (by rw [h721] <;> rfl) ?_
                      refine sxb_takeP 9 (.pointer (some ⟨g720, x4.toNat * 1, none⟩)) rfl rfl rfl (yv_idxO Try.underlying25 tf3 rfl rfl (idx_get e719).1 (idx_lt e719)) ?_
                      refine sxb_again (d := 146) (v := .slice a226 x225.1.length c227) rfl (by rw [h721] <;> rfl) ?_
                      refine sxb_take 10 (.int .i64 x719) [] rfl rfl rfl (yv_loadF (j := 2) rfl tf3 rfl rfl (fun _ => rfl) rfl) ?_
                      refine sxb_takeP 11 (.bool ((x715 : Int) != x719)) rfl rfl rfl (yv_pv rfl) ?_
                      refine sxb_done (by kernel_rfl) ?_
                      refine sxq_np ?_ (by intro c h; cases h)
                      refine sxq_next ?_
                      refine sxc_if rfl (fun h723 => ?_) (fun h723 => ?_)
                      · refine sxc_seq ?_
                        refine sxc_region ?_
                        refine sxo_assign rfl rfl rfl ?_
                        refine sxo_nil ?_
                        refine sxq_next ?_
                        refine sxc_ret ?_
                        refine sxq_blkR ?_
                        refine sxq_thenR ?_
                        refine sxq_thenR ?_
                        refine sxq_blkR ?_
                        refine sxq_thenR ?_
                        exact sxq_doneP () (res1 rfl rfl)
                      · refine sxc_skip ?_
                        refine sxq_blkN ?_
                        refine sxq_next ?_
                        refine sxc_region ?_
                        refine sxo_move rfl rfl rfl ?_
                        refine sxo_add rfl rfl rfl rfl ?_
                        refine sxo_assign rfl rfl rfl ?_
                        refine sxo_nil ?_
                        exact sxq_againP (iadd .i64 x615 1, ()) (hR := (.cons 0 rfl (.cons 0 rfl .nil)))
                    · refine sxc_exit ?_
                      refine sxq_thenX ?_
                      refine sxq_thenX ?_
                      refine sxq_blkX ?_
                      exact sxq_meetP ((), ())
                  · rintro ⟨_, _⟩
                    try dsimp only
                    refine sxc_seq ?_
                    refine sxc_region ?_
                    refine sxo_assign rfl rfl rfl ?_
                    refine sxo_nil ?_
                    refine sxq_next ?_
                    refine sxc_ret ?_
                    exact sxq_doneP () (res1 rfl rfl)
end Go.Proofs.Ytefoeebfidklgaa
