/- Each Go function of this seat computes what its model says, part 2. -/
import Derived.Test.YtilaklhajonenaaWalks
namespace Go.Proofs.Ytilaklhajonenaa
open Go SX
set_option maxHeartbeats 4000000 in
theorem C_L_huffBegun (F : Nat)  (r : Bool) (hm : M_L_huffBegun F  = some r) :
    Pure Try.prog 19 [] [] Unit (fun _ => .bool r) (fun _ => []) (fun _ => []) := by
  refine pure_of Try.func19 rfl Try.ntmps19 rfl hm (fun w => ?_)
  refine sxc_env (l' := []) rfl ?_
  refine sxc_seq ?_
  refine sxc_region ?_
  refine sxo_assign rfl rfl rfl ?_
  refine sxo_nil ?_
  refine sxq_next ?_
  refine sxc_seq ?_
  refine sxc_region ?_
  refine sxo_slit (vs := [.int .i64 5, .int .i64 0, .int .i64 1, .int .i64 2, .int .i64 1]) (ys := ([5, 0, 1, 2, 1] : List Int)) (eI_ok .i64) (by decide) rfl Try.underlying22 tf3 rfl rfl rfl rfl rfl (by decide) (fun a1 c2 => ?_)
  refine sxo_call ent11 rfl rfl rfl (fun x3 e3 => C_huff_Lengths F ([5, 0, 1, 2, 1] : List Int) a1 c2 x3 e3) (.consR 0 (Ro (eI .i64) 3 1 (.slice a1 ([5, 0, 1, 2, 1] : List Int).length c2) ([5, 0, 1, 2, 1] : List Int)) rfl .nil) (fun x3 e3 => ?_)
  rintro ⟨a4, c5⟩
  refine sxo_move rfl rfl rfl ?_
  refine sxo_extract rfl rfl rfl rfl ?_
  refine sxo_extract rfl rfl rfl rfl ?_
  refine sxo_assign rfl rfl rfl ?_
  refine sxo_assign rfl rfl rfl ?_
  refine sxo_nil ?_
  refine sxq_next ?_
  refine sxc_seq ?_
  refine sxc_region ?_
  refine sxo_slit (vs := [.int .i64 5, .int .i64 0, .int .i64 1, .int .i64 2, .int .i64 1]) (ys := ([5, 0, 1, 2, 1] : List Int)) (eI_ok .i64) (by decide) rfl Try.underlying22 tf3 rfl rfl rfl rfl rfl (by decide) (fun a6 c7 => ?_)
  refine sxo_move rfl rfl rfl ?_
  refine sxo_call ent12 rfl rfl rfl (fun x8 e8 => C_huff_Cost F ([5, 0, 1, 2, 1] : List Int) a6 c7 x3.1 a4 c5 x8 e8) (.consR 0 (Ro (eI .i64) 3 1 (.slice a6 ([5, 0, 1, 2, 1] : List Int).length c7) ([5, 0, 1, 2, 1] : List Int)) rfl (.consR 1 (Ro (eI .i64) 3 1 (.slice a4 x3.1.length c5) x3.1) rfl .nil)) (fun x8 e8 => ?_)
  intro _
  refine sxo_move rfl rfl rfl ?_
  refine sxo_extract rfl rfl rfl rfl ?_
  refine sxo_extract rfl rfl rfl rfl ?_
  refine sxo_assign rfl rfl rfl ?_
  refine sxo_assign rfl rfl rfl ?_
  refine sxo_nil ?_
  refine sxq_next ?_
  refine sxc_seq ?_
  refine sxc_region ?_
  refine sxo_slit (vs := [.int .i64 0, .int .i64 2, .int .i64 0]) (ys := ([0, 2, 0] : List Int)) (eI_ok .i64) (by decide) rfl Try.underlying22 tf3 rfl rfl rfl rfl rfl (by decide) (fun a9 c10 => ?_)
  refine sxo_call ent13 rfl rfl rfl (fun x11 e11 => C_huff_Pack F ([0, 2, 0] : List Int) a9 c10 3 x11 e11) (.consR 0 (Ro (eI .i64) 3 1 (.slice a9 ([0, 2, 0] : List Int).length c10) ([0, 2, 0] : List Int)) rfl .nil) (fun x11 e11 => ?_)
  rintro ⟨⟨a12, c13⟩, ⟨a14, c15⟩⟩
  refine sxo_move rfl rfl rfl ?_
  refine sxo_extract rfl rfl rfl rfl ?_
  refine sxo_extract rfl rfl rfl rfl ?_
  refine sxo_extract rfl rfl rfl rfl ?_
  refine sxo_alloc rfl tf25 rfl (fun g16 => ?_)
  refine sxo_assign rfl rfl rfl ?_
  refine sxo_storeB (i := 0) rfl rfl rfl tf25 rfl rfl rfl rfl rfl ?_
  refine sxo_assign rfl rfl rfl ?_
  refine sxo_nil ?_
  refine sxq_next ?_
  refine sxc_seq ?_
  refine sxc_region ?_
  refine sxo_move rfl rfl rfl ?_
  refine sxo_loadB (i := 0) rfl rfl tf25 rfl rfl (by simp) rfl rfl ?_
  refine sxo_call ent14 rfl rfl rfl (fun x17 e17 => C_huff_Unpack F x11.1 a12 c13 x11.2.1 x11.2.2.1 a14 c15 3 x17 e17) (.consR 0 (Ro (eI .i64) 3 1 (.slice a12 x11.1.length c13) x11.1) rfl (.consR 1 (Ro (eI .u8) 5 1 (.slice a14 x11.2.2.1.length c15) x11.2.2.1) rfl .nil)) (fun x17 e17 => ?_)
  rintro ⟨a18, c19⟩
  refine sxo_move rfl rfl rfl ?_
  refine sxo_extract rfl rfl rfl rfl ?_
  refine sxo_extract rfl rfl rfl rfl ?_
  refine sxo_assign rfl rfl rfl ?_
  refine sxo_assign rfl rfl rfl ?_
  refine sxo_nil ?_
  refine sxq_next ?_
  refine sxc_seq ?_
  refine sxc_region ?_
  refine sxo_move rfl rfl rfl ?_
  refine sxo_loadB (i := 0) rfl rfl tf25 rfl rfl (by simp) rfl rfl ?_
  refine sxo_call ent14 rfl rfl rfl (fun x20 e20 => C_huff_Unpack F x11.1 a12 c13 x11.2.1 x11.2.2.1 a14 c15 2 x20 e20) (.consR 1 (Ro (eI .i64) 3 1 (.slice a12 x11.1.length c13) x11.1) rfl (.consR 2 (Ro (eI .u8) 5 1 (.slice a14 x11.2.2.1.length c15) x11.2.2.1) rfl .nil)) (fun x20 e20 => ?_)
  rintro ⟨a21, c22⟩
  refine sxo_move rfl rfl rfl ?_
  refine sxo_extract rfl rfl rfl rfl ?_
  refine sxo_extract rfl rfl rfl rfl ?_
  refine sxo_assign rfl rfl rfl ?_
  refine sxo_assign rfl rfl rfl ?_
  refine sxo_nil ?_
  refine sxq_next ?_
  refine sxc_seq ?_
  refine sxc_region ?_
  refine sxo_slit (vs := [.int .i64 0, .int .i64 7]) (ys := ([0, 7] : List Int)) (eI_ok .i64) (by decide) rfl Try.underlying22 tf3 rfl rfl rfl rfl rfl (by decide) (fun a23 c24 => ?_)
  refine sxo_call ent11 rfl rfl rfl (fun x25 e25 => C_huff_Lengths F ([0, 7] : List Int) a23 c24 x25 e25) (.consR 0 (Ro (eI .i64) 3 1 (.slice a23 ([0, 7] : List Int).length c24) ([0, 7] : List Int)) rfl .nil) (fun x25 e25 => ?_)
  rintro ⟨a26, c27⟩
  refine sxo_move rfl rfl rfl ?_
  refine sxo_extract rfl rfl rfl rfl ?_
  refine sxo_extract rfl rfl rfl rfl ?_
  refine sxo_assign rfl rfl rfl ?_
  refine sxo_assign rfl rfl rfl ?_
  refine sxo_nil ?_
  refine sxq_next ?_
  refine sxc_seq ?_
  refine sxc_region ?_
  refine sxo_move rfl rfl rfl ?_
  refine sxo_slit (vs := [.int .i64 1, .int .i64 0, .int .i64 3, .int .i64 2, .int .i64 3]) (ys := ([1, 0, 3, 2, 3] : List Int)) (eI_ok .i64) (by decide) rfl Try.underlying22 tf3 rfl rfl rfl rfl rfl (by decide) (fun a28 c29 => ?_)
  refine sxo_call ent20 rfl rfl rfl (fun x30 e30 => C_R_SameInts F x3.1 a4 c5 ([1, 0, 3, 2, 3] : List Int) a28 c29 x30 e30) (.consR 9 (Ro (eI .i64) 3 1 (.slice a4 x3.1.length c5) x3.1) rfl (.consR 0 (Ro (eI .i64) 3 1 (.slice a28 ([1, 0, 3, 2, 3] : List Int).length c29) ([1, 0, 3, 2, 3] : List Int)) rfl .nil)) (fun x30 e30 => ?_)
  intro _
  refine sxo_move rfl rfl rfl ?_
  refine sxo_case 3 x30 [(3, .int .i64 x8.1), (4, .int .i64 x8.2), (6, .pointer (some ⟨g16, 0, none⟩)), (5, .slice a12 x11.1.length c13), (7, .int .i64 x11.2.2.2), (8, .slice a18 x17.1.length c19), (9, .int .i64 x17.2), (11, .int .i64 x20.2), (12, .slice a26 x25.1.length c27), (13, .int .i64 x25.2), (54, .bool (x30 && ((x3.2 : Int) == 0)))] (fun h31 => ?_) (fun h31 => ?_) ?_
  · refine sxo_take (os := _) rfl ?_
    refine sxo_isT (k := 51) rfl h31 ?_
    refine sxo_move rfl rfl rfl ?_
    refine sxo_eql rfl rfl rfl rfl ?_
    refine sxo_pick (b := true) rfl rfl rfl rfl ?_
    refine sxo_again (d := 54) (v := .bool (x30 && ((x3.2 : Int) == 0))) rfl (by rw [h31]; simp only [Bool.true_and]) ?_
    refine sxo_nil ?_
    exact sxq_case (lk_cons rfl (lk_cons rfl (lk_cons rfl (lk_cons rfl (lk_cons rfl (lk_cons rfl (lk_cons rfl (lk_cons rfl (lk_cons rfl (lk_cons rfl (lk_cons rfl lk_nil)))))))))))
  · refine sxo_take (os := _) rfl ?_
    refine sxo_isF (k := 51) rfl h31 ?_
    refine sxo_skip rfl rfl rfl ?_
    refine sxo_skip rfl rfl rfl ?_
    refine sxo_pick (b := false) rfl rfl rfl rfl ?_
    refine sxo_again (d := 54) (v := .bool (x30 && ((x3.2 : Int) == 0))) rfl (by rw [h31]; simp only [Bool.false_and]) ?_
    refine sxo_nil ?_
    exact sxq_case (lk_cons rfl (lk_cons rfl (lk_cons rfl (lk_cons rfl (lk_cons rfl (lk_cons rfl (lk_cons rfl (lk_cons rfl (lk_cons rfl (lk_cons rfl (lk_cons rfl lk_nil)))))))))))
  refine sxo_take (os := _) rfl ?_
  refine sxo_move rfl rfl rfl ?_
  refine sxo_case 3 (x30 && ((x3.2 : Int) == 0)) [(4, .int .i64 x8.2), (6, .pointer (some ⟨g16, 0, none⟩)), (5, .slice a12 x11.1.length c13), (7, .int .i64 x11.2.2.2), (8, .slice a18 x17.1.length c19), (9, .int .i64 x17.2), (11, .int .i64 x20.2), (12, .slice a26 x25.1.length c27), (13, .int .i64 x25.2), (58, .bool ((x30 && ((x3.2 : Int) == 0)) && ((x8.1 : Int) == 15)))] (fun h32 => ?_) (fun h32 => ?_) ?_
  · refine sxo_take (os := _) rfl ?_
    refine sxo_isT (k := 55) rfl h32 ?_
    refine sxo_move rfl rfl rfl ?_
    refine sxo_eql rfl rfl rfl rfl ?_
    refine sxo_pick (b := true) rfl rfl rfl rfl ?_
    refine sxo_again (d := 58) (v := .bool ((x30 && ((x3.2 : Int) == 0)) && ((x8.1 : Int) == 15))) rfl (by rw [h32]; simp only [Bool.true_and]) ?_
    refine sxo_nil ?_
    exact sxq_case (lk_cons rfl (lk_cons rfl (lk_cons rfl (lk_cons rfl (lk_cons rfl (lk_cons rfl (lk_cons rfl (lk_cons rfl (lk_cons rfl (lk_cons rfl lk_nil))))))))))
  · refine sxo_take (os := _) rfl ?_
    refine sxo_isF (k := 55) rfl h32 ?_
    refine sxo_skip rfl rfl rfl ?_
    refine sxo_skip rfl rfl rfl ?_
    refine sxo_pick (b := false) rfl rfl rfl rfl ?_
    refine sxo_again (d := 58) (v := .bool ((x30 && ((x3.2 : Int) == 0)) && ((x8.1 : Int) == 15))) rfl (by rw [h32]; simp only [Bool.false_and]) ?_
    refine sxo_nil ?_
    exact sxq_case (lk_cons rfl (lk_cons rfl (lk_cons rfl (lk_cons rfl (lk_cons rfl (lk_cons rfl (lk_cons rfl (lk_cons rfl (lk_cons rfl (lk_cons rfl lk_nil))))))))))
  refine sxo_take (os := _) rfl ?_
  refine sxo_move rfl rfl rfl ?_
  refine sxo_case 3 ((x30 && ((x3.2 : Int) == 0)) && ((x8.1 : Int) == 15)) [(6, .pointer (some ⟨g16, 0, none⟩)), (5, .slice a12 x11.1.length c13), (7, .int .i64 x11.2.2.2), (8, .slice a18 x17.1.length c19), (9, .int .i64 x17.2), (11, .int .i64 x20.2), (12, .slice a26 x25.1.length c27), (13, .int .i64 x25.2), (62, .bool (((x30 && ((x3.2 : Int) == 0)) && ((x8.1 : Int) == 15)) && ((x8.2 : Int) == 0)))] (fun h33 => ?_) (fun h33 => ?_) ?_
  · refine sxo_take (os := _) rfl ?_
    refine sxo_isT (k := 59) rfl h33 ?_
    refine sxo_move rfl rfl rfl ?_
    refine sxo_eql rfl rfl rfl rfl ?_
    refine sxo_pick (b := true) rfl rfl rfl rfl ?_
    refine sxo_again (d := 62) (v := .bool (((x30 && ((x3.2 : Int) == 0)) && ((x8.1 : Int) == 15)) && ((x8.2 : Int) == 0))) rfl (by rw [h33]; simp only [Bool.true_and]) ?_
    refine sxo_nil ?_
    exact sxq_case (lk_cons rfl (lk_cons rfl (lk_cons rfl (lk_cons rfl (lk_cons rfl (lk_cons rfl (lk_cons rfl (lk_cons rfl (lk_cons rfl lk_nil)))))))))
  · refine sxo_take (os := _) rfl ?_
    refine sxo_isF (k := 59) rfl h33 ?_
    refine sxo_skip rfl rfl rfl ?_
    refine sxo_skip rfl rfl rfl ?_
    refine sxo_pick (b := false) rfl rfl rfl rfl ?_
    refine sxo_again (d := 62) (v := .bool (((x30 && ((x3.2 : Int) == 0)) && ((x8.1 : Int) == 15)) && ((x8.2 : Int) == 0))) rfl (by rw [h33]; simp only [Bool.false_and]) ?_
    refine sxo_nil ?_
    exact sxq_case (lk_cons rfl (lk_cons rfl (lk_cons rfl (lk_cons rfl (lk_cons rfl (lk_cons rfl (lk_cons rfl (lk_cons rfl (lk_cons rfl lk_nil)))))))))
  refine sxo_take (os := _) rfl ?_
  refine sxo_move rfl rfl rfl ?_
  refine sxo_join 4 (fun ((x38, _) : (Bool × Unit)) => [(6, .pointer (some ⟨g16, 0, none⟩)), (7, .int .i64 x11.2.2.2), (8, .slice a18 x17.1.length c19), (9, .int .i64 x17.2), (11, .int .i64 x20.2), (12, .slice a26 x25.1.length c27), (13, .int .i64 x25.2), (67, .bool x38)]) (fun ((x38, _) : (Bool × Unit)) => [⟨g16, 25, [.int .i64 x11.2.1, .slice a14 x11.2.2.1.length c15]⟩]) (fun ((x38, _) : (Bool × Unit)) => [Ro (eI .i64) 3 1 (.slice a18 x17.1.length c19) x17.1, Ro (eI .i64) 3 1 (.slice a26 x25.1.length c27) x25.1, Ro (eI .u8) 5 1 (.slice a14 x11.2.2.1.length c15) x11.2.2.1]) (fun ((x38, _) : (Bool × Unit)) => []) (fun ((x38, _) : (Bool × Unit)) => M_L_huffBegun_j1 F x11 x17 x20 x25 x38) ?_ ?_
  · refine sxo_take (os := _) rfl ?_
    refine sxo_if (fun h34 => ?_) (fun h34 => ?_)
    · refine sxo_isT (k := 63) rfl h34 ?_
      refine sxo_move rfl rfl rfl ?_
      refine sxo_slit (vs := [.int .i64 1, .int .i64 0, .int .i64 1]) (ys := ([1, 0, 1] : List Int)) (eI_ok .i64) (by decide) rfl Try.underlying22 tf3 rfl rfl rfl rfl rfl (by decide) (fun a60 c61 => ?_)
      refine sxo_call ent20 rfl rfl rfl (fun x62 e62 => C_R_SameInts F x11.1 a12 c13 ([1, 0, 1] : List Int) a60 c61 x62 e62) (.consR 6 (Ro (eI .i64) 3 1 (.slice a12 x11.1.length c13) x11.1) rfl (.consR 0 (Ro (eI .i64) 3 1 (.slice a60 ([1, 0, 1] : List Int).length c61) ([1, 0, 1] : List Int)) rfl .nil)) (fun x62 e62 => ?_)
      intro _
      refine sxo_pick (b := true) rfl rfl rfl rfl ?_
      refine sxo_nil ?_
      exact sxq_meetP (x62, ()) (hB := (.cons 0 rfl .nil)) (hR := (.cons 5 rfl (.cons 2 rfl (.cons 5 rfl .nil))))
    · refine sxo_isF (k := 63) rfl h34 ?_
      refine sxo_skip rfl rfl rfl ?_
      refine sxo_skip rfl rfl rfl ?_
      refine sxo_skip rfl rfl rfl ?_
      refine sxo_pick (b := false) rfl rfl rfl rfl ?_
      refine sxo_nil ?_
      exact sxq_meetP (false, ()) (hB := (.cons 0 rfl .nil)) (hR := (.cons 4 rfl (.cons 1 rfl (.cons 4 rfl .nil))))
  · rintro ⟨x38, _⟩
    try dsimp only
    refine sxo_take (os := _) rfl ?_
    refine sxo_move rfl rfl rfl ?_
    refine sxo_case 4 x38 [(7, .int .i64 x11.2.2.2), (8, .slice a18 x17.1.length c19), (9, .int .i64 x17.2), (11, .int .i64 x20.2), (12, .slice a26 x25.1.length c27), (13, .int .i64 x25.2), (72, .bool (x38 && ((x11.2.1 : Int) == 3)))] (fun h39 => ?_) (fun h39 => ?_) ?_
    · refine sxo_take (os := _) rfl ?_
      refine sxo_isT (k := 68) rfl h39 ?_
      refine sxo_fieldAddr rfl rfl ff25_0 rfl ?_
      refine sxo_loadB (i := 0) rfl rfl tf3 rfl rfl (fun _ => rfl) rfl rfl ?_
      refine sxo_eql rfl rfl rfl rfl ?_
      refine sxo_pick (b := true) rfl rfl rfl rfl ?_
      refine sxo_again (d := 72) (v := .bool (x38 && ((x11.2.1 : Int) == 3))) rfl (by rw [h39]; simp only [Bool.true_and]) ?_
      refine sxo_nil ?_
      exact sxq_case (lk_cons rfl (lk_cons rfl (lk_cons rfl (lk_cons rfl (lk_cons rfl (lk_cons rfl (lk_cons rfl lk_nil)))))))
    · refine sxo_take (os := _) rfl ?_
      refine sxo_isF (k := 68) rfl h39 ?_
      refine sxo_skip rfl rfl rfl ?_
      refine sxo_skip rfl rfl rfl ?_
      refine sxo_skip rfl rfl rfl ?_
      refine sxo_pick (b := false) rfl rfl rfl rfl ?_
      refine sxo_again (d := 72) (v := .bool (x38 && ((x11.2.1 : Int) == 3))) rfl (by rw [h39]; simp only [Bool.false_and]) ?_
      refine sxo_nil ?_
      exact sxq_case (lk_cons rfl (lk_cons rfl (lk_cons rfl (lk_cons rfl (lk_cons rfl (lk_cons rfl (lk_cons rfl lk_nil)))))))
    refine sxo_take (os := _) rfl ?_
    refine sxo_move rfl rfl rfl ?_
    refine sxo_case 3 (x38 && ((x11.2.1 : Int) == 3)) [(8, .slice a18 x17.1.length c19), (9, .int .i64 x17.2), (11, .int .i64 x20.2), (12, .slice a26 x25.1.length c27), (13, .int .i64 x25.2), (76, .bool ((x38 && ((x11.2.1 : Int) == 3)) && ((x11.2.2.2 : Int) == 0)))] (fun h40 => ?_) (fun h40 => ?_) ?_
    · refine sxo_take (os := _) rfl ?_
      refine sxo_isT (k := 73) rfl h40 ?_
      refine sxo_move rfl rfl rfl ?_
      refine sxo_eql rfl rfl rfl rfl ?_
      refine sxo_pick (b := true) rfl rfl rfl rfl ?_
      refine sxo_again (d := 76) (v := .bool ((x38 && ((x11.2.1 : Int) == 3)) && ((x11.2.2.2 : Int) == 0))) rfl (by rw [h40]; simp only [Bool.true_and]) ?_
      refine sxo_nil ?_
      exact sxq_case (lk_cons rfl (lk_cons rfl (lk_cons rfl (lk_cons rfl (lk_cons rfl (lk_cons rfl lk_nil))))))
    · refine sxo_take (os := _) rfl ?_
      refine sxo_isF (k := 73) rfl h40 ?_
      refine sxo_skip rfl rfl rfl ?_
      refine sxo_skip rfl rfl rfl ?_
      refine sxo_pick (b := false) rfl rfl rfl rfl ?_
      refine sxo_again (d := 76) (v := .bool ((x38 && ((x11.2.1 : Int) == 3)) && ((x11.2.2.2 : Int) == 0))) rfl (by rw [h40]; simp only [Bool.false_and]) ?_
      refine sxo_nil ?_
      exact sxq_case (lk_cons rfl (lk_cons rfl (lk_cons rfl (lk_cons rfl (lk_cons rfl (lk_cons rfl lk_nil))))))
    refine sxo_take (os := _) rfl ?_
    refine sxo_move rfl rfl rfl ?_
    refine sxo_join 4 (fun ((x45, _) : (Bool × Unit)) => [(9, .int .i64 x17.2), (11, .int .i64 x20.2), (12, .slice a26 x25.1.length c27), (13, .int .i64 x25.2), (81, .bool x45)]) (fun ((x45, _) : (Bool × Unit)) => []) (fun ((x45, _) : (Bool × Unit)) => [Ro (eI .i64) 3 1 (.slice a26 x25.1.length c27) x25.1]) (fun ((x45, _) : (Bool × Unit)) => []) (fun ((x45, _) : (Bool × Unit)) => M_L_huffBegun_j2 F x17 x20 x25 x45) ?_ ?_
    · refine sxo_take (os := _) rfl ?_
      refine sxo_if (fun h41 => ?_) (fun h41 => ?_)
      · refine sxo_isT (k := 77) rfl h41 ?_
        refine sxo_move rfl rfl rfl ?_
        refine sxo_slit (vs := [.int .i64 0, .int .i64 2, .int .i64 0]) (ys := ([0, 2, 0] : List Int)) (eI_ok .i64) (by decide) rfl Try.underlying22 tf3 rfl rfl rfl rfl rfl (by decide) (fun a57 c58 => ?_)
        refine sxo_call ent20 rfl rfl rfl (fun x59 e59 => C_R_SameInts F x17.1 a18 c19 ([0, 2, 0] : List Int) a57 c58 x59 e59) (.consR 1 (Ro (eI .i64) 3 1 (.slice a18 x17.1.length c19) x17.1) rfl (.consR 0 (Ro (eI .i64) 3 1 (.slice a57 ([0, 2, 0] : List Int).length c58) ([0, 2, 0] : List Int)) rfl .nil)) (fun x59 e59 => ?_)
        intro _
        refine sxo_pick (b := true) rfl rfl rfl rfl ?_
        refine sxo_nil ?_
        exact sxq_meetP (x59, ()) (hR := (.cons 2 rfl .nil))
      · refine sxo_isF (k := 77) rfl h41 ?_
        refine sxo_skip rfl rfl rfl ?_
        refine sxo_skip rfl rfl rfl ?_
        refine sxo_skip rfl rfl rfl ?_
        refine sxo_pick (b := false) rfl rfl rfl rfl ?_
        refine sxo_nil ?_
        exact sxq_meetP (false, ()) (hR := (.cons 1 rfl .nil))
    · rintro ⟨x45, _⟩
      try dsimp only
      refine sxo_take (os := _) rfl ?_
      refine sxo_move rfl rfl rfl ?_
      refine sxo_case 3 x45 [(11, .int .i64 x20.2), (12, .slice a26 x25.1.length c27), (13, .int .i64 x25.2), (85, .bool (x45 && ((x17.2 : Int) == 0)))] (fun h46 => ?_) (fun h46 => ?_) ?_
      · refine sxo_take (os := _) rfl ?_
        refine sxo_isT (k := 82) rfl h46 ?_
        refine sxo_move rfl rfl rfl ?_
        refine sxo_eql rfl rfl rfl rfl ?_
        refine sxo_pick (b := true) rfl rfl rfl rfl ?_
        refine sxo_again (d := 85) (v := .bool (x45 && ((x17.2 : Int) == 0))) rfl (by rw [h46]; simp only [Bool.true_and]) ?_
        refine sxo_nil ?_
        exact sxq_case (lk_cons rfl (lk_cons rfl (lk_cons rfl (lk_cons rfl lk_nil))))
      · refine sxo_take (os := _) rfl ?_
        refine sxo_isF (k := 82) rfl h46 ?_
        refine sxo_skip rfl rfl rfl ?_
        refine sxo_skip rfl rfl rfl ?_
        refine sxo_pick (b := false) rfl rfl rfl rfl ?_
        refine sxo_again (d := 85) (v := .bool (x45 && ((x17.2 : Int) == 0))) rfl (by rw [h46]; simp only [Bool.false_and]) ?_
        refine sxo_nil ?_
        exact sxq_case (lk_cons rfl (lk_cons rfl (lk_cons rfl (lk_cons rfl lk_nil))))
      refine sxo_take (os := _) rfl ?_
      refine sxo_move rfl rfl rfl ?_
      refine sxo_case 3 (x45 && ((x17.2 : Int) == 0)) [(12, .slice a26 x25.1.length c27), (13, .int .i64 x25.2), (89, .bool ((x45 && ((x17.2 : Int) == 0)) && ((x20.2 : Int) == 1)))] (fun h47 => ?_) (fun h47 => ?_) ?_
      · refine sxo_take (os := _) rfl ?_
        refine sxo_isT (k := 86) rfl h47 ?_
        refine sxo_move rfl rfl rfl ?_
        refine sxo_eql rfl rfl rfl rfl ?_
        refine sxo_pick (b := true) rfl rfl rfl rfl ?_
        refine sxo_again (d := 89) (v := .bool ((x45 && ((x17.2 : Int) == 0)) && ((x20.2 : Int) == 1))) rfl (by rw [h47]; simp only [Bool.true_and]) ?_
        refine sxo_nil ?_
        exact sxq_case (lk_cons rfl (lk_cons rfl (lk_cons rfl lk_nil)))
      · refine sxo_take (os := _) rfl ?_
        refine sxo_isF (k := 86) rfl h47 ?_
        refine sxo_skip rfl rfl rfl ?_
        refine sxo_skip rfl rfl rfl ?_
        refine sxo_pick (b := false) rfl rfl rfl rfl ?_
        refine sxo_again (d := 89) (v := .bool ((x45 && ((x17.2 : Int) == 0)) && ((x20.2 : Int) == 1))) rfl (by rw [h47]; simp only [Bool.false_and]) ?_
        refine sxo_nil ?_
        exact sxq_case (lk_cons rfl (lk_cons rfl (lk_cons rfl lk_nil)))
      refine sxo_take (os := _) rfl ?_
      refine sxo_move rfl rfl rfl ?_
      refine sxo_join 4 (fun ((x52, _) : (Bool × Unit)) => [(13, .int .i64 x25.2), (94, .bool x52)]) (fun ((x52, _) : (Bool × Unit)) => []) (fun ((x52, _) : (Bool × Unit)) => []) (fun ((x52, _) : (Bool × Unit)) => []) (fun ((x52, _) : (Bool × Unit)) => M_L_huffBegun_j3 F x25 x52) ?_ ?_
      · refine sxo_take (os := _) rfl ?_
        refine sxo_if (fun h48 => ?_) (fun h48 => ?_)
        · refine sxo_isT (k := 90) rfl h48 ?_
          refine sxo_move rfl rfl rfl ?_
          refine sxo_slit (vs := [.int .i64 0, .int .i64 1]) (ys := ([0, 1] : List Int)) (eI_ok .i64) (by decide) rfl Try.underlying22 tf3 rfl rfl rfl rfl rfl (by decide) (fun a54 c55 => ?_)
          refine sxo_call ent20 rfl rfl rfl (fun x56 e56 => C_R_SameInts F x25.1 a26 c27 ([0, 1] : List Int) a54 c55 x56 e56) (.consR 1 (Ro (eI .i64) 3 1 (.slice a26 x25.1.length c27) x25.1) rfl (.consR 0 (Ro (eI .i64) 3 1 (.slice a54 ([0, 1] : List Int).length c55) ([0, 1] : List Int)) rfl .nil)) (fun x56 e56 => ?_)
          intro _
          refine sxo_pick (b := true) rfl rfl rfl rfl ?_
          refine sxo_nil ?_
          exact sxq_meetP (x56, ())
        · refine sxo_isF (k := 90) rfl h48 ?_
          refine sxo_skip rfl rfl rfl ?_
          refine sxo_skip rfl rfl rfl ?_
          refine sxo_skip rfl rfl rfl ?_
          refine sxo_pick (b := false) rfl rfl rfl rfl ?_
          refine sxo_nil ?_
          exact sxq_meetP (false, ())
      · rintro ⟨x52, _⟩
        try dsimp only
        refine sxo_take (os := _) rfl ?_
        refine sxo_move rfl rfl rfl ?_
        refine sxo_case 3 x52 [(98, .bool (x52 && ((x25.2 : Int) == 0)))] (fun h53 => ?_) (fun h53 => ?_) ?_
        · refine sxo_take (os := _) rfl ?_
          refine sxo_isT (k := 95) rfl h53 ?_
          refine sxo_move rfl rfl rfl ?_
          refine sxo_eql rfl rfl rfl rfl ?_
          refine sxo_pick (b := true) rfl rfl rfl rfl ?_
          refine sxo_again (d := 98) (v := .bool (x52 && ((x25.2 : Int) == 0))) rfl (by rw [h53]; simp only [Bool.true_and]) ?_
          refine sxo_nil ?_
          exact sxq_case (lk_cons rfl lk_nil)
        · refine sxo_take (os := _) rfl ?_
          refine sxo_isF (k := 95) rfl h53 ?_
          refine sxo_skip rfl rfl rfl ?_
          refine sxo_skip rfl rfl rfl ?_
          refine sxo_pick (b := false) rfl rfl rfl rfl ?_
          refine sxo_again (d := 98) (v := .bool (x52 && ((x25.2 : Int) == 0))) rfl (by rw [h53]; simp only [Bool.false_and]) ?_
          refine sxo_nil ?_
          exact sxq_case (lk_cons rfl lk_nil)
        refine sxo_take (os := _) rfl ?_
        refine sxo_assign rfl rfl rfl ?_
        refine sxo_nil ?_
        refine sxq_next ?_
        refine sxc_ret ?_
        exact sxq_doneP () (res1 rfl rfl)

theorem C_R_SameBytes (F : Nat) (x1 : List Int) (a2 : Option Addr) (c3 : Nat) (x4 : List Int) (a5 : Option Addr) (c6 : Nat) (r : Bool) (hm : M_R_SameBytes F x1 x4 = some r) :
    Pure Try.prog 45 [.slice a2 x1.length c3, .slice a5 x4.length c6] [Sl (eI .u8) 1 (.slice a2 x1.length c3) x1, Sl (eI .u8) 1 (.slice a5 x4.length c6) x4] Unit (fun _ => .bool r) (fun _ => []) (fun _ => []) := by
  refine pure_of Try.func45 rfl Try.ntmps45 rfl hm (fun w => ?_)
  refine sxc_env (l' := [(0, .slice a2 x1.length c3), (1, .slice a5 x4.length c6)]) rfl ?_
  refine sxc_seq ?_
  refine sxc_region ?_
  refine sxo_assign rfl rfl rfl ?_
  refine sxo_nil ?_
  refine sxq_next ?_
  refine sxc_seq ?_
  refine sxc_seq ?_
  refine sxc_region ?_
  refine sxo_move rfl rfl rfl ?_
  refine sxo_len rfl Try.underlying23 rfl rfl ?_
  refine sxo_move rfl rfl rfl ?_
  refine sxo_len rfl Try.underlying23 rfl rfl ?_
  refine sxo_neq rfl rfl rfl rfl ?_
  refine sxo_nil ?_
  refine sxq_next ?_
  refine sxc_if rfl (fun h228 => ?_) (fun h228 => ?_)
  · refine sxc_seq ?_
    refine sxc_region ?_
    refine sxo_assign rfl rfl rfl ?_
    refine sxo_nil ?_
    refine sxq_next ?_
    refine sxc_ret ?_
    refine sxq_thenR ?_
    exact sxq_doneP () (res1 rfl rfl)
  · refine sxc_skip ?_
    refine sxq_next ?_
    refine sxc_join (fun ((_, _) : (Unit × Unit)) => []) (fun ((_, _) : (Unit × Unit)) => []) (fun ((_, _) : (Unit × Unit)) => []) (fun ((_, _) : (Unit × Unit)) => []) (fun ((_, _) : (Unit × Unit)) => M_R_SameBytes_j2 F) ?_ ?_
    · refine sxc_seq ?_
      refine sxc_region ?_
      refine sxo_assign rfl rfl rfl ?_
      refine sxo_nil ?_
      refine sxq_next ?_
      refine sxc_block ?_
      refine sxc_loopP (fun ((x154, _) : (Int × Unit)) => [(0, .slice a2 x1.length c3), (1, .slice a5 x4.length c6), (5, .int .i64 x154)]) (fun ((x154, _) : (Int × Unit)) => []) (fun ((x154, _) : (Int × Unit)) => []) (fun ((x154, _) : (Int × Unit)) => [Sl (eI .u8) 1 (.slice a2 x1.length c3) x1, Sl (eI .u8) 1 (.slice a5 x4.length c6) x4]) (fun k (s : (Int × Unit)) => M_R_SameBytes_l3 F x1 x4 k s.1) (0, ()) F ?_ (hF := (fk_cons 0 rfl (fk_cons 1 rfl fk_nil)))
      intro k191
      rintro ⟨x154, _⟩
      try dsimp only
      refine sxc_meq (m' := M_R_SameBytes_b3 F x1 x4 (M_R_SameBytes_l3 F x1 x4 k191) x154) rfl ?_
      refine sxc_seq ?_
      refine sxc_seq ?_
      refine sxc_region ?_
      refine sxo_move rfl rfl rfl ?_
      refine sxo_move rfl rfl rfl ?_
      refine sxo_len rfl Try.underlying23 rfl rfl ?_
      refine sxo_lss rfl rfl rfl rfl ?_
      refine sxo_nil ?_
      refine sxq_next ?_
      refine sxc_if rfl (fun h227 => ?_) (fun h227 => ?_)
      · refine sxc_skip ?_
        refine sxq_next ?_
        refine sxc_seq ?_
        refine sxc_block ?_
        refine sxc_seq ?_
        refine sxc_idxF (j := 0) (eI_ok .u8) (by decide) rfl (fun x218 e218 b219 o220 h221 => ?_)
        replace h221 : a2 = some ⟨b219, o220, none⟩ := h221
        refine sxc_idxF (j := 2) (eI_ok .u8) (by decide) rfl (fun x222 e222 b223 o224 h225 => ?_)
        replace h225 : a5 = some ⟨b223, o224, none⟩ := h225
        refine sxb_draw mixed [] [] [CellsAt b223 (o224 + x154.toNat * 1) ((eI .u8) x222), CellsAt b219 (o220 + x154.toNat * 1) ((eI .u8) x218), Sl (eI .u8) 1 (.slice a2 x1.length c3) x1, Sl (eI .u8) 1 (.slice a5 x4.length c6) x4] .nil (gk_F 0 rfl (gk_F 1 rfl (gk_F 2 rfl (gk_F 3 rfl gk_nil)))) 9 rfl ?_
        refine sxb_takeP 0 (.slice a2 x1.length c3) rfl rfl rfl (yv_pv rfl) ?_
        refine sxb_takeP 1 (.int .i64 x154) rfl rfl rfl (yv_pv rfl) ?_
        refine sxb_again (d := 17) (v := .slice (some ⟨b219, o220, none⟩) x1.length c3) rfl (by rw [h221] <;> rfl) ?_
        refine sxb_takeP 2 (.pointer (some ⟨b219, (o220 + x154.toNat * 1), none⟩)) rfl rfl rfl (yv_idx Try.underlying23 tf5 rfl rfl (idx_get e218).1 (idx_lt e218)) ?_
        refine sxb_again (d := 17) (v := .slice a2 x1.length c3) rfl (by rw [h221] <;> rfl) ?_
        refine sxb_take 3 (.int .u8 x218) [] rfl rfl rfl (yv_loadF (j := 1) rfl tf5 rfl rfl (fun _ => rfl) rfl) ?_
        refine sxb_takeP 4 (.slice a5 x4.length c6) rfl rfl rfl (yv_pv rfl) ?_
        refine sxb_takeP 5 (.int .i64 x154) rfl rfl rfl (yv_pv rfl) ?_
        refine sxb_again (d := 21) (v := .slice (some ⟨b223, o224, none⟩) x4.length c6) rfl (by rw [h225] <;> rfl) ?_
        refine sxb_takeP 6 (.pointer (some ⟨b223, (o224 + x154.toNat * 1), none⟩)) rfl rfl rfl (yv_idx Try.underlying23 tf5 rfl rfl (idx_get e222).1 (idx_lt e222)) ?_
        refine sxb_again (d := 21) (v := .slice a5 x4.length c6) rfl (by rw [h225] <;> rfl) ?_
        refine sxb_take 7 (.int .u8 x222) [] rfl rfl rfl (yv_loadF (j := 0) rfl tf5 rfl rfl (fun _ => rfl) rfl) ?_
        refine sxb_takeP 8 (.bool ((x218 : Int) != x222)) rfl rfl rfl (yv_pv rfl) ?_
        refine sxb_done (by kernel_rfl) ?_
        refine sxq_np ?_ (by intro c h; cases h)
        refine sxq_next ?_
        refine sxc_if rfl (fun h226 => ?_) (fun h226 => ?_)
        · refine sxc_seq ?_
          refine sxc_region ?_
          refine sxo_assign rfl rfl rfl ?_
          refine sxo_nil ?_
          refine sxq_next ?_
          refine sxc_ret ?_
          refine sxq_blkR ?_
          refine sxq_thenR ?_
          refine sxq_thenR ?_
          refine sxq_blkR ?_
          refine sxq_thenR ?_
          exact sxq_doneP () (res1 rfl rfl)
        · refine sxc_skip ?_
          refine sxq_blkN ?_
          refine sxq_next ?_
          refine sxc_region ?_
          refine sxo_move rfl rfl rfl ?_
          refine sxo_add rfl rfl rfl rfl ?_
          refine sxo_assign rfl rfl rfl ?_
          refine sxo_nil ?_
          exact sxq_againP (iadd .i64 x154 1, ()) (hF := (fk_cons 2 rfl (fk_cons 3 rfl fk_nil)))
      · refine sxc_exit ?_
        refine sxq_thenX ?_
        refine sxq_thenX ?_
        refine sxq_blkX ?_
        exact sxq_meetP ((), ())
    · rintro ⟨_, _⟩
      try dsimp only
      refine sxc_seq ?_
      refine sxc_region ?_
      refine sxo_assign rfl rfl rfl ?_
      refine sxo_nil ?_
      refine sxq_next ?_
      refine sxc_ret ?_
      exact sxq_doneP () (res1 rfl rfl)

theorem C_R_SameBits (F : Nat) (x1 : Int) (x2 : List Int) (a3 : Option Addr) (c4 : Nat) (x5 : Int) (x6 : List Int) (a7 : Option Addr) (c8 : Nat) (r : Bool) (hm : M_R_SameBits F x1 x2 x5 x6 = some r) :
    Pure Try.prog 21 [.agg #[.int .i64 x1, .slice a3 x2.length c4], .agg #[.int .i64 x5, .slice a7 x6.length c8]] [Sl (eI .u8) 1 (.slice a3 x2.length c4) x2, Sl (eI .u8) 1 (.slice a7 x6.length c8) x6] Unit (fun _ => .bool r) (fun _ => []) (fun _ => []) := by
  refine pure_of Try.func21 rfl Try.ntmps21 rfl hm (fun w => ?_)
  refine sxc_env (l' := [(0, .agg #[.int .i64 x1, .slice a3 x2.length c4]), (1, .agg #[.int .i64 x5, .slice a7 x6.length c8])]) rfl ?_
  refine sxc_seq ?_
  refine sxc_region ?_
  refine sxo_box rfl rfl rfl (fun g9 => ?_)
  refine sxo_box rfl rfl rfl (fun g10 => ?_)
  refine sxo_assign rfl rfl rfl ?_
  refine sxo_nil ?_
  refine sxq_next ?_
  refine sxc_seq ?_
  refine sxc_region ?_
  refine sxo_fieldAddr rfl rfl ff25_0 rfl ?_
  refine sxo_loadB (i := 1) rfl rfl tf3 rfl rfl (fun _ => rfl) rfl rfl ?_
  refine sxo_fieldAddr rfl rfl ff25_0 rfl ?_
  refine sxo_loadB (i := 0) rfl rfl tf3 rfl rfl (fun _ => rfl) rfl rfl ?_
  refine sxo_eql rfl rfl rfl rfl ?_
  refine sxo_move rfl rfl rfl ?_
  refine sxo_join 6 (fun ((x13, _) : (Bool × Unit)) => [(16, .bool x13)]) (fun ((x13, _) : (Bool × Unit)) => []) (fun ((x13, _) : (Bool × Unit)) => []) (fun ((x13, _) : (Bool × Unit)) => []) (fun ((x13, _) : (Bool × Unit)) => M_R_SameBits_j1 F x13) ?_ ?_
  · refine sxo_take (os := _) rfl ?_
    refine sxo_if (fun h11 => ?_) (fun h11 => ?_)
    · refine sxo_isT (k := 10) rfl h11 ?_
      refine sxo_fieldAddr rfl rfl ff25_1 rfl ?_
      refine sxo_loadB (i := 1) rfl rfl tf23 rfl rfl (fun _ => rfl) rfl rfl ?_
      refine sxo_fieldAddr rfl rfl ff25_1 rfl ?_
      refine sxo_loadB (i := 0) rfl rfl tf23 rfl rfl (fun _ => rfl) rfl rfl ?_
      refine sxo_call ent45 rfl rfl rfl (fun x14 e14 => C_R_SameBytes F x2 a3 c4 x6 a7 c8 x14 e14) (.consF 0 rfl (.consF 1 rfl .nil)) (fun x14 e14 => ?_)
      intro _
      refine sxo_pick (b := true) rfl rfl rfl rfl ?_
      refine sxo_nil ?_
      exact sxq_meetP (x14, ())
    · refine sxo_isF (k := 10) rfl h11 ?_
      refine sxo_skip rfl rfl rfl ?_
      refine sxo_skip rfl rfl rfl ?_
      refine sxo_skip rfl rfl rfl ?_
      refine sxo_skip rfl rfl rfl ?_
      refine sxo_skip rfl rfl rfl ?_
      refine sxo_pick (b := false) rfl rfl rfl rfl ?_
      refine sxo_nil ?_
      exact sxq_meetP (false, ())
  · rintro ⟨x13, _⟩
    try dsimp only
    refine sxo_take (os := _) rfl ?_
    refine sxo_assign rfl rfl rfl ?_
    refine sxo_nil ?_
    refine sxq_next ?_
    refine sxc_ret ?_
    exact sxq_doneP () (res1 rfl rfl)

set_option maxHeartbeats 4000000 in
theorem C_L_HuffBack (F : Nat) (x1 : List Int) (a2 : Option Addr) (c3 : Nat) (x4 : Int) (r : Bool) (hm : M_L_HuffBack F x1 x4 = some r) :
    Pure Try.prog 4 [.slice a2 x1.length c3, .int .i64 x4] [Sl (eI .i64) 1 (.slice a2 x1.length c3) x1] Unit (fun _ => .bool r) (fun _ => []) (fun _ => []) := by
  refine pure_of Try.func4 rfl Try.ntmps4 rfl hm (fun w => ?_)
  refine sxc_env (l' := [(0, .slice a2 x1.length c3), (1, .int .i64 x4)]) rfl ?_
  refine sxc_seq ?_
  refine sxc_region ?_
  refine sxo_assign rfl rfl rfl ?_
  refine sxo_nil ?_
  refine sxq_next ?_
  refine sxc_seq ?_
  refine sxc_region ?_
  refine sxo_move rfl rfl rfl ?_
  refine sxo_move rfl rfl rfl ?_
  refine sxo_call ent13 rfl rfl rfl (fun x5 e5 => C_huff_Pack F x1 a2 c3 x4 x5 e5) (.consF 0 rfl .nil) (fun x5 e5 => ?_)
  rintro ⟨⟨a6, c7⟩, ⟨a8, c9⟩⟩
  refine sxo_move rfl rfl rfl ?_
  refine sxo_extract rfl rfl rfl rfl ?_
  refine sxo_extract rfl rfl rfl rfl ?_
  refine sxo_extract rfl rfl rfl rfl ?_
  refine sxo_alloc rfl tf25 rfl (fun g10 => ?_)
  refine sxo_assign rfl rfl rfl ?_
  refine sxo_storeB (i := 0) rfl rfl rfl tf25 rfl rfl rfl rfl rfl ?_
  refine sxo_assign rfl rfl rfl ?_
  refine sxo_nil ?_
  refine sxq_next ?_
  refine sxc_seq ?_
  refine sxc_seq ?_
  refine sxc_region ?_
  refine sxo_call ent19 rfl rfl rfl (fun x13 e13 => C_L_huffBegun F  x13 e13) .nil (fun x13 e13 => ?_)
  intro _
  refine sxo_not rfl rfl rfl ?_
  refine sxo_nil ?_
  refine sxq_next ?_
  refine sxc_if rfl (fun h200 => ?_) (fun h200 => ?_)
  · refine sxc_seq ?_
    refine sxc_region ?_
    refine sxo_assign rfl rfl rfl ?_
    refine sxo_nil ?_
    refine sxq_next ?_
    refine sxc_ret ?_
    refine sxq_thenR ?_
    exact sxq_doneP () (res1 rfl rfl)
  · refine sxc_skip ?_
    refine sxq_next ?_
    refine sxc_seq ?_
    refine sxc_seq ?_
    refine sxc_region ?_
    refine sxo_move rfl rfl rfl ?_
    refine sxo_neq rfl rfl rfl rfl ?_
    refine sxo_nil ?_
    refine sxq_next ?_
    refine sxc_if rfl (fun h199 => ?_) (fun h199 => ?_)
    · refine sxc_seq ?_
      refine sxc_region ?_
      refine sxo_move rfl rfl rfl ?_
      refine sxo_len rfl Try.underlying22 rfl rfl ?_
      refine sxo_eql rfl rfl rfl rfl ?_
      refine sxo_move rfl rfl rfl ?_
      refine sxo_join 4 (fun ((x21, _) : (Bool × Unit)) => [(32, .bool x21)]) (fun ((x21, _) : (Bool × Unit)) => []) (fun ((x21, _) : (Bool × Unit)) => []) (fun ((x21, _) : (Bool × Unit)) => []) (fun ((x21, _) : (Bool × Unit)) => M_L_HuffBack_j2 F x21) ?_ ?_
      · refine sxo_take (os := _) rfl ?_
        refine sxo_if (fun h19 => ?_) (fun h19 => ?_)
        · refine sxo_isT (k := 28) rfl h19 ?_
          refine sxo_loadB (i := 0) rfl rfl tf25 rfl rfl (by simp) rfl rfl ?_
          refine sxo_build (cells := [.int .i64 0, .slice none 0 0]) rfl st25 rfl (by kernel_rfl) rfl ?_
          refine sxo_nilrow' Int (eI .u8) 5 1 ?_
          refine sxo_call ent21 rfl rfl rfl (fun x22 e22 => C_R_SameBits F x5.2.1 x5.2.2.1 a8 c9 0 ([] : List Int) none 0 x22 e22) (.consR 2 (Ro (eI .u8) 5 1 (.slice a8 x5.2.2.1.length c9) x5.2.2.1) rfl (.consR 0 (Ro (eI .u8) 5 1 (.slice none ([] : List Int).length 0) ([] : List Int)) rfl .nil)) (fun x22 e22 => ?_)
          intro _
          refine sxo_pick (b := true) rfl rfl rfl rfl ?_
          refine sxo_nil ?_
          exact sxq_meetP (x22, ())
        · refine sxo_isF (k := 28) rfl h19 ?_
          refine sxo_skip rfl rfl rfl ?_
          refine sxo_skip rfl rfl rfl ?_
          refine sxo_skip rfl rfl rfl ?_
          refine sxo_pick (b := false) rfl rfl rfl rfl ?_
          refine sxo_nil ?_
          exact sxq_meetP (false, ())
      · rintro ⟨x21, _⟩
        try dsimp only
        refine sxo_take (os := _) rfl ?_
        refine sxo_assign rfl rfl rfl ?_
        refine sxo_nil ?_
        refine sxq_next ?_
        refine sxc_ret ?_
        refine sxq_thenR ?_
        exact sxq_doneP () (res1 rfl rfl)
    · refine sxc_skip ?_
      refine sxq_next ?_
      refine sxc_seq ?_
      refine sxc_region ?_
      refine sxo_move rfl rfl rfl ?_
      refine sxo_loadB (i := 0) rfl rfl tf25 rfl rfl (by simp) rfl rfl ?_
      refine sxo_move rfl rfl rfl ?_
      refine sxo_len rfl Try.underlying22 rfl rfl ?_
      refine sxo_call ent14 rfl rfl rfl (fun x23 e23 => C_huff_Unpack F x5.1 a6 c7 x5.2.1 x5.2.2.1 a8 c9 (x1.length : Int) x23 e23) (.consR 0 (Ro (eI .i64) 3 1 (.slice a6 x5.1.length c7) x5.1) rfl (.consR 1 (Ro (eI .u8) 5 1 (.slice a8 x5.2.2.1.length c9) x5.2.2.1) rfl .nil)) (fun x23 e23 => ?_)
      rintro ⟨a24, c25⟩
      refine sxo_move rfl rfl rfl ?_
      refine sxo_extract rfl rfl rfl rfl ?_
      refine sxo_extract rfl rfl rfl rfl ?_
      refine sxo_assign rfl rfl rfl ?_
      refine sxo_assign rfl rfl rfl ?_
      refine sxo_nil ?_
      refine sxq_next ?_
      refine sxc_seq ?_
      refine sxc_region ?_
      refine sxo_move rfl rfl rfl ?_
      refine sxo_mk (eI_ok .i64) rfl Try.underlying22 tf3 rfl rfl rfl rfl rfl rfl rfl (fun x26 e26 a27 c28 => ?_)
      refine sxo_assign rfl rfl rfl ?_
      refine sxo_nil ?_
      refine sxq_next ?_
      refine sxc_join (fun ((x110, _) : (List Int × Unit)) => [(0, .slice a2 x1.length c3), (5, .slice a6 x5.1.length c7), (6, .pointer (some ⟨g10, 0, none⟩)), (8, .slice a24 x23.1.length c25), (9, .int .i64 x23.2), (10, .slice a27 x110.length c28)]) (fun ((x110, _) : (List Int × Unit)) => [⟨g10, 25, [.int .i64 x5.2.1, .slice a8 x5.2.2.1.length c9]⟩]) (fun ((x110, _) : (List Int × Unit)) => [Ro (eI .i64) 3 1 (.slice a6 x5.1.length c7) x5.1, Ro (eI .i64) 3 1 (.slice a24 x23.1.length c25) x23.1, Ro (eI .i64) 3 1 (.slice a27 x110.length c28) x110, Ro (eI .u8) 5 1 (.slice a8 x5.2.2.1.length c9) x5.2.2.1]) (fun ((x110, _) : (List Int × Unit)) => [Sl (eI .i64) 1 (.slice a2 x1.length c3) x1]) (fun ((x110, _) : (List Int × Unit)) => M_L_HuffBack_j4 F x1 x5 x23 x110) ?_ ?_
      · refine sxc_seq ?_
        refine sxc_region ?_
        refine sxo_assign rfl rfl rfl ?_
        refine sxo_nil ?_
        refine sxq_next ?_
        refine sxc_block ?_
        refine sxc_loopP (fun (((x144, x145), _) : ((List Int × Int) × Unit)) => [(0, .slice a2 x1.length c3), (5, .slice a6 x5.1.length c7), (6, .pointer (some ⟨g10, 0, none⟩)), (8, .slice a24 x23.1.length c25), (9, .int .i64 x23.2), (10, .slice a27 x144.length c28), (11, .int .i64 x145)]) (fun (((x144, x145), _) : ((List Int × Int) × Unit)) => [⟨g10, 25, [.int .i64 x5.2.1, .slice a8 x5.2.2.1.length c9]⟩]) (fun (((x144, x145), _) : ((List Int × Int) × Unit)) => [Ro (eI .i64) 3 1 (.slice a6 x5.1.length c7) x5.1, Ro (eI .i64) 3 1 (.slice a24 x23.1.length c25) x23.1, Ro (eI .i64) 3 1 (.slice a27 x144.length c28) x144, Ro (eI .u8) 5 1 (.slice a8 x5.2.2.1.length c9) x5.2.2.1]) (fun (((x144, x145), _) : ((List Int × Int) × Unit)) => [Sl (eI .i64) 1 (.slice a2 x1.length c3) x1]) (fun k (s : ((List Int × Int) × Unit)) => M_L_HuffBack_l6 F x1 x5 x23 k s.1) ((x26, 0), ()) F ?_ (hB := (.cons 0 rfl .nil)) (hR := (.cons 2 rfl (.cons 1 rfl (.cons 0 rfl (.cons 0 rfl .nil))))) (hF := (fk_cons 0 rfl fk_nil))
        intro k172
        rintro ⟨⟨x144, x145⟩, _⟩
        try dsimp only
        refine sxc_meq (m' := M_L_HuffBack_b6 F x1 x5 x23 (M_L_HuffBack_l6 F x1 x5 x23 k172) x144 x145) rfl ?_
        refine sxc_seq ?_
        refine sxc_seq ?_
        refine sxc_region ?_
        refine sxo_move rfl rfl rfl ?_
        refine sxo_move rfl rfl rfl ?_
        refine sxo_len rfl Try.underlying22 rfl rfl ?_
        refine sxo_lss rfl rfl rfl rfl ?_
        refine sxo_nil ?_
        refine sxq_next ?_
        refine sxc_if rfl (fun h198 => ?_) (fun h198 => ?_)
        · refine sxc_skip ?_
          refine sxq_next ?_
          refine sxc_seq ?_
          refine sxc_block ?_
          refine sxc_region ?_
          refine sxo_move rfl rfl rfl ?_
          refine sxo_move rfl rfl rfl ?_
          refine sxo_move rfl rfl rfl ?_
          refine sxo_indexF (j := 0) (eI_ok .i64) (by decide) rfl Try.underlying22 tf3 rfl rfl rfl rfl (fun x186 e186 b187 o188 => ?_)
          refine sxo_loadF (j := 0) rfl rfl tf3 rfl rfl (fun _ => rfl) rfl rfl ?_
          refine sxo_indexR (j := 2) rfl Try.underlying22 tf3 rfl rfl rfl rfl (fun x189 e189 g190 h191 => ?_)
          refine sxo_loadR (j := 2) (y := x189) (eI_ok .i64) rfl rfl tf3 rfl h191 (idx_get e189).2.2 (fun _ => rfl) rfl rfl ?_
          refine sxo_add rfl rfl rfl rfl ?_
          refine sxo_indexR (j := 2) rfl Try.underlying22 tf3 rfl rfl rfl rfl (fun x192 e192 g193 h194 => ?_)
          refine sxo_storeL (j := 2) (y' := iadd .i64 x189 1) (eI_ok .i64) rfl rfl rfl tf3 rfl h194 (idx_get e192).2.1 rfl (fun x195 e195 h196 => ?_)
          have h197 : x195.length = x144.length := by rw [← e195, List.length_set]
          refine sxo_again (d := 10) (v := .slice a27 x195.length c28) rfl h196 ?_
          refine sxo_again (d := 49) (v := .slice a27 x195.length c28) rfl h196 ?_
          refine sxo_nil ?_
          refine sxq_blkN ?_
          refine sxq_next ?_
          refine sxc_region ?_
          refine sxo_move rfl rfl rfl ?_
          refine sxo_add rfl rfl rfl rfl ?_
          refine sxo_assign rfl rfl rfl ?_
          refine sxo_nil ?_
          exact sxq_againP ((x195, iadd .i64 x145 1), ()) (hB := (.cons 0 rfl .nil)) (hR := (.cons 1 rfl (.cons 1 rfl (.cons 0 rfl (.cons 0 rfl .nil))))) (hF := (fk_cons 1 rfl fk_nil))
        · refine sxc_exit ?_
          refine sxq_thenX ?_
          refine sxq_thenX ?_
          refine sxq_blkX ?_
          exact sxq_meetP (x144, ()) (hB := (.cons 0 rfl .nil)) (hR := (.cons 0 rfl (.cons 0 rfl (.cons 0 rfl (.cons 0 rfl .nil))))) (hF := (fk_cons 0 rfl fk_nil))
      · rintro ⟨x110, _⟩
        try dsimp only
        refine sxc_seq ?_
        refine sxc_region ?_
        refine sxo_move rfl rfl rfl ?_
        refine sxo_move rfl rfl rfl ?_
        refine sxo_call ent12 rfl rfl rfl (fun x111 e111 => C_huff_Cost F x110 a27 c28 x5.1 a6 c7 x111 e111) (.consR 2 (Ro (eI .i64) 3 1 (.slice a27 x110.length c28) x110) rfl (.consR 0 (Ro (eI .i64) 3 1 (.slice a6 x5.1.length c7) x5.1) rfl .nil)) (fun x111 e111 => ?_)
        intro _
        refine sxo_move rfl rfl rfl ?_
        refine sxo_extract rfl rfl rfl rfl ?_
        refine sxo_extract rfl rfl rfl rfl ?_
        refine sxo_assign rfl rfl rfl ?_
        refine sxo_assign rfl rfl rfl ?_
        refine sxo_nil ?_
        refine sxq_next ?_
        refine sxc_seq ?_
        refine sxc_region ?_
        refine sxo_move rfl rfl rfl ?_
        refine sxo_eql rfl rfl rfl rfl ?_
        refine sxo_move rfl rfl rfl ?_
        refine sxo_case 3 ((x23.2 : Int) == 0) [(0, .slice a2 x1.length c3), (6, .pointer (some ⟨g10, 0, none⟩)), (8, .slice a24 x23.1.length c25), (12, .int .i64 x111.1), (69, .bool (((x23.2 : Int) == 0) && ((x111.2 : Int) == 0)))] (fun h112 => ?_) (fun h112 => ?_) ?_
        · refine sxo_take (os := _) rfl ?_
          refine sxo_isT (k := 66) rfl h112 ?_
          refine sxo_move rfl rfl rfl ?_
          refine sxo_eql rfl rfl rfl rfl ?_
          refine sxo_pick (b := true) rfl rfl rfl rfl ?_
          refine sxo_again (d := 69) (v := .bool (((x23.2 : Int) == 0) && ((x111.2 : Int) == 0))) rfl (by rw [h112]; simp only [Bool.true_and]) ?_
          refine sxo_nil ?_
          exact sxq_case (lk_cons rfl (lk_cons rfl (lk_cons rfl (lk_cons rfl (lk_cons rfl lk_nil)))))
        · refine sxo_take (os := _) rfl ?_
          refine sxo_isF (k := 66) rfl h112 ?_
          refine sxo_skip rfl rfl rfl ?_
          refine sxo_skip rfl rfl rfl ?_
          refine sxo_pick (b := false) rfl rfl rfl rfl ?_
          refine sxo_again (d := 69) (v := .bool (((x23.2 : Int) == 0) && ((x111.2 : Int) == 0))) rfl (by rw [h112]; simp only [Bool.false_and]) ?_
          refine sxo_nil ?_
          exact sxq_case (lk_cons rfl (lk_cons rfl (lk_cons rfl (lk_cons rfl (lk_cons rfl lk_nil)))))
        refine sxo_take (os := _) rfl ?_
        refine sxo_move rfl rfl rfl ?_
        refine sxo_join 4 (fun ((x115, _) : (Bool × Unit)) => [(6, .pointer (some ⟨g10, 0, none⟩)), (12, .int .i64 x111.1), (74, .bool x115)]) (fun ((x115, _) : (Bool × Unit)) => [⟨g10, 25, [.int .i64 x5.2.1, .slice a8 x5.2.2.1.length c9]⟩]) (fun ((x115, _) : (Bool × Unit)) => [Ro (eI .u8) 5 1 (.slice a8 x5.2.2.1.length c9) x5.2.2.1]) (fun ((x115, _) : (Bool × Unit)) => []) (fun ((x115, _) : (Bool × Unit)) => M_L_HuffBack_j5 F x5 x111 x115) ?_ ?_
        · refine sxo_take (os := _) rfl ?_
          refine sxo_if (fun h113 => ?_) (fun h113 => ?_)
          · refine sxo_isT (k := 70) rfl h113 ?_
            refine sxo_move rfl rfl rfl ?_
            refine sxo_move rfl rfl rfl ?_
            refine sxo_call ent20 rfl rfl rfl (fun x117 e117 => C_R_SameInts F x23.1 a24 c25 x1 a2 c3 x117 e117) (.consR 1 (Ro (eI .i64) 3 1 (.slice a24 x23.1.length c25) x23.1) rfl (.consF 0 rfl .nil)) (fun x117 e117 => ?_)
            intro _
            refine sxo_pick (b := true) rfl rfl rfl rfl ?_
            refine sxo_nil ?_
            exact sxq_meetP (x117, ()) (hB := (.cons 0 rfl .nil)) (hR := (.cons 3 rfl .nil))
          · refine sxo_isF (k := 70) rfl h113 ?_
            refine sxo_skip rfl rfl rfl ?_
            refine sxo_skip rfl rfl rfl ?_
            refine sxo_skip rfl rfl rfl ?_
            refine sxo_pick (b := false) rfl rfl rfl rfl ?_
            refine sxo_nil ?_
            exact sxq_meetP (false, ()) (hB := (.cons 0 rfl .nil)) (hR := (.cons 3 rfl .nil))
        · rintro ⟨x115, _⟩
          try dsimp only
          refine sxo_take (os := _) rfl ?_
          refine sxo_move rfl rfl rfl ?_
          refine sxo_case 5 x115 [(80, .bool (x115 && ((x111.1 : Int) == x5.2.1)))] (fun h116 => ?_) (fun h116 => ?_) ?_
          · refine sxo_take (os := _) rfl ?_
            refine sxo_isT (k := 75) rfl h116 ?_
            refine sxo_move rfl rfl rfl ?_
            refine sxo_fieldAddr rfl rfl ff25_0 rfl ?_
            refine sxo_loadB (i := 0) rfl rfl tf3 rfl rfl (fun _ => rfl) rfl rfl ?_
            refine sxo_eql rfl rfl rfl rfl ?_
            refine sxo_pick (b := true) rfl rfl rfl rfl ?_
            refine sxo_again (d := 80) (v := .bool (x115 && ((x111.1 : Int) == x5.2.1))) rfl (by rw [h116]; simp only [Bool.true_and]) ?_
            refine sxo_nil ?_
            exact sxq_case (lk_cons rfl lk_nil)
          · refine sxo_take (os := _) rfl ?_
            refine sxo_isF (k := 75) rfl h116 ?_
            refine sxo_skip rfl rfl rfl ?_
            refine sxo_skip rfl rfl rfl ?_
            refine sxo_skip rfl rfl rfl ?_
            refine sxo_skip rfl rfl rfl ?_
            refine sxo_pick (b := false) rfl rfl rfl rfl ?_
            refine sxo_again (d := 80) (v := .bool (x115 && ((x111.1 : Int) == x5.2.1))) rfl (by rw [h116]; simp only [Bool.false_and]) ?_
            refine sxo_nil ?_
            exact sxq_case (lk_cons rfl lk_nil)
          refine sxo_take (os := _) rfl ?_
          refine sxo_assign rfl rfl rfl ?_
          refine sxo_nil ?_
          refine sxq_next ?_
          refine sxc_ret ?_
          exact sxq_doneP () (res1 rfl rfl)
end Go.Proofs.Ytilaklhajonenaa
